-- Written by a program of this session (wip/tool).
import Derived.Test.YtipoeghieeafjaaPx0
import Derived.Test.YtipoeghieeafjaaPx1010
import Derived.Test.YtipoeghieeafjaaPx1011
import Derived.Test.YtipoeghieeafjaaPx1014
import Derived.Test.YtipoeghieeafjaaPx1015
import Derived.Test.YtipoeghieeafjaaPx1016
import Derived.Test.YtipoeghieeafjaaPx1018
import Derived.Test.YtipoeghieeafjaaPx1058
import Derived.Test.YtipoeghieeafjaaPx1087
namespace Go.Proofs.Ytipoeghieeafjaa.P
open Go.RowKit Go.Proofs.YtipoeghieeafjaaW.PrintWords Go.Proofs.YtipoeghieeafjaaW.PrintLast Go.Proofs.YtipoeghieeafjaaW.PrintMore
attribute [local go_sem] max2_int min2_int max_two min_two max_three min_three max_four min_four   -- for this text's walks alone
set_option linter.unusedVariables false
set_option linter.unusedSimpArgs false

/-! ### laws_FnExactInScope: function 3 -/
def laws_FnExactInScope.f (k : Nat) (l0 : List (S72)) (a1_0 : Int) (a1_1 : Int) (a1_2 : Int) (l1_3 : List (S97)) (a2_0 : ByteArray) (a2_1 : Bool) (a2_2 : Int) (a2_3 : Int) (a2_4 : Int) (a2_5 : Int) (a2_6 : Int) (a2_7 : ByteArray) (l2_8 : List (S28)) : Option (Bool) := (laws_szThingS.f k l0 1048576).bind fun t367 => (if t367 < 0 then (some true) else ((laws_szRequest.f k a1_0 a1_1 a1_2 l1_3 t367).bind fun t368 => (if t368 < 0 then (some true) else ((laws_szPolicy.f k a2_0 a2_1 a2_2 a2_3 a2_4 a2_5 a2_6 a2_7 l2_8 t368).bind fun t369 => (if t369 < 0 then (some true) else ((laws_toThingS.f k l0).bind fun t370 => ((laws_toRequest.f k a1_0 a1_1 a1_2 l1_3).bind fun bt373 => ((laws_toPolicy.f k a2_0 a2_1 a2_2 a2_3 a2_4 a2_5 a2_6 a2_7 l2_8).bind fun bt379 => ((spec_InScope.f k t370 bt373.1 bt373.2.1 bt373.2.2.1 bt373.2.2.2 bt379.1 bt379.2.1 bt379.2.2.1 bt379.2.2.2.1 bt379.2.2.2.2.1 bt379.2.2.2.2.2.1 bt379.2.2.2.2.2.2.1 bt379.2.2.2.2.2.2.2.1 bt379.2.2.2.2.2.2.2.2).bind fun t390 => ((laws_toThingS.f k l0).bind fun t391 => ((laws_toRequest.f k a1_0 a1_1 a1_2 l1_3).bind fun bt394 => ((laws_toPolicy.f k a2_0 a2_1 a2_2 a2_3 a2_4 a2_5 a2_6 a2_7 l2_8).bind fun bt401 => ((impl_InScope.f k t391 bt394.1 bt394.2.1 bt394.2.2.1 bt394.2.2.2 bt401.1 bt401.2.1 bt401.2.2.1 bt401.2.2.2.1 bt401.2.2.2.2.1 bt401.2.2.2.2.2.1 bt401.2.2.2.2.2.2.1 bt401.2.2.2.2.2.2.2.1 bt401.2.2.2.2.2.2.2.2).bind fun t413 => (if (t413 != t390) = true then (some false) else ((laws_toThingS.f k l0).bind fun t414 => ((laws_eqThingS.f k t391 t414).bind fun t417 => (if t417 = true then ((laws_toRequest.f k a1_0 a1_1 a1_2 l1_3).bind fun bt418 => ((laws_eqRequest.f k bt394.1 bt394.2.1 bt394.2.2.1 bt394.2.2.2 bt418.1 bt418.2.1 bt418.2.2.1 bt418.2.2.2).bind fun t424 => (if t424 = true then ((laws_toPolicy.f k a2_0 a2_1 a2_2 a2_3 a2_4 a2_5 a2_6 a2_7 l2_8).bind fun bt425 => ((laws_eqPolicy.f k bt401.1 bt401.2.1 bt401.2.2.1 bt401.2.2.2.1 bt401.2.2.2.2.1 bt401.2.2.2.2.2.1 bt401.2.2.2.2.2.2.1 bt401.2.2.2.2.2.2.2.1 bt401.2.2.2.2.2.2.2.2 bt425.1 bt425.2.1 bt425.2.2.1 bt425.2.2.2.1 bt425.2.2.2.2.1 bt425.2.2.2.2.2.1 bt425.2.2.2.2.2.2.1 bt425.2.2.2.2.2.2.2.1 bt425.2.2.2.2.2.2.2.2).bind fun t436 => (if t436 = true then (some true) else (some false)))) else (some false)))) else (some false))))))))))))))))))
theorem laws_FnExactInScope.mono : ∀ a0 a1 a2 a3 a4 a5 a6 a7 a8 a9 a10 a11 a12 a13 k, LeO (laws_FnExactInScope.f k a0 a1 a2 a3 a4 a5 a6 a7 a8 a9 a10 a11 a12 a13) (laws_FnExactInScope.f (k + 1) a0 a1 a2 a3 a4 a5 a6 a7 a8 a9 a10 a11 a12 a13) := by
 intro a0 a1 a2 a3 a4 a5 a6 a7 a8 a9 a10 a11 a12 a13 k
 unfold laws_FnExactInScope.f
 repeat' first
   | (with_reducible exact impl_InScope.mono _ _ _ _ _ _ _ _ _ _ _ _ _ _ _)
   | (with_reducible exact laws_eqPolicy.mono _ _ _ _ _ _ _ _ _ _ _ _ _ _ _ _ _ _ _)
   | (with_reducible exact laws_eqRequest.mono _ _ _ _ _ _ _ _ _)
   | (with_reducible exact laws_eqThingS.mono _ _ _)
   | (with_reducible exact laws_szPolicy.mono _ _ _ _ _ _ _ _ _ _ _)
   | (with_reducible exact laws_szRequest.mono _ _ _ _ _ _)
   | (with_reducible exact laws_szThingS.mono _ _ _)
   | (with_reducible exact laws_toPolicy.mono _ _ _ _ _ _ _ _ _ _)
   | (with_reducible exact laws_toRequest.mono _ _ _ _ _)
   | (with_reducible exact laws_toThingS.mono _ _)
   | (with_reducible exact spec_InScope.mono _ _ _ _ _ _ _ _ _ _ _ _ _ _ _)
   | (with_reducible exact LeO.refl _)
   | (with_reducible exact LeO.none _)
   | (with_reducible refine LeO.ite ?_ ?_)
   | (with_reducible refine LeO.bind ?_ (fun _ => ?_))
   | exact impl_InScope.mono _ _ _ _ _ _ _ _ _ _ _ _ _ _ _
   | exact laws_eqPolicy.mono _ _ _ _ _ _ _ _ _ _ _ _ _ _ _ _ _ _ _
   | exact laws_eqRequest.mono _ _ _ _ _ _ _ _ _
   | exact laws_eqThingS.mono _ _ _
   | exact laws_szPolicy.mono _ _ _ _ _ _ _ _ _ _ _
   | exact laws_szRequest.mono _ _ _ _ _ _
   | exact laws_szThingS.mono _ _ _
   | exact laws_toPolicy.mono _ _ _ _ _ _ _ _ _ _
   | exact laws_toRequest.mono _ _ _ _ _
   | exact laws_toThingS.mono _ _
   | exact spec_InScope.mono _ _ _ _ _ _ _ _ _ _ _ _ _ _ _
   | exact LeO.none _
   | refine LeO.ite ?_ ?_
   | refine LeO.bind ?_ (fun _ => ?_)
def laws_FnExactInScope.T11 : Bool × List (List Nat × List Nat) := (true, [([], []), ([0], [0]), ([], []), ([2, 1], [2]), ([], []), ([4, 3], [4]), ([1, 3, 5, 5], [1, 3, 5]), ([6, 6, 0, 1, 2, 3, 4, 5, 6], [6])])
def laws_FnExactInScope.B11 : List Nat := [0, 1, 0, 7, 0, 31, 63, 127]
theorem laws_FnExactInScope.tab11 : rtab .any (opsOf Try.f3 11) = laws_FnExactInScope.T11 := by kernel_rfl
theorem laws_FnExactInScope.bits11 : waitsOk laws_FnExactInScope.T11.2 laws_FnExactInScope.B11 = true := by kernel_rfl
set_option maxHeartbeats 8000000 in
set_option maxRecDepth 100000 in
theorem laws_FnExactInScope.calls (k : Nat) (A0 : Option Addr) (c0 : Nat) (l0 : List (S72)) (a1_0 : Int) (a1_1 : Int) (a1_2 : Int) (A1_3 : Option Addr) (c1_3 : Nat) (l1_3 : List (S97)) (a2_0 : ByteArray) (a2_1 : Bool) (a2_2 : Int) (a2_3 : Int) (a2_4 : Int) (a2_5 : Int) (a2_6 : Int) (a2_7 : ByteArray) (A2_8 : Option Addr) (c2_8 : Nat) (l2_8 : List (S28)) (r : Bool) (w : World) (hr0 : Kd.C k72 w A0 l0.length l0) (hc0 : l0.length ≤ c0) (hr1_3 : Kd.C k97 w A1_3 l1_3.length l1_3) (hc1_3 : l1_3.length ≤ c1_3) (hr2_8 : Kd.C k28 w A2_8 l2_8.length l2_8) (hc2_8 : l2_8.length ≤ c2_8) (h : laws_FnExactInScope.f k l0 a1_0 a1_1 a1_2 l1_3 a2_0 a2_1 a2_2 a2_3 a2_4 a2_5 a2_6 a2_7 l2_8 = some r) :
  Calls Try.prog 3 #[.slice A0 l0.length c0, .agg #[.int .i64 a1_0, .int .i64 a1_1, .int .i64 a1_2, .slice A1_3 l1_3.length c1_3], .agg #[.string a2_0, .bool a2_1, .int .i64 a2_2, .int .i64 a2_3, .int .i64 a2_4, .int .i64 a2_5, .int .i64 a2_6, .string a2_7, .slice A2_8 l2_8.length c2_8]] w fun e w' => e = .returned (.bool r) ∧ Below w.heap.size w w' := by
 have hu25 := Try.underlying25
 have hu30 := Try.underlying30
 have hu39 := Try.underlying39
 have hu45 := Try.underlying45
 have HR0 := Aside0.mk hr0
 have HC0 := Aside0.mk hc0
 clear hr0 hc0
 have HR1_3 := Aside0.mk hr1_3
 have HC1_3 := Aside0.mk hc1_3
 clear hr1_3 hc1_3
 have HR2_8 := Aside0.mk hr2_8
 have HC2_8 := Aside0.mk hc2_8
 clear hr2_8 hc2_8
 have HB := Aside0.mk (Below.refl w.heap.size w)
 have H : ((laws_szThingS.f k l0 1048576).bind fun t367 => (if t367 < 0 then (some true) else ((laws_szRequest.f k a1_0 a1_1 a1_2 l1_3 t367).bind fun t368 => (if t368 < 0 then (some true) else ((laws_szPolicy.f k a2_0 a2_1 a2_2 a2_3 a2_4 a2_5 a2_6 a2_7 l2_8 t368).bind fun t369 => (if t369 < 0 then (some true) else ((laws_toThingS.f k l0).bind fun t370 => ((laws_toRequest.f k a1_0 a1_1 a1_2 l1_3).bind fun bt373 => ((laws_toPolicy.f k a2_0 a2_1 a2_2 a2_3 a2_4 a2_5 a2_6 a2_7 l2_8).bind fun bt379 => ((spec_InScope.f k t370 bt373.1 bt373.2.1 bt373.2.2.1 bt373.2.2.2 bt379.1 bt379.2.1 bt379.2.2.1 bt379.2.2.2.1 bt379.2.2.2.2.1 bt379.2.2.2.2.2.1 bt379.2.2.2.2.2.2.1 bt379.2.2.2.2.2.2.2.1 bt379.2.2.2.2.2.2.2.2).bind fun t390 => ((laws_toThingS.f k l0).bind fun t391 => ((laws_toRequest.f k a1_0 a1_1 a1_2 l1_3).bind fun bt394 => ((laws_toPolicy.f k a2_0 a2_1 a2_2 a2_3 a2_4 a2_5 a2_6 a2_7 l2_8).bind fun bt401 => ((impl_InScope.f k t391 bt394.1 bt394.2.1 bt394.2.2.1 bt394.2.2.2 bt401.1 bt401.2.1 bt401.2.2.1 bt401.2.2.2.1 bt401.2.2.2.2.1 bt401.2.2.2.2.2.1 bt401.2.2.2.2.2.2.1 bt401.2.2.2.2.2.2.2.1 bt401.2.2.2.2.2.2.2.2).bind fun t413 => (if (t413 != t390) = true then (some false) else ((laws_toThingS.f k l0).bind fun t414 => ((laws_eqThingS.f k t391 t414).bind fun t417 => (if t417 = true then ((laws_toRequest.f k a1_0 a1_1 a1_2 l1_3).bind fun bt418 => ((laws_eqRequest.f k bt394.1 bt394.2.1 bt394.2.2.1 bt394.2.2.2 bt418.1 bt418.2.1 bt418.2.2.1 bt418.2.2.2).bind fun t424 => (if t424 = true then ((laws_toPolicy.f k a2_0 a2_1 a2_2 a2_3 a2_4 a2_5 a2_6 a2_7 l2_8).bind fun bt425 => ((laws_eqPolicy.f k bt401.1 bt401.2.1 bt401.2.2.1 bt401.2.2.2.1 bt401.2.2.2.2.1 bt401.2.2.2.2.2.1 bt401.2.2.2.2.2.2.1 bt401.2.2.2.2.2.2.2.1 bt401.2.2.2.2.2.2.2.2 bt425.1 bt425.2.1 bt425.2.2.1 bt425.2.2.2.1 bt425.2.2.2.2.1 bt425.2.2.2.2.2.1 bt425.2.2.2.2.2.2.1 bt425.2.2.2.2.2.2.2.1 bt425.2.2.2.2.2.2.2.2).bind fun t436 => (if t436 = true then (some true) else (some false)))) else (some false)))) else (some false))))))))))))))))))) = some r := h
 clear h
 replace H := Option.bind_eq_some_iff.mp H
 obtain ⟨t367, A40, H⟩ := H
 replace H : (if t367 < 0 then (some true) else ((laws_szRequest.f k a1_0 a1_1 a1_2 l1_3 t367).bind fun t368 => (if t368 < 0 then (some true) else ((laws_szPolicy.f k a2_0 a2_1 a2_2 a2_3 a2_4 a2_5 a2_6 a2_7 l2_8 t368).bind fun t369 => (if t369 < 0 then (some true) else ((laws_toThingS.f k l0).bind fun t370 => ((laws_toRequest.f k a1_0 a1_1 a1_2 l1_3).bind fun bt373 => ((laws_toPolicy.f k a2_0 a2_1 a2_2 a2_3 a2_4 a2_5 a2_6 a2_7 l2_8).bind fun bt379 => ((spec_InScope.f k t370 bt373.1 bt373.2.1 bt373.2.2.1 bt373.2.2.2 bt379.1 bt379.2.1 bt379.2.2.1 bt379.2.2.2.1 bt379.2.2.2.2.1 bt379.2.2.2.2.2.1 bt379.2.2.2.2.2.2.1 bt379.2.2.2.2.2.2.2.1 bt379.2.2.2.2.2.2.2.2).bind fun t390 => ((laws_toThingS.f k l0).bind fun t391 => ((laws_toRequest.f k a1_0 a1_1 a1_2 l1_3).bind fun bt394 => ((laws_toPolicy.f k a2_0 a2_1 a2_2 a2_3 a2_4 a2_5 a2_6 a2_7 l2_8).bind fun bt401 => ((impl_InScope.f k t391 bt394.1 bt394.2.1 bt394.2.2.1 bt394.2.2.2 bt401.1 bt401.2.1 bt401.2.2.1 bt401.2.2.2.1 bt401.2.2.2.2.1 bt401.2.2.2.2.2.1 bt401.2.2.2.2.2.2.1 bt401.2.2.2.2.2.2.2.1 bt401.2.2.2.2.2.2.2.2).bind fun t413 => (if (t413 != t390) = true then (some false) else ((laws_toThingS.f k l0).bind fun t414 => ((laws_eqThingS.f k t391 t414).bind fun t417 => (if t417 = true then ((laws_toRequest.f k a1_0 a1_1 a1_2 l1_3).bind fun bt418 => ((laws_eqRequest.f k bt394.1 bt394.2.1 bt394.2.2.1 bt394.2.2.2 bt418.1 bt418.2.1 bt418.2.2.1 bt418.2.2.2).bind fun t424 => (if t424 = true then ((laws_toPolicy.f k a2_0 a2_1 a2_2 a2_3 a2_4 a2_5 a2_6 a2_7 l2_8).bind fun bt425 => ((laws_eqPolicy.f k bt401.1 bt401.2.1 bt401.2.2.1 bt401.2.2.2.1 bt401.2.2.2.2.1 bt401.2.2.2.2.2.1 bt401.2.2.2.2.2.2.1 bt401.2.2.2.2.2.2.2.1 bt401.2.2.2.2.2.2.2.2 bt425.1 bt425.2.1 bt425.2.2.1 bt425.2.2.2.1 bt425.2.2.2.2.1 bt425.2.2.2.2.2.1 bt425.2.2.2.2.2.2.1 bt425.2.2.2.2.2.2.2.1 bt425.2.2.2.2.2.2.2.2).bind fun t436 => (if t436 = true then (some true) else (some false)))) else (some false)))) else (some false)))))))))))))))))) = some r := H
 have A4 := Aside0.mk A40
 clear A40
 have HC5 := Aside0.mk H
 clear H
 go_enter Try.func3, Try.ntmps3
 go_upto_if 17 with (first | ((with_reducible refine gate_dst (N := 4) rfl ?_); refine bx 4 #[.int .i64 a1_0, .int .i64 a1_1, .int .i64 a1_2, .slice A1_3 l1_3.length c1_3] 25 ?_; intro gb365 hg w6 hbox hb; have BK365 := Aside0.mk (hbox); have GW365 := gwB HB hg; have GE365 := gwB HB hg; replace HB := bS HB hb; clear hb hbox hg) | ((with_reducible refine gate_dst (N := 5) rfl ?_); refine bx 5 #[.string a2_0, .bool a2_1, .int .i64 a2_2, .int .i64 a2_3, .int .i64 a2_4, .int .i64 a2_5, .int .i64 a2_6, .string a2_7, .slice A2_8 l2_8.length c2_8] 30 ?_; intro gb366 hg w7 hbox hb; have BK366 := Aside0.mk (hbox); have GW366 := gwB HB hg; have GE366 := gwB HB hg; replace HB := bS HB hb; have NB365_366 := nbL BK365 hg; have NB366_365 := nbR BK365 hg; replace BK365 := bB BK365 hb; clear hb hbox hg) | ((with_reducible refine gate_callee (f := 8) rfl ?_); refine gl (some 15) Try.func8 #[.slice A0 l0.length c0, .int .i64 1048576] ?_; (with_reducible refine (laws_szThingS.calls k _ _ l0 1048576 t367 _ ?side1 ?side2 A4.out).mono ?_); (case side1 => repeat (first | exact (Kd.C_below HR0.out HB.out) | (with_reducible refine Kd.C_alloc ?_ _) | (with_reducible refine Kd.C_drewN ?_ _) | (with_reducible refine Kd.C_drew ?_))); (case side2 => exact HC0.out); rintro e w8 ⟨rfl, hb⟩; refine ⟨_, rfl, ?_⟩; replace BK365 := bB BK365 hb; replace BK366 := bB BK366 hb; replace HB := bS HB hb; (try clear hb); (try clear hb2); (try clear hk); (try clear hi)))
 (try simp only [Act.put, List.setIfInBounds_toArray, List.set_cons_zero, List.set_cons_succ])
 have H := HC5.out
 clear HC5
 by_cases c9 : t367 < 0
 ·
  rw [if_pos c9] at H; have c9b0 : decide (t367 < 0) = true := decide_eq_true c9; clear c9
  (first | rw [c9b0] | (simp only [i64_w, i32_w]; rw [c9b0]) | rw [c9b2] | rw [c9b1] | skip)
  obtain rfl := Option.some.inj H
  go_wp2
  go_ret
  exact ⟨by first | rfl | (simp [errW_none, errW_some] <;> rfl) | (simp [*, errW_none, errW_some] <;> rfl), by exact bw HB.out⟩
 ·
  rw [if_neg c9] at H; have c9b0 : decide (t367 < 0) = false := decide_eq_false c9; clear c9
  (first | rw [c9b0] | (simp only [i64_w, i32_w]; rw [c9b0]) | rw [c9b2] | rw [c9b1] | skip)
  replace H := Option.bind_eq_some_iff.mp H
  obtain ⟨t368, A100, H⟩ := H
  replace H : (if t368 < 0 then (some true) else ((laws_szPolicy.f k a2_0 a2_1 a2_2 a2_3 a2_4 a2_5 a2_6 a2_7 l2_8 t368).bind fun t369 => (if t369 < 0 then (some true) else ((laws_toThingS.f k l0).bind fun t370 => ((laws_toRequest.f k a1_0 a1_1 a1_2 l1_3).bind fun bt373 => ((laws_toPolicy.f k a2_0 a2_1 a2_2 a2_3 a2_4 a2_5 a2_6 a2_7 l2_8).bind fun bt379 => ((spec_InScope.f k t370 bt373.1 bt373.2.1 bt373.2.2.1 bt373.2.2.2 bt379.1 bt379.2.1 bt379.2.2.1 bt379.2.2.2.1 bt379.2.2.2.2.1 bt379.2.2.2.2.2.1 bt379.2.2.2.2.2.2.1 bt379.2.2.2.2.2.2.2.1 bt379.2.2.2.2.2.2.2.2).bind fun t390 => ((laws_toThingS.f k l0).bind fun t391 => ((laws_toRequest.f k a1_0 a1_1 a1_2 l1_3).bind fun bt394 => ((laws_toPolicy.f k a2_0 a2_1 a2_2 a2_3 a2_4 a2_5 a2_6 a2_7 l2_8).bind fun bt401 => ((impl_InScope.f k t391 bt394.1 bt394.2.1 bt394.2.2.1 bt394.2.2.2 bt401.1 bt401.2.1 bt401.2.2.1 bt401.2.2.2.1 bt401.2.2.2.2.1 bt401.2.2.2.2.2.1 bt401.2.2.2.2.2.2.1 bt401.2.2.2.2.2.2.2.1 bt401.2.2.2.2.2.2.2.2).bind fun t413 => (if (t413 != t390) = true then (some false) else ((laws_toThingS.f k l0).bind fun t414 => ((laws_eqThingS.f k t391 t414).bind fun t417 => (if t417 = true then ((laws_toRequest.f k a1_0 a1_1 a1_2 l1_3).bind fun bt418 => ((laws_eqRequest.f k bt394.1 bt394.2.1 bt394.2.2.1 bt394.2.2.2 bt418.1 bt418.2.1 bt418.2.2.1 bt418.2.2.2).bind fun t424 => (if t424 = true then ((laws_toPolicy.f k a2_0 a2_1 a2_2 a2_3 a2_4 a2_5 a2_6 a2_7 l2_8).bind fun bt425 => ((laws_eqPolicy.f k bt401.1 bt401.2.1 bt401.2.2.1 bt401.2.2.2.1 bt401.2.2.2.2.1 bt401.2.2.2.2.2.1 bt401.2.2.2.2.2.2.1 bt401.2.2.2.2.2.2.2.1 bt401.2.2.2.2.2.2.2.2 bt425.1 bt425.2.1 bt425.2.2.1 bt425.2.2.2.1 bt425.2.2.2.2.1 bt425.2.2.2.2.2.1 bt425.2.2.2.2.2.2.1 bt425.2.2.2.2.2.2.2.1 bt425.2.2.2.2.2.2.2.2).bind fun t436 => (if t436 = true then (some true) else (some false)))) else (some false)))) else (some false)))))))))))))))) = some r := H
  have A10 := Aside0.mk A100
  clear A100
  have HC11 := Aside0.mk H
  clear H
  have hnb12 := NB365_366.out
  have hnc12 := NB366_365.out
  have hcz13_0 : w8.cell? ⟨gb365, 0, none⟩ = some (.int .i64 a1_0) := (blk_cell BK365.out 0).trans rfl
  have hcz13_1 : w8.cell? ⟨gb365, 1, none⟩ = some (.int .i64 a1_1) := (blk_cell BK365.out 1).trans rfl
  have hcz13_2 : w8.cell? ⟨gb365, 2, none⟩ = some (.int .i64 a1_2) := (blk_cell BK365.out 2).trans rfl
  have hcz13_3 : w8.cell? ⟨gb365, 3, none⟩ = some (.slice A1_3 l1_3.length c1_3) := (blk_cell BK365.out 3).trans rfl
  have hfz13_0 := blk_frozen BK365.out 0
  have hfz13_1 := blk_frozen BK365.out 1
  have hfz13_2 := blk_frozen BK365.out 2
  have hfz13_3 := blk_frozen BK365.out 3
  go_upto_if 22 with (first | ((with_reducible refine gate_callee (f := 9) rfl ?_); refine gl (some 20) Try.func9 #[.agg #[.int .i64 a1_0, .int .i64 a1_1, .int .i64 a1_2, .slice A1_3 l1_3.length c1_3], .int .i64 t367] ?_; (with_reducible refine (laws_szRequest.calls k a1_0 a1_1 a1_2 _ _ l1_3 t367 t368 _ ?side1 ?side2 A10.out).mono ?_); (case side1 => repeat (first | exact (Kd.C_below HR1_3.out HB.out) | (with_reducible refine Kd.C_alloc ?_ _) | (with_reducible refine Kd.C_drewN ?_ _) | (with_reducible refine Kd.C_drew ?_))); (case side2 => exact HC1_3.out); rintro e w14 ⟨rfl, hb⟩; refine ⟨_, rfl, ?_⟩; replace BK365 := bB BK365 hb; replace BK366 := bB BK366 hb; replace HB := bS HB hb; (try clear hb); (try clear hb2); (try clear hk); (try clear hi)))
  (try simp only [Act.put, List.setIfInBounds_toArray, List.set_cons_zero, List.set_cons_succ])
  have H := HC11.out
  clear HC11
  by_cases c15 : t368 < 0
  ·
   rw [if_pos c15] at H; have c15b0 : decide (t368 < 0) = true := decide_eq_true c15; clear c15
   (first | rw [c15b0] | (simp only [i64_w, i32_w]; rw [c15b0]) | rw [c15b2] | rw [c15b1] | skip)
   obtain rfl := Option.some.inj H
   go_wp2
   go_ret
   exact ⟨by first | rfl | (simp [errW_none, errW_some] <;> rfl) | (simp [*, errW_none, errW_some] <;> rfl), by exact bw HB.out⟩
  ·
   rw [if_neg c15] at H; have c15b0 : decide (t368 < 0) = false := decide_eq_false c15; clear c15
   (first | rw [c15b0] | (simp only [i64_w, i32_w]; rw [c15b0]) | rw [c15b2] | rw [c15b1] | skip)
   replace H := Option.bind_eq_some_iff.mp H
   obtain ⟨t369, A160, H⟩ := H
   replace H : (if t369 < 0 then (some true) else ((laws_toThingS.f k l0).bind fun t370 => ((laws_toRequest.f k a1_0 a1_1 a1_2 l1_3).bind fun bt373 => ((laws_toPolicy.f k a2_0 a2_1 a2_2 a2_3 a2_4 a2_5 a2_6 a2_7 l2_8).bind fun bt379 => ((spec_InScope.f k t370 bt373.1 bt373.2.1 bt373.2.2.1 bt373.2.2.2 bt379.1 bt379.2.1 bt379.2.2.1 bt379.2.2.2.1 bt379.2.2.2.2.1 bt379.2.2.2.2.2.1 bt379.2.2.2.2.2.2.1 bt379.2.2.2.2.2.2.2.1 bt379.2.2.2.2.2.2.2.2).bind fun t390 => ((laws_toThingS.f k l0).bind fun t391 => ((laws_toRequest.f k a1_0 a1_1 a1_2 l1_3).bind fun bt394 => ((laws_toPolicy.f k a2_0 a2_1 a2_2 a2_3 a2_4 a2_5 a2_6 a2_7 l2_8).bind fun bt401 => ((impl_InScope.f k t391 bt394.1 bt394.2.1 bt394.2.2.1 bt394.2.2.2 bt401.1 bt401.2.1 bt401.2.2.1 bt401.2.2.2.1 bt401.2.2.2.2.1 bt401.2.2.2.2.2.1 bt401.2.2.2.2.2.2.1 bt401.2.2.2.2.2.2.2.1 bt401.2.2.2.2.2.2.2.2).bind fun t413 => (if (t413 != t390) = true then (some false) else ((laws_toThingS.f k l0).bind fun t414 => ((laws_eqThingS.f k t391 t414).bind fun t417 => (if t417 = true then ((laws_toRequest.f k a1_0 a1_1 a1_2 l1_3).bind fun bt418 => ((laws_eqRequest.f k bt394.1 bt394.2.1 bt394.2.2.1 bt394.2.2.2 bt418.1 bt418.2.1 bt418.2.2.1 bt418.2.2.2).bind fun t424 => (if t424 = true then ((laws_toPolicy.f k a2_0 a2_1 a2_2 a2_3 a2_4 a2_5 a2_6 a2_7 l2_8).bind fun bt425 => ((laws_eqPolicy.f k bt401.1 bt401.2.1 bt401.2.2.1 bt401.2.2.2.1 bt401.2.2.2.2.1 bt401.2.2.2.2.2.1 bt401.2.2.2.2.2.2.1 bt401.2.2.2.2.2.2.2.1 bt401.2.2.2.2.2.2.2.2 bt425.1 bt425.2.1 bt425.2.2.1 bt425.2.2.2.1 bt425.2.2.2.2.1 bt425.2.2.2.2.2.1 bt425.2.2.2.2.2.2.1 bt425.2.2.2.2.2.2.2.1 bt425.2.2.2.2.2.2.2.2).bind fun t436 => (if t436 = true then (some true) else (some false)))) else (some false)))) else (some false)))))))))))))) = some r := H
   have A16 := Aside0.mk A160
   clear A160
   have HC17 := Aside0.mk H
   clear H
   have hnb18 := NB366_365.out
   have hnc18 := NB365_366.out
   have hcz19_0 : w14.cell? ⟨gb366, 0, none⟩ = some (.string a2_0) := (blk_cell BK366.out 0).trans rfl
   have hcz19_1 : w14.cell? ⟨gb366, 1, none⟩ = some (.bool a2_1) := (blk_cell BK366.out 1).trans rfl
   have hcz19_2 : w14.cell? ⟨gb366, 2, none⟩ = some (.int .i64 a2_2) := (blk_cell BK366.out 2).trans rfl
   have hcz19_3 : w14.cell? ⟨gb366, 3, none⟩ = some (.int .i64 a2_3) := (blk_cell BK366.out 3).trans rfl
   have hcz19_4 : w14.cell? ⟨gb366, 4, none⟩ = some (.int .i64 a2_4) := (blk_cell BK366.out 4).trans rfl
   have hcz19_5 : w14.cell? ⟨gb366, 5, none⟩ = some (.int .i64 a2_5) := (blk_cell BK366.out 5).trans rfl
   have hcz19_6 : w14.cell? ⟨gb366, 6, none⟩ = some (.int .i64 a2_6) := (blk_cell BK366.out 6).trans rfl
   have hcz19_7 : w14.cell? ⟨gb366, 7, none⟩ = some (.string a2_7) := (blk_cell BK366.out 7).trans rfl
   have hcz19_8 : w14.cell? ⟨gb366, 8, none⟩ = some (.slice A2_8 l2_8.length c2_8) := (blk_cell BK366.out 8).trans rfl
   have hfz19_0 := blk_frozen BK366.out 0
   have hfz19_1 := blk_frozen BK366.out 1
   have hfz19_2 := blk_frozen BK366.out 2
   have hfz19_3 := blk_frozen BK366.out 3
   have hfz19_4 := blk_frozen BK366.out 4
   have hfz19_5 := blk_frozen BK366.out 5
   have hfz19_6 := blk_frozen BK366.out 6
   have hfz19_7 := blk_frozen BK366.out 7
   have hfz19_8 := blk_frozen BK366.out 8
   go_upto_if 27 with (first | ((with_reducible refine gate_callee (f := 10) rfl ?_); refine gl (some 25) Try.func10 #[.agg #[.string a2_0, .bool a2_1, .int .i64 a2_2, .int .i64 a2_3, .int .i64 a2_4, .int .i64 a2_5, .int .i64 a2_6, .string a2_7, .slice A2_8 l2_8.length c2_8], .int .i64 t368] ?_; (with_reducible refine (laws_szPolicy.calls k a2_0 a2_1 a2_2 a2_3 a2_4 a2_5 a2_6 a2_7 _ _ l2_8 t368 t369 _ ?side1 ?side2 A16.out).mono ?_); (case side1 => repeat (first | exact (Kd.C_below HR2_8.out HB.out) | (with_reducible refine Kd.C_alloc ?_ _) | (with_reducible refine Kd.C_drewN ?_ _) | (with_reducible refine Kd.C_drew ?_))); (case side2 => exact HC2_8.out); rintro e w20 ⟨rfl, hb⟩; refine ⟨_, rfl, ?_⟩; replace BK365 := bB BK365 hb; replace BK366 := bB BK366 hb; replace HB := bS HB hb; (try clear hb); (try clear hb2); (try clear hk); (try clear hi)))
   (try simp only [Act.put, List.setIfInBounds_toArray, List.set_cons_zero, List.set_cons_succ])
   have H := HC17.out
   clear HC17
   by_cases c21 : t369 < 0
   ·
    rw [if_pos c21] at H; have c21b0 : decide (t369 < 0) = true := decide_eq_true c21; clear c21
    (first | rw [c21b0] | (simp only [i64_w, i32_w]; rw [c21b0]) | rw [c21b2] | rw [c21b1] | skip)
    obtain rfl := Option.some.inj H
    go_wp2
    go_ret
    exact ⟨by first | rfl | (simp [errW_none, errW_some] <;> rfl) | (simp [*, errW_none, errW_some] <;> rfl), by exact bw HB.out⟩
   ·
    rw [if_neg c21] at H; have c21b0 : decide (t369 < 0) = false := decide_eq_false c21; clear c21
    (first | rw [c21b0] | (simp only [i64_w, i32_w]; rw [c21b0]) | rw [c21b2] | rw [c21b1] | skip)
    replace H := Option.bind_eq_some_iff.mp H
    obtain ⟨t370, A220, H⟩ := H
    replace H : ((laws_toRequest.f k a1_0 a1_1 a1_2 l1_3).bind fun bt373 => ((laws_toPolicy.f k a2_0 a2_1 a2_2 a2_3 a2_4 a2_5 a2_6 a2_7 l2_8).bind fun bt379 => ((spec_InScope.f k t370 bt373.1 bt373.2.1 bt373.2.2.1 bt373.2.2.2 bt379.1 bt379.2.1 bt379.2.2.1 bt379.2.2.2.1 bt379.2.2.2.2.1 bt379.2.2.2.2.2.1 bt379.2.2.2.2.2.2.1 bt379.2.2.2.2.2.2.2.1 bt379.2.2.2.2.2.2.2.2).bind fun t390 => ((laws_toThingS.f k l0).bind fun t391 => ((laws_toRequest.f k a1_0 a1_1 a1_2 l1_3).bind fun bt394 => ((laws_toPolicy.f k a2_0 a2_1 a2_2 a2_3 a2_4 a2_5 a2_6 a2_7 l2_8).bind fun bt401 => ((impl_InScope.f k t391 bt394.1 bt394.2.1 bt394.2.2.1 bt394.2.2.2 bt401.1 bt401.2.1 bt401.2.2.1 bt401.2.2.2.1 bt401.2.2.2.2.1 bt401.2.2.2.2.2.1 bt401.2.2.2.2.2.2.1 bt401.2.2.2.2.2.2.2.1 bt401.2.2.2.2.2.2.2.2).bind fun t413 => (if (t413 != t390) = true then (some false) else ((laws_toThingS.f k l0).bind fun t414 => ((laws_eqThingS.f k t391 t414).bind fun t417 => (if t417 = true then ((laws_toRequest.f k a1_0 a1_1 a1_2 l1_3).bind fun bt418 => ((laws_eqRequest.f k bt394.1 bt394.2.1 bt394.2.2.1 bt394.2.2.2 bt418.1 bt418.2.1 bt418.2.2.1 bt418.2.2.2).bind fun t424 => (if t424 = true then ((laws_toPolicy.f k a2_0 a2_1 a2_2 a2_3 a2_4 a2_5 a2_6 a2_7 l2_8).bind fun bt425 => ((laws_eqPolicy.f k bt401.1 bt401.2.1 bt401.2.2.1 bt401.2.2.2.1 bt401.2.2.2.2.1 bt401.2.2.2.2.2.1 bt401.2.2.2.2.2.2.1 bt401.2.2.2.2.2.2.2.1 bt401.2.2.2.2.2.2.2.2 bt425.1 bt425.2.1 bt425.2.2.1 bt425.2.2.2.1 bt425.2.2.2.2.1 bt425.2.2.2.2.2.1 bt425.2.2.2.2.2.2.1 bt425.2.2.2.2.2.2.2.1 bt425.2.2.2.2.2.2.2.2).bind fun t436 => (if t436 = true then (some true) else (some false)))) else (some false)))) else (some false)))))))))))) = some r := H
    have A22 := Aside0.mk A220
    clear A220
    replace H := Option.bind_eq_some_iff.mp H
    obtain ⟨⟨t373, t374, t375, t376⟩, A230, H⟩ := H
    replace H : ((laws_toPolicy.f k a2_0 a2_1 a2_2 a2_3 a2_4 a2_5 a2_6 a2_7 l2_8).bind fun bt379 => ((spec_InScope.f k t370 t373 t374 t375 t376 bt379.1 bt379.2.1 bt379.2.2.1 bt379.2.2.2.1 bt379.2.2.2.2.1 bt379.2.2.2.2.2.1 bt379.2.2.2.2.2.2.1 bt379.2.2.2.2.2.2.2.1 bt379.2.2.2.2.2.2.2.2).bind fun t390 => ((laws_toThingS.f k l0).bind fun t391 => ((laws_toRequest.f k a1_0 a1_1 a1_2 l1_3).bind fun bt394 => ((laws_toPolicy.f k a2_0 a2_1 a2_2 a2_3 a2_4 a2_5 a2_6 a2_7 l2_8).bind fun bt401 => ((impl_InScope.f k t391 bt394.1 bt394.2.1 bt394.2.2.1 bt394.2.2.2 bt401.1 bt401.2.1 bt401.2.2.1 bt401.2.2.2.1 bt401.2.2.2.2.1 bt401.2.2.2.2.2.1 bt401.2.2.2.2.2.2.1 bt401.2.2.2.2.2.2.2.1 bt401.2.2.2.2.2.2.2.2).bind fun t413 => (if (t413 != t390) = true then (some false) else ((laws_toThingS.f k l0).bind fun t414 => ((laws_eqThingS.f k t391 t414).bind fun t417 => (if t417 = true then ((laws_toRequest.f k a1_0 a1_1 a1_2 l1_3).bind fun bt418 => ((laws_eqRequest.f k bt394.1 bt394.2.1 bt394.2.2.1 bt394.2.2.2 bt418.1 bt418.2.1 bt418.2.2.1 bt418.2.2.2).bind fun t424 => (if t424 = true then ((laws_toPolicy.f k a2_0 a2_1 a2_2 a2_3 a2_4 a2_5 a2_6 a2_7 l2_8).bind fun bt425 => ((laws_eqPolicy.f k bt401.1 bt401.2.1 bt401.2.2.1 bt401.2.2.2.1 bt401.2.2.2.2.1 bt401.2.2.2.2.2.1 bt401.2.2.2.2.2.2.1 bt401.2.2.2.2.2.2.2.1 bt401.2.2.2.2.2.2.2.2 bt425.1 bt425.2.1 bt425.2.2.1 bt425.2.2.2.1 bt425.2.2.2.2.1 bt425.2.2.2.2.2.1 bt425.2.2.2.2.2.2.1 bt425.2.2.2.2.2.2.2.1 bt425.2.2.2.2.2.2.2.2).bind fun t436 => (if t436 = true then (some true) else (some false)))) else (some false)))) else (some false))))))))))) = some r := H
    have A23 := Aside0.mk A230
    clear A230
    replace H := Option.bind_eq_some_iff.mp H
    obtain ⟨⟨t379, t380, t381, t382, t383, t384, t385, t386, t387⟩, A240, H⟩ := H
    replace H : ((spec_InScope.f k t370 t373 t374 t375 t376 t379 t380 t381 t382 t383 t384 t385 t386 t387).bind fun t390 => ((laws_toThingS.f k l0).bind fun t391 => ((laws_toRequest.f k a1_0 a1_1 a1_2 l1_3).bind fun bt394 => ((laws_toPolicy.f k a2_0 a2_1 a2_2 a2_3 a2_4 a2_5 a2_6 a2_7 l2_8).bind fun bt401 => ((impl_InScope.f k t391 bt394.1 bt394.2.1 bt394.2.2.1 bt394.2.2.2 bt401.1 bt401.2.1 bt401.2.2.1 bt401.2.2.2.1 bt401.2.2.2.2.1 bt401.2.2.2.2.2.1 bt401.2.2.2.2.2.2.1 bt401.2.2.2.2.2.2.2.1 bt401.2.2.2.2.2.2.2.2).bind fun t413 => (if (t413 != t390) = true then (some false) else ((laws_toThingS.f k l0).bind fun t414 => ((laws_eqThingS.f k t391 t414).bind fun t417 => (if t417 = true then ((laws_toRequest.f k a1_0 a1_1 a1_2 l1_3).bind fun bt418 => ((laws_eqRequest.f k bt394.1 bt394.2.1 bt394.2.2.1 bt394.2.2.2 bt418.1 bt418.2.1 bt418.2.2.1 bt418.2.2.2).bind fun t424 => (if t424 = true then ((laws_toPolicy.f k a2_0 a2_1 a2_2 a2_3 a2_4 a2_5 a2_6 a2_7 l2_8).bind fun bt425 => ((laws_eqPolicy.f k bt401.1 bt401.2.1 bt401.2.2.1 bt401.2.2.2.1 bt401.2.2.2.2.1 bt401.2.2.2.2.2.1 bt401.2.2.2.2.2.2.1 bt401.2.2.2.2.2.2.2.1 bt401.2.2.2.2.2.2.2.2 bt425.1 bt425.2.1 bt425.2.2.1 bt425.2.2.2.1 bt425.2.2.2.2.1 bt425.2.2.2.2.2.1 bt425.2.2.2.2.2.2.1 bt425.2.2.2.2.2.2.2.1 bt425.2.2.2.2.2.2.2.2).bind fun t436 => (if t436 = true then (some true) else (some false)))) else (some false)))) else (some false)))))))))) = some r := H
    have A24 := Aside0.mk A240
    clear A240
    replace H := Option.bind_eq_some_iff.mp H
    obtain ⟨t390, A250, H⟩ := H
    replace H : ((laws_toThingS.f k l0).bind fun t391 => ((laws_toRequest.f k a1_0 a1_1 a1_2 l1_3).bind fun bt394 => ((laws_toPolicy.f k a2_0 a2_1 a2_2 a2_3 a2_4 a2_5 a2_6 a2_7 l2_8).bind fun bt401 => ((impl_InScope.f k t391 bt394.1 bt394.2.1 bt394.2.2.1 bt394.2.2.2 bt401.1 bt401.2.1 bt401.2.2.1 bt401.2.2.2.1 bt401.2.2.2.2.1 bt401.2.2.2.2.2.1 bt401.2.2.2.2.2.2.1 bt401.2.2.2.2.2.2.2.1 bt401.2.2.2.2.2.2.2.2).bind fun t413 => (if (t413 != t390) = true then (some false) else ((laws_toThingS.f k l0).bind fun t414 => ((laws_eqThingS.f k t391 t414).bind fun t417 => (if t417 = true then ((laws_toRequest.f k a1_0 a1_1 a1_2 l1_3).bind fun bt418 => ((laws_eqRequest.f k bt394.1 bt394.2.1 bt394.2.2.1 bt394.2.2.2 bt418.1 bt418.2.1 bt418.2.2.1 bt418.2.2.2).bind fun t424 => (if t424 = true then ((laws_toPolicy.f k a2_0 a2_1 a2_2 a2_3 a2_4 a2_5 a2_6 a2_7 l2_8).bind fun bt425 => ((laws_eqPolicy.f k bt401.1 bt401.2.1 bt401.2.2.1 bt401.2.2.2.1 bt401.2.2.2.2.1 bt401.2.2.2.2.2.1 bt401.2.2.2.2.2.2.1 bt401.2.2.2.2.2.2.2.1 bt401.2.2.2.2.2.2.2.2 bt425.1 bt425.2.1 bt425.2.2.1 bt425.2.2.2.1 bt425.2.2.2.2.1 bt425.2.2.2.2.2.1 bt425.2.2.2.2.2.2.1 bt425.2.2.2.2.2.2.2.1 bt425.2.2.2.2.2.2.2.2).bind fun t436 => (if t436 = true then (some true) else (some false)))) else (some false)))) else (some false))))))))) = some r := H
    have A25 := Aside0.mk A250
    clear A250
    replace H := Option.bind_eq_some_iff.mp H
    obtain ⟨t391, A260, H⟩ := H
    replace H : ((laws_toRequest.f k a1_0 a1_1 a1_2 l1_3).bind fun bt394 => ((laws_toPolicy.f k a2_0 a2_1 a2_2 a2_3 a2_4 a2_5 a2_6 a2_7 l2_8).bind fun bt401 => ((impl_InScope.f k t391 bt394.1 bt394.2.1 bt394.2.2.1 bt394.2.2.2 bt401.1 bt401.2.1 bt401.2.2.1 bt401.2.2.2.1 bt401.2.2.2.2.1 bt401.2.2.2.2.2.1 bt401.2.2.2.2.2.2.1 bt401.2.2.2.2.2.2.2.1 bt401.2.2.2.2.2.2.2.2).bind fun t413 => (if (t413 != t390) = true then (some false) else ((laws_toThingS.f k l0).bind fun t414 => ((laws_eqThingS.f k t391 t414).bind fun t417 => (if t417 = true then ((laws_toRequest.f k a1_0 a1_1 a1_2 l1_3).bind fun bt418 => ((laws_eqRequest.f k bt394.1 bt394.2.1 bt394.2.2.1 bt394.2.2.2 bt418.1 bt418.2.1 bt418.2.2.1 bt418.2.2.2).bind fun t424 => (if t424 = true then ((laws_toPolicy.f k a2_0 a2_1 a2_2 a2_3 a2_4 a2_5 a2_6 a2_7 l2_8).bind fun bt425 => ((laws_eqPolicy.f k bt401.1 bt401.2.1 bt401.2.2.1 bt401.2.2.2.1 bt401.2.2.2.2.1 bt401.2.2.2.2.2.1 bt401.2.2.2.2.2.2.1 bt401.2.2.2.2.2.2.2.1 bt401.2.2.2.2.2.2.2.2 bt425.1 bt425.2.1 bt425.2.2.1 bt425.2.2.2.1 bt425.2.2.2.2.1 bt425.2.2.2.2.2.1 bt425.2.2.2.2.2.2.1 bt425.2.2.2.2.2.2.2.1 bt425.2.2.2.2.2.2.2.2).bind fun t436 => (if t436 = true then (some true) else (some false)))) else (some false)))) else (some false)))))))) = some r := H
    have A26 := Aside0.mk A260
    clear A260
    replace H := Option.bind_eq_some_iff.mp H
    obtain ⟨⟨t394, t395, t396, t397⟩, A270, H⟩ := H
    replace H : ((laws_toPolicy.f k a2_0 a2_1 a2_2 a2_3 a2_4 a2_5 a2_6 a2_7 l2_8).bind fun bt401 => ((impl_InScope.f k t391 t394 t395 t396 t397 bt401.1 bt401.2.1 bt401.2.2.1 bt401.2.2.2.1 bt401.2.2.2.2.1 bt401.2.2.2.2.2.1 bt401.2.2.2.2.2.2.1 bt401.2.2.2.2.2.2.2.1 bt401.2.2.2.2.2.2.2.2).bind fun t413 => (if (t413 != t390) = true then (some false) else ((laws_toThingS.f k l0).bind fun t414 => ((laws_eqThingS.f k t391 t414).bind fun t417 => (if t417 = true then ((laws_toRequest.f k a1_0 a1_1 a1_2 l1_3).bind fun bt418 => ((laws_eqRequest.f k t394 t395 t396 t397 bt418.1 bt418.2.1 bt418.2.2.1 bt418.2.2.2).bind fun t424 => (if t424 = true then ((laws_toPolicy.f k a2_0 a2_1 a2_2 a2_3 a2_4 a2_5 a2_6 a2_7 l2_8).bind fun bt425 => ((laws_eqPolicy.f k bt401.1 bt401.2.1 bt401.2.2.1 bt401.2.2.2.1 bt401.2.2.2.2.1 bt401.2.2.2.2.2.1 bt401.2.2.2.2.2.2.1 bt401.2.2.2.2.2.2.2.1 bt401.2.2.2.2.2.2.2.2 bt425.1 bt425.2.1 bt425.2.2.1 bt425.2.2.2.1 bt425.2.2.2.2.1 bt425.2.2.2.2.2.1 bt425.2.2.2.2.2.2.1 bt425.2.2.2.2.2.2.2.1 bt425.2.2.2.2.2.2.2.2).bind fun t436 => (if t436 = true then (some true) else (some false)))) else (some false)))) else (some false))))))) = some r := H
    have A27 := Aside0.mk A270
    clear A270
    replace H := Option.bind_eq_some_iff.mp H
    obtain ⟨⟨t401, t402, t403, t404, t405, t406, t407, t408, t409⟩, A280, H⟩ := H
    replace H : ((impl_InScope.f k t391 t394 t395 t396 t397 t401 t402 t403 t404 t405 t406 t407 t408 t409).bind fun t413 => (if (t413 != t390) = true then (some false) else ((laws_toThingS.f k l0).bind fun t414 => ((laws_eqThingS.f k t391 t414).bind fun t417 => (if t417 = true then ((laws_toRequest.f k a1_0 a1_1 a1_2 l1_3).bind fun bt418 => ((laws_eqRequest.f k t394 t395 t396 t397 bt418.1 bt418.2.1 bt418.2.2.1 bt418.2.2.2).bind fun t424 => (if t424 = true then ((laws_toPolicy.f k a2_0 a2_1 a2_2 a2_3 a2_4 a2_5 a2_6 a2_7 l2_8).bind fun bt425 => ((laws_eqPolicy.f k t401 t402 t403 t404 t405 t406 t407 t408 t409 bt425.1 bt425.2.1 bt425.2.2.1 bt425.2.2.2.1 bt425.2.2.2.2.1 bt425.2.2.2.2.2.1 bt425.2.2.2.2.2.2.1 bt425.2.2.2.2.2.2.2.1 bt425.2.2.2.2.2.2.2.2).bind fun t436 => (if t436 = true then (some true) else (some false)))) else (some false)))) else (some false)))))) = some r := H
    have A28 := Aside0.mk A280
    clear A280
    replace H := Option.bind_eq_some_iff.mp H
    obtain ⟨t413, A290, H⟩ := H
    replace H : (if (t413 != t390) = true then (some false) else ((laws_toThingS.f k l0).bind fun t414 => ((laws_eqThingS.f k t391 t414).bind fun t417 => (if t417 = true then ((laws_toRequest.f k a1_0 a1_1 a1_2 l1_3).bind fun bt418 => ((laws_eqRequest.f k t394 t395 t396 t397 bt418.1 bt418.2.1 bt418.2.2.1 bt418.2.2.2).bind fun t424 => (if t424 = true then ((laws_toPolicy.f k a2_0 a2_1 a2_2 a2_3 a2_4 a2_5 a2_6 a2_7 l2_8).bind fun bt425 => ((laws_eqPolicy.f k t401 t402 t403 t404 t405 t406 t407 t408 t409 bt425.1 bt425.2.1 bt425.2.2.1 bt425.2.2.2.1 bt425.2.2.2.2.1 bt425.2.2.2.2.2.1 bt425.2.2.2.2.2.2.1 bt425.2.2.2.2.2.2.2.1 bt425.2.2.2.2.2.2.2.2).bind fun t436 => (if t436 = true then (some true) else (some false)))) else (some false)))) else (some false))))) = some r := H
    have A29 := Aside0.mk A290
    clear A290
    have HC30 := Aside0.mk H
    clear H
    try go_wp2
    replace BK365 := Aside0.mk (blk_drew BK365.out)
    replace BK366 := Aside0.mk (blk_drew BK366.out)
    replace HB := Aside0.mk (below_drew1 HB.out)
    refine start_ (n := 8) (S := fun w' => w'.cell? ⟨gb365, 0, none⟩ = some (.int .i64 a1_0) ∧ w'.cell? ⟨gb365, 1, none⟩ = some (.int .i64 a1_1) ∧ w'.cell? ⟨gb365, 2, none⟩ = some (.int .i64 a1_2) ∧ w'.cell? ⟨gb365, 3, none⟩ = some (.slice A1_3 l1_3.length c1_3) ∧ w'.cell? ⟨gb366, 0, none⟩ = some (.string a2_0) ∧ w'.cell? ⟨gb366, 1, none⟩ = some (.bool a2_1) ∧ w'.cell? ⟨gb366, 2, none⟩ = some (.int .i64 a2_2) ∧ w'.cell? ⟨gb366, 3, none⟩ = some (.int .i64 a2_3) ∧ w'.cell? ⟨gb366, 4, none⟩ = some (.int .i64 a2_4) ∧ w'.cell? ⟨gb366, 5, none⟩ = some (.int .i64 a2_5) ∧ w'.cell? ⟨gb366, 6, none⟩ = some (.int .i64 a2_6) ∧ w'.cell? ⟨gb366, 7, none⟩ = some (.string a2_7) ∧ w'.cell? ⟨gb366, 8, none⟩ = some (.slice A2_8 l2_8.length c2_8)) (ds := []) (mB 8 0) (by kernel_rfl) rfl rfl ⟨(blk_cell BK365.out 0).trans rfl, (blk_cell BK365.out 1).trans rfl, (blk_cell BK365.out 2).trans rfl, (blk_cell BK365.out 3).trans rfl, (blk_cell BK366.out 0).trans rfl, (blk_cell BK366.out 1).trans rfl, (blk_cell BK366.out 2).trans rfl, (blk_cell BK366.out 3).trans rfl, (blk_cell BK366.out 4).trans rfl, (blk_cell BK366.out 5).trans rfl, (blk_cell BK366.out 6).trans rfl, (blk_cell BK366.out 7).trans rfl, (blk_cell BK366.out 8).trans rfl⟩ (fun hHeld => ?_); refine with_tabW laws_FnExactInScope.tab11 laws_FnExactInScope.bits11 (fun HT_ HW_ => ?_)
    generalize w20.drew = w31 at BK365 BK366 HB hHeld ⊢
    refine pn 0 28 HT_.out ?_
    refine tk 2 30 HT_.out HW_.out hHeld ?_
    refine tk 4 32 HT_.out HW_.out hHeld ?_
    refine on 1 29 HT_.out (fun K hK => ?_)
    refine gs Try.func12 #[.slice A0 l0.length c0] ?_
    with_reducible refine (laws_toThingS.calls k _ _ l0 t370 _ ?side1 ?side2 A22.out).mono ?_
    (case side1 => repeat (first | exact (Kd.C_below HR0.out HB.out) | (with_reducible refine Kd.C_alloc ?_ _) | (with_reducible refine Kd.C_drewN ?_ _) | (with_reducible refine Kd.C_drew ?_)))
    (case side2 => exact HC0.out)
    rintro e w32 ⟨v371, rfl, ho0, hb⟩
    refine ⟨_, rfl, ?_⟩
    have HO372 := Aside0.mk (Kd.S_lower ho0 (below_size (by exact bw HB.out)))
    replace BK365 := bB BK365 hb
    replace BK366 := bB BK366 hb
    replace HB := bS HB hb
    (try clear hb)
    (try clear hb2)
    (try clear hk)
    (try clear hi)
    (try clear ho0)
    refine hK.out _ _ ⟨(blk_cell BK365.out 0).trans rfl, (blk_cell BK365.out 1).trans rfl, (blk_cell BK365.out 2).trans rfl, (blk_cell BK365.out 3).trans rfl, (blk_cell BK366.out 0).trans rfl, (blk_cell BK366.out 1).trans rfl, (blk_cell BK366.out 2).trans rfl, (blk_cell BK366.out 3).trans rfl, (blk_cell BK366.out 4).trans rfl, (blk_cell BK366.out 5).trans rfl, (blk_cell BK366.out 6).trans rfl, (blk_cell BK366.out 7).trans rfl, (blk_cell BK366.out 8).trans rfl⟩ (fun hHeld => ?_)
    clear hK K
    refine nm (some 29) ?_
    refine on 3 31 HT_.out (fun K hK => ?_)
    refine gs Try.func13 #[.agg #[.int .i64 a1_0, .int .i64 a1_1, .int .i64 a1_2, .slice A1_3 l1_3.length c1_3]] ?_
    with_reducible refine (laws_toRequest.calls k a1_0 a1_1 a1_2 _ _ l1_3 t373 t374 t375 t376 _ ?side1 ?side2 A23.out).mono ?_
    (case side1 => repeat (first | exact (Kd.C_below HR1_3.out HB.out) | (with_reducible refine Kd.C_alloc ?_ _) | (with_reducible refine Kd.C_drewN ?_ _) | (with_reducible refine Kd.C_drew ?_)))
    (case side2 => exact HC1_3.out)
    rintro e w33 ⟨v377, rfl, ho0, hb⟩
    refine ⟨_, rfl, ?_⟩
    replace HO372 := Aside0.mk (Kd.S_elder' (by exact Kd.xS HO372.out) (Kd.R_base ho0) hb)
    have HO378 := Aside0.mk (Kd.R_lower ho0 (below_size (by exact bw HB.out)))
    replace BK365 := bB BK365 hb
    replace BK366 := bB BK366 hb
    replace HB := bS HB hb
    (try clear hb)
    (try clear hb2)
    (try clear hk)
    (try clear hi)
    (try clear ho0)
    refine hK.out _ _ ⟨(blk_cell BK365.out 0).trans rfl, (blk_cell BK365.out 1).trans rfl, (blk_cell BK365.out 2).trans rfl, (blk_cell BK365.out 3).trans rfl, (blk_cell BK366.out 0).trans rfl, (blk_cell BK366.out 1).trans rfl, (blk_cell BK366.out 2).trans rfl, (blk_cell BK366.out 3).trans rfl, (blk_cell BK366.out 4).trans rfl, (blk_cell BK366.out 5).trans rfl, (blk_cell BK366.out 6).trans rfl, (blk_cell BK366.out 7).trans rfl, (blk_cell BK366.out 8).trans rfl⟩ (fun hHeld => ?_)
    clear hK K
    refine nm (some 31) ?_
    refine on 5 33 HT_.out (fun K hK => ?_)
    refine gs Try.func14 #[.agg #[.string a2_0, .bool a2_1, .int .i64 a2_2, .int .i64 a2_3, .int .i64 a2_4, .int .i64 a2_5, .int .i64 a2_6, .string a2_7, .slice A2_8 l2_8.length c2_8]] ?_
    with_reducible refine (laws_toPolicy.calls k a2_0 a2_1 a2_2 a2_3 a2_4 a2_5 a2_6 a2_7 _ _ l2_8 t379 t380 t381 t382 t383 t384 t385 t386 t387 _ ?side1 ?side2 A24.out).mono ?_
    (case side1 => repeat (first | exact (Kd.C_below HR2_8.out HB.out) | (with_reducible refine Kd.C_alloc ?_ _) | (with_reducible refine Kd.C_drewN ?_ _) | (with_reducible refine Kd.C_drew ?_)))
    (case side2 => exact HC2_8.out)
    rintro e w34 ⟨v388, rfl, ho0, hb⟩
    refine ⟨_, rfl, ?_⟩
    replace HO372 := Aside0.mk (Kd.S_below (by exact Kd.xS HO372.out) hb)
    replace HO378 := Aside0.mk (Kd.R_below (by exact Kd.xR HO378.out) hb)
    have HO389 := Aside0.mk (Kd.R_lower ho0 (below_size (by exact bw HB.out)))
    replace BK365 := bB BK365 hb
    replace BK366 := bB BK366 hb
    replace HB := bS HB hb
    (try clear hb)
    (try clear hb2)
    (try clear hk)
    (try clear hi)
    (try clear ho0)
    obtain ⟨Ao35, co35, eo35⟩ := Kd.S_slice HO372.out
    (first | subst eo35 | (injection eo35 with f1_ f2_ f3_; have f4_ := f1_.symm; have f5_ := f3_.symm; clear f1_ f2_ f3_; subst f4_; subst f5_))
    obtain ⟨Ao36, co36, eo36⟩ := Kd.R_slice HO378.out
    (first | subst eo36 | (injection eo36 with f1_ f2_ f3_; have f4_ := f1_.symm; have f5_ := f3_.symm; clear f1_ f2_ f3_; subst f4_; subst f5_))
    obtain ⟨Ao37, co37, eo37⟩ := Kd.R_slice HO389.out
    (first | subst eo37 | (injection eo37 with f1_ f2_ f3_; have f4_ := f1_.symm; have f5_ := f3_.symm; clear f1_ f2_ f3_; subst f4_; subst f5_))
    refine hK.out _ _ ⟨(blk_cell BK365.out 0).trans rfl, (blk_cell BK365.out 1).trans rfl, (blk_cell BK365.out 2).trans rfl, (blk_cell BK365.out 3).trans rfl, (blk_cell BK366.out 0).trans rfl, (blk_cell BK366.out 1).trans rfl, (blk_cell BK366.out 2).trans rfl, (blk_cell BK366.out 3).trans rfl, (blk_cell BK366.out 4).trans rfl, (blk_cell BK366.out 5).trans rfl, (blk_cell BK366.out 6).trans rfl, (blk_cell BK366.out 7).trans rfl, (blk_cell BK366.out 8).trans rfl⟩ (fun hHeld => ?_)
    clear hK K
    refine nm (some 33) ?_
    refine on 6 34 HT_.out (fun K hK => ?_)
    refine gs Try.func11 #[.slice Ao35 t370.length co35, .agg #[.int .i64 t373, .int .i64 t374, .int .i64 t375, .slice Ao36 t376.length co36], .agg #[.string t379, .bool t380, .int .i64 t381, .int .i64 t382, .int .i64 t383, .int .i64 t384, .int .i64 t385, .string t386, .slice Ao37 t387.length co37]] ?_
    with_reducible refine (spec_InScope.calls k _ _ t370 t373 t374 t375 _ _ t376 t379 t380 t381 t382 t383 t384 t385 t386 _ _ t387 t390 _ ?side1 ?side2 ?side3 ?side4 ?side5 ?side6 A25.out).mono ?_
    (case side1 => repeat (first | exact (Kd.S_reads' HO372.out).2.2 | (with_reducible refine Kd.C_alloc ?_ _) | (with_reducible refine Kd.C_drewN ?_ _) | (with_reducible refine Kd.C_drew ?_)))
    (case side2 => exact (Kd.S_reads' HO372.out).2.1)
    (case side3 => repeat (first | exact (Kd.R_reads' HO378.out).2.2 | (with_reducible refine Kd.C_alloc ?_ _) | (with_reducible refine Kd.C_drewN ?_ _) | (with_reducible refine Kd.C_drew ?_)))
    (case side4 => exact (Kd.R_reads' HO378.out).2.1)
    (case side5 => repeat (first | exact (Kd.R_reads' HO389.out).2.2 | (with_reducible refine Kd.C_alloc ?_ _) | (with_reducible refine Kd.C_drewN ?_ _) | (with_reducible refine Kd.C_drew ?_)))
    (case side6 => exact (Kd.R_reads' HO389.out).2.1)
    rintro e w38 ⟨rfl, hb⟩
    refine ⟨_, rfl, ?_⟩
    replace HO372 := Aside0.mk (Kd.S_below (by exact Kd.xS HO372.out) hb)
    replace HO378 := Aside0.mk (Kd.R_below (by exact Kd.xR HO378.out) hb)
    replace HO389 := Aside0.mk (Kd.R_below (by exact Kd.xR HO389.out) hb)
    replace BK365 := bB BK365 hb
    replace BK366 := bB BK366 hb
    replace HB := bS HB hb
    (try clear hb)
    (try clear hb2)
    (try clear hk)
    (try clear hi)
    refine hK.out _ _ ⟨(blk_cell BK365.out 0).trans rfl, (blk_cell BK365.out 1).trans rfl, (blk_cell BK365.out 2).trans rfl, (blk_cell BK365.out 3).trans rfl, (blk_cell BK366.out 0).trans rfl, (blk_cell BK366.out 1).trans rfl, (blk_cell BK366.out 2).trans rfl, (blk_cell BK366.out 3).trans rfl, (blk_cell BK366.out 4).trans rfl, (blk_cell BK366.out 5).trans rfl, (blk_cell BK366.out 6).trans rfl, (blk_cell BK366.out 7).trans rfl, (blk_cell BK366.out 8).trans rfl⟩ (fun hHeld => ?_)
    clear hK K
    refine nm (some 34) ?_
    refine pn 7 8 HT_.out ?_
    refine done_ (done_of HT_.out (by kernel_rfl)) ?_
    go_upto_if 47 with (first | ((with_reducible refine gate_callee (f := 12) rfl ?_); refine gl (some 36) Try.func12 #[.slice A0 l0.length c0] ?_; (with_reducible refine (laws_toThingS.calls k _ _ l0 t391 _ ?side1 ?side2 A26.out).mono ?_); (case side1 => repeat (first | exact (Kd.C_below HR0.out HB.out) | (with_reducible refine Kd.C_alloc ?_ _) | (with_reducible refine Kd.C_drewN ?_ _) | (with_reducible refine Kd.C_drew ?_))); (case side2 => exact HC0.out); rintro e w39 ⟨v392, rfl, ho0, hb⟩; refine ⟨_, rfl, ?_⟩; replace HO389 := Aside0.mk (Kd.R_below (by exact Kd.xR HO389.out) hb); have HO393 := Aside0.mk (Kd.S_lower (Kd.S_new' (Kd.S_new' ho0 (Kd.S_lt (by exact Kd.xS HO372.out))) (Kd.R_lt (by exact Kd.xR HO378.out))) (below_size (by exact bw HB.out))); replace HO372 := Aside0.mk (Kd.S_elder' (by exact Kd.xS HO372.out) (Kd.S_base ho0) hb); replace HO378 := Aside0.mk (Kd.R_below (by exact Kd.xR HO378.out) hb); replace BK365 := bB BK365 hb; replace BK366 := bB BK366 hb; replace HB := bS HB hb; (try clear hb); (try clear hb2); (try clear hk); (try clear hi); (try clear ho0); have hnb40 := NB365_366.out; have hnc40 := NB366_365.out; obtain ⟨hcz41_0, hcz41_1, hcz41_2, hcz41_3⟩ := cs4 BK365.out; obtain ⟨hfz41_0, hfz41_1, hfz41_2, hfz41_3⟩ := fz4 BK365.out) | ((with_reducible refine gate_callee (f := 13) rfl ?_); refine gl (some 38) Try.func13 #[.agg #[.int .i64 a1_0, .int .i64 a1_1, .int .i64 a1_2, .slice A1_3 l1_3.length c1_3]] ?_; (with_reducible refine (laws_toRequest.calls k a1_0 a1_1 a1_2 _ _ l1_3 t394 t395 t396 t397 _ ?side1 ?side2 A27.out).mono ?_); (case side1 => repeat (first | exact (Kd.C_below HR1_3.out HB.out) | (with_reducible refine Kd.C_alloc ?_ _) | (with_reducible refine Kd.C_drewN ?_ _) | (with_reducible refine Kd.C_drew ?_))); (case side2 => exact HC1_3.out); rintro e w42 ⟨v398, rfl, ho0, hb⟩; refine ⟨_, rfl, ?_⟩; replace HO372 := Aside0.mk (Kd.S_elder' (by exact Kd.xS HO372.out) (Kd.R_base ho0) hb); replace HO389 := Aside0.mk (Kd.R_below (by exact Kd.xR HO389.out) hb); replace HO393 := Aside0.mk (Kd.S_elder' (by exact Kd.xS HO393.out) (Kd.R_base ho0) hb); have HO399 := Aside0.mk (Kd.R_lower (Kd.R_new' ho0 (Kd.R_lt (by exact Kd.xR HO378.out))) (below_size (by exact bw HB.out))); replace HO378 := Aside0.mk (Kd.R_elder' (by exact Kd.xR HO378.out) (Kd.R_base ho0) hb); replace BK365 := bB BK365 hb; replace BK366 := bB BK366 hb; replace HB := bS HB hb; (try clear hb); (try clear hb2); (try clear hk); (try clear hi); (try clear ho0)) | ((with_reducible refine gate_dst (N := 10) rfl ?_); refine bx 10 #[.int .i64 0, .int .i64 0, .int .i64 0, .slice none 0 0] 39 ?_; intro gb400 hg w43 hbox hb; replace HO372 := Aside0.mk (Kd.S_below (by exact Kd.xS HO372.out) hb); replace HO378 := Aside0.mk (Kd.R_below (by exact Kd.xR HO378.out) hb); replace HO389 := Aside0.mk (Kd.R_below (by exact Kd.xR HO389.out) hb); replace HO393 := Aside0.mk (Kd.S_below (by exact Kd.xS HO393.out) hb); replace HO399 := Aside0.mk (Kd.R_below (by exact Kd.xR HO399.out) hb); have BK400 := Aside0.mk (hbox); have GW400 := gwB HB hg; have GE400 := gwB HB hg; replace HB := bS HB hb; have NB365_400 := nbL BK365 hg; have NB400_365 := nbR BK365 hg; replace BK365 := bB BK365 hb; have NB366_400 := nbL BK366 hg; have NB400_366 := nbR BK366 hg; replace BK366 := bB BK366 hb; clear hb hbox hg; have hnb44 := NB400_365.out; have hnc44 := NB365_400.out; have hnb45 := NB400_366.out; have hnc45 := NB366_400.out; obtain ⟨hcz46_0, hcz46_1, hcz46_2, hcz46_3⟩ := cs4 BK400.out; obtain ⟨hfz46_0, hfz46_1, hfz46_2, hfz46_3⟩ := fz4 BK400.out; obtain ⟨Ao47, co47, eo47⟩ := Kd.R_slice HO399.out; subst eo47; obtain ⟨hcz48_0, hcz48_1, hcz48_2, hcz48_3, hcz48_4, hcz48_5, hcz48_6, hcz48_7, hcz48_8⟩ := cs9 BK366.out; obtain ⟨hfz48_0, hfz48_1, hfz48_2, hfz48_3, hfz48_4, hfz48_5, hfz48_6, hfz48_7, hfz48_8⟩ := fz9 BK366.out) | ((with_reducible refine gate_callee (f := 14) rfl ?_); refine gl (some 40) Try.func14 #[.agg #[.string a2_0, .bool a2_1, .int .i64 a2_2, .int .i64 a2_3, .int .i64 a2_4, .int .i64 a2_5, .int .i64 a2_6, .string a2_7, .slice A2_8 l2_8.length c2_8]] ?_; (with_reducible refine (laws_toPolicy.calls k a2_0 a2_1 a2_2 a2_3 a2_4 a2_5 a2_6 a2_7 _ _ l2_8 t401 t402 t403 t404 t405 t406 t407 t408 t409 _ ?side1 ?side2 A28.out).mono ?_); (case side1 => exact Kd.C_below HR2_8.out (by exact bw HB.out)); (case side2 => exact HC2_8.out); rintro e w49 ⟨v410, rfl, ho0, hb⟩; refine ⟨_, rfl, ?_⟩; replace HO372 := Aside0.mk (Kd.S_below (by (with_reducible repeat (first | apply Kd.S_alloc | apply Kd.S_drewN | apply Kd.S_drew)); exact (Kd.S_mono (Kd.S_far (p := ⟨gb400, 3, none⟩) (Kd.S_far (p := ⟨gb400, 2, none⟩) (Kd.S_far (p := ⟨gb400, 1, none⟩) (Kd.S_far (p := ⟨gb400, 0, none⟩) (Kd.S_types HO372.out BK400.out (by decide)) (fun _ hk => hk.2) (.int .i64 t394)) (fun _ hk => hk.2) (.int .i64 t395)) (fun _ hk => hk.2) (.int .i64 t396)) (fun _ hk => hk.2) (.slice Ao47 t397.length co47)) (fun _ h_ => h_.1))) hb); replace HO378 := Aside0.mk (Kd.R_below (by (with_reducible repeat (first | apply Kd.R_alloc | apply Kd.R_drewN | apply Kd.R_drew)); exact (Kd.R_mono (Kd.R_far (p := ⟨gb400, 3, none⟩) (Kd.R_far (p := ⟨gb400, 2, none⟩) (Kd.R_far (p := ⟨gb400, 1, none⟩) (Kd.R_far (p := ⟨gb400, 0, none⟩) (Kd.R_types HO378.out BK400.out (by decide)) (fun _ hk => hk.2) (.int .i64 t394)) (fun _ hk => hk.2) (.int .i64 t395)) (fun _ hk => hk.2) (.int .i64 t396)) (fun _ hk => hk.2) (.slice Ao47 t397.length co47)) (fun _ h_ => h_.1))) hb); replace HO393 := Aside0.mk (Kd.S_below (by (with_reducible repeat (first | apply Kd.S_alloc | apply Kd.S_drewN | apply Kd.S_drew)); exact (Kd.S_mono (Kd.S_far (p := ⟨gb400, 3, none⟩) (Kd.S_far (p := ⟨gb400, 2, none⟩) (Kd.S_far (p := ⟨gb400, 1, none⟩) (Kd.S_far (p := ⟨gb400, 0, none⟩) (Kd.S_types HO393.out BK400.out (by decide)) (fun _ hk => hk.2) (.int .i64 t394)) (fun _ hk => hk.2) (.int .i64 t395)) (fun _ hk => hk.2) (.int .i64 t396)) (fun _ hk => hk.2) (.slice Ao47 t397.length co47)) (fun _ h_ => h_.1))) hb); replace HO399 := Aside0.mk (Kd.R_below (by (with_reducible repeat (first | apply Kd.R_alloc | apply Kd.R_drewN | apply Kd.R_drew)); exact (Kd.R_mono (Kd.R_far (p := ⟨gb400, 3, none⟩) (Kd.R_far (p := ⟨gb400, 2, none⟩) (Kd.R_far (p := ⟨gb400, 1, none⟩) (Kd.R_far (p := ⟨gb400, 0, none⟩) (Kd.R_types HO399.out BK400.out (by decide)) (fun _ hk => hk.2) (.int .i64 t394)) (fun _ hk => hk.2) (.int .i64 t395)) (fun _ hk => hk.2) (.int .i64 t396)) (fun _ hk => hk.2) (.slice Ao47 t397.length co47)) (fun _ h_ => h_.1))) hb); have HO411 := Aside0.mk (Kd.R_lower (Kd.R_new' ho0 (Kd.R_lt (by (with_reducible repeat (first | apply Kd.R_alloc | apply Kd.R_drewN | apply Kd.R_drew)); exact (Kd.R_mono (Kd.R_far (p := ⟨gb400, 3, none⟩) (Kd.R_far (p := ⟨gb400, 2, none⟩) (Kd.R_far (p := ⟨gb400, 1, none⟩) (Kd.R_far (p := ⟨gb400, 0, none⟩) (Kd.R_types HO389.out BK400.out (by decide)) (fun _ hk => hk.2) (.int .i64 t394)) (fun _ hk => hk.2) (.int .i64 t395)) (fun _ hk => hk.2) (.int .i64 t396)) (fun _ hk => hk.2) (.slice Ao47 t397.length co47)) (fun _ h_ => h_.1))))) (below_size (by exact bw HB.out))); replace HO389 := Aside0.mk (Kd.R_elder' (by (with_reducible repeat (first | apply Kd.R_alloc | apply Kd.R_drewN | apply Kd.R_drew)); exact (Kd.R_mono (Kd.R_far (p := ⟨gb400, 3, none⟩) (Kd.R_far (p := ⟨gb400, 2, none⟩) (Kd.R_far (p := ⟨gb400, 1, none⟩) (Kd.R_far (p := ⟨gb400, 0, none⟩) (Kd.R_types HO389.out BK400.out (by decide)) (fun _ hk => hk.2) (.int .i64 t394)) (fun _ hk => hk.2) (.int .i64 t395)) (fun _ hk => hk.2) (.int .i64 t396)) (fun _ hk => hk.2) (.slice Ao47 t397.length co47)) (fun _ h_ => h_.1))) (Kd.R_base ho0) hb); replace BK365 := Aside0.mk (blk_below (g := gb365) (o := .cells #[.int .i64 a1_0, .int .i64 a1_1, .int .i64 a1_2, .slice A1_3 l1_3.length c1_3] 25 (0, 0)) (bo BK365) hb); replace BK366 := Aside0.mk (blk_below (g := gb366) (o := .cells #[.string a2_0, .bool a2_1, .int .i64 a2_2, .int .i64 a2_3, .int .i64 a2_4, .int .i64 a2_5, .int .i64 a2_6, .string a2_7, .slice A2_8 l2_8.length c2_8] 30 (0, 0)) (bo BK366) hb); replace BK400 := Aside0.mk (blk_below (g := gb400) (o := .cells #[.int .i64 t394, .int .i64 t395, .int .i64 t396, .slice Ao47 t397.length co47] 39 (0, 0)) (bp BK400) hb); replace HB := bS HB hb; (try clear hb); (try clear hb2); (try clear hk); (try clear hi); (try clear ho0)) | ((with_reducible refine gate_dst (N := 11) rfl ?_); refine bx 11 #[.string (⟨#[]⟩ : ByteArray), .bool false, .int .i64 0, .int .i64 0, .int .i64 0, .int .i64 0, .int .i64 0, .string (⟨#[]⟩ : ByteArray), .slice none 0 0] 45 ?_; intro gb412 hg w50 hbox hb; replace HO372 := Aside0.mk (Kd.S_below (by exact Kd.xS HO372.out) hb); replace HO378 := Aside0.mk (Kd.R_below (by exact Kd.xR HO378.out) hb); replace HO389 := Aside0.mk (Kd.R_below (by exact Kd.xR HO389.out) hb); replace HO393 := Aside0.mk (Kd.S_below (by exact Kd.xS HO393.out) hb); replace HO399 := Aside0.mk (Kd.R_below (by exact Kd.xR HO399.out) hb); replace HO411 := Aside0.mk (Kd.R_below (by exact Kd.xR HO411.out) hb); have BK412 := Aside0.mk (hbox); have GW412 := gwB HB hg; have GE412 := gwB HB hg; replace HB := bS HB hb; have NB365_412 := nbL BK365 hg; have NB412_365 := nbR BK365 hg; replace BK365 := bB BK365 hb; have NB366_412 := nbL BK366 hg; have NB412_366 := nbR BK366 hg; replace BK366 := bB BK366 hb; have NB400_412 := nbL BK400 hg; have NB412_400 := nbR BK400 hg; replace BK400 := bB BK400 hb; clear hb hbox hg; have hnb51 := NB412_365.out; have hnc51 := NB365_412.out; have hnb52 := NB412_366.out; have hnc52 := NB366_412.out; have hnb53 := NB412_400.out; have hnc53 := NB400_412.out; obtain ⟨hcz54_0, hcz54_1, hcz54_2, hcz54_3, hcz54_4, hcz54_5, hcz54_6, hcz54_7, hcz54_8⟩ := cs9 BK412.out; obtain ⟨hfz54_0, hfz54_1, hfz54_2, hfz54_3, hfz54_4, hfz54_5, hfz54_6, hfz54_7, hfz54_8⟩ := fz9 BK412.out; obtain ⟨Ao55, co55, eo55⟩ := Kd.R_slice HO411.out; subst eo55; obtain ⟨hcz56_0, hcz56_1, hcz56_2, hcz56_3⟩ := cs4 BK400.out; obtain ⟨hfz56_0, hfz56_1, hfz56_2, hfz56_3⟩ := fz4 BK400.out; obtain ⟨Ao57, co57, eo57⟩ := Kd.S_slice HO393.out; subst eo57) | ((with_reducible refine gate_callee (f := 15) rfl ?_); refine gl (some 44) Try.func15 #[.slice Ao57 t391.length co57, .agg #[.int .i64 t394, .int .i64 t395, .int .i64 t396, .slice Ao47 t397.length co47], .agg #[.string t401, .bool t402, .int .i64 t403, .int .i64 t404, .int .i64 t405, .int .i64 t406, .int .i64 t407, .string t408, .slice Ao55 t409.length co55]] ?_; (with_reducible refine (impl_InScope.calls k _ _ t391 t394 t395 t396 _ _ t397 t401 t402 t403 t404 t405 t406 t407 t408 _ _ t409 t413 _ ?side1 ?side2 ?side3 ?side4 ?side5 ?side6 A29.out).mono ?_); (case side1 => refine (Kd.S_reads' (e := 79) (base := w.heap.size) (ok := fun k_ => (((True ∧ some k_ ≠ (.slice Ao35 t370.length co35 : Value).ownBlock) ∧ some k_ ≠ (.slice Ao36 t376.length co36 : Value).ownBlock) ∧ some k_ ≠ (.slice Ao47 t397.length co47 : Value).ownBlock)) (n := t391.length) (c := co57) ?_).2.2; exact (by (with_reducible repeat (first | apply Kd.S_alloc | apply Kd.S_drewN | apply Kd.S_drew)); exact (Kd.S_mono (Kd.S_far (p := ⟨gb412, 8, none⟩) (Kd.S_far (p := ⟨gb412, 7, none⟩) (Kd.S_far (p := ⟨gb412, 6, none⟩) (Kd.S_far (p := ⟨gb412, 5, none⟩) (Kd.S_far (p := ⟨gb412, 4, none⟩) (Kd.S_far (p := ⟨gb412, 3, none⟩) (Kd.S_far (p := ⟨gb412, 2, none⟩) (Kd.S_far (p := ⟨gb412, 1, none⟩) (Kd.S_far (p := ⟨gb412, 0, none⟩) (Kd.S_types HO393.out BK412.out (by decide)) (fun _ hk => hk.2) (.string t401)) (fun _ hk => hk.2) (.bool t402)) (fun _ hk => hk.2) (.int .i64 t403)) (fun _ hk => hk.2) (.int .i64 t404)) (fun _ hk => hk.2) (.int .i64 t405)) (fun _ hk => hk.2) (.int .i64 t406)) (fun _ hk => hk.2) (.int .i64 t407)) (fun _ hk => hk.2) (.string t408)) (fun _ hk => hk.2) (.slice Ao55 t409.length co55)) (fun _ h_ => h_.1)))); (case side2 => exact (Kd.S_reads' HO393.out).2.1); (case side3 => refine (Kd.R_reads' (e := 103) (base := w.heap.size) (ok := fun k_ => (True ∧ some k_ ≠ (.slice Ao36 t376.length co36 : Value).ownBlock)) (n := t397.length) (c := co47) ?_).2.2; exact (by (with_reducible repeat (first | apply Kd.R_alloc | apply Kd.R_drewN | apply Kd.R_drew)); exact (Kd.R_mono (Kd.R_far (p := ⟨gb412, 8, none⟩) (Kd.R_far (p := ⟨gb412, 7, none⟩) (Kd.R_far (p := ⟨gb412, 6, none⟩) (Kd.R_far (p := ⟨gb412, 5, none⟩) (Kd.R_far (p := ⟨gb412, 4, none⟩) (Kd.R_far (p := ⟨gb412, 3, none⟩) (Kd.R_far (p := ⟨gb412, 2, none⟩) (Kd.R_far (p := ⟨gb412, 1, none⟩) (Kd.R_far (p := ⟨gb412, 0, none⟩) (Kd.R_types HO399.out BK412.out (by decide)) (fun _ hk => hk.2) (.string t401)) (fun _ hk => hk.2) (.bool t402)) (fun _ hk => hk.2) (.int .i64 t403)) (fun _ hk => hk.2) (.int .i64 t404)) (fun _ hk => hk.2) (.int .i64 t405)) (fun _ hk => hk.2) (.int .i64 t406)) (fun _ hk => hk.2) (.int .i64 t407)) (fun _ hk => hk.2) (.string t408)) (fun _ hk => hk.2) (.slice Ao55 t409.length co55)) (fun _ h_ => h_.1)))); (case side4 => exact (Kd.R_reads' HO399.out).2.1); (case side5 => refine (Kd.R_reads' (e := 43) (base := w.heap.size) (ok := fun k_ => (True ∧ some k_ ≠ (.slice Ao37 t387.length co37 : Value).ownBlock)) (n := t409.length) (c := co55) ?_).2.2; exact (by (with_reducible repeat (first | apply Kd.R_alloc | apply Kd.R_drewN | apply Kd.R_drew)); exact (Kd.R_mono (Kd.R_far (p := ⟨gb412, 8, none⟩) (Kd.R_far (p := ⟨gb412, 7, none⟩) (Kd.R_far (p := ⟨gb412, 6, none⟩) (Kd.R_far (p := ⟨gb412, 5, none⟩) (Kd.R_far (p := ⟨gb412, 4, none⟩) (Kd.R_far (p := ⟨gb412, 3, none⟩) (Kd.R_far (p := ⟨gb412, 2, none⟩) (Kd.R_far (p := ⟨gb412, 1, none⟩) (Kd.R_far (p := ⟨gb412, 0, none⟩) (Kd.R_types HO411.out BK412.out (by decide)) (fun _ hk => hk.2) (.string t401)) (fun _ hk => hk.2) (.bool t402)) (fun _ hk => hk.2) (.int .i64 t403)) (fun _ hk => hk.2) (.int .i64 t404)) (fun _ hk => hk.2) (.int .i64 t405)) (fun _ hk => hk.2) (.int .i64 t406)) (fun _ hk => hk.2) (.int .i64 t407)) (fun _ hk => hk.2) (.string t408)) (fun _ hk => hk.2) (.slice Ao55 t409.length co55)) (fun _ h_ => h_.1)))); (case side6 => exact (Kd.R_reads' HO411.out).2.1); rintro e w58 ⟨rfl, hb⟩; refine ⟨_, rfl, ?_⟩; replace HO372 := Aside0.mk (Kd.S_below (by (with_reducible repeat (first | apply Kd.S_alloc | apply Kd.S_drewN | apply Kd.S_drew)); exact (Kd.S_mono (Kd.S_far (p := ⟨gb412, 8, none⟩) (Kd.S_far (p := ⟨gb412, 7, none⟩) (Kd.S_far (p := ⟨gb412, 6, none⟩) (Kd.S_far (p := ⟨gb412, 5, none⟩) (Kd.S_far (p := ⟨gb412, 4, none⟩) (Kd.S_far (p := ⟨gb412, 3, none⟩) (Kd.S_far (p := ⟨gb412, 2, none⟩) (Kd.S_far (p := ⟨gb412, 1, none⟩) (Kd.S_far (p := ⟨gb412, 0, none⟩) (Kd.S_types HO372.out BK412.out (by decide)) (fun _ hk => hk.2) (.string t401)) (fun _ hk => hk.2) (.bool t402)) (fun _ hk => hk.2) (.int .i64 t403)) (fun _ hk => hk.2) (.int .i64 t404)) (fun _ hk => hk.2) (.int .i64 t405)) (fun _ hk => hk.2) (.int .i64 t406)) (fun _ hk => hk.2) (.int .i64 t407)) (fun _ hk => hk.2) (.string t408)) (fun _ hk => hk.2) (.slice Ao55 t409.length co55)) (fun _ h_ => h_.1))) hb); replace HO378 := Aside0.mk (Kd.R_below (by (with_reducible repeat (first | apply Kd.R_alloc | apply Kd.R_drewN | apply Kd.R_drew)); exact (Kd.R_mono (Kd.R_far (p := ⟨gb412, 8, none⟩) (Kd.R_far (p := ⟨gb412, 7, none⟩) (Kd.R_far (p := ⟨gb412, 6, none⟩) (Kd.R_far (p := ⟨gb412, 5, none⟩) (Kd.R_far (p := ⟨gb412, 4, none⟩) (Kd.R_far (p := ⟨gb412, 3, none⟩) (Kd.R_far (p := ⟨gb412, 2, none⟩) (Kd.R_far (p := ⟨gb412, 1, none⟩) (Kd.R_far (p := ⟨gb412, 0, none⟩) (Kd.R_types HO378.out BK412.out (by decide)) (fun _ hk => hk.2) (.string t401)) (fun _ hk => hk.2) (.bool t402)) (fun _ hk => hk.2) (.int .i64 t403)) (fun _ hk => hk.2) (.int .i64 t404)) (fun _ hk => hk.2) (.int .i64 t405)) (fun _ hk => hk.2) (.int .i64 t406)) (fun _ hk => hk.2) (.int .i64 t407)) (fun _ hk => hk.2) (.string t408)) (fun _ hk => hk.2) (.slice Ao55 t409.length co55)) (fun _ h_ => h_.1))) hb); replace HO389 := Aside0.mk (Kd.R_below (by (with_reducible repeat (first | apply Kd.R_alloc | apply Kd.R_drewN | apply Kd.R_drew)); exact (Kd.R_mono (Kd.R_far (p := ⟨gb412, 8, none⟩) (Kd.R_far (p := ⟨gb412, 7, none⟩) (Kd.R_far (p := ⟨gb412, 6, none⟩) (Kd.R_far (p := ⟨gb412, 5, none⟩) (Kd.R_far (p := ⟨gb412, 4, none⟩) (Kd.R_far (p := ⟨gb412, 3, none⟩) (Kd.R_far (p := ⟨gb412, 2, none⟩) (Kd.R_far (p := ⟨gb412, 1, none⟩) (Kd.R_far (p := ⟨gb412, 0, none⟩) (Kd.R_types HO389.out BK412.out (by decide)) (fun _ hk => hk.2) (.string t401)) (fun _ hk => hk.2) (.bool t402)) (fun _ hk => hk.2) (.int .i64 t403)) (fun _ hk => hk.2) (.int .i64 t404)) (fun _ hk => hk.2) (.int .i64 t405)) (fun _ hk => hk.2) (.int .i64 t406)) (fun _ hk => hk.2) (.int .i64 t407)) (fun _ hk => hk.2) (.string t408)) (fun _ hk => hk.2) (.slice Ao55 t409.length co55)) (fun _ h_ => h_.1))) hb); replace HO393 := Aside0.mk (Kd.S_below (by (with_reducible repeat (first | apply Kd.S_alloc | apply Kd.S_drewN | apply Kd.S_drew)); exact (Kd.S_mono (Kd.S_far (p := ⟨gb412, 8, none⟩) (Kd.S_far (p := ⟨gb412, 7, none⟩) (Kd.S_far (p := ⟨gb412, 6, none⟩) (Kd.S_far (p := ⟨gb412, 5, none⟩) (Kd.S_far (p := ⟨gb412, 4, none⟩) (Kd.S_far (p := ⟨gb412, 3, none⟩) (Kd.S_far (p := ⟨gb412, 2, none⟩) (Kd.S_far (p := ⟨gb412, 1, none⟩) (Kd.S_far (p := ⟨gb412, 0, none⟩) (Kd.S_types HO393.out BK412.out (by decide)) (fun _ hk => hk.2) (.string t401)) (fun _ hk => hk.2) (.bool t402)) (fun _ hk => hk.2) (.int .i64 t403)) (fun _ hk => hk.2) (.int .i64 t404)) (fun _ hk => hk.2) (.int .i64 t405)) (fun _ hk => hk.2) (.int .i64 t406)) (fun _ hk => hk.2) (.int .i64 t407)) (fun _ hk => hk.2) (.string t408)) (fun _ hk => hk.2) (.slice Ao55 t409.length co55)) (fun _ h_ => h_.1))) hb); replace HO399 := Aside0.mk (Kd.R_below (by (with_reducible repeat (first | apply Kd.R_alloc | apply Kd.R_drewN | apply Kd.R_drew)); exact (Kd.R_mono (Kd.R_far (p := ⟨gb412, 8, none⟩) (Kd.R_far (p := ⟨gb412, 7, none⟩) (Kd.R_far (p := ⟨gb412, 6, none⟩) (Kd.R_far (p := ⟨gb412, 5, none⟩) (Kd.R_far (p := ⟨gb412, 4, none⟩) (Kd.R_far (p := ⟨gb412, 3, none⟩) (Kd.R_far (p := ⟨gb412, 2, none⟩) (Kd.R_far (p := ⟨gb412, 1, none⟩) (Kd.R_far (p := ⟨gb412, 0, none⟩) (Kd.R_types HO399.out BK412.out (by decide)) (fun _ hk => hk.2) (.string t401)) (fun _ hk => hk.2) (.bool t402)) (fun _ hk => hk.2) (.int .i64 t403)) (fun _ hk => hk.2) (.int .i64 t404)) (fun _ hk => hk.2) (.int .i64 t405)) (fun _ hk => hk.2) (.int .i64 t406)) (fun _ hk => hk.2) (.int .i64 t407)) (fun _ hk => hk.2) (.string t408)) (fun _ hk => hk.2) (.slice Ao55 t409.length co55)) (fun _ h_ => h_.1))) hb); replace HO411 := Aside0.mk (Kd.R_below (by (with_reducible repeat (first | apply Kd.R_alloc | apply Kd.R_drewN | apply Kd.R_drew)); exact (Kd.R_mono (Kd.R_far (p := ⟨gb412, 8, none⟩) (Kd.R_far (p := ⟨gb412, 7, none⟩) (Kd.R_far (p := ⟨gb412, 6, none⟩) (Kd.R_far (p := ⟨gb412, 5, none⟩) (Kd.R_far (p := ⟨gb412, 4, none⟩) (Kd.R_far (p := ⟨gb412, 3, none⟩) (Kd.R_far (p := ⟨gb412, 2, none⟩) (Kd.R_far (p := ⟨gb412, 1, none⟩) (Kd.R_far (p := ⟨gb412, 0, none⟩) (Kd.R_types HO411.out BK412.out (by decide)) (fun _ hk => hk.2) (.string t401)) (fun _ hk => hk.2) (.bool t402)) (fun _ hk => hk.2) (.int .i64 t403)) (fun _ hk => hk.2) (.int .i64 t404)) (fun _ hk => hk.2) (.int .i64 t405)) (fun _ hk => hk.2) (.int .i64 t406)) (fun _ hk => hk.2) (.int .i64 t407)) (fun _ hk => hk.2) (.string t408)) (fun _ hk => hk.2) (.slice Ao55 t409.length co55)) (fun _ h_ => h_.1))) hb); replace BK365 := Aside0.mk (blk_below (g := gb365) (o := .cells #[.int .i64 a1_0, .int .i64 a1_1, .int .i64 a1_2, .slice A1_3 l1_3.length c1_3] 25 (0, 0)) (bo BK365) hb); replace BK366 := Aside0.mk (blk_below (g := gb366) (o := .cells #[.string a2_0, .bool a2_1, .int .i64 a2_2, .int .i64 a2_3, .int .i64 a2_4, .int .i64 a2_5, .int .i64 a2_6, .string a2_7, .slice A2_8 l2_8.length c2_8] 30 (0, 0)) (bo BK366) hb); replace BK400 := Aside0.mk (blk_below (g := gb400) (o := .cells #[.int .i64 t394, .int .i64 t395, .int .i64 t396, .slice Ao47 t397.length co47] 39 (0, 0)) (bo BK400) hb); replace BK412 := Aside0.mk (blk_below (g := gb412) (o := .cells #[.string t401, .bool t402, .int .i64 t403, .int .i64 t404, .int .i64 t405, .int .i64 t406, .int .i64 t407, .string t408, .slice Ao55 t409.length co55] 45 (0, 0)) (bp BK412) hb); replace HB := bS HB hb; (try clear hb); (try clear hb2); (try clear hk); (try clear hi)))
    (try simp only [Act.put, List.setIfInBounds_toArray, List.set_cons_zero, List.set_cons_succ])
    have H := HC30.out
    clear HC30
    by_cases c59 : (t413 != t390) = true
    ·
     rw [if_pos c59] at H; have c59b0 : (t413 != t390) = true := c59
     (try (have c59b1 : decide (t413 = t390) = false := by simpa using c59))
     (try (have c59b2 : (t413 == t390) = false := by simpa using c59))
     (try (have c59b3 : ¬ (t413 = t390) := by simpa using c59))
     clear c59
     (first | rw [c59b0] | (simp only [i64_w, i32_w]; rw [c59b0]) | rw [c59b2] | rw [c59b1] | skip)
     obtain rfl := Option.some.inj H
     go_wp2
     go_ret
     exact ⟨by first | rfl | (simp [errW_none, errW_some] <;> rfl) | (simp [*, errW_none, errW_some] <;> rfl), by exact bw HB.out⟩
    ·
     rw [if_neg c59] at H; have c59b0 : (t413 != t390) = false := by simpa using c59
     (try (have c59b1 : decide (t413 = t390) = true := by simpa using c59))
     (try (have c59b2 : (t413 == t390) = true := by simpa using c59))
     clear c59
     (first | rw [c59b0] | (simp only [i64_w, i32_w]; rw [c59b0]) | rw [c59b2] | rw [c59b1] | skip)
     replace H := Option.bind_eq_some_iff.mp H
     obtain ⟨t414, A600, H⟩ := H
     replace H : ((laws_eqThingS.f k t391 t414).bind fun t417 => (if t417 = true then ((laws_toRequest.f k a1_0 a1_1 a1_2 l1_3).bind fun bt418 => ((laws_eqRequest.f k t394 t395 t396 t397 bt418.1 bt418.2.1 bt418.2.2.1 bt418.2.2.2).bind fun t424 => (if t424 = true then ((laws_toPolicy.f k a2_0 a2_1 a2_2 a2_3 a2_4 a2_5 a2_6 a2_7 l2_8).bind fun bt425 => ((laws_eqPolicy.f k t401 t402 t403 t404 t405 t406 t407 t408 t409 bt425.1 bt425.2.1 bt425.2.2.1 bt425.2.2.2.1 bt425.2.2.2.2.1 bt425.2.2.2.2.2.1 bt425.2.2.2.2.2.2.1 bt425.2.2.2.2.2.2.2.1 bt425.2.2.2.2.2.2.2.2).bind fun t436 => (if t436 = true then (some true) else (some false)))) else (some false)))) else (some false))) = some r := H
     have A60 := Aside0.mk A600
     clear A600
     replace H := Option.bind_eq_some_iff.mp H
     obtain ⟨t417, A610, H⟩ := H
     replace H : (if t417 = true then ((laws_toRequest.f k a1_0 a1_1 a1_2 l1_3).bind fun bt418 => ((laws_eqRequest.f k t394 t395 t396 t397 bt418.1 bt418.2.1 bt418.2.2.1 bt418.2.2.2).bind fun t424 => (if t424 = true then ((laws_toPolicy.f k a2_0 a2_1 a2_2 a2_3 a2_4 a2_5 a2_6 a2_7 l2_8).bind fun bt425 => ((laws_eqPolicy.f k t401 t402 t403 t404 t405 t406 t407 t408 t409 bt425.1 bt425.2.1 bt425.2.2.1 bt425.2.2.2.1 bt425.2.2.2.2.1 bt425.2.2.2.2.2.1 bt425.2.2.2.2.2.2.1 bt425.2.2.2.2.2.2.2.1 bt425.2.2.2.2.2.2.2.2).bind fun t436 => (if t436 = true then (some true) else (some false)))) else (some false)))) else (some false)) = some r := H
     have A61 := Aside0.mk A610
     clear A610
     have HC62 := Aside0.mk H
     clear H
     go_upto_if 52 with (first | ((with_reducible refine gate_callee (f := 12) rfl ?_); refine gl (some 50) Try.func12 #[.slice A0 l0.length c0] ?_; (with_reducible refine (laws_toThingS.calls k _ _ l0 t414 _ ?side1 ?side2 A60.out).mono ?_); (case side1 => repeat (first | exact (Kd.C_below HR0.out HB.out) | (with_reducible refine Kd.C_alloc ?_ _) | (with_reducible refine Kd.C_drewN ?_ _) | (with_reducible refine Kd.C_drew ?_))); (case side2 => exact HC0.out); rintro e w63 ⟨v415, rfl, ho0, hb⟩; refine ⟨_, rfl, ?_⟩; replace HO389 := Aside0.mk (Kd.R_below (by exact Kd.xR HO389.out) hb); replace HO411 := Aside0.mk (Kd.R_below (by exact Kd.xR HO411.out) hb); have HO416 := Aside0.mk (Kd.S_lower (Kd.S_new' (Kd.S_new' (Kd.S_new' (Kd.S_new' ho0 (Kd.S_lt (by exact Kd.xS HO372.out))) (Kd.R_lt (by exact Kd.xR HO378.out))) (Kd.S_lt (by exact Kd.xS HO393.out))) (Kd.R_lt (by exact Kd.xR HO399.out))) (below_size (by exact bw HB.out))); replace HO372 := Aside0.mk (Kd.S_elder' (by exact Kd.xS HO372.out) (Kd.S_base ho0) hb); replace HO378 := Aside0.mk (Kd.R_below (by exact Kd.xR HO378.out) hb); replace HO393 := Aside0.mk (Kd.S_elder' (by exact Kd.xS HO393.out) (Kd.S_base ho0) hb); replace HO399 := Aside0.mk (Kd.R_below (by exact Kd.xR HO399.out) hb); replace BK365 := bB BK365 hb; replace BK366 := bB BK366 hb; replace BK400 := bB BK400 hb; replace BK412 := bB BK412 hb; replace HB := bS HB hb; (try clear hb); (try clear hb2); (try clear hk); (try clear hi); (try clear ho0); obtain ⟨Ao64, co64, eo64⟩ := Kd.S_slice HO416.out; subst eo64) | ((with_reducible refine gate_callee (f := 16) rfl ?_); refine gl (some 51) Try.func16 #[.slice Ao57 t391.length co57, .slice Ao64 t414.length co64] ?_; (with_reducible refine (laws_eqThingS.calls k _ _ t391 _ _ t414 t417 _ ?side1 ?side2 ?side3 ?side4 A61.out).mono ?_); (case side1 => repeat (first | exact (Kd.S_reads' HO393.out).2.2 | (with_reducible refine Kd.C_alloc ?_ _) | (with_reducible refine Kd.C_drewN ?_ _) | (with_reducible refine Kd.C_drew ?_))); (case side2 => exact (Kd.S_reads' HO393.out).2.1); (case side3 => repeat (first | exact (Kd.S_reads' HO416.out).2.2 | (with_reducible refine Kd.C_alloc ?_ _) | (with_reducible refine Kd.C_drewN ?_ _) | (with_reducible refine Kd.C_drew ?_))); (case side4 => exact (Kd.S_reads' HO416.out).2.1); rintro e w65 ⟨rfl, hb⟩; refine ⟨_, rfl, ?_⟩; replace HO372 := Aside0.mk (Kd.S_below (by exact Kd.xS HO372.out) hb); replace HO378 := Aside0.mk (Kd.R_below (by exact Kd.xR HO378.out) hb); replace HO389 := Aside0.mk (Kd.R_below (by exact Kd.xR HO389.out) hb); replace HO393 := Aside0.mk (Kd.S_below (by exact Kd.xS HO393.out) hb); replace HO399 := Aside0.mk (Kd.R_below (by exact Kd.xR HO399.out) hb); replace HO411 := Aside0.mk (Kd.R_below (by exact Kd.xR HO411.out) hb); replace HO416 := Aside0.mk (Kd.S_below (by exact Kd.xS HO416.out) hb); replace BK365 := bB BK365 hb; replace BK366 := bB BK366 hb; replace BK400 := bB BK400 hb; replace BK412 := bB BK412 hb; replace HB := bS HB hb; (try clear hb); (try clear hb2); (try clear hk); (try clear hi)))
     (try simp only [Act.put, List.setIfInBounds_toArray, List.set_cons_zero, List.set_cons_succ])
     have H := HC62.out
     clear HC62
     by_cases c66 : t417 = true
     ·
      subst c66
      have H1 : ((laws_toRequest.f k a1_0 a1_1 a1_2 l1_3).bind fun bt418 => ((laws_eqRequest.f k t394 t395 t396 t397 bt418.1 bt418.2.1 bt418.2.2.1 bt418.2.2.2).bind fun t424 => (if t424 = true then ((laws_toPolicy.f k a2_0 a2_1 a2_2 a2_3 a2_4 a2_5 a2_6 a2_7 l2_8).bind fun bt425 => ((laws_eqPolicy.f k t401 t402 t403 t404 t405 t406 t407 t408 t409 bt425.1 bt425.2.1 bt425.2.2.1 bt425.2.2.2.1 bt425.2.2.2.2.1 bt425.2.2.2.2.2.1 bt425.2.2.2.2.2.2.1 bt425.2.2.2.2.2.2.2.1 bt425.2.2.2.2.2.2.2.2).bind fun t436 => (if t436 = true then (some true) else (some false)))) else (some false)))) = some r := by rw [if_pos rfl] at H; exact H
      clear H
      have H := H1
      clear H1
      replace H := Option.bind_eq_some_iff.mp H
      obtain ⟨⟨t418, t419, t420, t421⟩, A670, H⟩ := H
      replace H : ((laws_eqRequest.f k t394 t395 t396 t397 t418 t419 t420 t421).bind fun t424 => (if t424 = true then ((laws_toPolicy.f k a2_0 a2_1 a2_2 a2_3 a2_4 a2_5 a2_6 a2_7 l2_8).bind fun bt425 => ((laws_eqPolicy.f k t401 t402 t403 t404 t405 t406 t407 t408 t409 bt425.1 bt425.2.1 bt425.2.2.1 bt425.2.2.2.1 bt425.2.2.2.2.1 bt425.2.2.2.2.2.1 bt425.2.2.2.2.2.2.1 bt425.2.2.2.2.2.2.2.1 bt425.2.2.2.2.2.2.2.2).bind fun t436 => (if t436 = true then (some true) else (some false)))) else (some false))) = some r := H
      have A67 := Aside0.mk A670
      clear A670
      replace H := Option.bind_eq_some_iff.mp H
      obtain ⟨t424, A680, H⟩ := H
      replace H : (if t424 = true then ((laws_toPolicy.f k a2_0 a2_1 a2_2 a2_3 a2_4 a2_5 a2_6 a2_7 l2_8).bind fun bt425 => ((laws_eqPolicy.f k t401 t402 t403 t404 t405 t406 t407 t408 t409 bt425.1 bt425.2.1 bt425.2.2.1 bt425.2.2.2.1 bt425.2.2.2.2.1 bt425.2.2.2.2.2.1 bt425.2.2.2.2.2.2.1 bt425.2.2.2.2.2.2.2.1 bt425.2.2.2.2.2.2.2.2).bind fun t436 => (if t436 = true then (some true) else (some false)))) else (some false)) = some r := H
      have A68 := Aside0.mk A680
      clear A680
      have HC69 := Aside0.mk H
      clear H
      try go_wp2
      replace HO372 := Aside0.mk (Kd.S_drew HO372.out)
      replace HO378 := Aside0.mk (Kd.R_drew HO378.out)
      replace HO389 := Aside0.mk (Kd.R_drew HO389.out)
      replace HO393 := Aside0.mk (Kd.S_drew HO393.out)
      replace HO399 := Aside0.mk (Kd.R_drew HO399.out)
      replace HO411 := Aside0.mk (Kd.R_drew HO411.out)
      replace HO416 := Aside0.mk (Kd.S_drew HO416.out)
      replace BK365 := Aside0.mk (blk_drew BK365.out)
      replace BK366 := Aside0.mk (blk_drew BK366.out)
      replace BK400 := Aside0.mk (blk_drew BK400.out)
      replace BK412 := Aside0.mk (blk_drew BK412.out)
      replace HB := Aside0.mk (below_drew1 HB.out)
      refine start_ (n := 5) (S := fun w' => w'.cell? ⟨gb400, 0, none⟩ = some (.int .i64 t394) ∧ w'.cell? ⟨gb400, 1, none⟩ = some (.int .i64 t395) ∧ w'.cell? ⟨gb400, 2, none⟩ = some (.int .i64 t396) ∧ w'.cell? ⟨gb400, 3, none⟩ = some (.slice Ao47 t397.length co47) ∧ w'.cell? ⟨gb365, 0, none⟩ = some (.int .i64 a1_0) ∧ w'.cell? ⟨gb365, 1, none⟩ = some (.int .i64 a1_1) ∧ w'.cell? ⟨gb365, 2, none⟩ = some (.int .i64 a1_2) ∧ w'.cell? ⟨gb365, 3, none⟩ = some (.slice A1_3 l1_3.length c1_3)) (ds := []) (mB 5 0) (by kernel_rfl) rfl rfl ⟨(blk_cell BK400.out 0).trans rfl, (blk_cell BK400.out 1).trans rfl, (blk_cell BK400.out 2).trans rfl, (blk_cell BK400.out 3).trans rfl, (blk_cell BK365.out 0).trans rfl, (blk_cell BK365.out 1).trans rfl, (blk_cell BK365.out 2).trans rfl, (blk_cell BK365.out 3).trans rfl⟩ (fun hHeld => ?_)
      generalize w65.drew = w70 at HO372 HO378 HO389 HO393 HO399 HO411 HO416 BK365 BK366 BK400 BK412 HB hHeld ⊢
      refine take_ (i := 0) (N := some 53) (v := ?_) (a' := ?_) (mB 5 1) rfl rfl (by kernel_rfl) (fun _ _ _ h => h) (Or.inl ⟨by rfl, ?_⟩) hHeld ?_ ?_
      rotate_left
      ·
       rintro w' ⟨s0, s1, s2, s3, s4, s5, s6, s7⟩
       go_simp
       with_reducible rfl
      rotate_left
      ·
       simp only [Act.put, List.setIfInBounds_toArray, List.set_cons_zero, List.set_cons_succ, i64_w, i32_w]
       rfl
      refine take_ (i := 1) (N := some 54) (v := ?_) (a' := ?_) (mB 5 3) rfl rfl (by kernel_rfl) (fun _ _ _ h => h) (Or.inl ⟨by rfl, ?_⟩) hHeld ?_ ?_
      rotate_left
      ·
       rintro w' ⟨s0, s1, s2, s3, s4, s5, s6, s7⟩
       go_simp
       with_reducible rfl
      rotate_left
      ·
       simp only [Act.put, List.setIfInBounds_toArray, List.set_cons_zero, List.set_cons_succ, i64_w, i32_w]
       rfl
      refine one_ (i := 2) (N := some 55) (mB 5 7) rfl rfl (by kernel_rfl) (by decide) (fun K hK => ?_)
      refine gs Try.func13 #[.agg #[.int .i64 a1_0, .int .i64 a1_1, .int .i64 a1_2, .slice A1_3 l1_3.length c1_3]] ?_
      with_reducible refine (laws_toRequest.calls k a1_0 a1_1 a1_2 _ _ l1_3 t418 t419 t420 t421 _ ?side1 ?side2 A67.out).mono ?_
      (case side1 => repeat (first | exact (Kd.C_below HR1_3.out HB.out) | (with_reducible refine Kd.C_alloc ?_ _) | (with_reducible refine Kd.C_drewN ?_ _) | (with_reducible refine Kd.C_drew ?_)))
      (case side2 => exact HC1_3.out)
      rintro e w71 ⟨v422, rfl, ho0, hb⟩
      refine ⟨_, rfl, ?_⟩
      replace HO372 := Aside0.mk (Kd.S_elder' (by exact Kd.xS HO372.out) (Kd.R_base ho0) hb)
      replace HO389 := Aside0.mk (Kd.R_below (by exact Kd.xR HO389.out) hb)
      replace HO393 := Aside0.mk (Kd.S_elder' (by exact Kd.xS HO393.out) (Kd.R_base ho0) hb)
      replace HO411 := Aside0.mk (Kd.R_below (by exact Kd.xR HO411.out) hb)
      replace HO416 := Aside0.mk (Kd.S_elder' (by exact Kd.xS HO416.out) (Kd.R_base ho0) hb)
      have HO423 := Aside0.mk (Kd.R_lower (Kd.R_new' (Kd.R_new' ho0 (Kd.R_lt (by exact Kd.xR HO378.out))) (Kd.R_lt (by exact Kd.xR HO399.out))) (below_size (by exact bw HB.out)))
      replace HO378 := Aside0.mk (Kd.R_elder' (by exact Kd.xR HO378.out) (Kd.R_base ho0) hb)
      replace HO399 := Aside0.mk (Kd.R_elder' (by exact Kd.xR HO399.out) (Kd.R_base ho0) hb)
      replace BK365 := bB BK365 hb
      replace BK366 := bB BK366 hb
      replace BK400 := bB BK400 hb
      replace BK412 := bB BK412 hb
      replace HB := bS HB hb
      (try clear hb)
      (try clear hb2)
      (try clear hk)
      (try clear hi)
      (try clear ho0)
      obtain ⟨Ao72, co72, eo72⟩ := Kd.R_slice HO423.out
      (first | subst eo72 | (injection eo72 with f1_ f2_ f3_; have f4_ := f1_.symm; have f5_ := f3_.symm; clear f1_ f2_ f3_; subst f4_; subst f5_))
      refine hK.out _ _ ⟨(blk_cell BK400.out 0).trans rfl, (blk_cell BK400.out 1).trans rfl, (blk_cell BK400.out 2).trans rfl, (blk_cell BK400.out 3).trans rfl, (blk_cell BK365.out 0).trans rfl, (blk_cell BK365.out 1).trans rfl, (blk_cell BK365.out 2).trans rfl, (blk_cell BK365.out 3).trans rfl⟩ (fun hHeld => ?_)
      clear hK K
      refine nm (some 55) ?_
      refine one_ (i := 3) (N := some 56) (mB 5 15) rfl rfl (by kernel_rfl) (by decide) (fun K hK => ?_)
      refine gs Try.func17 #[.agg #[.int .i64 t394, .int .i64 t395, .int .i64 t396, .slice Ao47 t397.length co47], .agg #[.int .i64 t418, .int .i64 t419, .int .i64 t420, .slice Ao72 t421.length co72]] ?_
      with_reducible refine (laws_eqRequest.calls k t394 t395 t396 _ _ t397 t418 t419 t420 _ _ t421 t424 _ ?side1 ?side2 ?side3 ?side4 A68.out).mono ?_
      (case side1 => repeat (first | exact (Kd.R_reads' HO399.out).2.2 | (with_reducible refine Kd.C_alloc ?_ _) | (with_reducible refine Kd.C_drewN ?_ _) | (with_reducible refine Kd.C_drew ?_)))
      (case side2 => exact (Kd.R_reads' HO399.out).2.1)
      (case side3 => repeat (first | exact (Kd.R_reads' HO423.out).2.2 | (with_reducible refine Kd.C_alloc ?_ _) | (with_reducible refine Kd.C_drewN ?_ _) | (with_reducible refine Kd.C_drew ?_)))
      (case side4 => exact (Kd.R_reads' HO423.out).2.1)
      rintro e w73 ⟨rfl, hb⟩
      refine ⟨_, rfl, ?_⟩
      replace HO372 := Aside0.mk (Kd.S_below (by exact Kd.xS HO372.out) hb)
      replace HO378 := Aside0.mk (Kd.R_below (by exact Kd.xR HO378.out) hb)
      replace HO389 := Aside0.mk (Kd.R_below (by exact Kd.xR HO389.out) hb)
      replace HO393 := Aside0.mk (Kd.S_below (by exact Kd.xS HO393.out) hb)
      replace HO399 := Aside0.mk (Kd.R_below (by exact Kd.xR HO399.out) hb)
      replace HO411 := Aside0.mk (Kd.R_below (by exact Kd.xR HO411.out) hb)
      replace HO416 := Aside0.mk (Kd.S_below (by exact Kd.xS HO416.out) hb)
      replace HO423 := Aside0.mk (Kd.R_below (by exact Kd.xR HO423.out) hb)
      replace BK365 := bB BK365 hb
      replace BK366 := bB BK366 hb
      replace BK400 := bB BK400 hb
      replace BK412 := bB BK412 hb
      replace HB := bS HB hb
      (try clear hb)
      (try clear hb2)
      (try clear hk)
      (try clear hi)
      refine hK.out _ _ ⟨(blk_cell BK400.out 0).trans rfl, (blk_cell BK400.out 1).trans rfl, (blk_cell BK400.out 2).trans rfl, (blk_cell BK400.out 3).trans rfl, (blk_cell BK365.out 0).trans rfl, (blk_cell BK365.out 1).trans rfl, (blk_cell BK365.out 2).trans rfl, (blk_cell BK365.out 3).trans rfl⟩ (fun hHeld => ?_)
      clear hK K
      refine nm (some 56) ?_
      refine pure_ (i := 4) (N := some 57) (v := ?_) (a' := ?_) (mB 5 31) rfl rfl (by kernel_rfl) (fun _ _ _ h => h) (Or.inl ⟨by rfl, ?_⟩) ?_ ?_
      rotate_left
      ·
       intro w'
       go_simp
       with_reducible rfl
      rotate_left
      ·
       simp only [Act.put, List.setIfInBounds_toArray, List.set_cons_zero, List.set_cons_succ, i64_w, i32_w]
       rfl
      refine done_ (by kernel_rfl) ?_
      go_upto_if 57 with (fail)
      have H := HC69.out
      clear HC69
      by_cases c74 : t424 = true
      ·
       subst c74
       have H1 : ((laws_toPolicy.f k a2_0 a2_1 a2_2 a2_3 a2_4 a2_5 a2_6 a2_7 l2_8).bind fun bt425 => ((laws_eqPolicy.f k t401 t402 t403 t404 t405 t406 t407 t408 t409 bt425.1 bt425.2.1 bt425.2.2.1 bt425.2.2.2.1 bt425.2.2.2.2.1 bt425.2.2.2.2.2.1 bt425.2.2.2.2.2.2.1 bt425.2.2.2.2.2.2.2.1 bt425.2.2.2.2.2.2.2.2).bind fun t436 => (if t436 = true then (some true) else (some false)))) = some r := by rw [if_pos rfl] at H; exact H
       clear H
       have H := H1
       clear H1
       replace H := Option.bind_eq_some_iff.mp H
       obtain ⟨⟨t425, t426, t427, t428, t429, t430, t431, t432, t433⟩, A750, H⟩ := H
       replace H : ((laws_eqPolicy.f k t401 t402 t403 t404 t405 t406 t407 t408 t409 t425 t426 t427 t428 t429 t430 t431 t432 t433).bind fun t436 => (if t436 = true then (some true) else (some false))) = some r := H
       have A75 := Aside0.mk A750
       clear A750
       replace H := Option.bind_eq_some_iff.mp H
       obtain ⟨t436, A760, H⟩ := H
       replace H : (if t436 = true then (some true) else (some false)) = some r := H
       have A76 := Aside0.mk A760
       clear A760
       have HC77 := Aside0.mk H
       clear H
       try go_wp2
       replace HO372 := Aside0.mk (Kd.S_drew HO372.out)
       replace HO378 := Aside0.mk (Kd.R_drew HO378.out)
       replace HO389 := Aside0.mk (Kd.R_drew HO389.out)
       replace HO393 := Aside0.mk (Kd.S_drew HO393.out)
       replace HO399 := Aside0.mk (Kd.R_drew HO399.out)
       replace HO411 := Aside0.mk (Kd.R_drew HO411.out)
       replace HO416 := Aside0.mk (Kd.S_drew HO416.out)
       replace HO423 := Aside0.mk (Kd.R_drew HO423.out)
       replace BK365 := Aside0.mk (blk_drew BK365.out)
       replace BK366 := Aside0.mk (blk_drew BK366.out)
       replace BK400 := Aside0.mk (blk_drew BK400.out)
       replace BK412 := Aside0.mk (blk_drew BK412.out)
       replace HB := Aside0.mk (below_drew1 HB.out)
       refine start_ (n := 5) (S := fun w' => w'.cell? ⟨gb412, 0, none⟩ = some (.string t401) ∧ w'.cell? ⟨gb412, 1, none⟩ = some (.bool t402) ∧ w'.cell? ⟨gb412, 2, none⟩ = some (.int .i64 t403) ∧ w'.cell? ⟨gb412, 3, none⟩ = some (.int .i64 t404) ∧ w'.cell? ⟨gb412, 4, none⟩ = some (.int .i64 t405) ∧ w'.cell? ⟨gb412, 5, none⟩ = some (.int .i64 t406) ∧ w'.cell? ⟨gb412, 6, none⟩ = some (.int .i64 t407) ∧ w'.cell? ⟨gb412, 7, none⟩ = some (.string t408) ∧ w'.cell? ⟨gb412, 8, none⟩ = some (.slice Ao55 t409.length co55) ∧ w'.cell? ⟨gb366, 0, none⟩ = some (.string a2_0) ∧ w'.cell? ⟨gb366, 1, none⟩ = some (.bool a2_1) ∧ w'.cell? ⟨gb366, 2, none⟩ = some (.int .i64 a2_2) ∧ w'.cell? ⟨gb366, 3, none⟩ = some (.int .i64 a2_3) ∧ w'.cell? ⟨gb366, 4, none⟩ = some (.int .i64 a2_4) ∧ w'.cell? ⟨gb366, 5, none⟩ = some (.int .i64 a2_5) ∧ w'.cell? ⟨gb366, 6, none⟩ = some (.int .i64 a2_6) ∧ w'.cell? ⟨gb366, 7, none⟩ = some (.string a2_7) ∧ w'.cell? ⟨gb366, 8, none⟩ = some (.slice A2_8 l2_8.length c2_8)) (ds := []) (mB 5 0) (by kernel_rfl) rfl rfl ⟨(blk_cell BK412.out 0).trans rfl, (blk_cell BK412.out 1).trans rfl, (blk_cell BK412.out 2).trans rfl, (blk_cell BK412.out 3).trans rfl, (blk_cell BK412.out 4).trans rfl, (blk_cell BK412.out 5).trans rfl, (blk_cell BK412.out 6).trans rfl, (blk_cell BK412.out 7).trans rfl, (blk_cell BK412.out 8).trans rfl, (blk_cell BK366.out 0).trans rfl, (blk_cell BK366.out 1).trans rfl, (blk_cell BK366.out 2).trans rfl, (blk_cell BK366.out 3).trans rfl, (blk_cell BK366.out 4).trans rfl, (blk_cell BK366.out 5).trans rfl, (blk_cell BK366.out 6).trans rfl, (blk_cell BK366.out 7).trans rfl, (blk_cell BK366.out 8).trans rfl⟩ (fun hHeld => ?_)
       generalize w73.drew = w78 at HO372 HO378 HO389 HO393 HO399 HO411 HO416 HO423 BK365 BK366 BK400 BK412 HB hHeld ⊢
       refine take_ (i := 0) (N := some 58) (v := ?_) (a' := ?_) (mB 5 1) rfl rfl (by kernel_rfl) (fun _ _ _ h => h) (Or.inl ⟨by rfl, ?_⟩) hHeld ?_ ?_
       rotate_left
       ·
        rintro w' ⟨s0, s1, s2, s3, s4, s5, s6, s7, s8, s9, s10, s11, s12, s13, s14, s15, s16, s17⟩
        go_simp
        with_reducible rfl
       rotate_left
       ·
        simp only [Act.put, List.setIfInBounds_toArray, List.set_cons_zero, List.set_cons_succ, i64_w, i32_w]
        rfl
       refine take_ (i := 1) (N := some 59) (v := ?_) (a' := ?_) (mB 5 3) rfl rfl (by kernel_rfl) (fun _ _ _ h => h) (Or.inl ⟨by rfl, ?_⟩) hHeld ?_ ?_
       rotate_left
       ·
        rintro w' ⟨s0, s1, s2, s3, s4, s5, s6, s7, s8, s9, s10, s11, s12, s13, s14, s15, s16, s17⟩
        go_simp
        with_reducible rfl
       rotate_left
       ·
        simp only [Act.put, List.setIfInBounds_toArray, List.set_cons_zero, List.set_cons_succ, i64_w, i32_w]
        rfl
       refine one_ (i := 2) (N := some 60) (mB 5 7) rfl rfl (by kernel_rfl) (by decide) (fun K hK => ?_)
       refine gs Try.func14 #[.agg #[.string a2_0, .bool a2_1, .int .i64 a2_2, .int .i64 a2_3, .int .i64 a2_4, .int .i64 a2_5, .int .i64 a2_6, .string a2_7, .slice A2_8 l2_8.length c2_8]] ?_
       with_reducible refine (laws_toPolicy.calls k a2_0 a2_1 a2_2 a2_3 a2_4 a2_5 a2_6 a2_7 _ _ l2_8 t425 t426 t427 t428 t429 t430 t431 t432 t433 _ ?side1 ?side2 A75.out).mono ?_
       (case side1 => repeat (first | exact (Kd.C_below HR2_8.out HB.out) | (with_reducible refine Kd.C_alloc ?_ _) | (with_reducible refine Kd.C_drewN ?_ _) | (with_reducible refine Kd.C_drew ?_)))
       (case side2 => exact HC2_8.out)
       rintro e w79 ⟨v434, rfl, ho0, hb⟩
       refine ⟨_, rfl, ?_⟩
       replace HO372 := Aside0.mk (Kd.S_below (by exact Kd.xS HO372.out) hb)
       replace HO378 := Aside0.mk (Kd.R_below (by exact Kd.xR HO378.out) hb)
       replace HO393 := Aside0.mk (Kd.S_below (by exact Kd.xS HO393.out) hb)
       replace HO399 := Aside0.mk (Kd.R_below (by exact Kd.xR HO399.out) hb)
       replace HO416 := Aside0.mk (Kd.S_below (by exact Kd.xS HO416.out) hb)
       replace HO423 := Aside0.mk (Kd.R_below (by exact Kd.xR HO423.out) hb)
       have HO435 := Aside0.mk (Kd.R_lower (Kd.R_new' (Kd.R_new' ho0 (Kd.R_lt (by exact Kd.xR HO389.out))) (Kd.R_lt (by exact Kd.xR HO411.out))) (below_size (by exact bw HB.out)))
       replace HO389 := Aside0.mk (Kd.R_elder' (by exact Kd.xR HO389.out) (Kd.R_base ho0) hb)
       replace HO411 := Aside0.mk (Kd.R_elder' (by exact Kd.xR HO411.out) (Kd.R_base ho0) hb)
       replace BK365 := bB BK365 hb
       replace BK366 := bB BK366 hb
       replace BK400 := bB BK400 hb
       replace BK412 := bB BK412 hb
       replace HB := bS HB hb
       (try clear hb)
       (try clear hb2)
       (try clear hk)
       (try clear hi)
       (try clear ho0)
       obtain ⟨Ao80, co80, eo80⟩ := Kd.R_slice HO435.out
       (first | subst eo80 | (injection eo80 with f1_ f2_ f3_; have f4_ := f1_.symm; have f5_ := f3_.symm; clear f1_ f2_ f3_; subst f4_; subst f5_))
       refine hK.out _ _ ⟨(blk_cell BK412.out 0).trans rfl, (blk_cell BK412.out 1).trans rfl, (blk_cell BK412.out 2).trans rfl, (blk_cell BK412.out 3).trans rfl, (blk_cell BK412.out 4).trans rfl, (blk_cell BK412.out 5).trans rfl, (blk_cell BK412.out 6).trans rfl, (blk_cell BK412.out 7).trans rfl, (blk_cell BK412.out 8).trans rfl, (blk_cell BK366.out 0).trans rfl, (blk_cell BK366.out 1).trans rfl, (blk_cell BK366.out 2).trans rfl, (blk_cell BK366.out 3).trans rfl, (blk_cell BK366.out 4).trans rfl, (blk_cell BK366.out 5).trans rfl, (blk_cell BK366.out 6).trans rfl, (blk_cell BK366.out 7).trans rfl, (blk_cell BK366.out 8).trans rfl⟩ (fun hHeld => ?_)
       clear hK K
       refine nm (some 60) ?_
       refine one_ (i := 3) (N := some 61) (mB 5 15) rfl rfl (by kernel_rfl) (by decide) (fun K hK => ?_)
       refine gs Try.func18 #[.agg #[.string t401, .bool t402, .int .i64 t403, .int .i64 t404, .int .i64 t405, .int .i64 t406, .int .i64 t407, .string t408, .slice Ao55 t409.length co55], .agg #[.string t425, .bool t426, .int .i64 t427, .int .i64 t428, .int .i64 t429, .int .i64 t430, .int .i64 t431, .string t432, .slice Ao80 t433.length co80]] ?_
       with_reducible refine (laws_eqPolicy.calls k t401 t402 t403 t404 t405 t406 t407 t408 _ _ t409 t425 t426 t427 t428 t429 t430 t431 t432 _ _ t433 t436 _ ?side1 ?side2 ?side3 ?side4 A76.out).mono ?_
       (case side1 => repeat (first | exact (Kd.R_reads' HO411.out).2.2 | (with_reducible refine Kd.C_alloc ?_ _) | (with_reducible refine Kd.C_drewN ?_ _) | (with_reducible refine Kd.C_drew ?_)))
       (case side2 => exact (Kd.R_reads' HO411.out).2.1)
       (case side3 => repeat (first | exact (Kd.R_reads' HO435.out).2.2 | (with_reducible refine Kd.C_alloc ?_ _) | (with_reducible refine Kd.C_drewN ?_ _) | (with_reducible refine Kd.C_drew ?_)))
       (case side4 => exact (Kd.R_reads' HO435.out).2.1)
       rintro e w81 ⟨rfl, hb⟩
       refine ⟨_, rfl, ?_⟩
       replace HO372 := Aside0.mk (Kd.S_below (by exact Kd.xS HO372.out) hb)
       replace HO378 := Aside0.mk (Kd.R_below (by exact Kd.xR HO378.out) hb)
       replace HO389 := Aside0.mk (Kd.R_below (by exact Kd.xR HO389.out) hb)
       replace HO393 := Aside0.mk (Kd.S_below (by exact Kd.xS HO393.out) hb)
       replace HO399 := Aside0.mk (Kd.R_below (by exact Kd.xR HO399.out) hb)
       replace HO411 := Aside0.mk (Kd.R_below (by exact Kd.xR HO411.out) hb)
       replace HO416 := Aside0.mk (Kd.S_below (by exact Kd.xS HO416.out) hb)
       replace HO423 := Aside0.mk (Kd.R_below (by exact Kd.xR HO423.out) hb)
       replace HO435 := Aside0.mk (Kd.R_below (by exact Kd.xR HO435.out) hb)
       replace BK365 := bB BK365 hb
       replace BK366 := bB BK366 hb
       replace BK400 := bB BK400 hb
       replace BK412 := bB BK412 hb
       replace HB := bS HB hb
       (try clear hb)
       (try clear hb2)
       (try clear hk)
       (try clear hi)
       refine hK.out _ _ ⟨(blk_cell BK412.out 0).trans rfl, (blk_cell BK412.out 1).trans rfl, (blk_cell BK412.out 2).trans rfl, (blk_cell BK412.out 3).trans rfl, (blk_cell BK412.out 4).trans rfl, (blk_cell BK412.out 5).trans rfl, (blk_cell BK412.out 6).trans rfl, (blk_cell BK412.out 7).trans rfl, (blk_cell BK412.out 8).trans rfl, (blk_cell BK366.out 0).trans rfl, (blk_cell BK366.out 1).trans rfl, (blk_cell BK366.out 2).trans rfl, (blk_cell BK366.out 3).trans rfl, (blk_cell BK366.out 4).trans rfl, (blk_cell BK366.out 5).trans rfl, (blk_cell BK366.out 6).trans rfl, (blk_cell BK366.out 7).trans rfl, (blk_cell BK366.out 8).trans rfl⟩ (fun hHeld => ?_)
       clear hK K
       refine nm (some 61) ?_
       refine pure_ (i := 4) (N := some 62) (v := ?_) (a' := ?_) (mB 5 31) rfl rfl (by kernel_rfl) (fun _ _ _ h => h) (Or.inl ⟨by rfl, ?_⟩) ?_ ?_
       rotate_left
       ·
        intro w'
        go_simp
        with_reducible rfl
       rotate_left
       ·
        simp only [Act.put, List.setIfInBounds_toArray, List.set_cons_zero, List.set_cons_succ, i64_w, i32_w]
        rfl
       refine done_ (by kernel_rfl) ?_
       go_upto_if 62 with (fail)
       have H := HC77.out
       clear HC77
       by_cases c82 : t436 = true
       ·
        subst c82
        have H1 : (some true) = some r := by rw [if_pos rfl] at H; exact H
        clear H
        have H := H1
        clear H1
        obtain rfl := Option.some.inj H
        go_wp2
        go_ret
        exact ⟨by first | rfl | (simp [errW_none, errW_some] <;> rfl) | (simp [*, errW_none, errW_some] <;> rfl), by exact bw HB.out⟩
       ·
        replace c82 := Bool.eq_false_iff.mpr c82
        subst c82
        have H1 : (some false) = some r := by rw [if_neg (show ¬ (false = true) by decide)] at H; exact H
        clear H
        have H := H1
        clear H1
        obtain rfl := Option.some.inj H
        go_wp2
        go_ret
        exact ⟨by first | rfl | (simp [errW_none, errW_some] <;> rfl) | (simp [*, errW_none, errW_some] <;> rfl), by exact bw HB.out⟩
      ·
       replace c74 := Bool.eq_false_iff.mpr c74
       subst c74
       have H1 : (some false) = some r := by rw [if_neg (show ¬ (false = true) by decide)] at H; exact H
       clear H
       have H := H1
       clear H1
       obtain rfl := Option.some.inj H
       go_wp2
       go_ret
       exact ⟨by first | rfl | (simp [errW_none, errW_some] <;> rfl) | (simp [*, errW_none, errW_some] <;> rfl), by exact bw HB.out⟩
     ·
      replace c66 := Bool.eq_false_iff.mpr c66
      subst c66
      have H1 : (some false) = some r := by rw [if_neg (show ¬ (false = true) by decide)] at H; exact H
      clear H
      have H := H1
      clear H1
      obtain rfl := Option.some.inj H
      go_wp2
      go_ret
      exact ⟨by first | rfl | (simp [errW_none, errW_some] <;> rfl) | (simp [*, errW_none, errW_some] <;> rfl), by exact bw HB.out⟩

/-- THE ONE PURE STATEMENT of laws_FnExactInScope: yours. -/
def laws_FnExactInScope.Pure : Prop := ∀ (l0 : List (S72)) (a1_0 : Int) (a1_1 : Int) (a1_2 : Int) (l1_3 : List (S97)) (a2_0 : ByteArray) (a2_1 : Bool) (a2_2 : Int) (a2_3 : Int) (a2_4 : Int) (a2_5 : Int) (a2_6 : Int) (a2_7 : ByteArray) (l2_8 : List (S28)), (l0.length ≤ maxLen ∧ ∀ y0_ ∈ l0, Fine72 y0_) → Fine25 (⟨a1_0, a1_1, a1_2, l1_3⟩ : S25) → Fine30 (⟨a2_0, a2_1, a2_2, a2_3, a2_4, (⟨a2_5, a2_6, a2_7, l2_8⟩ : S28)⟩ : S30) → ∃ k, laws_FnExactInScope.f k l0 a1_0 a1_1 a1_2 l1_3 a2_0 a2_1 a2_2 a2_3 a2_4 a2_5 a2_6 a2_7 l2_8 = some true
theorem laws_FnExactInScope.walk (P : laws_FnExactInScope.Pure) (A0 : Option Addr) (c0 : Nat) (l0 : List (S72)) (a1_0 : Int) (a1_1 : Int) (a1_2 : Int) (A1_3 : Option Addr) (c1_3 : Nat) (l1_3 : List (S97)) (a2_0 : ByteArray) (a2_1 : Bool) (a2_2 : Int) (a2_3 : Int) (a2_4 : Int) (a2_5 : Int) (a2_6 : Int) (a2_7 : ByteArray) (A2_8 : Option Addr) (c2_8 : Nat) (l2_8 : List (S28)) (w : World) (hr0 : Kd.C k72 w A0 l0.length l0) (hc0 : l0.length ≤ c0) (w0 : (l0.length ≤ maxLen ∧ ∀ y0_ ∈ l0, Fine72 y0_)) (hr1_3 : Kd.C k97 w A1_3 l1_3.length l1_3) (hc1_3 : l1_3.length ≤ c1_3) (w1 : Fine25 (⟨a1_0, a1_1, a1_2, l1_3⟩ : S25)) (hr2_8 : Kd.C k28 w A2_8 l2_8.length l2_8) (hc2_8 : l2_8.length ≤ c2_8) (w2 : Fine30 (⟨a2_0, a2_1, a2_2, a2_3, a2_4, (⟨a2_5, a2_6, a2_7, l2_8⟩ : S28)⟩ : S30)) :
  Calls Try.prog 3 #[.slice A0 l0.length c0, .agg #[.int .i64 a1_0, .int .i64 a1_1, .int .i64 a1_2, .slice A1_3 l1_3.length c1_3], .agg #[.string a2_0, .bool a2_1, .int .i64 a2_2, .int .i64 a2_3, .int .i64 a2_4, .int .i64 a2_5, .int .i64 a2_6, .string a2_7, .slice A2_8 l2_8.length c2_8]] w fun e w' => e = .returned (.bool true) ∧ Below w.heap.size w w' := by
 obtain ⟨k, h⟩ := P l0 a1_0 a1_1 a1_2 l1_3 a2_0 a2_1 a2_2 a2_3 a2_4 a2_5 a2_6 a2_7 l2_8 w0 w1 w2
 refine (laws_FnExactInScope.calls k _ _ l0 a1_0 a1_1 a1_2 _ _ l1_3 a2_0 a2_1 a2_2 a2_3 a2_4 a2_5 a2_6 a2_7 _ _ l2_8 true w hr0 hc0 hr1_3 hc1_3 hr2_8 hc2_8 h).mono ?_
 rintro e w' ⟨rfl, hd⟩
 exact ⟨rfl, hd⟩

end Go.Proofs.Ytipoeghieeafjaa.P
