-- Written by a program of this session (wip/tool).
import Derived.Test.YtacpkmdnoggmoaaPx0
import Derived.Test.YtacpkmdnoggmoaaPx1003
import Derived.Test.YtacpkmdnoggmoaaPx1011
import Derived.Test.YtacpkmdnoggmoaaPx1018
import Derived.Test.YtacpkmdnoggmoaaPx1037
import Derived.Test.YtacpkmdnoggmoaaPx1039
import Derived.Test.YtacpkmdnoggmoaaPx1053
import Derived.Test.YtacpkmdnoggmoaaPx1057
import Derived.Test.YtacpkmdnoggmoaaPx1079
import Derived.Test.YtacpkmdnoggmoaaPx1082
import Derived.Test.YtacpkmdnoggmoaaPx1084
namespace Go.Proofs.Ytacpkmdnoggmoaa.P
open Go.RowKit Go.Proofs.YtacpkmdnoggmoaaW.PrintWords Go.Proofs.YtacpkmdnoggmoaaW.PrintLast Go.Proofs.YtacpkmdnoggmoaaW.PrintMore
attribute [local go_sem] max2_int min2_int max_two min_two max_three min_three max_four min_four   -- for this text's walks alone
set_option linter.unusedVariables false
set_option linter.unusedSimpArgs false

/-! ### laws_FnExactConforms: function 8 -/
def laws_FnExactConforms.f (k : Nat) (l0_0 : List (S107)) (l0_1 : List (S107)) (l1 : List (S68)) (a2_0 : Int) (a2_1 : Int) (a2_2 : Int) (l2_3 : List (S82)) : Option (Bool) := (laws_szSchema.f k l0_0 l0_1 1048576).bind fun t505 => (if t505 < 0 then (some true) else ((laws_szThingS.f k l1 t505).bind fun t506 => (if t506 < 0 then (some true) else ((laws_szRequest.f k a2_0 a2_1 a2_2 l2_3 t506).bind fun t507 => (if t507 < 0 then (some true) else ((laws_toSchema.f k l0_0 l0_1).bind fun bt508 => ((laws_toThingS.f k l1).bind fun t514 => ((laws_toRequest.f k a2_0 a2_1 a2_2 l2_3).bind fun bt517 => ((spec_Conforms.f k bt508.1 bt508.2 t514 bt517.1 bt517.2.1 bt517.2.2.1 bt517.2.2.2).bind fun t523 => ((laws_toSchema.f k l0_0 l0_1).bind fun bt524 => ((laws_toThingS.f k l1).bind fun t531 => ((laws_toRequest.f k a2_0 a2_1 a2_2 l2_3).bind fun bt534 => ((impl_Conforms.f k bt524.1 bt524.2 t531 bt534.1 bt534.2.1 bt534.2.2.1 bt534.2.2.2).bind fun t541 => (if (t541 != t523) = true then (some false) else ((laws_toSchema.f k l0_0 l0_1).bind fun bt542 => ((laws_eqSchema.f k bt524.1 bt524.2 bt542.1 bt542.2).bind fun t548 => (if t548 = true then ((laws_toThingS.f k l1).bind fun t549 => ((laws_eqThingS.f k t531 t549).bind fun t552 => (if t552 = true then ((laws_toRequest.f k a2_0 a2_1 a2_2 l2_3).bind fun bt553 => ((laws_eqRequest.f k bt534.1 bt534.2.1 bt534.2.2.1 bt534.2.2.2 bt553.1 bt553.2.1 bt553.2.2.1 bt553.2.2.2).bind fun t559 => (if t559 = true then (some true) else (some false)))) else (some false)))) else (some false))))))))))))))))))
theorem laws_FnExactConforms.mono : ∀ a0 a1 a2 a3 a4 a5 a6 k, LeO (laws_FnExactConforms.f k a0 a1 a2 a3 a4 a5 a6) (laws_FnExactConforms.f (k + 1) a0 a1 a2 a3 a4 a5 a6) := by
 intro a0 a1 a2 a3 a4 a5 a6 k
 unfold laws_FnExactConforms.f
 repeat' first
   | (with_reducible exact impl_Conforms.mono _ _ _ _ _ _ _ _)
   | (with_reducible exact laws_eqRequest.mono _ _ _ _ _ _ _ _ _)
   | (with_reducible exact laws_eqSchema.mono _ _ _ _ _)
   | (with_reducible exact laws_eqThingS.mono _ _ _)
   | (with_reducible exact laws_szRequest.mono _ _ _ _ _ _)
   | (with_reducible exact laws_szSchema.mono _ _ _ _)
   | (with_reducible exact laws_szThingS.mono _ _ _)
   | (with_reducible exact laws_toRequest.mono _ _ _ _ _)
   | (with_reducible exact laws_toSchema.mono _ _ _)
   | (with_reducible exact laws_toThingS.mono _ _)
   | (with_reducible exact spec_Conforms.mono _ _ _ _ _ _ _ _)
   | (with_reducible exact LeO.refl _)
   | (with_reducible exact LeO.none _)
   | (with_reducible refine LeO.ite ?_ ?_)
   | (with_reducible refine LeO.bind ?_ (fun _ => ?_))
   | exact impl_Conforms.mono _ _ _ _ _ _ _ _
   | exact laws_eqRequest.mono _ _ _ _ _ _ _ _ _
   | exact laws_eqSchema.mono _ _ _ _ _
   | exact laws_eqThingS.mono _ _ _
   | exact laws_szRequest.mono _ _ _ _ _ _
   | exact laws_szSchema.mono _ _ _ _
   | exact laws_szThingS.mono _ _ _
   | exact laws_toRequest.mono _ _ _ _ _
   | exact laws_toSchema.mono _ _ _
   | exact laws_toThingS.mono _ _
   | exact spec_Conforms.mono _ _ _ _ _ _ _ _
   | exact LeO.none _
   | refine LeO.ite ?_ ?_
   | refine LeO.bind ?_ (fun _ => ?_)
def laws_FnExactConforms.T11 : Bool × List (List Nat × List Nat) := (true, [([], []), ([0], [0]), ([], []), ([2, 1], [2]), ([], []), ([4, 3], [4]), ([1, 3, 5, 5], [1, 3, 5]), ([6, 6, 0, 1, 2, 3, 4, 5, 6], [6])])
def laws_FnExactConforms.B11 : List Nat := [0, 1, 0, 7, 0, 31, 63, 127]
theorem laws_FnExactConforms.tab11 : rtab .any (opsOf Try.f8 11) = laws_FnExactConforms.T11 := by kernel_rfl
theorem laws_FnExactConforms.bits11 : waitsOk laws_FnExactConforms.T11.2 laws_FnExactConforms.B11 = true := by kernel_rfl
set_option maxHeartbeats 8000000 in
set_option maxRecDepth 100000 in
theorem laws_FnExactConforms.calls (k : Nat) (A0_0 : Option Addr) (c0_0 : Nat) (l0_0 : List (S107)) (A0_1 : Option Addr) (c0_1 : Nat) (l0_1 : List (S107)) (A1 : Option Addr) (c1 : Nat) (l1 : List (S68)) (a2_0 : Int) (a2_1 : Int) (a2_2 : Int) (A2_3 : Option Addr) (c2_3 : Nat) (l2_3 : List (S82)) (r : Bool) (w : World) (hr0_0 : Kd.C k107 w A0_0 l0_0.length l0_0) (hc0_0 : l0_0.length ≤ c0_0) (hr0_1 : Kd.C k107 w A0_1 l0_1.length l0_1) (hc0_1 : l0_1.length ≤ c0_1) (hr1 : Kd.C k68 w A1 l1.length l1) (hc1 : l1.length ≤ c1) (hr2_3 : Kd.C k82 w A2_3 l2_3.length l2_3) (hc2_3 : l2_3.length ≤ c2_3) (h : laws_FnExactConforms.f k l0_0 l0_1 l1 a2_0 a2_1 a2_2 l2_3 = some r) :
  Calls Try.prog 8 #[.agg #[.slice A0_0 l0_0.length c0_0, .slice A0_1 l0_1.length c0_1], .slice A1 l1.length c1, .agg #[.int .i64 a2_0, .int .i64 a2_1, .int .i64 a2_2, .slice A2_3 l2_3.length c2_3]] w fun e w' => e = .returned (.bool r) ∧ Below w.heap.size w w' := by
 have hu57 := Try.underlying57
 have hu31 := Try.underlying31
 have hu62 := Try.underlying62
 have hu36 := Try.underlying36
 have HR0_0 := Aside0.mk hr0_0
 have HC0_0 := Aside0.mk hc0_0
 clear hr0_0 hc0_0
 have HR0_1 := Aside0.mk hr0_1
 have HC0_1 := Aside0.mk hc0_1
 clear hr0_1 hc0_1
 have HR1 := Aside0.mk hr1
 have HC1 := Aside0.mk hc1
 clear hr1 hc1
 have HR2_3 := Aside0.mk hr2_3
 have HC2_3 := Aside0.mk hc2_3
 clear hr2_3 hc2_3
 have HB := Aside0.mk (Below.refl w.heap.size w)
 have H : ((laws_szSchema.f k l0_0 l0_1 1048576).bind fun t505 => (if t505 < 0 then (some true) else ((laws_szThingS.f k l1 t505).bind fun t506 => (if t506 < 0 then (some true) else ((laws_szRequest.f k a2_0 a2_1 a2_2 l2_3 t506).bind fun t507 => (if t507 < 0 then (some true) else ((laws_toSchema.f k l0_0 l0_1).bind fun bt508 => ((laws_toThingS.f k l1).bind fun t514 => ((laws_toRequest.f k a2_0 a2_1 a2_2 l2_3).bind fun bt517 => ((spec_Conforms.f k bt508.1 bt508.2 t514 bt517.1 bt517.2.1 bt517.2.2.1 bt517.2.2.2).bind fun t523 => ((laws_toSchema.f k l0_0 l0_1).bind fun bt524 => ((laws_toThingS.f k l1).bind fun t531 => ((laws_toRequest.f k a2_0 a2_1 a2_2 l2_3).bind fun bt534 => ((impl_Conforms.f k bt524.1 bt524.2 t531 bt534.1 bt534.2.1 bt534.2.2.1 bt534.2.2.2).bind fun t541 => (if (t541 != t523) = true then (some false) else ((laws_toSchema.f k l0_0 l0_1).bind fun bt542 => ((laws_eqSchema.f k bt524.1 bt524.2 bt542.1 bt542.2).bind fun t548 => (if t548 = true then ((laws_toThingS.f k l1).bind fun t549 => ((laws_eqThingS.f k t531 t549).bind fun t552 => (if t552 = true then ((laws_toRequest.f k a2_0 a2_1 a2_2 l2_3).bind fun bt553 => ((laws_eqRequest.f k bt534.1 bt534.2.1 bt534.2.2.1 bt534.2.2.2 bt553.1 bt553.2.1 bt553.2.2.1 bt553.2.2.2).bind fun t559 => (if t559 = true then (some true) else (some false)))) else (some false)))) else (some false))))))))))))))))))) = some r := h
 clear h
 replace H := Option.bind_eq_some_iff.mp H
 obtain ⟨t505, A40, H⟩ := H
 replace H : (if t505 < 0 then (some true) else ((laws_szThingS.f k l1 t505).bind fun t506 => (if t506 < 0 then (some true) else ((laws_szRequest.f k a2_0 a2_1 a2_2 l2_3 t506).bind fun t507 => (if t507 < 0 then (some true) else ((laws_toSchema.f k l0_0 l0_1).bind fun bt508 => ((laws_toThingS.f k l1).bind fun t514 => ((laws_toRequest.f k a2_0 a2_1 a2_2 l2_3).bind fun bt517 => ((spec_Conforms.f k bt508.1 bt508.2 t514 bt517.1 bt517.2.1 bt517.2.2.1 bt517.2.2.2).bind fun t523 => ((laws_toSchema.f k l0_0 l0_1).bind fun bt524 => ((laws_toThingS.f k l1).bind fun t531 => ((laws_toRequest.f k a2_0 a2_1 a2_2 l2_3).bind fun bt534 => ((impl_Conforms.f k bt524.1 bt524.2 t531 bt534.1 bt534.2.1 bt534.2.2.1 bt534.2.2.2).bind fun t541 => (if (t541 != t523) = true then (some false) else ((laws_toSchema.f k l0_0 l0_1).bind fun bt542 => ((laws_eqSchema.f k bt524.1 bt524.2 bt542.1 bt542.2).bind fun t548 => (if t548 = true then ((laws_toThingS.f k l1).bind fun t549 => ((laws_eqThingS.f k t531 t549).bind fun t552 => (if t552 = true then ((laws_toRequest.f k a2_0 a2_1 a2_2 l2_3).bind fun bt553 => ((laws_eqRequest.f k bt534.1 bt534.2.1 bt534.2.2.1 bt534.2.2.2 bt553.1 bt553.2.1 bt553.2.2.1 bt553.2.2.2).bind fun t559 => (if t559 = true then (some true) else (some false)))) else (some false)))) else (some false)))))))))))))))))) = some r := H
 have A4 := Aside0.mk A40
 clear A40
 have HC5 := Aside0.mk H
 clear H
 go_enter Try.func8, Try.ntmps8
 go_upto_if 17 with (first | ((with_reducible refine gate_dst (N := 3) rfl ?_); refine bx 3 #[.slice A0_0 l0_0.length c0_0, .slice A0_1 l0_1.length c0_1] 57 ?_; intro gb503 hg w6 hbox hb; have BK503 := Aside0.mk (hbox); have GW503 := gwB HB hg; have GE503 := gwB HB hg; replace HB := bS HB hb; clear hb hbox hg) | ((with_reducible refine gate_dst (N := 5) rfl ?_); refine bx 5 #[.int .i64 a2_0, .int .i64 a2_1, .int .i64 a2_2, .slice A2_3 l2_3.length c2_3] 31 ?_; intro gb504 hg w7 hbox hb; have BK504 := Aside0.mk (hbox); have GW504 := gwB HB hg; have GE504 := gwB HB hg; replace HB := bS HB hb; have NB503_504 := nbL BK503 hg; have NB504_503 := nbR BK503 hg; replace BK503 := bB BK503 hb; clear hb hbox hg; have hnb8 := NB503_504.out; have hnc8 := NB504_503.out; obtain ⟨hcz9_0, hcz9_1⟩ := cs2 BK503.out; obtain ⟨hfz9_0, hfz9_1⟩ := fz2 BK503.out) | ((with_reducible refine gate_callee (f := 36) rfl ?_); refine gl (some 15) Try.func36 #[.agg #[.slice A0_0 l0_0.length c0_0, .slice A0_1 l0_1.length c0_1], .int .i64 1048576] ?_; (with_reducible refine (laws_szSchema.calls k _ _ l0_0 _ _ l0_1 1048576 t505 _ ?side1 ?side2 ?side3 ?side4 A4.out).mono ?_); (case side1 => repeat (first | exact (Kd.C_below HR0_0.out HB.out) | (with_reducible refine Kd.C_alloc ?_ _) | (with_reducible refine Kd.C_drewN ?_ _) | (with_reducible refine Kd.C_drew ?_))); (case side2 => exact HC0_0.out); (case side3 => repeat (first | exact (Kd.C_below HR0_1.out HB.out) | (with_reducible refine Kd.C_alloc ?_ _) | (with_reducible refine Kd.C_drewN ?_ _) | (with_reducible refine Kd.C_drew ?_))); (case side4 => exact HC0_1.out); rintro e w10 ⟨rfl, hb⟩; refine ⟨_, rfl, ?_⟩; replace BK503 := bB BK503 hb; replace BK504 := bB BK504 hb; replace HB := bS HB hb; (try clear hb); (try clear hb2); (try clear hk); (try clear hi)))
 (try simp only [Act.put, List.setIfInBounds_toArray, List.set_cons_zero, List.set_cons_succ])
 have H := HC5.out
 clear HC5
 by_cases c11 : t505 < 0
 ·
  rw [if_pos c11] at H; have c11b0 : decide (t505 < 0) = true := decide_eq_true c11; clear c11
  (first | rw [c11b0] | (simp only [i64_w, i32_w]; rw [c11b0]) | rw [c11b2] | rw [c11b1] | skip)
  obtain rfl := Option.some.inj H
  go_wp2
  go_ret
  exact ⟨by first | rfl | (simp [errW_none, errW_some] <;> rfl) | (simp [*, errW_none, errW_some] <;> rfl), by exact bw HB.out⟩
 ·
  rw [if_neg c11] at H; have c11b0 : decide (t505 < 0) = false := decide_eq_false c11; clear c11
  (first | rw [c11b0] | (simp only [i64_w, i32_w]; rw [c11b0]) | rw [c11b2] | rw [c11b1] | skip)
  replace H := Option.bind_eq_some_iff.mp H
  obtain ⟨t506, A120, H⟩ := H
  replace H : (if t506 < 0 then (some true) else ((laws_szRequest.f k a2_0 a2_1 a2_2 l2_3 t506).bind fun t507 => (if t507 < 0 then (some true) else ((laws_toSchema.f k l0_0 l0_1).bind fun bt508 => ((laws_toThingS.f k l1).bind fun t514 => ((laws_toRequest.f k a2_0 a2_1 a2_2 l2_3).bind fun bt517 => ((spec_Conforms.f k bt508.1 bt508.2 t514 bt517.1 bt517.2.1 bt517.2.2.1 bt517.2.2.2).bind fun t523 => ((laws_toSchema.f k l0_0 l0_1).bind fun bt524 => ((laws_toThingS.f k l1).bind fun t531 => ((laws_toRequest.f k a2_0 a2_1 a2_2 l2_3).bind fun bt534 => ((impl_Conforms.f k bt524.1 bt524.2 t531 bt534.1 bt534.2.1 bt534.2.2.1 bt534.2.2.2).bind fun t541 => (if (t541 != t523) = true then (some false) else ((laws_toSchema.f k l0_0 l0_1).bind fun bt542 => ((laws_eqSchema.f k bt524.1 bt524.2 bt542.1 bt542.2).bind fun t548 => (if t548 = true then ((laws_toThingS.f k l1).bind fun t549 => ((laws_eqThingS.f k t531 t549).bind fun t552 => (if t552 = true then ((laws_toRequest.f k a2_0 a2_1 a2_2 l2_3).bind fun bt553 => ((laws_eqRequest.f k bt534.1 bt534.2.1 bt534.2.2.1 bt534.2.2.2 bt553.1 bt553.2.1 bt553.2.2.1 bt553.2.2.2).bind fun t559 => (if t559 = true then (some true) else (some false)))) else (some false)))) else (some false)))))))))))))))) = some r := H
  have A12 := Aside0.mk A120
  clear A120
  have HC13 := Aside0.mk H
  clear H
  go_upto_if 22 with (first | ((with_reducible refine gate_callee (f := 9) rfl ?_); refine gl (some 20) Try.func9 #[.slice A1 l1.length c1, .int .i64 t505] ?_; (with_reducible refine (laws_szThingS.calls k _ _ l1 t505 t506 _ ?side1 ?side2 A12.out).mono ?_); (case side1 => repeat (first | exact (Kd.C_below HR1.out HB.out) | (with_reducible refine Kd.C_alloc ?_ _) | (with_reducible refine Kd.C_drewN ?_ _) | (with_reducible refine Kd.C_drew ?_))); (case side2 => exact HC1.out); rintro e w14 ⟨rfl, hb⟩; refine ⟨_, rfl, ?_⟩; replace BK503 := bB BK503 hb; replace BK504 := bB BK504 hb; replace HB := bS HB hb; (try clear hb); (try clear hb2); (try clear hk); (try clear hi)))
  (try simp only [Act.put, List.setIfInBounds_toArray, List.set_cons_zero, List.set_cons_succ])
  have H := HC13.out
  clear HC13
  by_cases c15 : t506 < 0
  ·
   rw [if_pos c15] at H; have c15b0 : decide (t506 < 0) = true := decide_eq_true c15; clear c15
   (first | rw [c15b0] | (simp only [i64_w, i32_w]; rw [c15b0]) | rw [c15b2] | rw [c15b1] | skip)
   obtain rfl := Option.some.inj H
   go_wp2
   go_ret
   exact ⟨by first | rfl | (simp [errW_none, errW_some] <;> rfl) | (simp [*, errW_none, errW_some] <;> rfl), by exact bw HB.out⟩
  ·
   rw [if_neg c15] at H; have c15b0 : decide (t506 < 0) = false := decide_eq_false c15; clear c15
   (first | rw [c15b0] | (simp only [i64_w, i32_w]; rw [c15b0]) | rw [c15b2] | rw [c15b1] | skip)
   replace H := Option.bind_eq_some_iff.mp H
   obtain ⟨t507, A160, H⟩ := H
   replace H : (if t507 < 0 then (some true) else ((laws_toSchema.f k l0_0 l0_1).bind fun bt508 => ((laws_toThingS.f k l1).bind fun t514 => ((laws_toRequest.f k a2_0 a2_1 a2_2 l2_3).bind fun bt517 => ((spec_Conforms.f k bt508.1 bt508.2 t514 bt517.1 bt517.2.1 bt517.2.2.1 bt517.2.2.2).bind fun t523 => ((laws_toSchema.f k l0_0 l0_1).bind fun bt524 => ((laws_toThingS.f k l1).bind fun t531 => ((laws_toRequest.f k a2_0 a2_1 a2_2 l2_3).bind fun bt534 => ((impl_Conforms.f k bt524.1 bt524.2 t531 bt534.1 bt534.2.1 bt534.2.2.1 bt534.2.2.2).bind fun t541 => (if (t541 != t523) = true then (some false) else ((laws_toSchema.f k l0_0 l0_1).bind fun bt542 => ((laws_eqSchema.f k bt524.1 bt524.2 bt542.1 bt542.2).bind fun t548 => (if t548 = true then ((laws_toThingS.f k l1).bind fun t549 => ((laws_eqThingS.f k t531 t549).bind fun t552 => (if t552 = true then ((laws_toRequest.f k a2_0 a2_1 a2_2 l2_3).bind fun bt553 => ((laws_eqRequest.f k bt534.1 bt534.2.1 bt534.2.2.1 bt534.2.2.2 bt553.1 bt553.2.1 bt553.2.2.1 bt553.2.2.2).bind fun t559 => (if t559 = true then (some true) else (some false)))) else (some false)))) else (some false)))))))))))))) = some r := H
   have A16 := Aside0.mk A160
   clear A160
   have HC17 := Aside0.mk H
   clear H
   have hnb18 := NB504_503.out
   have hnc18 := NB503_504.out
   have hcz19_0 : w14.cell? ⟨gb504, 0, none⟩ = some (.int .i64 a2_0) := (blk_cell BK504.out 0).trans rfl
   have hcz19_1 : w14.cell? ⟨gb504, 1, none⟩ = some (.int .i64 a2_1) := (blk_cell BK504.out 1).trans rfl
   have hcz19_2 : w14.cell? ⟨gb504, 2, none⟩ = some (.int .i64 a2_2) := (blk_cell BK504.out 2).trans rfl
   have hcz19_3 : w14.cell? ⟨gb504, 3, none⟩ = some (.slice A2_3 l2_3.length c2_3) := (blk_cell BK504.out 3).trans rfl
   have hfz19_0 := blk_frozen BK504.out 0
   have hfz19_1 := blk_frozen BK504.out 1
   have hfz19_2 := blk_frozen BK504.out 2
   have hfz19_3 := blk_frozen BK504.out 3
   go_upto_if 27 with (first | ((with_reducible refine gate_callee (f := 14) rfl ?_); refine gl (some 25) Try.func14 #[.agg #[.int .i64 a2_0, .int .i64 a2_1, .int .i64 a2_2, .slice A2_3 l2_3.length c2_3], .int .i64 t506] ?_; (with_reducible refine (laws_szRequest.calls k a2_0 a2_1 a2_2 _ _ l2_3 t506 t507 _ ?side1 ?side2 A16.out).mono ?_); (case side1 => repeat (first | exact (Kd.C_below HR2_3.out HB.out) | (with_reducible refine Kd.C_alloc ?_ _) | (with_reducible refine Kd.C_drewN ?_ _) | (with_reducible refine Kd.C_drew ?_))); (case side2 => exact HC2_3.out); rintro e w20 ⟨rfl, hb⟩; refine ⟨_, rfl, ?_⟩; replace BK503 := bB BK503 hb; replace BK504 := bB BK504 hb; replace HB := bS HB hb; (try clear hb); (try clear hb2); (try clear hk); (try clear hi)))
   (try simp only [Act.put, List.setIfInBounds_toArray, List.set_cons_zero, List.set_cons_succ])
   have H := HC17.out
   clear HC17
   by_cases c21 : t507 < 0
   ·
    rw [if_pos c21] at H; have c21b0 : decide (t507 < 0) = true := decide_eq_true c21; clear c21
    (first | rw [c21b0] | (simp only [i64_w, i32_w]; rw [c21b0]) | rw [c21b2] | rw [c21b1] | skip)
    obtain rfl := Option.some.inj H
    go_wp2
    go_ret
    exact ⟨by first | rfl | (simp [errW_none, errW_some] <;> rfl) | (simp [*, errW_none, errW_some] <;> rfl), by exact bw HB.out⟩
   ·
    rw [if_neg c21] at H; have c21b0 : decide (t507 < 0) = false := decide_eq_false c21; clear c21
    (first | rw [c21b0] | (simp only [i64_w, i32_w]; rw [c21b0]) | rw [c21b2] | rw [c21b1] | skip)
    replace H := Option.bind_eq_some_iff.mp H
    obtain ⟨⟨t508, t511⟩, A220, H⟩ := H
    replace H : ((laws_toThingS.f k l1).bind fun t514 => ((laws_toRequest.f k a2_0 a2_1 a2_2 l2_3).bind fun bt517 => ((spec_Conforms.f k t508 t511 t514 bt517.1 bt517.2.1 bt517.2.2.1 bt517.2.2.2).bind fun t523 => ((laws_toSchema.f k l0_0 l0_1).bind fun bt524 => ((laws_toThingS.f k l1).bind fun t531 => ((laws_toRequest.f k a2_0 a2_1 a2_2 l2_3).bind fun bt534 => ((impl_Conforms.f k bt524.1 bt524.2 t531 bt534.1 bt534.2.1 bt534.2.2.1 bt534.2.2.2).bind fun t541 => (if (t541 != t523) = true then (some false) else ((laws_toSchema.f k l0_0 l0_1).bind fun bt542 => ((laws_eqSchema.f k bt524.1 bt524.2 bt542.1 bt542.2).bind fun t548 => (if t548 = true then ((laws_toThingS.f k l1).bind fun t549 => ((laws_eqThingS.f k t531 t549).bind fun t552 => (if t552 = true then ((laws_toRequest.f k a2_0 a2_1 a2_2 l2_3).bind fun bt553 => ((laws_eqRequest.f k bt534.1 bt534.2.1 bt534.2.2.1 bt534.2.2.2 bt553.1 bt553.2.1 bt553.2.2.1 bt553.2.2.2).bind fun t559 => (if t559 = true then (some true) else (some false)))) else (some false)))) else (some false)))))))))))) = some r := H
    have A22 := Aside0.mk A220
    clear A220
    replace H := Option.bind_eq_some_iff.mp H
    obtain ⟨t514, A230, H⟩ := H
    replace H : ((laws_toRequest.f k a2_0 a2_1 a2_2 l2_3).bind fun bt517 => ((spec_Conforms.f k t508 t511 t514 bt517.1 bt517.2.1 bt517.2.2.1 bt517.2.2.2).bind fun t523 => ((laws_toSchema.f k l0_0 l0_1).bind fun bt524 => ((laws_toThingS.f k l1).bind fun t531 => ((laws_toRequest.f k a2_0 a2_1 a2_2 l2_3).bind fun bt534 => ((impl_Conforms.f k bt524.1 bt524.2 t531 bt534.1 bt534.2.1 bt534.2.2.1 bt534.2.2.2).bind fun t541 => (if (t541 != t523) = true then (some false) else ((laws_toSchema.f k l0_0 l0_1).bind fun bt542 => ((laws_eqSchema.f k bt524.1 bt524.2 bt542.1 bt542.2).bind fun t548 => (if t548 = true then ((laws_toThingS.f k l1).bind fun t549 => ((laws_eqThingS.f k t531 t549).bind fun t552 => (if t552 = true then ((laws_toRequest.f k a2_0 a2_1 a2_2 l2_3).bind fun bt553 => ((laws_eqRequest.f k bt534.1 bt534.2.1 bt534.2.2.1 bt534.2.2.2 bt553.1 bt553.2.1 bt553.2.2.1 bt553.2.2.2).bind fun t559 => (if t559 = true then (some true) else (some false)))) else (some false)))) else (some false))))))))))) = some r := H
    have A23 := Aside0.mk A230
    clear A230
    replace H := Option.bind_eq_some_iff.mp H
    obtain ⟨⟨t517, t518, t519, t520⟩, A240, H⟩ := H
    replace H : ((spec_Conforms.f k t508 t511 t514 t517 t518 t519 t520).bind fun t523 => ((laws_toSchema.f k l0_0 l0_1).bind fun bt524 => ((laws_toThingS.f k l1).bind fun t531 => ((laws_toRequest.f k a2_0 a2_1 a2_2 l2_3).bind fun bt534 => ((impl_Conforms.f k bt524.1 bt524.2 t531 bt534.1 bt534.2.1 bt534.2.2.1 bt534.2.2.2).bind fun t541 => (if (t541 != t523) = true then (some false) else ((laws_toSchema.f k l0_0 l0_1).bind fun bt542 => ((laws_eqSchema.f k bt524.1 bt524.2 bt542.1 bt542.2).bind fun t548 => (if t548 = true then ((laws_toThingS.f k l1).bind fun t549 => ((laws_eqThingS.f k t531 t549).bind fun t552 => (if t552 = true then ((laws_toRequest.f k a2_0 a2_1 a2_2 l2_3).bind fun bt553 => ((laws_eqRequest.f k bt534.1 bt534.2.1 bt534.2.2.1 bt534.2.2.2 bt553.1 bt553.2.1 bt553.2.2.1 bt553.2.2.2).bind fun t559 => (if t559 = true then (some true) else (some false)))) else (some false)))) else (some false)))))))))) = some r := H
    have A24 := Aside0.mk A240
    clear A240
    replace H := Option.bind_eq_some_iff.mp H
    obtain ⟨t523, A250, H⟩ := H
    replace H : ((laws_toSchema.f k l0_0 l0_1).bind fun bt524 => ((laws_toThingS.f k l1).bind fun t531 => ((laws_toRequest.f k a2_0 a2_1 a2_2 l2_3).bind fun bt534 => ((impl_Conforms.f k bt524.1 bt524.2 t531 bt534.1 bt534.2.1 bt534.2.2.1 bt534.2.2.2).bind fun t541 => (if (t541 != t523) = true then (some false) else ((laws_toSchema.f k l0_0 l0_1).bind fun bt542 => ((laws_eqSchema.f k bt524.1 bt524.2 bt542.1 bt542.2).bind fun t548 => (if t548 = true then ((laws_toThingS.f k l1).bind fun t549 => ((laws_eqThingS.f k t531 t549).bind fun t552 => (if t552 = true then ((laws_toRequest.f k a2_0 a2_1 a2_2 l2_3).bind fun bt553 => ((laws_eqRequest.f k bt534.1 bt534.2.1 bt534.2.2.1 bt534.2.2.2 bt553.1 bt553.2.1 bt553.2.2.1 bt553.2.2.2).bind fun t559 => (if t559 = true then (some true) else (some false)))) else (some false)))) else (some false))))))))) = some r := H
    have A25 := Aside0.mk A250
    clear A250
    replace H := Option.bind_eq_some_iff.mp H
    obtain ⟨⟨t524, t527⟩, A260, H⟩ := H
    replace H : ((laws_toThingS.f k l1).bind fun t531 => ((laws_toRequest.f k a2_0 a2_1 a2_2 l2_3).bind fun bt534 => ((impl_Conforms.f k t524 t527 t531 bt534.1 bt534.2.1 bt534.2.2.1 bt534.2.2.2).bind fun t541 => (if (t541 != t523) = true then (some false) else ((laws_toSchema.f k l0_0 l0_1).bind fun bt542 => ((laws_eqSchema.f k t524 t527 bt542.1 bt542.2).bind fun t548 => (if t548 = true then ((laws_toThingS.f k l1).bind fun t549 => ((laws_eqThingS.f k t531 t549).bind fun t552 => (if t552 = true then ((laws_toRequest.f k a2_0 a2_1 a2_2 l2_3).bind fun bt553 => ((laws_eqRequest.f k bt534.1 bt534.2.1 bt534.2.2.1 bt534.2.2.2 bt553.1 bt553.2.1 bt553.2.2.1 bt553.2.2.2).bind fun t559 => (if t559 = true then (some true) else (some false)))) else (some false)))) else (some false)))))))) = some r := H
    have A26 := Aside0.mk A260
    clear A260
    replace H := Option.bind_eq_some_iff.mp H
    obtain ⟨t531, A270, H⟩ := H
    replace H : ((laws_toRequest.f k a2_0 a2_1 a2_2 l2_3).bind fun bt534 => ((impl_Conforms.f k t524 t527 t531 bt534.1 bt534.2.1 bt534.2.2.1 bt534.2.2.2).bind fun t541 => (if (t541 != t523) = true then (some false) else ((laws_toSchema.f k l0_0 l0_1).bind fun bt542 => ((laws_eqSchema.f k t524 t527 bt542.1 bt542.2).bind fun t548 => (if t548 = true then ((laws_toThingS.f k l1).bind fun t549 => ((laws_eqThingS.f k t531 t549).bind fun t552 => (if t552 = true then ((laws_toRequest.f k a2_0 a2_1 a2_2 l2_3).bind fun bt553 => ((laws_eqRequest.f k bt534.1 bt534.2.1 bt534.2.2.1 bt534.2.2.2 bt553.1 bt553.2.1 bt553.2.2.1 bt553.2.2.2).bind fun t559 => (if t559 = true then (some true) else (some false)))) else (some false)))) else (some false))))))) = some r := H
    have A27 := Aside0.mk A270
    clear A270
    replace H := Option.bind_eq_some_iff.mp H
    obtain ⟨⟨t534, t535, t536, t537⟩, A280, H⟩ := H
    replace H : ((impl_Conforms.f k t524 t527 t531 t534 t535 t536 t537).bind fun t541 => (if (t541 != t523) = true then (some false) else ((laws_toSchema.f k l0_0 l0_1).bind fun bt542 => ((laws_eqSchema.f k t524 t527 bt542.1 bt542.2).bind fun t548 => (if t548 = true then ((laws_toThingS.f k l1).bind fun t549 => ((laws_eqThingS.f k t531 t549).bind fun t552 => (if t552 = true then ((laws_toRequest.f k a2_0 a2_1 a2_2 l2_3).bind fun bt553 => ((laws_eqRequest.f k t534 t535 t536 t537 bt553.1 bt553.2.1 bt553.2.2.1 bt553.2.2.2).bind fun t559 => (if t559 = true then (some true) else (some false)))) else (some false)))) else (some false)))))) = some r := H
    have A28 := Aside0.mk A280
    clear A280
    replace H := Option.bind_eq_some_iff.mp H
    obtain ⟨t541, A290, H⟩ := H
    replace H : (if (t541 != t523) = true then (some false) else ((laws_toSchema.f k l0_0 l0_1).bind fun bt542 => ((laws_eqSchema.f k t524 t527 bt542.1 bt542.2).bind fun t548 => (if t548 = true then ((laws_toThingS.f k l1).bind fun t549 => ((laws_eqThingS.f k t531 t549).bind fun t552 => (if t552 = true then ((laws_toRequest.f k a2_0 a2_1 a2_2 l2_3).bind fun bt553 => ((laws_eqRequest.f k t534 t535 t536 t537 bt553.1 bt553.2.1 bt553.2.2.1 bt553.2.2.2).bind fun t559 => (if t559 = true then (some true) else (some false)))) else (some false)))) else (some false))))) = some r := H
    have A29 := Aside0.mk A290
    clear A290
    have HC30 := Aside0.mk H
    clear H
    try go_wp2
    replace BK503 := Aside0.mk (blk_drew BK503.out)
    replace BK504 := Aside0.mk (blk_drew BK504.out)
    replace HB := Aside0.mk (below_drew1 HB.out)
    refine start_ (n := 8) (S := fun w' => w'.cell? ⟨gb503, 0, none⟩ = some (.slice A0_0 l0_0.length c0_0) ∧ w'.cell? ⟨gb503, 1, none⟩ = some (.slice A0_1 l0_1.length c0_1) ∧ w'.cell? ⟨gb504, 0, none⟩ = some (.int .i64 a2_0) ∧ w'.cell? ⟨gb504, 1, none⟩ = some (.int .i64 a2_1) ∧ w'.cell? ⟨gb504, 2, none⟩ = some (.int .i64 a2_2) ∧ w'.cell? ⟨gb504, 3, none⟩ = some (.slice A2_3 l2_3.length c2_3)) (ds := []) (mB 8 0) (by kernel_rfl) rfl rfl ⟨(blk_cell BK503.out 0).trans rfl, (blk_cell BK503.out 1).trans rfl, (blk_cell BK504.out 0).trans rfl, (blk_cell BK504.out 1).trans rfl, (blk_cell BK504.out 2).trans rfl, (blk_cell BK504.out 3).trans rfl⟩ (fun hHeld => ?_); refine with_tabW laws_FnExactConforms.tab11 laws_FnExactConforms.bits11 (fun HT_ HW_ => ?_)
    generalize w20.drew = w31 at BK503 BK504 HB hHeld ⊢
    refine pn 2 30 HT_.out ?_
    refine tk 0 28 HT_.out HW_.out hHeld ?_
    refine tk 4 32 HT_.out HW_.out hHeld ?_
    refine on 1 29 HT_.out (fun K hK => ?_)
    refine gs Try.func38 #[.agg #[.slice A0_0 l0_0.length c0_0, .slice A0_1 l0_1.length c0_1]] ?_
    with_reducible refine (laws_toSchema.calls k _ _ l0_0 _ _ l0_1 t508 t511 _ ?side1 ?side2 ?side3 ?side4 A22.out).mono ?_
    (case side1 => repeat (first | exact (Kd.C_below HR0_0.out HB.out) | (with_reducible refine Kd.C_alloc ?_ _) | (with_reducible refine Kd.C_drewN ?_ _) | (with_reducible refine Kd.C_drew ?_)))
    (case side2 => exact HC0_0.out)
    (case side3 => repeat (first | exact (Kd.C_below HR0_1.out HB.out) | (with_reducible refine Kd.C_alloc ?_ _) | (with_reducible refine Kd.C_drewN ?_ _) | (with_reducible refine Kd.C_drew ?_)))
    (case side4 => exact HC0_1.out)
    rintro e w32 ⟨v509, v512, rfl, ho0, ho1, hb⟩
    refine ⟨_, rfl, ?_⟩
    have HO510 := Aside0.mk (Kd.R_lower ho0 (below_size (by exact bw HB.out)))
    have HO513 := Aside0.mk (Kd.R_lower ho1 (below_size (by exact bw HB.out)))
    replace BK503 := bB BK503 hb
    replace BK504 := bB BK504 hb
    replace HB := bS HB hb
    (try clear hb)
    (try clear hb2)
    (try clear hk)
    (try clear hi)
    (try clear ho0)
    (try clear ho1)
    refine hK.out _ _ ⟨(blk_cell BK503.out 0).trans rfl, (blk_cell BK503.out 1).trans rfl, (blk_cell BK504.out 0).trans rfl, (blk_cell BK504.out 1).trans rfl, (blk_cell BK504.out 2).trans rfl, (blk_cell BK504.out 3).trans rfl⟩ (fun hHeld => ?_)
    clear hK K
    refine nm (some 29) ?_
    refine on 3 31 HT_.out (fun K hK => ?_)
    refine gs Try.func11 #[.slice A1 l1.length c1] ?_
    with_reducible refine (laws_toThingS.calls k _ _ l1 t514 _ ?side1 ?side2 A23.out).mono ?_
    (case side1 => repeat (first | exact (Kd.C_below HR1.out HB.out) | (with_reducible refine Kd.C_alloc ?_ _) | (with_reducible refine Kd.C_drewN ?_ _) | (with_reducible refine Kd.C_drew ?_)))
    (case side2 => exact HC1.out)
    rintro e w33 ⟨v515, rfl, ho0, hb⟩
    refine ⟨_, rfl, ?_⟩
    replace HO510 := Aside0.mk (Kd.R_below (by exact Kd.xR HO510.out) hb)
    replace HO513 := Aside0.mk (Kd.R_below (by exact Kd.xR HO513.out) hb)
    have HO516 := Aside0.mk (Kd.S_lower ho0 (below_size (by exact bw HB.out)))
    replace BK503 := bB BK503 hb
    replace BK504 := bB BK504 hb
    replace HB := bS HB hb
    (try clear hb)
    (try clear hb2)
    (try clear hk)
    (try clear hi)
    (try clear ho0)
    refine hK.out _ _ ⟨(blk_cell BK503.out 0).trans rfl, (blk_cell BK503.out 1).trans rfl, (blk_cell BK504.out 0).trans rfl, (blk_cell BK504.out 1).trans rfl, (blk_cell BK504.out 2).trans rfl, (blk_cell BK504.out 3).trans rfl⟩ (fun hHeld => ?_)
    clear hK K
    refine nm (some 31) ?_
    refine on 5 33 HT_.out (fun K hK => ?_)
    refine gs Try.func16 #[.agg #[.int .i64 a2_0, .int .i64 a2_1, .int .i64 a2_2, .slice A2_3 l2_3.length c2_3]] ?_
    with_reducible refine (laws_toRequest.calls k a2_0 a2_1 a2_2 _ _ l2_3 t517 t518 t519 t520 _ ?side1 ?side2 A24.out).mono ?_
    (case side1 => repeat (first | exact (Kd.C_below HR2_3.out HB.out) | (with_reducible refine Kd.C_alloc ?_ _) | (with_reducible refine Kd.C_drewN ?_ _) | (with_reducible refine Kd.C_drew ?_)))
    (case side2 => exact HC2_3.out)
    rintro e w34 ⟨v521, rfl, ho0, hb⟩
    refine ⟨_, rfl, ?_⟩
    replace HO510 := Aside0.mk (Kd.R_below (by exact Kd.xR HO510.out) hb)
    replace HO513 := Aside0.mk (Kd.R_below (by exact Kd.xR HO513.out) hb)
    replace HO516 := Aside0.mk (Kd.S_elder' (by exact Kd.xS HO516.out) (Kd.R_base ho0) hb)
    have HO522 := Aside0.mk (Kd.R_lower ho0 (below_size (by exact bw HB.out)))
    replace BK503 := bB BK503 hb
    replace BK504 := bB BK504 hb
    replace HB := bS HB hb
    (try clear hb)
    (try clear hb2)
    (try clear hk)
    (try clear hi)
    (try clear ho0)
    obtain ⟨Ao35, co35, eo35⟩ := Kd.R_slice HO510.out
    (first | subst eo35 | (injection eo35 with f1_ f2_ f3_; have f4_ := f1_.symm; have f5_ := f3_.symm; clear f1_ f2_ f3_; subst f4_; subst f5_))
    obtain ⟨Ao36, co36, eo36⟩ := Kd.R_slice HO513.out
    (first | subst eo36 | (injection eo36 with f1_ f2_ f3_; have f4_ := f1_.symm; have f5_ := f3_.symm; clear f1_ f2_ f3_; subst f4_; subst f5_))
    obtain ⟨Ao37, co37, eo37⟩ := Kd.S_slice HO516.out
    (first | subst eo37 | (injection eo37 with f1_ f2_ f3_; have f4_ := f1_.symm; have f5_ := f3_.symm; clear f1_ f2_ f3_; subst f4_; subst f5_))
    obtain ⟨Ao38, co38, eo38⟩ := Kd.R_slice HO522.out
    (first | subst eo38 | (injection eo38 with f1_ f2_ f3_; have f4_ := f1_.symm; have f5_ := f3_.symm; clear f1_ f2_ f3_; subst f4_; subst f5_))
    refine hK.out _ _ ⟨(blk_cell BK503.out 0).trans rfl, (blk_cell BK503.out 1).trans rfl, (blk_cell BK504.out 0).trans rfl, (blk_cell BK504.out 1).trans rfl, (blk_cell BK504.out 2).trans rfl, (blk_cell BK504.out 3).trans rfl⟩ (fun hHeld => ?_)
    clear hK K
    refine nm (some 33) ?_
    refine on 6 34 HT_.out (fun K hK => ?_)
    refine gs Try.func37 #[.agg #[.slice Ao35 t508.length co35, .slice Ao36 t511.length co36], .slice Ao37 t514.length co37, .agg #[.int .i64 t517, .int .i64 t518, .int .i64 t519, .slice Ao38 t520.length co38]] ?_
    with_reducible refine (spec_Conforms.calls k _ _ t508 _ _ t511 _ _ t514 t517 t518 t519 _ _ t520 t523 _ ?side1 ?side2 ?side3 ?side4 ?side5 ?side6 ?side7 ?side8 A25.out).mono ?_
    (case side1 => repeat (first | exact (Kd.R_reads' HO510.out).2.2 | (with_reducible refine Kd.C_alloc ?_ _) | (with_reducible refine Kd.C_drewN ?_ _) | (with_reducible refine Kd.C_drew ?_)))
    (case side2 => exact (Kd.R_reads' HO510.out).2.1)
    (case side3 => repeat (first | exact (Kd.R_reads' HO513.out).2.2 | (with_reducible refine Kd.C_alloc ?_ _) | (with_reducible refine Kd.C_drewN ?_ _) | (with_reducible refine Kd.C_drew ?_)))
    (case side4 => exact (Kd.R_reads' HO513.out).2.1)
    (case side5 => repeat (first | exact (Kd.S_reads' HO516.out).2.2 | (with_reducible refine Kd.C_alloc ?_ _) | (with_reducible refine Kd.C_drewN ?_ _) | (with_reducible refine Kd.C_drew ?_)))
    (case side6 => exact (Kd.S_reads' HO516.out).2.1)
    (case side7 => repeat (first | exact (Kd.R_reads' HO522.out).2.2 | (with_reducible refine Kd.C_alloc ?_ _) | (with_reducible refine Kd.C_drewN ?_ _) | (with_reducible refine Kd.C_drew ?_)))
    (case side8 => exact (Kd.R_reads' HO522.out).2.1)
    rintro e w39 ⟨rfl, hb⟩
    refine ⟨_, rfl, ?_⟩
    replace HO510 := Aside0.mk (Kd.R_below (by exact Kd.xR HO510.out) hb)
    replace HO513 := Aside0.mk (Kd.R_below (by exact Kd.xR HO513.out) hb)
    replace HO516 := Aside0.mk (Kd.S_below (by exact Kd.xS HO516.out) hb)
    replace HO522 := Aside0.mk (Kd.R_below (by exact Kd.xR HO522.out) hb)
    replace BK503 := bB BK503 hb
    replace BK504 := bB BK504 hb
    replace HB := bS HB hb
    (try clear hb)
    (try clear hb2)
    (try clear hk)
    (try clear hi)
    refine hK.out _ _ ⟨(blk_cell BK503.out 0).trans rfl, (blk_cell BK503.out 1).trans rfl, (blk_cell BK504.out 0).trans rfl, (blk_cell BK504.out 1).trans rfl, (blk_cell BK504.out 2).trans rfl, (blk_cell BK504.out 3).trans rfl⟩ (fun hHeld => ?_)
    clear hK K
    refine nm (some 34) ?_
    refine pn 7 8 HT_.out ?_
    refine done_ (done_of HT_.out (by kernel_rfl)) ?_
    have hnb40 := NB503_504.out
    have hnc40 := NB504_503.out
    have hcz41_0 : w39.cell? ⟨gb503, 0, none⟩ = some (.slice A0_0 l0_0.length c0_0) := (blk_cell BK503.out 0).trans rfl
    have hcz41_1 : w39.cell? ⟨gb503, 1, none⟩ = some (.slice A0_1 l0_1.length c0_1) := (blk_cell BK503.out 1).trans rfl
    have hfz41_0 := blk_frozen BK503.out 0
    have hfz41_1 := blk_frozen BK503.out 1
    go_upto_if 47 with (first | ((with_reducible refine gate_callee (f := 38) rfl ?_); refine gl (some 36) Try.func38 #[.agg #[.slice A0_0 l0_0.length c0_0, .slice A0_1 l0_1.length c0_1]] ?_; (with_reducible refine (laws_toSchema.calls k _ _ l0_0 _ _ l0_1 t524 t527 _ ?side1 ?side2 ?side3 ?side4 A26.out).mono ?_); (case side1 => repeat (first | exact (Kd.C_below HR0_0.out HB.out) | (with_reducible refine Kd.C_alloc ?_ _) | (with_reducible refine Kd.C_drewN ?_ _) | (with_reducible refine Kd.C_drew ?_))); (case side2 => exact HC0_0.out); (case side3 => repeat (first | exact (Kd.C_below HR0_1.out HB.out) | (with_reducible refine Kd.C_alloc ?_ _) | (with_reducible refine Kd.C_drewN ?_ _) | (with_reducible refine Kd.C_drew ?_))); (case side4 => exact HC0_1.out); rintro e w42 ⟨v525, v528, rfl, ho0, ho1, hb⟩; refine ⟨_, rfl, ?_⟩; replace HO516 := Aside0.mk (Kd.S_below (by exact Kd.xS HO516.out) hb); replace HO522 := Aside0.mk (Kd.R_below (by exact Kd.xR HO522.out) hb); have HO526 := Aside0.mk (Kd.R_lower (Kd.R_new' (Kd.R_new' ho0 (Kd.R_lt (by exact Kd.xR HO510.out))) (Kd.R_lt (by exact Kd.xR HO513.out))) (below_size (by exact bw HB.out))); have HO529 := Aside0.mk (Kd.R_lower (Kd.R_new' (Kd.R_new' ho1 (Kd.R_lt (by exact Kd.xR HO510.out))) (Kd.R_lt (by exact Kd.xR HO513.out))) (below_size (by exact bw HB.out))); replace HO510 := Aside0.mk (Kd.R_mono (Kd.R_told (Kd.R_told (Kd.R_old (by exact Kd.xR HO510.out) hb) (Kd.R_base ho0)) (Kd.R_base ho1)) (fun _ h_ => h_.1)); replace HO513 := Aside0.mk (Kd.R_mono (Kd.R_told (Kd.R_told (Kd.R_old (by exact Kd.xR HO513.out) hb) (Kd.R_base ho0)) (Kd.R_base ho1)) (fun _ h_ => h_.1)); replace BK503 := bB BK503 hb; replace BK504 := bB BK504 hb; replace HB := bS HB hb; (try clear hb); (try clear hb2); (try clear hk); (try clear hi); (try clear ho0); (try clear ho1)) | ((with_reducible refine gate_dst (N := 9) rfl ?_); refine bx 9 #[.slice none 0 0, .slice none 0 0] 62 ?_; intro gb530 hg w43 hbox hb; replace HO510 := Aside0.mk (Kd.R_below (by exact Kd.xR HO510.out) hb); replace HO513 := Aside0.mk (Kd.R_below (by exact Kd.xR HO513.out) hb); replace HO516 := Aside0.mk (Kd.S_below (by exact Kd.xS HO516.out) hb); replace HO522 := Aside0.mk (Kd.R_below (by exact Kd.xR HO522.out) hb); replace HO526 := Aside0.mk (Kd.R_below (by exact Kd.xR HO526.out) hb); replace HO529 := Aside0.mk (Kd.R_below (by exact Kd.xR HO529.out) hb); have BK530 := Aside0.mk (hbox); have GW530 := gwB HB hg; have GE530 := gwB HB hg; replace HB := bS HB hb; have NB503_530 := nbL BK503 hg; have NB530_503 := nbR BK503 hg; replace BK503 := bB BK503 hb; have NB504_530 := nbL BK504 hg; have NB530_504 := nbR BK504 hg; replace BK504 := bB BK504 hb; clear hb hbox hg; obtain ⟨Ao44, co44, eo44⟩ := Kd.R_slice HO526.out; subst eo44; have hnb45 := NB530_503.out; have hnc45 := NB503_530.out; have hnb46 := NB530_504.out; have hnc46 := NB504_530.out; obtain ⟨hcz47_0, hcz47_1⟩ := cs2 BK530.out; obtain ⟨hfz47_0, hfz47_1⟩ := fz2 BK530.out; obtain ⟨Ao48, co48, eo48⟩ := Kd.R_slice HO529.out; subst eo48) | ((with_reducible refine gate_callee (f := 11) rfl ?_); refine gl (some 38) Try.func11 #[.slice A1 l1.length c1] ?_; (with_reducible refine (laws_toThingS.calls k _ _ l1 t531 _ ?side1 ?side2 A27.out).mono ?_); (case side1 => exact Kd.C_below HR1.out (by exact bw HB.out)); (case side2 => exact HC1.out); rintro e w49 ⟨v532, rfl, ho0, hb⟩; refine ⟨_, rfl, ?_⟩; replace HO510 := Aside0.mk (Kd.R_below (by (with_reducible repeat (first | apply Kd.R_alloc | apply Kd.R_drewN | apply Kd.R_drew)); exact (Kd.R_mono (Kd.R_far (p := ⟨gb530, 1, none⟩) (Kd.R_far (p := ⟨gb530, 0, none⟩) (Kd.R_types HO510.out BK530.out (by decide)) (fun _ hk => hk.2) (.slice Ao44 t524.length co44)) (fun _ hk => hk.2) (.slice Ao48 t527.length co48)) (fun _ h_ => h_.1))) hb); replace HO513 := Aside0.mk (Kd.R_below (by (with_reducible repeat (first | apply Kd.R_alloc | apply Kd.R_drewN | apply Kd.R_drew)); exact (Kd.R_mono (Kd.R_far (p := ⟨gb530, 1, none⟩) (Kd.R_far (p := ⟨gb530, 0, none⟩) (Kd.R_types HO513.out BK530.out (by decide)) (fun _ hk => hk.2) (.slice Ao44 t524.length co44)) (fun _ hk => hk.2) (.slice Ao48 t527.length co48)) (fun _ h_ => h_.1))) hb); replace HO526 := Aside0.mk (Kd.R_below (by (with_reducible repeat (first | apply Kd.R_alloc | apply Kd.R_drewN | apply Kd.R_drew)); exact (Kd.R_mono (Kd.R_far (p := ⟨gb530, 1, none⟩) (Kd.R_far (p := ⟨gb530, 0, none⟩) (Kd.R_types HO526.out BK530.out (by decide)) (fun _ hk => hk.2) (.slice Ao44 t524.length co44)) (fun _ hk => hk.2) (.slice Ao48 t527.length co48)) (fun _ h_ => h_.1))) hb); replace HO529 := Aside0.mk (Kd.R_below (by (with_reducible repeat (first | apply Kd.R_alloc | apply Kd.R_drewN | apply Kd.R_drew)); exact (Kd.R_mono (Kd.R_far (p := ⟨gb530, 1, none⟩) (Kd.R_far (p := ⟨gb530, 0, none⟩) (Kd.R_types HO529.out BK530.out (by decide)) (fun _ hk => hk.2) (.slice Ao44 t524.length co44)) (fun _ hk => hk.2) (.slice Ao48 t527.length co48)) (fun _ h_ => h_.1))) hb); have HO533 := Aside0.mk (Kd.S_lower (Kd.S_new' (Kd.S_new' ho0 (Kd.S_lt (by (with_reducible repeat (first | apply Kd.S_alloc | apply Kd.S_drewN | apply Kd.S_drew)); exact (Kd.S_mono (Kd.S_far (p := ⟨gb530, 1, none⟩) (Kd.S_far (p := ⟨gb530, 0, none⟩) (Kd.S_types HO516.out BK530.out (by decide)) (fun _ hk => hk.2) (.slice Ao44 t524.length co44)) (fun _ hk => hk.2) (.slice Ao48 t527.length co48)) (fun _ h_ => h_.1))))) (Kd.R_lt (by (with_reducible repeat (first | apply Kd.R_alloc | apply Kd.R_drewN | apply Kd.R_drew)); exact (Kd.R_mono (Kd.R_far (p := ⟨gb530, 1, none⟩) (Kd.R_far (p := ⟨gb530, 0, none⟩) (Kd.R_types HO522.out BK530.out (by decide)) (fun _ hk => hk.2) (.slice Ao44 t524.length co44)) (fun _ hk => hk.2) (.slice Ao48 t527.length co48)) (fun _ h_ => h_.1))))) (below_size (by exact bw HB.out))); replace HO516 := Aside0.mk (Kd.S_elder' (by (with_reducible repeat (first | apply Kd.S_alloc | apply Kd.S_drewN | apply Kd.S_drew)); exact (Kd.S_mono (Kd.S_far (p := ⟨gb530, 1, none⟩) (Kd.S_far (p := ⟨gb530, 0, none⟩) (Kd.S_types HO516.out BK530.out (by decide)) (fun _ hk => hk.2) (.slice Ao44 t524.length co44)) (fun _ hk => hk.2) (.slice Ao48 t527.length co48)) (fun _ h_ => h_.1))) (Kd.S_base ho0) hb); replace HO522 := Aside0.mk (Kd.R_below (by (with_reducible repeat (first | apply Kd.R_alloc | apply Kd.R_drewN | apply Kd.R_drew)); exact (Kd.R_mono (Kd.R_far (p := ⟨gb530, 1, none⟩) (Kd.R_far (p := ⟨gb530, 0, none⟩) (Kd.R_types HO522.out BK530.out (by decide)) (fun _ hk => hk.2) (.slice Ao44 t524.length co44)) (fun _ hk => hk.2) (.slice Ao48 t527.length co48)) (fun _ h_ => h_.1))) hb); replace BK503 := Aside0.mk (blk_below (g := gb503) (o := .cells #[.slice A0_0 l0_0.length c0_0, .slice A0_1 l0_1.length c0_1] 57 (0, 0)) (bo BK503) hb); replace BK504 := Aside0.mk (blk_below (g := gb504) (o := .cells #[.int .i64 a2_0, .int .i64 a2_1, .int .i64 a2_2, .slice A2_3 l2_3.length c2_3] 31 (0, 0)) (bo BK504) hb); replace BK530 := Aside0.mk (blk_below (g := gb530) (o := .cells #[.slice Ao44 t524.length co44, .slice Ao48 t527.length co48] 62 (0, 0)) (bp BK530) hb); replace HB := bS HB hb; (try clear hb); (try clear hb2); (try clear hk); (try clear hi); (try clear ho0); obtain ⟨hcz50_0, hcz50_1, hcz50_2, hcz50_3⟩ := cs4 BK504.out; obtain ⟨hfz50_0, hfz50_1, hfz50_2, hfz50_3⟩ := fz4 BK504.out) | ((with_reducible refine gate_callee (f := 16) rfl ?_); refine gl (some 40) Try.func16 #[.agg #[.int .i64 a2_0, .int .i64 a2_1, .int .i64 a2_2, .slice A2_3 l2_3.length c2_3]] ?_; (with_reducible refine (laws_toRequest.calls k a2_0 a2_1 a2_2 _ _ l2_3 t534 t535 t536 t537 _ ?side1 ?side2 A28.out).mono ?_); (case side1 => repeat (first | exact (Kd.C_below HR2_3.out HB.out) | (with_reducible refine Kd.C_alloc ?_ _) | (with_reducible refine Kd.C_drewN ?_ _) | (with_reducible refine Kd.C_drew ?_))); (case side2 => exact HC2_3.out); rintro e w51 ⟨v538, rfl, ho0, hb⟩; refine ⟨_, rfl, ?_⟩; replace HO510 := Aside0.mk (Kd.R_below (by exact Kd.xR HO510.out) hb); replace HO513 := Aside0.mk (Kd.R_below (by exact Kd.xR HO513.out) hb); replace HO516 := Aside0.mk (Kd.S_elder' (by exact Kd.xS HO516.out) (Kd.R_base ho0) hb); replace HO526 := Aside0.mk (Kd.R_below (by exact Kd.xR HO526.out) hb); replace HO529 := Aside0.mk (Kd.R_below (by exact Kd.xR HO529.out) hb); replace HO533 := Aside0.mk (Kd.S_elder' (by exact Kd.xS HO533.out) (Kd.R_base ho0) hb); have HO539 := Aside0.mk (Kd.R_lower (Kd.R_new' ho0 (Kd.R_lt (by exact Kd.xR HO522.out))) (below_size (by exact bw HB.out))); replace HO522 := Aside0.mk (Kd.R_elder' (by exact Kd.xR HO522.out) (Kd.R_base ho0) hb); replace BK503 := bB BK503 hb; replace BK504 := bB BK504 hb; replace BK530 := bB BK530 hb; replace HB := bS HB hb; (try clear hb); (try clear hb2); (try clear hk); (try clear hi); (try clear ho0)) | ((with_reducible refine gate_dst (N := 11) rfl ?_); refine bx 11 #[.int .i64 0, .int .i64 0, .int .i64 0, .slice none 0 0] 36 ?_; intro gb540 hg w52 hbox hb; replace HO510 := Aside0.mk (Kd.R_below (by exact Kd.xR HO510.out) hb); replace HO513 := Aside0.mk (Kd.R_below (by exact Kd.xR HO513.out) hb); replace HO516 := Aside0.mk (Kd.S_below (by exact Kd.xS HO516.out) hb); replace HO522 := Aside0.mk (Kd.R_below (by exact Kd.xR HO522.out) hb); replace HO526 := Aside0.mk (Kd.R_below (by exact Kd.xR HO526.out) hb); replace HO529 := Aside0.mk (Kd.R_below (by exact Kd.xR HO529.out) hb); replace HO533 := Aside0.mk (Kd.S_below (by exact Kd.xS HO533.out) hb); replace HO539 := Aside0.mk (Kd.R_below (by exact Kd.xR HO539.out) hb); have BK540 := Aside0.mk (hbox); have GW540 := gwB HB hg; have GE540 := gwB HB hg; replace HB := bS HB hb; have NB503_540 := nbL BK503 hg; have NB540_503 := nbR BK503 hg; replace BK503 := bB BK503 hb; have NB504_540 := nbL BK504 hg; have NB540_504 := nbR BK504 hg; replace BK504 := bB BK504 hb; have NB530_540 := nbL BK530 hg; have NB540_530 := nbR BK530 hg; replace BK530 := bB BK530 hb; clear hb hbox hg; have hnb53 := NB540_503.out; have hnc53 := NB503_540.out; have hnb54 := NB540_504.out; have hnc54 := NB504_540.out; have hnb55 := NB540_530.out; have hnc55 := NB530_540.out; obtain ⟨hcz56_0, hcz56_1, hcz56_2, hcz56_3⟩ := cs4 BK540.out; obtain ⟨hfz56_0, hfz56_1, hfz56_2, hfz56_3⟩ := fz4 BK540.out; obtain ⟨Ao57, co57, eo57⟩ := Kd.R_slice HO539.out; subst eo57; obtain ⟨hcz58_0, hcz58_1⟩ := cs2 BK530.out; obtain ⟨hfz58_0, hfz58_1⟩ := fz2 BK530.out; obtain ⟨Ao59, co59, eo59⟩ := Kd.S_slice HO533.out; subst eo59) | ((with_reducible refine gate_callee (f := 39) rfl ?_); refine gl (some 44) Try.func39 #[.agg #[.slice Ao44 t524.length co44, .slice Ao48 t527.length co48], .slice Ao59 t531.length co59, .agg #[.int .i64 t534, .int .i64 t535, .int .i64 t536, .slice Ao57 t537.length co57]] ?_; (with_reducible refine (impl_Conforms.calls k _ _ t524 _ _ t527 _ _ t531 t534 t535 t536 _ _ t537 t541 _ ?side1 ?side2 ?side3 ?side4 ?side5 ?side6 ?side7 ?side8 A29.out).mono ?_); (case side1 => refine (Kd.R_reads' (e := 110) (base := w.heap.size) (ok := fun k_ => ((some k_ ≠ (.slice Ao48 t527.length co48 : Value).ownBlock ∧ some k_ ≠ (.slice Ao35 t508.length co35 : Value).ownBlock) ∧ some k_ ≠ (.slice Ao36 t511.length co36 : Value).ownBlock)) (n := t524.length) (c := co44) ?_).2.2; exact (by (with_reducible repeat (first | apply Kd.R_alloc | apply Kd.R_drewN | apply Kd.R_drew)); exact (Kd.R_mono (Kd.R_far (p := ⟨gb540, 3, none⟩) (Kd.R_far (p := ⟨gb540, 2, none⟩) (Kd.R_far (p := ⟨gb540, 1, none⟩) (Kd.R_far (p := ⟨gb540, 0, none⟩) (Kd.R_types HO526.out BK540.out (by decide)) (fun _ hk => hk.2) (.int .i64 t534)) (fun _ hk => hk.2) (.int .i64 t535)) (fun _ hk => hk.2) (.int .i64 t536)) (fun _ hk => hk.2) (.slice Ao57 t537.length co57)) (fun _ h_ => h_.1)))); (case side2 => exact (Kd.R_reads' HO526.out).2.1); (case side3 => refine (Kd.R_reads' (e := 110) (base := w.heap.size) (ok := fun k_ => ((some k_ ≠ (.slice Ao44 t524.length co44 : Value).ownBlock ∧ some k_ ≠ (.slice Ao35 t508.length co35 : Value).ownBlock) ∧ some k_ ≠ (.slice Ao36 t511.length co36 : Value).ownBlock)) (n := t527.length) (c := co48) ?_).2.2; exact (by (with_reducible repeat (first | apply Kd.R_alloc | apply Kd.R_drewN | apply Kd.R_drew)); exact (Kd.R_mono (Kd.R_far (p := ⟨gb540, 3, none⟩) (Kd.R_far (p := ⟨gb540, 2, none⟩) (Kd.R_far (p := ⟨gb540, 1, none⟩) (Kd.R_far (p := ⟨gb540, 0, none⟩) (Kd.R_types HO529.out BK540.out (by decide)) (fun _ hk => hk.2) (.int .i64 t534)) (fun _ hk => hk.2) (.int .i64 t535)) (fun _ hk => hk.2) (.int .i64 t536)) (fun _ hk => hk.2) (.slice Ao57 t537.length co57)) (fun _ h_ => h_.1)))); (case side4 => exact (Kd.R_reads' HO529.out).2.1); (case side5 => refine (Kd.S_reads' (e := 72) (base := w.heap.size) (ok := fun k_ => (((True ∧ some k_ ≠ (.slice Ao37 t514.length co37 : Value).ownBlock) ∧ some k_ ≠ (.slice Ao38 t520.length co38 : Value).ownBlock) ∧ some k_ ≠ (.slice Ao57 t537.length co57 : Value).ownBlock)) (n := t531.length) (c := co59) ?_).2.2; exact (by (with_reducible repeat (first | apply Kd.S_alloc | apply Kd.S_drewN | apply Kd.S_drew)); exact (Kd.S_mono (Kd.S_far (p := ⟨gb540, 3, none⟩) (Kd.S_far (p := ⟨gb540, 2, none⟩) (Kd.S_far (p := ⟨gb540, 1, none⟩) (Kd.S_far (p := ⟨gb540, 0, none⟩) (Kd.S_types HO533.out BK540.out (by decide)) (fun _ hk => hk.2) (.int .i64 t534)) (fun _ hk => hk.2) (.int .i64 t535)) (fun _ hk => hk.2) (.int .i64 t536)) (fun _ hk => hk.2) (.slice Ao57 t537.length co57)) (fun _ h_ => h_.1)))); (case side6 => exact (Kd.S_reads' HO533.out).2.1); (case side7 => refine (Kd.R_reads' (e := 85) (base := w.heap.size) (ok := fun k_ => (True ∧ some k_ ≠ (.slice Ao38 t520.length co38 : Value).ownBlock)) (n := t537.length) (c := co57) ?_).2.2; exact (by (with_reducible repeat (first | apply Kd.R_alloc | apply Kd.R_drewN | apply Kd.R_drew)); exact (Kd.R_mono (Kd.R_far (p := ⟨gb540, 3, none⟩) (Kd.R_far (p := ⟨gb540, 2, none⟩) (Kd.R_far (p := ⟨gb540, 1, none⟩) (Kd.R_far (p := ⟨gb540, 0, none⟩) (Kd.R_types HO539.out BK540.out (by decide)) (fun _ hk => hk.2) (.int .i64 t534)) (fun _ hk => hk.2) (.int .i64 t535)) (fun _ hk => hk.2) (.int .i64 t536)) (fun _ hk => hk.2) (.slice Ao57 t537.length co57)) (fun _ h_ => h_.1)))); (case side8 => exact (Kd.R_reads' HO539.out).2.1); rintro e w60 ⟨rfl, hb⟩; refine ⟨_, rfl, ?_⟩; replace HO510 := Aside0.mk (Kd.R_below (by (with_reducible repeat (first | apply Kd.R_alloc | apply Kd.R_drewN | apply Kd.R_drew)); exact (Kd.R_mono (Kd.R_far (p := ⟨gb540, 3, none⟩) (Kd.R_far (p := ⟨gb540, 2, none⟩) (Kd.R_far (p := ⟨gb540, 1, none⟩) (Kd.R_far (p := ⟨gb540, 0, none⟩) (Kd.R_types HO510.out BK540.out (by decide)) (fun _ hk => hk.2) (.int .i64 t534)) (fun _ hk => hk.2) (.int .i64 t535)) (fun _ hk => hk.2) (.int .i64 t536)) (fun _ hk => hk.2) (.slice Ao57 t537.length co57)) (fun _ h_ => h_.1))) hb); replace HO513 := Aside0.mk (Kd.R_below (by (with_reducible repeat (first | apply Kd.R_alloc | apply Kd.R_drewN | apply Kd.R_drew)); exact (Kd.R_mono (Kd.R_far (p := ⟨gb540, 3, none⟩) (Kd.R_far (p := ⟨gb540, 2, none⟩) (Kd.R_far (p := ⟨gb540, 1, none⟩) (Kd.R_far (p := ⟨gb540, 0, none⟩) (Kd.R_types HO513.out BK540.out (by decide)) (fun _ hk => hk.2) (.int .i64 t534)) (fun _ hk => hk.2) (.int .i64 t535)) (fun _ hk => hk.2) (.int .i64 t536)) (fun _ hk => hk.2) (.slice Ao57 t537.length co57)) (fun _ h_ => h_.1))) hb); replace HO516 := Aside0.mk (Kd.S_below (by (with_reducible repeat (first | apply Kd.S_alloc | apply Kd.S_drewN | apply Kd.S_drew)); exact (Kd.S_mono (Kd.S_far (p := ⟨gb540, 3, none⟩) (Kd.S_far (p := ⟨gb540, 2, none⟩) (Kd.S_far (p := ⟨gb540, 1, none⟩) (Kd.S_far (p := ⟨gb540, 0, none⟩) (Kd.S_types HO516.out BK540.out (by decide)) (fun _ hk => hk.2) (.int .i64 t534)) (fun _ hk => hk.2) (.int .i64 t535)) (fun _ hk => hk.2) (.int .i64 t536)) (fun _ hk => hk.2) (.slice Ao57 t537.length co57)) (fun _ h_ => h_.1))) hb); replace HO522 := Aside0.mk (Kd.R_below (by (with_reducible repeat (first | apply Kd.R_alloc | apply Kd.R_drewN | apply Kd.R_drew)); exact (Kd.R_mono (Kd.R_far (p := ⟨gb540, 3, none⟩) (Kd.R_far (p := ⟨gb540, 2, none⟩) (Kd.R_far (p := ⟨gb540, 1, none⟩) (Kd.R_far (p := ⟨gb540, 0, none⟩) (Kd.R_types HO522.out BK540.out (by decide)) (fun _ hk => hk.2) (.int .i64 t534)) (fun _ hk => hk.2) (.int .i64 t535)) (fun _ hk => hk.2) (.int .i64 t536)) (fun _ hk => hk.2) (.slice Ao57 t537.length co57)) (fun _ h_ => h_.1))) hb); replace HO526 := Aside0.mk (Kd.R_below (by (with_reducible repeat (first | apply Kd.R_alloc | apply Kd.R_drewN | apply Kd.R_drew)); exact (Kd.R_mono (Kd.R_far (p := ⟨gb540, 3, none⟩) (Kd.R_far (p := ⟨gb540, 2, none⟩) (Kd.R_far (p := ⟨gb540, 1, none⟩) (Kd.R_far (p := ⟨gb540, 0, none⟩) (Kd.R_types HO526.out BK540.out (by decide)) (fun _ hk => hk.2) (.int .i64 t534)) (fun _ hk => hk.2) (.int .i64 t535)) (fun _ hk => hk.2) (.int .i64 t536)) (fun _ hk => hk.2) (.slice Ao57 t537.length co57)) (fun _ h_ => h_.1))) hb); replace HO529 := Aside0.mk (Kd.R_below (by (with_reducible repeat (first | apply Kd.R_alloc | apply Kd.R_drewN | apply Kd.R_drew)); exact (Kd.R_mono (Kd.R_far (p := ⟨gb540, 3, none⟩) (Kd.R_far (p := ⟨gb540, 2, none⟩) (Kd.R_far (p := ⟨gb540, 1, none⟩) (Kd.R_far (p := ⟨gb540, 0, none⟩) (Kd.R_types HO529.out BK540.out (by decide)) (fun _ hk => hk.2) (.int .i64 t534)) (fun _ hk => hk.2) (.int .i64 t535)) (fun _ hk => hk.2) (.int .i64 t536)) (fun _ hk => hk.2) (.slice Ao57 t537.length co57)) (fun _ h_ => h_.1))) hb); replace HO533 := Aside0.mk (Kd.S_below (by (with_reducible repeat (first | apply Kd.S_alloc | apply Kd.S_drewN | apply Kd.S_drew)); exact (Kd.S_mono (Kd.S_far (p := ⟨gb540, 3, none⟩) (Kd.S_far (p := ⟨gb540, 2, none⟩) (Kd.S_far (p := ⟨gb540, 1, none⟩) (Kd.S_far (p := ⟨gb540, 0, none⟩) (Kd.S_types HO533.out BK540.out (by decide)) (fun _ hk => hk.2) (.int .i64 t534)) (fun _ hk => hk.2) (.int .i64 t535)) (fun _ hk => hk.2) (.int .i64 t536)) (fun _ hk => hk.2) (.slice Ao57 t537.length co57)) (fun _ h_ => h_.1))) hb); replace HO539 := Aside0.mk (Kd.R_below (by (with_reducible repeat (first | apply Kd.R_alloc | apply Kd.R_drewN | apply Kd.R_drew)); exact (Kd.R_mono (Kd.R_far (p := ⟨gb540, 3, none⟩) (Kd.R_far (p := ⟨gb540, 2, none⟩) (Kd.R_far (p := ⟨gb540, 1, none⟩) (Kd.R_far (p := ⟨gb540, 0, none⟩) (Kd.R_types HO539.out BK540.out (by decide)) (fun _ hk => hk.2) (.int .i64 t534)) (fun _ hk => hk.2) (.int .i64 t535)) (fun _ hk => hk.2) (.int .i64 t536)) (fun _ hk => hk.2) (.slice Ao57 t537.length co57)) (fun _ h_ => h_.1))) hb); replace BK503 := Aside0.mk (blk_below (g := gb503) (o := .cells #[.slice A0_0 l0_0.length c0_0, .slice A0_1 l0_1.length c0_1] 57 (0, 0)) (bo BK503) hb); replace BK504 := Aside0.mk (blk_below (g := gb504) (o := .cells #[.int .i64 a2_0, .int .i64 a2_1, .int .i64 a2_2, .slice A2_3 l2_3.length c2_3] 31 (0, 0)) (bo BK504) hb); replace BK530 := Aside0.mk (blk_below (g := gb530) (o := .cells #[.slice Ao44 t524.length co44, .slice Ao48 t527.length co48] 62 (0, 0)) (bo BK530) hb); replace BK540 := Aside0.mk (blk_below (g := gb540) (o := .cells #[.int .i64 t534, .int .i64 t535, .int .i64 t536, .slice Ao57 t537.length co57] 36 (0, 0)) (bp BK540) hb); replace HB := bS HB hb; (try clear hb); (try clear hb2); (try clear hk); (try clear hi)))
    (try simp only [Act.put, List.setIfInBounds_toArray, List.set_cons_zero, List.set_cons_succ])
    have H := HC30.out
    clear HC30
    by_cases c61 : (t541 != t523) = true
    ·
     rw [if_pos c61] at H; have c61b0 : (t541 != t523) = true := c61
     (try (have c61b1 : decide (t541 = t523) = false := by simpa using c61))
     (try (have c61b2 : (t541 == t523) = false := by simpa using c61))
     (try (have c61b3 : ¬ (t541 = t523) := by simpa using c61))
     clear c61
     (first | rw [c61b0] | (simp only [i64_w, i32_w]; rw [c61b0]) | rw [c61b2] | rw [c61b1] | skip)
     obtain rfl := Option.some.inj H
     go_wp2
     go_ret
     exact ⟨by first | rfl | (simp [errW_none, errW_some] <;> rfl) | (simp [*, errW_none, errW_some] <;> rfl), by exact bw HB.out⟩
    ·
     rw [if_neg c61] at H; have c61b0 : (t541 != t523) = false := by simpa using c61
     (try (have c61b1 : decide (t541 = t523) = true := by simpa using c61))
     (try (have c61b2 : (t541 == t523) = true := by simpa using c61))
     clear c61
     (first | rw [c61b0] | (simp only [i64_w, i32_w]; rw [c61b0]) | rw [c61b2] | rw [c61b1] | skip)
     replace H := Option.bind_eq_some_iff.mp H
     obtain ⟨⟨t542, t545⟩, A620, H⟩ := H
     replace H : ((laws_eqSchema.f k t524 t527 t542 t545).bind fun t548 => (if t548 = true then ((laws_toThingS.f k l1).bind fun t549 => ((laws_eqThingS.f k t531 t549).bind fun t552 => (if t552 = true then ((laws_toRequest.f k a2_0 a2_1 a2_2 l2_3).bind fun bt553 => ((laws_eqRequest.f k t534 t535 t536 t537 bt553.1 bt553.2.1 bt553.2.2.1 bt553.2.2.2).bind fun t559 => (if t559 = true then (some true) else (some false)))) else (some false)))) else (some false))) = some r := H
     have A62 := Aside0.mk A620
     clear A620
     replace H := Option.bind_eq_some_iff.mp H
     obtain ⟨t548, A630, H⟩ := H
     replace H : (if t548 = true then ((laws_toThingS.f k l1).bind fun t549 => ((laws_eqThingS.f k t531 t549).bind fun t552 => (if t552 = true then ((laws_toRequest.f k a2_0 a2_1 a2_2 l2_3).bind fun bt553 => ((laws_eqRequest.f k t534 t535 t536 t537 bt553.1 bt553.2.1 bt553.2.2.1 bt553.2.2.2).bind fun t559 => (if t559 = true then (some true) else (some false)))) else (some false)))) else (some false)) = some r := H
     have A63 := Aside0.mk A630
     clear A630
     have HC64 := Aside0.mk H
     clear H
     try go_wp2
     replace HO510 := Aside0.mk (Kd.R_drew HO510.out)
     replace HO513 := Aside0.mk (Kd.R_drew HO513.out)
     replace HO516 := Aside0.mk (Kd.S_drew HO516.out)
     replace HO522 := Aside0.mk (Kd.R_drew HO522.out)
     replace HO526 := Aside0.mk (Kd.R_drew HO526.out)
     replace HO529 := Aside0.mk (Kd.R_drew HO529.out)
     replace HO533 := Aside0.mk (Kd.S_drew HO533.out)
     replace HO539 := Aside0.mk (Kd.R_drew HO539.out)
     replace BK503 := Aside0.mk (blk_drew BK503.out)
     replace BK504 := Aside0.mk (blk_drew BK504.out)
     replace BK530 := Aside0.mk (blk_drew BK530.out)
     replace BK540 := Aside0.mk (blk_drew BK540.out)
     replace HB := Aside0.mk (below_drew1 HB.out)
     refine start_ (n := 5) (S := fun w' => w'.cell? ⟨gb530, 0, none⟩ = some (.slice Ao44 t524.length co44) ∧ w'.cell? ⟨gb530, 1, none⟩ = some (.slice Ao48 t527.length co48) ∧ w'.cell? ⟨gb503, 0, none⟩ = some (.slice A0_0 l0_0.length c0_0) ∧ w'.cell? ⟨gb503, 1, none⟩ = some (.slice A0_1 l0_1.length c0_1)) (ds := []) (mB 5 0) (by kernel_rfl) rfl rfl ⟨(blk_cell BK530.out 0).trans rfl, (blk_cell BK530.out 1).trans rfl, (blk_cell BK503.out 0).trans rfl, (blk_cell BK503.out 1).trans rfl⟩ (fun hHeld => ?_)
     generalize w60.drew = w65 at HO510 HO513 HO516 HO522 HO526 HO529 HO533 HO539 BK503 BK504 BK530 BK540 HB hHeld ⊢
     refine take_ (i := 0) (N := some 48) (v := ?_) (a' := ?_) (mB 5 1) rfl rfl (by kernel_rfl) (fun _ _ _ h => h) (Or.inl ⟨by rfl, ?_⟩) hHeld ?_ ?_
     rotate_left
     ·
      rintro w' ⟨s0, s1, s2, s3⟩
      go_simp
      with_reducible rfl
     rotate_left
     ·
      simp only [Act.put, List.setIfInBounds_toArray, List.set_cons_zero, List.set_cons_succ, i64_w, i32_w]
      rfl
     refine take_ (i := 1) (N := some 49) (v := ?_) (a' := ?_) (mB 5 3) rfl rfl (by kernel_rfl) (fun _ _ _ h => h) (Or.inl ⟨by rfl, ?_⟩) hHeld ?_ ?_
     rotate_left
     ·
      rintro w' ⟨s0, s1, s2, s3⟩
      go_simp
      with_reducible rfl
     rotate_left
     ·
      simp only [Act.put, List.setIfInBounds_toArray, List.set_cons_zero, List.set_cons_succ, i64_w, i32_w]
      rfl
     refine one_ (i := 2) (N := some 50) (mB 5 7) rfl rfl (by kernel_rfl) (by decide) (fun K hK => ?_)
     refine gs Try.func38 #[.agg #[.slice A0_0 l0_0.length c0_0, .slice A0_1 l0_1.length c0_1]] ?_
     with_reducible refine (laws_toSchema.calls k _ _ l0_0 _ _ l0_1 t542 t545 _ ?side1 ?side2 ?side3 ?side4 A62.out).mono ?_
     (case side1 => repeat (first | exact (Kd.C_below HR0_0.out HB.out) | (with_reducible refine Kd.C_alloc ?_ _) | (with_reducible refine Kd.C_drewN ?_ _) | (with_reducible refine Kd.C_drew ?_)))
     (case side2 => exact HC0_0.out)
     (case side3 => repeat (first | exact (Kd.C_below HR0_1.out HB.out) | (with_reducible refine Kd.C_alloc ?_ _) | (with_reducible refine Kd.C_drewN ?_ _) | (with_reducible refine Kd.C_drew ?_)))
     (case side4 => exact HC0_1.out)
     rintro e w66 ⟨v543, v546, rfl, ho0, ho1, hb⟩
     refine ⟨_, rfl, ?_⟩
     replace HO516 := Aside0.mk (Kd.S_below (by exact Kd.xS HO516.out) hb)
     replace HO522 := Aside0.mk (Kd.R_below (by exact Kd.xR HO522.out) hb)
     replace HO533 := Aside0.mk (Kd.S_below (by exact Kd.xS HO533.out) hb)
     replace HO539 := Aside0.mk (Kd.R_below (by exact Kd.xR HO539.out) hb)
     have HO544 := Aside0.mk (Kd.R_lower (Kd.R_new' (Kd.R_new' (Kd.R_new' (Kd.R_new' ho0 (Kd.R_lt (by exact Kd.xR HO510.out))) (Kd.R_lt (by exact Kd.xR HO513.out))) (Kd.R_lt (by exact Kd.xR HO526.out))) (Kd.R_lt (by exact Kd.xR HO529.out))) (below_size (by exact bw HB.out)))
     have HO547 := Aside0.mk (Kd.R_lower (Kd.R_new' (Kd.R_new' (Kd.R_new' (Kd.R_new' ho1 (Kd.R_lt (by exact Kd.xR HO510.out))) (Kd.R_lt (by exact Kd.xR HO513.out))) (Kd.R_lt (by exact Kd.xR HO526.out))) (Kd.R_lt (by exact Kd.xR HO529.out))) (below_size (by exact bw HB.out)))
     replace HO510 := Aside0.mk (Kd.R_mono (Kd.R_told (Kd.R_told (Kd.R_old (by exact Kd.xR HO510.out) hb) (Kd.R_base ho0)) (Kd.R_base ho1)) (fun _ h_ => h_.1))
     replace HO513 := Aside0.mk (Kd.R_mono (Kd.R_told (Kd.R_told (Kd.R_old (by exact Kd.xR HO513.out) hb) (Kd.R_base ho0)) (Kd.R_base ho1)) (fun _ h_ => h_.1))
     replace HO526 := Aside0.mk (Kd.R_mono (Kd.R_told (Kd.R_told (Kd.R_old (by exact Kd.xR HO526.out) hb) (Kd.R_base ho0)) (Kd.R_base ho1)) (fun _ h_ => h_.1))
     replace HO529 := Aside0.mk (Kd.R_mono (Kd.R_told (Kd.R_told (Kd.R_old (by exact Kd.xR HO529.out) hb) (Kd.R_base ho0)) (Kd.R_base ho1)) (fun _ h_ => h_.1))
     replace BK503 := bB BK503 hb
     replace BK504 := bB BK504 hb
     replace BK530 := bB BK530 hb
     replace BK540 := bB BK540 hb
     replace HB := bS HB hb
     (try clear hb)
     (try clear hb2)
     (try clear hk)
     (try clear hi)
     (try clear ho0)
     (try clear ho1)
     obtain ⟨Ao67, co67, eo67⟩ := Kd.R_slice HO544.out
     (first | subst eo67 | (injection eo67 with f1_ f2_ f3_; have f4_ := f1_.symm; have f5_ := f3_.symm; clear f1_ f2_ f3_; subst f4_; subst f5_))
     obtain ⟨Ao68, co68, eo68⟩ := Kd.R_slice HO547.out
     (first | subst eo68 | (injection eo68 with f1_ f2_ f3_; have f4_ := f1_.symm; have f5_ := f3_.symm; clear f1_ f2_ f3_; subst f4_; subst f5_))
     refine hK.out _ _ ⟨(blk_cell BK530.out 0).trans rfl, (blk_cell BK530.out 1).trans rfl, (blk_cell BK503.out 0).trans rfl, (blk_cell BK503.out 1).trans rfl⟩ (fun hHeld => ?_)
     clear hK K
     refine nm (some 50) ?_
     refine one_ (i := 3) (N := some 51) (mB 5 15) rfl rfl (by kernel_rfl) (by decide) (fun K hK => ?_)
     refine gs Try.func40 #[.agg #[.slice Ao44 t524.length co44, .slice Ao48 t527.length co48], .agg #[.slice Ao67 t542.length co67, .slice Ao68 t545.length co68]] ?_
     with_reducible refine (laws_eqSchema.calls k _ _ t524 _ _ t527 _ _ t542 _ _ t545 t548 _ ?side1 ?side2 ?side3 ?side4 ?side5 ?side6 ?side7 ?side8 A63.out).mono ?_
     (case side1 => repeat (first | exact (Kd.R_reads' HO526.out).2.2 | (with_reducible refine Kd.C_alloc ?_ _) | (with_reducible refine Kd.C_drewN ?_ _) | (with_reducible refine Kd.C_drew ?_)))
     (case side2 => exact (Kd.R_reads' HO526.out).2.1)
     (case side3 => repeat (first | exact (Kd.R_reads' HO529.out).2.2 | (with_reducible refine Kd.C_alloc ?_ _) | (with_reducible refine Kd.C_drewN ?_ _) | (with_reducible refine Kd.C_drew ?_)))
     (case side4 => exact (Kd.R_reads' HO529.out).2.1)
     (case side5 => repeat (first | exact (Kd.R_reads' HO544.out).2.2 | (with_reducible refine Kd.C_alloc ?_ _) | (with_reducible refine Kd.C_drewN ?_ _) | (with_reducible refine Kd.C_drew ?_)))
     (case side6 => exact (Kd.R_reads' HO544.out).2.1)
     (case side7 => repeat (first | exact (Kd.R_reads' HO547.out).2.2 | (with_reducible refine Kd.C_alloc ?_ _) | (with_reducible refine Kd.C_drewN ?_ _) | (with_reducible refine Kd.C_drew ?_)))
     (case side8 => exact (Kd.R_reads' HO547.out).2.1)
     rintro e w69 ⟨rfl, hb⟩
     refine ⟨_, rfl, ?_⟩
     replace HO510 := Aside0.mk (Kd.R_below (by exact Kd.xR HO510.out) hb)
     replace HO513 := Aside0.mk (Kd.R_below (by exact Kd.xR HO513.out) hb)
     replace HO516 := Aside0.mk (Kd.S_below (by exact Kd.xS HO516.out) hb)
     replace HO522 := Aside0.mk (Kd.R_below (by exact Kd.xR HO522.out) hb)
     replace HO526 := Aside0.mk (Kd.R_below (by exact Kd.xR HO526.out) hb)
     replace HO529 := Aside0.mk (Kd.R_below (by exact Kd.xR HO529.out) hb)
     replace HO533 := Aside0.mk (Kd.S_below (by exact Kd.xS HO533.out) hb)
     replace HO539 := Aside0.mk (Kd.R_below (by exact Kd.xR HO539.out) hb)
     replace HO544 := Aside0.mk (Kd.R_below (by exact Kd.xR HO544.out) hb)
     replace HO547 := Aside0.mk (Kd.R_below (by exact Kd.xR HO547.out) hb)
     replace BK503 := bB BK503 hb
     replace BK504 := bB BK504 hb
     replace BK530 := bB BK530 hb
     replace BK540 := bB BK540 hb
     replace HB := bS HB hb
     (try clear hb)
     (try clear hb2)
     (try clear hk)
     (try clear hi)
     refine hK.out _ _ ⟨(blk_cell BK530.out 0).trans rfl, (blk_cell BK530.out 1).trans rfl, (blk_cell BK503.out 0).trans rfl, (blk_cell BK503.out 1).trans rfl⟩ (fun hHeld => ?_)
     clear hK K
     refine nm (some 51) ?_
     refine pure_ (i := 4) (N := some 52) (v := ?_) (a' := ?_) (mB 5 31) rfl rfl (by kernel_rfl) (fun _ _ _ h => h) (Or.inl ⟨by rfl, ?_⟩) ?_ ?_
     rotate_left
     ·
      intro w'
      go_simp
      with_reducible rfl
     rotate_left
     ·
      simp only [Act.put, List.setIfInBounds_toArray, List.set_cons_zero, List.set_cons_succ, i64_w, i32_w]
      rfl
     refine done_ (by kernel_rfl) ?_
     go_upto_if 52 with (fail)
     have H := HC64.out
     clear HC64
     by_cases c70 : t548 = true
     ·
      subst c70
      have H1 : ((laws_toThingS.f k l1).bind fun t549 => ((laws_eqThingS.f k t531 t549).bind fun t552 => (if t552 = true then ((laws_toRequest.f k a2_0 a2_1 a2_2 l2_3).bind fun bt553 => ((laws_eqRequest.f k t534 t535 t536 t537 bt553.1 bt553.2.1 bt553.2.2.1 bt553.2.2.2).bind fun t559 => (if t559 = true then (some true) else (some false)))) else (some false)))) = some r := by rw [if_pos rfl] at H; exact H
      clear H
      have H := H1
      clear H1
      replace H := Option.bind_eq_some_iff.mp H
      obtain ⟨t549, A710, H⟩ := H
      replace H : ((laws_eqThingS.f k t531 t549).bind fun t552 => (if t552 = true then ((laws_toRequest.f k a2_0 a2_1 a2_2 l2_3).bind fun bt553 => ((laws_eqRequest.f k t534 t535 t536 t537 bt553.1 bt553.2.1 bt553.2.2.1 bt553.2.2.2).bind fun t559 => (if t559 = true then (some true) else (some false)))) else (some false))) = some r := H
      have A71 := Aside0.mk A710
      clear A710
      replace H := Option.bind_eq_some_iff.mp H
      obtain ⟨t552, A720, H⟩ := H
      replace H : (if t552 = true then ((laws_toRequest.f k a2_0 a2_1 a2_2 l2_3).bind fun bt553 => ((laws_eqRequest.f k t534 t535 t536 t537 bt553.1 bt553.2.1 bt553.2.2.1 bt553.2.2.2).bind fun t559 => (if t559 = true then (some true) else (some false)))) else (some false)) = some r := H
      have A72 := Aside0.mk A720
      clear A720
      have HC73 := Aside0.mk H
      clear H
      go_upto_if 57 with (first | ((with_reducible refine gate_callee (f := 11) rfl ?_); refine gl (some 55) Try.func11 #[.slice A1 l1.length c1] ?_; (with_reducible refine (laws_toThingS.calls k _ _ l1 t549 _ ?side1 ?side2 A71.out).mono ?_); (case side1 => repeat (first | exact (Kd.C_below HR1.out HB.out) | (with_reducible refine Kd.C_alloc ?_ _) | (with_reducible refine Kd.C_drewN ?_ _) | (with_reducible refine Kd.C_drew ?_))); (case side2 => exact HC1.out); rintro e w74 ⟨v550, rfl, ho0, hb⟩; refine ⟨_, rfl, ?_⟩; replace HO510 := Aside0.mk (Kd.R_below (by exact Kd.xR HO510.out) hb); replace HO513 := Aside0.mk (Kd.R_below (by exact Kd.xR HO513.out) hb); replace HO526 := Aside0.mk (Kd.R_below (by exact Kd.xR HO526.out) hb); replace HO529 := Aside0.mk (Kd.R_below (by exact Kd.xR HO529.out) hb); replace HO544 := Aside0.mk (Kd.R_below (by exact Kd.xR HO544.out) hb); replace HO547 := Aside0.mk (Kd.R_below (by exact Kd.xR HO547.out) hb); have HO551 := Aside0.mk (Kd.S_lower (Kd.S_new' (Kd.S_new' (Kd.S_new' (Kd.S_new' ho0 (Kd.S_lt (by exact Kd.xS HO516.out))) (Kd.R_lt (by exact Kd.xR HO522.out))) (Kd.S_lt (by exact Kd.xS HO533.out))) (Kd.R_lt (by exact Kd.xR HO539.out))) (below_size (by exact bw HB.out))); replace HO516 := Aside0.mk (Kd.S_elder' (by exact Kd.xS HO516.out) (Kd.S_base ho0) hb); replace HO522 := Aside0.mk (Kd.R_below (by exact Kd.xR HO522.out) hb); replace HO533 := Aside0.mk (Kd.S_elder' (by exact Kd.xS HO533.out) (Kd.S_base ho0) hb); replace HO539 := Aside0.mk (Kd.R_below (by exact Kd.xR HO539.out) hb); replace BK503 := bB BK503 hb; replace BK504 := bB BK504 hb; replace BK530 := bB BK530 hb; replace BK540 := bB BK540 hb; replace HB := bS HB hb; (try clear hb); (try clear hb2); (try clear hk); (try clear hi); (try clear ho0); obtain ⟨Ao75, co75, eo75⟩ := Kd.S_slice HO551.out; subst eo75) | ((with_reducible refine gate_callee (f := 13) rfl ?_); refine gl (some 56) Try.func13 #[.slice Ao59 t531.length co59, .slice Ao75 t549.length co75] ?_; (with_reducible refine (laws_eqThingS.calls k _ _ t531 _ _ t549 t552 _ ?side1 ?side2 ?side3 ?side4 A72.out).mono ?_); (case side1 => repeat (first | exact (Kd.S_reads' HO533.out).2.2 | (with_reducible refine Kd.C_alloc ?_ _) | (with_reducible refine Kd.C_drewN ?_ _) | (with_reducible refine Kd.C_drew ?_))); (case side2 => exact (Kd.S_reads' HO533.out).2.1); (case side3 => repeat (first | exact (Kd.S_reads' HO551.out).2.2 | (with_reducible refine Kd.C_alloc ?_ _) | (with_reducible refine Kd.C_drewN ?_ _) | (with_reducible refine Kd.C_drew ?_))); (case side4 => exact (Kd.S_reads' HO551.out).2.1); rintro e w76 ⟨rfl, hb⟩; refine ⟨_, rfl, ?_⟩; replace HO510 := Aside0.mk (Kd.R_below (by exact Kd.xR HO510.out) hb); replace HO513 := Aside0.mk (Kd.R_below (by exact Kd.xR HO513.out) hb); replace HO516 := Aside0.mk (Kd.S_below (by exact Kd.xS HO516.out) hb); replace HO522 := Aside0.mk (Kd.R_below (by exact Kd.xR HO522.out) hb); replace HO526 := Aside0.mk (Kd.R_below (by exact Kd.xR HO526.out) hb); replace HO529 := Aside0.mk (Kd.R_below (by exact Kd.xR HO529.out) hb); replace HO533 := Aside0.mk (Kd.S_below (by exact Kd.xS HO533.out) hb); replace HO539 := Aside0.mk (Kd.R_below (by exact Kd.xR HO539.out) hb); replace HO544 := Aside0.mk (Kd.R_below (by exact Kd.xR HO544.out) hb); replace HO547 := Aside0.mk (Kd.R_below (by exact Kd.xR HO547.out) hb); replace HO551 := Aside0.mk (Kd.S_below (by exact Kd.xS HO551.out) hb); replace BK503 := bB BK503 hb; replace BK504 := bB BK504 hb; replace BK530 := bB BK530 hb; replace BK540 := bB BK540 hb; replace HB := bS HB hb; (try clear hb); (try clear hb2); (try clear hk); (try clear hi)))
      (try simp only [Act.put, List.setIfInBounds_toArray, List.set_cons_zero, List.set_cons_succ])
      have H := HC73.out
      clear HC73
      by_cases c77 : t552 = true
      ·
       subst c77
       have H1 : ((laws_toRequest.f k a2_0 a2_1 a2_2 l2_3).bind fun bt553 => ((laws_eqRequest.f k t534 t535 t536 t537 bt553.1 bt553.2.1 bt553.2.2.1 bt553.2.2.2).bind fun t559 => (if t559 = true then (some true) else (some false)))) = some r := by rw [if_pos rfl] at H; exact H
       clear H
       have H := H1
       clear H1
       replace H := Option.bind_eq_some_iff.mp H
       obtain ⟨⟨t553, t554, t555, t556⟩, A780, H⟩ := H
       replace H : ((laws_eqRequest.f k t534 t535 t536 t537 t553 t554 t555 t556).bind fun t559 => (if t559 = true then (some true) else (some false))) = some r := H
       have A78 := Aside0.mk A780
       clear A780
       replace H := Option.bind_eq_some_iff.mp H
       obtain ⟨t559, A790, H⟩ := H
       replace H : (if t559 = true then (some true) else (some false)) = some r := H
       have A79 := Aside0.mk A790
       clear A790
       have HC80 := Aside0.mk H
       clear H
       try go_wp2
       replace HO510 := Aside0.mk (Kd.R_drew HO510.out)
       replace HO513 := Aside0.mk (Kd.R_drew HO513.out)
       replace HO516 := Aside0.mk (Kd.S_drew HO516.out)
       replace HO522 := Aside0.mk (Kd.R_drew HO522.out)
       replace HO526 := Aside0.mk (Kd.R_drew HO526.out)
       replace HO529 := Aside0.mk (Kd.R_drew HO529.out)
       replace HO533 := Aside0.mk (Kd.S_drew HO533.out)
       replace HO539 := Aside0.mk (Kd.R_drew HO539.out)
       replace HO544 := Aside0.mk (Kd.R_drew HO544.out)
       replace HO547 := Aside0.mk (Kd.R_drew HO547.out)
       replace HO551 := Aside0.mk (Kd.S_drew HO551.out)
       replace BK503 := Aside0.mk (blk_drew BK503.out)
       replace BK504 := Aside0.mk (blk_drew BK504.out)
       replace BK530 := Aside0.mk (blk_drew BK530.out)
       replace BK540 := Aside0.mk (blk_drew BK540.out)
       replace HB := Aside0.mk (below_drew1 HB.out)
       refine start_ (n := 5) (S := fun w' => w'.cell? ⟨gb540, 0, none⟩ = some (.int .i64 t534) ∧ w'.cell? ⟨gb540, 1, none⟩ = some (.int .i64 t535) ∧ w'.cell? ⟨gb540, 2, none⟩ = some (.int .i64 t536) ∧ w'.cell? ⟨gb540, 3, none⟩ = some (.slice Ao57 t537.length co57) ∧ w'.cell? ⟨gb504, 0, none⟩ = some (.int .i64 a2_0) ∧ w'.cell? ⟨gb504, 1, none⟩ = some (.int .i64 a2_1) ∧ w'.cell? ⟨gb504, 2, none⟩ = some (.int .i64 a2_2) ∧ w'.cell? ⟨gb504, 3, none⟩ = some (.slice A2_3 l2_3.length c2_3)) (ds := []) (mB 5 0) (by kernel_rfl) rfl rfl ⟨(blk_cell BK540.out 0).trans rfl, (blk_cell BK540.out 1).trans rfl, (blk_cell BK540.out 2).trans rfl, (blk_cell BK540.out 3).trans rfl, (blk_cell BK504.out 0).trans rfl, (blk_cell BK504.out 1).trans rfl, (blk_cell BK504.out 2).trans rfl, (blk_cell BK504.out 3).trans rfl⟩ (fun hHeld => ?_)
       generalize w76.drew = w81 at HO510 HO513 HO516 HO522 HO526 HO529 HO533 HO539 HO544 HO547 HO551 BK503 BK504 BK530 BK540 HB hHeld ⊢
       refine take_ (i := 0) (N := some 58) (v := ?_) (a' := ?_) (mB 5 1) rfl rfl (by kernel_rfl) (fun _ _ _ h => h) (Or.inl ⟨by rfl, ?_⟩) hHeld ?_ ?_
       rotate_left
       ·
        rintro w' ⟨s0, s1, s2, s3, s4, s5, s6, s7⟩
        go_simp
        with_reducible rfl
       rotate_left
       ·
        simp only [Act.put, List.setIfInBounds_toArray, List.set_cons_zero, List.set_cons_succ, i64_w, i32_w]
        rfl
       refine take_ (i := 1) (N := some 59) (v := ?_) (a' := ?_) (mB 5 3) rfl rfl (by kernel_rfl) (fun _ _ _ h => h) (Or.inl ⟨by rfl, ?_⟩) hHeld ?_ ?_
       rotate_left
       ·
        rintro w' ⟨s0, s1, s2, s3, s4, s5, s6, s7⟩
        go_simp
        with_reducible rfl
       rotate_left
       ·
        simp only [Act.put, List.setIfInBounds_toArray, List.set_cons_zero, List.set_cons_succ, i64_w, i32_w]
        rfl
       refine one_ (i := 2) (N := some 60) (mB 5 7) rfl rfl (by kernel_rfl) (by decide) (fun K hK => ?_)
       refine gs Try.func16 #[.agg #[.int .i64 a2_0, .int .i64 a2_1, .int .i64 a2_2, .slice A2_3 l2_3.length c2_3]] ?_
       with_reducible refine (laws_toRequest.calls k a2_0 a2_1 a2_2 _ _ l2_3 t553 t554 t555 t556 _ ?side1 ?side2 A78.out).mono ?_
       (case side1 => repeat (first | exact (Kd.C_below HR2_3.out HB.out) | (with_reducible refine Kd.C_alloc ?_ _) | (with_reducible refine Kd.C_drewN ?_ _) | (with_reducible refine Kd.C_drew ?_)))
       (case side2 => exact HC2_3.out)
       rintro e w82 ⟨v557, rfl, ho0, hb⟩
       refine ⟨_, rfl, ?_⟩
       replace HO510 := Aside0.mk (Kd.R_below (by exact Kd.xR HO510.out) hb)
       replace HO513 := Aside0.mk (Kd.R_below (by exact Kd.xR HO513.out) hb)
       replace HO516 := Aside0.mk (Kd.S_elder' (by exact Kd.xS HO516.out) (Kd.R_base ho0) hb)
       replace HO526 := Aside0.mk (Kd.R_below (by exact Kd.xR HO526.out) hb)
       replace HO529 := Aside0.mk (Kd.R_below (by exact Kd.xR HO529.out) hb)
       replace HO533 := Aside0.mk (Kd.S_elder' (by exact Kd.xS HO533.out) (Kd.R_base ho0) hb)
       replace HO544 := Aside0.mk (Kd.R_below (by exact Kd.xR HO544.out) hb)
       replace HO547 := Aside0.mk (Kd.R_below (by exact Kd.xR HO547.out) hb)
       replace HO551 := Aside0.mk (Kd.S_elder' (by exact Kd.xS HO551.out) (Kd.R_base ho0) hb)
       have HO558 := Aside0.mk (Kd.R_lower (Kd.R_new' (Kd.R_new' ho0 (Kd.R_lt (by exact Kd.xR HO522.out))) (Kd.R_lt (by exact Kd.xR HO539.out))) (below_size (by exact bw HB.out)))
       replace HO522 := Aside0.mk (Kd.R_elder' (by exact Kd.xR HO522.out) (Kd.R_base ho0) hb)
       replace HO539 := Aside0.mk (Kd.R_elder' (by exact Kd.xR HO539.out) (Kd.R_base ho0) hb)
       replace BK503 := bB BK503 hb
       replace BK504 := bB BK504 hb
       replace BK530 := bB BK530 hb
       replace BK540 := bB BK540 hb
       replace HB := bS HB hb
       (try clear hb)
       (try clear hb2)
       (try clear hk)
       (try clear hi)
       (try clear ho0)
       obtain ⟨Ao83, co83, eo83⟩ := Kd.R_slice HO558.out
       (first | subst eo83 | (injection eo83 with f1_ f2_ f3_; have f4_ := f1_.symm; have f5_ := f3_.symm; clear f1_ f2_ f3_; subst f4_; subst f5_))
       refine hK.out _ _ ⟨(blk_cell BK540.out 0).trans rfl, (blk_cell BK540.out 1).trans rfl, (blk_cell BK540.out 2).trans rfl, (blk_cell BK540.out 3).trans rfl, (blk_cell BK504.out 0).trans rfl, (blk_cell BK504.out 1).trans rfl, (blk_cell BK504.out 2).trans rfl, (blk_cell BK504.out 3).trans rfl⟩ (fun hHeld => ?_)
       clear hK K
       refine nm (some 60) ?_
       refine one_ (i := 3) (N := some 61) (mB 5 15) rfl rfl (by kernel_rfl) (by decide) (fun K hK => ?_)
       refine gs Try.func18 #[.agg #[.int .i64 t534, .int .i64 t535, .int .i64 t536, .slice Ao57 t537.length co57], .agg #[.int .i64 t553, .int .i64 t554, .int .i64 t555, .slice Ao83 t556.length co83]] ?_
       with_reducible refine (laws_eqRequest.calls k t534 t535 t536 _ _ t537 t553 t554 t555 _ _ t556 t559 _ ?side1 ?side2 ?side3 ?side4 A79.out).mono ?_
       (case side1 => repeat (first | exact (Kd.R_reads' HO539.out).2.2 | (with_reducible refine Kd.C_alloc ?_ _) | (with_reducible refine Kd.C_drewN ?_ _) | (with_reducible refine Kd.C_drew ?_)))
       (case side2 => exact (Kd.R_reads' HO539.out).2.1)
       (case side3 => repeat (first | exact (Kd.R_reads' HO558.out).2.2 | (with_reducible refine Kd.C_alloc ?_ _) | (with_reducible refine Kd.C_drewN ?_ _) | (with_reducible refine Kd.C_drew ?_)))
       (case side4 => exact (Kd.R_reads' HO558.out).2.1)
       rintro e w84 ⟨rfl, hb⟩
       refine ⟨_, rfl, ?_⟩
       replace HO510 := Aside0.mk (Kd.R_below (by exact Kd.xR HO510.out) hb)
       replace HO513 := Aside0.mk (Kd.R_below (by exact Kd.xR HO513.out) hb)
       replace HO516 := Aside0.mk (Kd.S_below (by exact Kd.xS HO516.out) hb)
       replace HO522 := Aside0.mk (Kd.R_below (by exact Kd.xR HO522.out) hb)
       replace HO526 := Aside0.mk (Kd.R_below (by exact Kd.xR HO526.out) hb)
       replace HO529 := Aside0.mk (Kd.R_below (by exact Kd.xR HO529.out) hb)
       replace HO533 := Aside0.mk (Kd.S_below (by exact Kd.xS HO533.out) hb)
       replace HO539 := Aside0.mk (Kd.R_below (by exact Kd.xR HO539.out) hb)
       replace HO544 := Aside0.mk (Kd.R_below (by exact Kd.xR HO544.out) hb)
       replace HO547 := Aside0.mk (Kd.R_below (by exact Kd.xR HO547.out) hb)
       replace HO551 := Aside0.mk (Kd.S_below (by exact Kd.xS HO551.out) hb)
       replace HO558 := Aside0.mk (Kd.R_below (by exact Kd.xR HO558.out) hb)
       replace BK503 := bB BK503 hb
       replace BK504 := bB BK504 hb
       replace BK530 := bB BK530 hb
       replace BK540 := bB BK540 hb
       replace HB := bS HB hb
       (try clear hb)
       (try clear hb2)
       (try clear hk)
       (try clear hi)
       refine hK.out _ _ ⟨(blk_cell BK540.out 0).trans rfl, (blk_cell BK540.out 1).trans rfl, (blk_cell BK540.out 2).trans rfl, (blk_cell BK540.out 3).trans rfl, (blk_cell BK504.out 0).trans rfl, (blk_cell BK504.out 1).trans rfl, (blk_cell BK504.out 2).trans rfl, (blk_cell BK504.out 3).trans rfl⟩ (fun hHeld => ?_)
       clear hK K
       refine nm (some 61) ?_
       refine pure_ (i := 4) (N := some 62) (v := ?_) (a' := ?_) (mB 5 31) rfl rfl (by kernel_rfl) (fun _ _ _ h => h) (Or.inl ⟨by rfl, ?_⟩) ?_ ?_
       rotate_left
       ·
        intro w'
        go_simp
        with_reducible rfl
       rotate_left
       ·
        simp only [Act.put, List.setIfInBounds_toArray, List.set_cons_zero, List.set_cons_succ, i64_w, i32_w]
        rfl
       refine done_ (by kernel_rfl) ?_
       go_upto_if 62 with (fail)
       have H := HC80.out
       clear HC80
       by_cases c85 : t559 = true
       ·
        subst c85
        have H1 : (some true) = some r := by rw [if_pos rfl] at H; exact H
        clear H
        have H := H1
        clear H1
        obtain rfl := Option.some.inj H
        go_wp2
        go_ret
        exact ⟨by first | rfl | (simp [errW_none, errW_some] <;> rfl) | (simp [*, errW_none, errW_some] <;> rfl), by exact bw HB.out⟩
       ·
        replace c85 := Bool.eq_false_iff.mpr c85
        subst c85
        have H1 : (some false) = some r := by rw [if_neg (show ¬ (false = true) by decide)] at H; exact H
        clear H
        have H := H1
        clear H1
        obtain rfl := Option.some.inj H
        go_wp2
        go_ret
        exact ⟨by first | rfl | (simp [errW_none, errW_some] <;> rfl) | (simp [*, errW_none, errW_some] <;> rfl), by exact bw HB.out⟩
      ·
       replace c77 := Bool.eq_false_iff.mpr c77
       subst c77
       have H1 : (some false) = some r := by rw [if_neg (show ¬ (false = true) by decide)] at H; exact H
       clear H
       have H := H1
       clear H1
       obtain rfl := Option.some.inj H
       go_wp2
       go_ret
       exact ⟨by first | rfl | (simp [errW_none, errW_some] <;> rfl) | (simp [*, errW_none, errW_some] <;> rfl), by exact bw HB.out⟩
     ·
      replace c70 := Bool.eq_false_iff.mpr c70
      subst c70
      have H1 : (some false) = some r := by rw [if_neg (show ¬ (false = true) by decide)] at H; exact H
      clear H
      have H := H1
      clear H1
      obtain rfl := Option.some.inj H
      go_wp2
      go_ret
      exact ⟨by first | rfl | (simp [errW_none, errW_some] <;> rfl) | (simp [*, errW_none, errW_some] <;> rfl), by exact bw HB.out⟩

/-- THE ONE PURE STATEMENT of laws_FnExactConforms: yours. -/
def laws_FnExactConforms.Pure : Prop := ∀ (l0_0 : List (S107)) (l0_1 : List (S107)) (l1 : List (S68)) (a2_0 : Int) (a2_1 : Int) (a2_2 : Int) (l2_3 : List (S82)), Fine57 (⟨l0_0, l0_1⟩ : S57) → (l1.length ≤ maxLen ∧ ∀ y0_ ∈ l1, Fine68 y0_) → Fine31 (⟨a2_0, a2_1, a2_2, l2_3⟩ : S31) → ∃ k, laws_FnExactConforms.f k l0_0 l0_1 l1 a2_0 a2_1 a2_2 l2_3 = some true
theorem laws_FnExactConforms.walk (P : laws_FnExactConforms.Pure) (A0_0 : Option Addr) (c0_0 : Nat) (l0_0 : List (S107)) (A0_1 : Option Addr) (c0_1 : Nat) (l0_1 : List (S107)) (A1 : Option Addr) (c1 : Nat) (l1 : List (S68)) (a2_0 : Int) (a2_1 : Int) (a2_2 : Int) (A2_3 : Option Addr) (c2_3 : Nat) (l2_3 : List (S82)) (w : World) (hr0_0 : Kd.C k107 w A0_0 l0_0.length l0_0) (hc0_0 : l0_0.length ≤ c0_0) (hr0_1 : Kd.C k107 w A0_1 l0_1.length l0_1) (hc0_1 : l0_1.length ≤ c0_1) (w0 : Fine57 (⟨l0_0, l0_1⟩ : S57)) (hr1 : Kd.C k68 w A1 l1.length l1) (hc1 : l1.length ≤ c1) (w1 : (l1.length ≤ maxLen ∧ ∀ y0_ ∈ l1, Fine68 y0_)) (hr2_3 : Kd.C k82 w A2_3 l2_3.length l2_3) (hc2_3 : l2_3.length ≤ c2_3) (w2 : Fine31 (⟨a2_0, a2_1, a2_2, l2_3⟩ : S31)) :
  Calls Try.prog 8 #[.agg #[.slice A0_0 l0_0.length c0_0, .slice A0_1 l0_1.length c0_1], .slice A1 l1.length c1, .agg #[.int .i64 a2_0, .int .i64 a2_1, .int .i64 a2_2, .slice A2_3 l2_3.length c2_3]] w fun e w' => e = .returned (.bool true) ∧ Below w.heap.size w w' := by
 obtain ⟨k, h⟩ := P l0_0 l0_1 l1 a2_0 a2_1 a2_2 l2_3 w0 w1 w2
 refine (laws_FnExactConforms.calls k _ _ l0_0 _ _ l0_1 _ _ l1 a2_0 a2_1 a2_2 _ _ l2_3 true w hr0_0 hc0_0 hr0_1 hc0_1 hr1 hc1 hr2_3 hc2_3 h).mono ?_
 rintro e w' ⟨rfl, hd⟩
 exact ⟨rfl, hd⟩

end Go.Proofs.Ytacpkmdnoggmoaa.P
