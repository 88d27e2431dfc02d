-- Written by a program of this session (wip/tool).
import Derived.Test.YtbbbgochcfccgaaPx0
import Derived.Test.YtbbbgochcfccgaaPx1013
import Derived.Test.YtbbbgochcfccgaaPx1015
import Derived.Test.YtbbbgochcfccgaaPx1028
import Derived.Test.YtbbbgochcfccgaaPx1031
import Derived.Test.YtbbbgochcfccgaaPx1035
import Derived.Test.YtbbbgochcfccgaaPx1064
namespace Go.Proofs.Ytbbbgochcfccgaa.P
open Go.RowKit Go.Proofs.YtbbbgochcfccgaaW.PrintWords Go.Proofs.YtbbbgochcfccgaaW.PrintLast Go.Proofs.YtbbbgochcfccgaaW.PrintMore
attribute [local go_sem] max2_int min2_int max_two min_two max_three min_three max_four min_four   -- for this text's walks alone
set_option linter.unusedVariables false
set_option linter.unusedSimpArgs false

/-! ### laws_FnExactKindOf: function 4 -/
def laws_FnExactKindOf.f (k : Nat) (l0_0 : List (S87)) (l0_1 : List (S87)) (a1_0 : Int) (a1_1 : Int) (a1_2 : ByteArray) (l1_3 : List (S24)) : Option (Bool) := (laws_szSchema.f k l0_0 l0_1 1048576).bind fun t318 => (if t318 < 0 then (some true) else ((laws_szExpr.f k a1_0 a1_1 a1_2 l1_3 t318).bind fun t319 => (if t319 < 0 then (some true) else ((laws_toSchema.f k l0_0 l0_1).bind fun bt320 => ((laws_toExpr.f k a1_0 a1_1 a1_2 l1_3).bind fun bt326 => ((spec_KindOf.f k bt320.1 bt320.2 bt326.1 bt326.2.1 bt326.2.2.1 bt326.2.2.2).bind fun t332 => ((laws_toSchema.f k l0_0 l0_1).bind fun bt333 => ((laws_toExpr.f k a1_0 a1_1 a1_2 l1_3).bind fun bt340 => ((impl_KindOf.f k bt333.1 bt333.2 bt340.1 bt340.2.1 bt340.2.2.1 bt340.2.2.2).bind fun t347 => (if t347 = t332 then ((laws_toSchema.f k l0_0 l0_1).bind fun bt348 => ((laws_eqSchema.f k bt333.1 bt333.2 bt348.1 bt348.2).bind fun t354 => (if t354 = true then ((laws_toExpr.f k a1_0 a1_1 a1_2 l1_3).bind fun bt355 => ((laws_eqExpr.f k bt340.1 bt340.2.1 bt340.2.2.1 bt340.2.2.2 bt355.1 bt355.2.1 bt355.2.2.1 bt355.2.2.2).bind fun t361 => (if t361 = true then (some true) else (some false)))) else (some false)))) else (some false)))))))))))
theorem laws_FnExactKindOf.mono : ∀ a0 a1 a2 a3 a4 a5 k, LeO (laws_FnExactKindOf.f k a0 a1 a2 a3 a4 a5) (laws_FnExactKindOf.f (k + 1) a0 a1 a2 a3 a4 a5) := by
 intro a0 a1 a2 a3 a4 a5 k
 unfold laws_FnExactKindOf.f
 repeat' first
   | (with_reducible exact impl_KindOf.mono _ _ _ _ _ _ _)
   | (with_reducible exact laws_eqExpr.mono _ _ _ _ _ _ _ _ _)
   | (with_reducible exact laws_eqSchema.mono _ _ _ _ _)
   | (with_reducible exact laws_szExpr.mono _ _ _ _ _ _)
   | (with_reducible exact laws_szSchema.mono _ _ _ _)
   | (with_reducible exact laws_toExpr.mono _ _ _ _ _)
   | (with_reducible exact laws_toSchema.mono _ _ _)
   | (with_reducible exact spec_KindOf.mono _ _ _ _ _ _ _)
   | (with_reducible exact LeO.refl _)
   | (with_reducible exact LeO.none _)
   | (with_reducible refine LeO.ite ?_ ?_)
   | (with_reducible refine LeO.bind ?_ (fun _ => ?_))
   | exact impl_KindOf.mono _ _ _ _ _ _ _
   | exact laws_eqExpr.mono _ _ _ _ _ _ _ _ _
   | exact laws_eqSchema.mono _ _ _ _ _
   | exact laws_szExpr.mono _ _ _ _ _ _
   | exact laws_szSchema.mono _ _ _ _
   | exact laws_toExpr.mono _ _ _ _ _
   | exact laws_toSchema.mono _ _ _
   | exact spec_KindOf.mono _ _ _ _ _ _ _
   | exact LeO.none _
   | refine LeO.ite ?_ ?_
   | refine LeO.bind ?_ (fun _ => ?_)
set_option maxHeartbeats 8000000 in
set_option maxRecDepth 100000 in
theorem laws_FnExactKindOf.calls (k : Nat) (A0_0 : Option Addr) (c0_0 : Nat) (l0_0 : List (S87)) (A0_1 : Option Addr) (c0_1 : Nat) (l0_1 : List (S87)) (a1_0 : Int) (a1_1 : Int) (a1_2 : ByteArray) (A1_3 : Option Addr) (c1_3 : Nat) (l1_3 : List (S24)) (r : Bool) (w : World) (hr0_0 : Kd.C k87 w A0_0 l0_0.length l0_0) (hc0_0 : l0_0.length ≤ c0_0) (hr0_1 : Kd.C k87 w A0_1 l0_1.length l0_1) (hc0_1 : l0_1.length ≤ c0_1) (hr1_3 : Kd.C k24 w A1_3 l1_3.length l1_3) (hc1_3 : l1_3.length ≤ c1_3) (h : laws_FnExactKindOf.f k l0_0 l0_1 a1_0 a1_1 a1_2 l1_3 = some r) :
  Calls Try.prog 4 #[.agg #[.slice A0_0 l0_0.length c0_0, .slice A0_1 l0_1.length c0_1], .agg #[.int .i64 a1_0, .int .i64 a1_1, .string a1_2, .slice A1_3 l1_3.length c1_3]] w fun e w' => e = .returned (.bool r) ∧ Below w.heap.size w w' := by
 have hu35 := Try.underlying35
 have hu24 := Try.underlying24
 have hu40 := Try.underlying40
 have hu29 := Try.underlying29
 have HR0_0 := Aside0.mk hr0_0
 have HC0_0 := Aside0.mk hc0_0
 clear hr0_0 hc0_0
 have HR0_1 := Aside0.mk hr0_1
 have HC0_1 := Aside0.mk hc0_1
 clear hr0_1 hc0_1
 have HR1_3 := Aside0.mk hr1_3
 have HC1_3 := Aside0.mk hc1_3
 clear hr1_3 hc1_3
 have HB := Aside0.mk (Below.refl w.heap.size w)
 have H : ((laws_szSchema.f k l0_0 l0_1 1048576).bind fun t318 => (if t318 < 0 then (some true) else ((laws_szExpr.f k a1_0 a1_1 a1_2 l1_3 t318).bind fun t319 => (if t319 < 0 then (some true) else ((laws_toSchema.f k l0_0 l0_1).bind fun bt320 => ((laws_toExpr.f k a1_0 a1_1 a1_2 l1_3).bind fun bt326 => ((spec_KindOf.f k bt320.1 bt320.2 bt326.1 bt326.2.1 bt326.2.2.1 bt326.2.2.2).bind fun t332 => ((laws_toSchema.f k l0_0 l0_1).bind fun bt333 => ((laws_toExpr.f k a1_0 a1_1 a1_2 l1_3).bind fun bt340 => ((impl_KindOf.f k bt333.1 bt333.2 bt340.1 bt340.2.1 bt340.2.2.1 bt340.2.2.2).bind fun t347 => (if t347 = t332 then ((laws_toSchema.f k l0_0 l0_1).bind fun bt348 => ((laws_eqSchema.f k bt333.1 bt333.2 bt348.1 bt348.2).bind fun t354 => (if t354 = true then ((laws_toExpr.f k a1_0 a1_1 a1_2 l1_3).bind fun bt355 => ((laws_eqExpr.f k bt340.1 bt340.2.1 bt340.2.2.1 bt340.2.2.2 bt355.1 bt355.2.1 bt355.2.2.1 bt355.2.2.2).bind fun t361 => (if t361 = true then (some true) else (some false)))) else (some false)))) else (some false)))))))))))) = some r := h
 clear h
 replace H := Option.bind_eq_some_iff.mp H
 obtain ⟨t318, A30, H⟩ := H
 replace H : (if t318 < 0 then (some true) else ((laws_szExpr.f k a1_0 a1_1 a1_2 l1_3 t318).bind fun t319 => (if t319 < 0 then (some true) else ((laws_toSchema.f k l0_0 l0_1).bind fun bt320 => ((laws_toExpr.f k a1_0 a1_1 a1_2 l1_3).bind fun bt326 => ((spec_KindOf.f k bt320.1 bt320.2 bt326.1 bt326.2.1 bt326.2.2.1 bt326.2.2.2).bind fun t332 => ((laws_toSchema.f k l0_0 l0_1).bind fun bt333 => ((laws_toExpr.f k a1_0 a1_1 a1_2 l1_3).bind fun bt340 => ((impl_KindOf.f k bt333.1 bt333.2 bt340.1 bt340.2.1 bt340.2.2.1 bt340.2.2.2).bind fun t347 => (if t347 = t332 then ((laws_toSchema.f k l0_0 l0_1).bind fun bt348 => ((laws_eqSchema.f k bt333.1 bt333.2 bt348.1 bt348.2).bind fun t354 => (if t354 = true then ((laws_toExpr.f k a1_0 a1_1 a1_2 l1_3).bind fun bt355 => ((laws_eqExpr.f k bt340.1 bt340.2.1 bt340.2.2.1 bt340.2.2.2 bt355.1 bt355.2.1 bt355.2.2.1 bt355.2.2.2).bind fun t361 => (if t361 = true then (some true) else (some false)))) else (some false)))) else (some false))))))))))) = some r := H
 have A3 := Aside0.mk A30
 clear A30
 have HC4 := Aside0.mk H
 clear H
 go_enter Try.func4, Try.ntmps4
 go_upto_if 14 with (first | ((with_reducible refine gate_dst (N := 2) rfl ?_); refine bx 2 #[.slice A0_0 l0_0.length c0_0, .slice A0_1 l0_1.length c0_1] 35 ?_; intro gb316 hg w5 hbox hb; have BK316 := Aside0.mk (hbox); have GW316 := gwB HB hg; have GE316 := gwB HB hg; replace HB := bS HB hb; clear hb hbox hg) | ((with_reducible refine gate_dst (N := 3) rfl ?_); refine bx 3 #[.int .i64 a1_0, .int .i64 a1_1, .string a1_2, .slice A1_3 l1_3.length c1_3] 24 ?_; intro gb317 hg w6 hbox hb; have BK317 := Aside0.mk (hbox); have GW317 := gwB HB hg; have GE317 := gwB HB hg; replace HB := bS HB hb; have NB316_317 := nbL BK316 hg; have NB317_316 := nbR BK316 hg; replace BK316 := bB BK316 hb; clear hb hbox hg; have hnb7 := NB316_317.out; have hnc7 := NB317_316.out; obtain ⟨hcz8_0, hcz8_1⟩ := cs2 BK316.out; obtain ⟨hfz8_0, hfz8_1⟩ := fz2 BK316.out) | ((with_reducible refine gate_callee (f := 12) rfl ?_); refine gl (some 12) Try.func12 #[.agg #[.slice A0_0 l0_0.length c0_0, .slice A0_1 l0_1.length c0_1], .int .i64 1048576] ?_; (with_reducible refine (laws_szSchema.calls k _ _ l0_0 _ _ l0_1 1048576 t318 _ ?side1 ?side2 ?side3 ?side4 A3.out).mono ?_); (case side1 => repeat (first | exact (Kd.C_below HR0_0.out HB.out) | (with_reducible refine Kd.C_alloc ?_ _) | (with_reducible refine Kd.C_drewN ?_ _) | (with_reducible refine Kd.C_drew ?_))); (case side2 => exact HC0_0.out); (case side3 => repeat (first | exact (Kd.C_below HR0_1.out HB.out) | (with_reducible refine Kd.C_alloc ?_ _) | (with_reducible refine Kd.C_drewN ?_ _) | (with_reducible refine Kd.C_drew ?_))); (case side4 => exact HC0_1.out); rintro e w9 ⟨rfl, hb⟩; refine ⟨_, rfl, ?_⟩; replace BK316 := bB BK316 hb; replace BK317 := bB BK317 hb; replace HB := bS HB hb; (try clear hb); (try clear hb2); (try clear hk); (try clear hi)))
 (try simp only [Act.put, List.setIfInBounds_toArray, List.set_cons_zero, List.set_cons_succ])
 have H := HC4.out
 clear HC4
 by_cases c10 : t318 < 0
 ·
  rw [if_pos c10] at H; have c10b0 : decide (t318 < 0) = true := decide_eq_true c10; clear c10
  (first | rw [c10b0] | (simp only [i64_w, i32_w]; rw [c10b0]) | rw [c10b2] | rw [c10b1] | skip)
  obtain rfl := Option.some.inj H
  go_wp2
  go_ret
  exact ⟨by first | rfl | (simp [errW_none, errW_some] <;> rfl) | (simp [*, errW_none, errW_some] <;> rfl), by exact bw HB.out⟩
 ·
  rw [if_neg c10] at H; have c10b0 : decide (t318 < 0) = false := decide_eq_false c10; clear c10
  (first | rw [c10b0] | (simp only [i64_w, i32_w]; rw [c10b0]) | rw [c10b2] | rw [c10b1] | skip)
  replace H := Option.bind_eq_some_iff.mp H
  obtain ⟨t319, A110, H⟩ := H
  replace H : (if t319 < 0 then (some true) else ((laws_toSchema.f k l0_0 l0_1).bind fun bt320 => ((laws_toExpr.f k a1_0 a1_1 a1_2 l1_3).bind fun bt326 => ((spec_KindOf.f k bt320.1 bt320.2 bt326.1 bt326.2.1 bt326.2.2.1 bt326.2.2.2).bind fun t332 => ((laws_toSchema.f k l0_0 l0_1).bind fun bt333 => ((laws_toExpr.f k a1_0 a1_1 a1_2 l1_3).bind fun bt340 => ((impl_KindOf.f k bt333.1 bt333.2 bt340.1 bt340.2.1 bt340.2.2.1 bt340.2.2.2).bind fun t347 => (if t347 = t332 then ((laws_toSchema.f k l0_0 l0_1).bind fun bt348 => ((laws_eqSchema.f k bt333.1 bt333.2 bt348.1 bt348.2).bind fun t354 => (if t354 = true then ((laws_toExpr.f k a1_0 a1_1 a1_2 l1_3).bind fun bt355 => ((laws_eqExpr.f k bt340.1 bt340.2.1 bt340.2.2.1 bt340.2.2.2 bt355.1 bt355.2.1 bt355.2.2.1 bt355.2.2.2).bind fun t361 => (if t361 = true then (some true) else (some false)))) else (some false)))) else (some false))))))))) = some r := H
  have A11 := Aside0.mk A110
  clear A110
  have HC12 := Aside0.mk H
  clear H
  have hnb13 := NB317_316.out
  have hnc13 := NB316_317.out
  have hcz14_0 : w9.cell? ⟨gb317, 0, none⟩ = some (.int .i64 a1_0) := (blk_cell BK317.out 0).trans rfl
  have hcz14_1 : w9.cell? ⟨gb317, 1, none⟩ = some (.int .i64 a1_1) := (blk_cell BK317.out 1).trans rfl
  have hcz14_2 : w9.cell? ⟨gb317, 2, none⟩ = some (.string a1_2) := (blk_cell BK317.out 2).trans rfl
  have hcz14_3 : w9.cell? ⟨gb317, 3, none⟩ = some (.slice A1_3 l1_3.length c1_3) := (blk_cell BK317.out 3).trans rfl
  have hfz14_0 := blk_frozen BK317.out 0
  have hfz14_1 := blk_frozen BK317.out 1
  have hfz14_2 := blk_frozen BK317.out 2
  have hfz14_3 := blk_frozen BK317.out 3
  go_upto_if 19 with (first | ((with_reducible refine gate_callee (f := 7) rfl ?_); refine gl (some 17) Try.func7 #[.agg #[.int .i64 a1_0, .int .i64 a1_1, .string a1_2, .slice A1_3 l1_3.length c1_3], .int .i64 t318] ?_; (with_reducible refine (laws_szExpr.calls k a1_0 a1_1 a1_2 _ _ l1_3 t318 t319 _ ?side1 ?side2 A11.out).mono ?_); (case side1 => repeat (first | exact (Kd.C_below HR1_3.out HB.out) | (with_reducible refine Kd.C_alloc ?_ _) | (with_reducible refine Kd.C_drewN ?_ _) | (with_reducible refine Kd.C_drew ?_))); (case side2 => exact HC1_3.out); rintro e w15 ⟨rfl, hb⟩; refine ⟨_, rfl, ?_⟩; replace BK316 := bB BK316 hb; replace BK317 := bB BK317 hb; replace HB := bS HB hb; (try clear hb); (try clear hb2); (try clear hk); (try clear hi)))
  (try simp only [Act.put, List.setIfInBounds_toArray, List.set_cons_zero, List.set_cons_succ])
  have H := HC12.out
  clear HC12
  by_cases c16 : t319 < 0
  ·
   rw [if_pos c16] at H; have c16b0 : decide (t319 < 0) = true := decide_eq_true c16; clear c16
   (first | rw [c16b0] | (simp only [i64_w, i32_w]; rw [c16b0]) | rw [c16b2] | rw [c16b1] | skip)
   obtain rfl := Option.some.inj H
   go_wp2
   go_ret
   exact ⟨by first | rfl | (simp [errW_none, errW_some] <;> rfl) | (simp [*, errW_none, errW_some] <;> rfl), by exact bw HB.out⟩
  ·
   rw [if_neg c16] at H; have c16b0 : decide (t319 < 0) = false := decide_eq_false c16; clear c16
   (first | rw [c16b0] | (simp only [i64_w, i32_w]; rw [c16b0]) | rw [c16b2] | rw [c16b1] | skip)
   replace H := Option.bind_eq_some_iff.mp H
   obtain ⟨⟨t320, t323⟩, A170, H⟩ := H
   replace H : ((laws_toExpr.f k a1_0 a1_1 a1_2 l1_3).bind fun bt326 => ((spec_KindOf.f k t320 t323 bt326.1 bt326.2.1 bt326.2.2.1 bt326.2.2.2).bind fun t332 => ((laws_toSchema.f k l0_0 l0_1).bind fun bt333 => ((laws_toExpr.f k a1_0 a1_1 a1_2 l1_3).bind fun bt340 => ((impl_KindOf.f k bt333.1 bt333.2 bt340.1 bt340.2.1 bt340.2.2.1 bt340.2.2.2).bind fun t347 => (if t347 = t332 then ((laws_toSchema.f k l0_0 l0_1).bind fun bt348 => ((laws_eqSchema.f k bt333.1 bt333.2 bt348.1 bt348.2).bind fun t354 => (if t354 = true then ((laws_toExpr.f k a1_0 a1_1 a1_2 l1_3).bind fun bt355 => ((laws_eqExpr.f k bt340.1 bt340.2.1 bt340.2.2.1 bt340.2.2.2 bt355.1 bt355.2.1 bt355.2.2.1 bt355.2.2.2).bind fun t361 => (if t361 = true then (some true) else (some false)))) else (some false)))) else (some false))))))) = some r := H
   have A17 := Aside0.mk A170
   clear A170
   replace H := Option.bind_eq_some_iff.mp H
   obtain ⟨⟨t326, t327, t328, t329⟩, A180, H⟩ := H
   replace H : ((spec_KindOf.f k t320 t323 t326 t327 t328 t329).bind fun t332 => ((laws_toSchema.f k l0_0 l0_1).bind fun bt333 => ((laws_toExpr.f k a1_0 a1_1 a1_2 l1_3).bind fun bt340 => ((impl_KindOf.f k bt333.1 bt333.2 bt340.1 bt340.2.1 bt340.2.2.1 bt340.2.2.2).bind fun t347 => (if t347 = t332 then ((laws_toSchema.f k l0_0 l0_1).bind fun bt348 => ((laws_eqSchema.f k bt333.1 bt333.2 bt348.1 bt348.2).bind fun t354 => (if t354 = true then ((laws_toExpr.f k a1_0 a1_1 a1_2 l1_3).bind fun bt355 => ((laws_eqExpr.f k bt340.1 bt340.2.1 bt340.2.2.1 bt340.2.2.2 bt355.1 bt355.2.1 bt355.2.2.1 bt355.2.2.2).bind fun t361 => (if t361 = true then (some true) else (some false)))) else (some false)))) else (some false)))))) = some r := H
   have A18 := Aside0.mk A180
   clear A180
   replace H := Option.bind_eq_some_iff.mp H
   obtain ⟨t332, A190, H⟩ := H
   replace H : ((laws_toSchema.f k l0_0 l0_1).bind fun bt333 => ((laws_toExpr.f k a1_0 a1_1 a1_2 l1_3).bind fun bt340 => ((impl_KindOf.f k bt333.1 bt333.2 bt340.1 bt340.2.1 bt340.2.2.1 bt340.2.2.2).bind fun t347 => (if t347 = t332 then ((laws_toSchema.f k l0_0 l0_1).bind fun bt348 => ((laws_eqSchema.f k bt333.1 bt333.2 bt348.1 bt348.2).bind fun t354 => (if t354 = true then ((laws_toExpr.f k a1_0 a1_1 a1_2 l1_3).bind fun bt355 => ((laws_eqExpr.f k bt340.1 bt340.2.1 bt340.2.2.1 bt340.2.2.2 bt355.1 bt355.2.1 bt355.2.2.1 bt355.2.2.2).bind fun t361 => (if t361 = true then (some true) else (some false)))) else (some false)))) else (some false))))) = some r := H
   have A19 := Aside0.mk A190
   clear A190
   replace H := Option.bind_eq_some_iff.mp H
   obtain ⟨⟨t333, t336⟩, A200, H⟩ := H
   replace H : ((laws_toExpr.f k a1_0 a1_1 a1_2 l1_3).bind fun bt340 => ((impl_KindOf.f k t333 t336 bt340.1 bt340.2.1 bt340.2.2.1 bt340.2.2.2).bind fun t347 => (if t347 = t332 then ((laws_toSchema.f k l0_0 l0_1).bind fun bt348 => ((laws_eqSchema.f k t333 t336 bt348.1 bt348.2).bind fun t354 => (if t354 = true then ((laws_toExpr.f k a1_0 a1_1 a1_2 l1_3).bind fun bt355 => ((laws_eqExpr.f k bt340.1 bt340.2.1 bt340.2.2.1 bt340.2.2.2 bt355.1 bt355.2.1 bt355.2.2.1 bt355.2.2.2).bind fun t361 => (if t361 = true then (some true) else (some false)))) else (some false)))) else (some false)))) = some r := H
   have A20 := Aside0.mk A200
   clear A200
   replace H := Option.bind_eq_some_iff.mp H
   obtain ⟨⟨t340, t341, t342, t343⟩, A210, H⟩ := H
   replace H : ((impl_KindOf.f k t333 t336 t340 t341 t342 t343).bind fun t347 => (if t347 = t332 then ((laws_toSchema.f k l0_0 l0_1).bind fun bt348 => ((laws_eqSchema.f k t333 t336 bt348.1 bt348.2).bind fun t354 => (if t354 = true then ((laws_toExpr.f k a1_0 a1_1 a1_2 l1_3).bind fun bt355 => ((laws_eqExpr.f k t340 t341 t342 t343 bt355.1 bt355.2.1 bt355.2.2.1 bt355.2.2.2).bind fun t361 => (if t361 = true then (some true) else (some false)))) else (some false)))) else (some false))) = some r := H
   have A21 := Aside0.mk A210
   clear A210
   replace H := Option.bind_eq_some_iff.mp H
   obtain ⟨t347, A220, H⟩ := H
   replace H : (if t347 = t332 then ((laws_toSchema.f k l0_0 l0_1).bind fun bt348 => ((laws_eqSchema.f k t333 t336 bt348.1 bt348.2).bind fun t354 => (if t354 = true then ((laws_toExpr.f k a1_0 a1_1 a1_2 l1_3).bind fun bt355 => ((laws_eqExpr.f k t340 t341 t342 t343 bt355.1 bt355.2.1 bt355.2.2.1 bt355.2.2.2).bind fun t361 => (if t361 = true then (some true) else (some false)))) else (some false)))) else (some false)) = some r := H
   have A22 := Aside0.mk A220
   clear A220
   have HC23 := Aside0.mk H
   clear H
   try go_wp2
   replace BK316 := Aside0.mk (blk_drew BK316.out)
   replace BK317 := Aside0.mk (blk_drew BK317.out)
   replace HB := Aside0.mk (below_drew1 HB.out)
   refine start_ (n := 6) (S := fun w' => w'.cell? ⟨gb316, 0, none⟩ = some (.slice A0_0 l0_0.length c0_0) ∧ w'.cell? ⟨gb316, 1, none⟩ = some (.slice A0_1 l0_1.length c0_1) ∧ w'.cell? ⟨gb317, 0, none⟩ = some (.int .i64 a1_0) ∧ w'.cell? ⟨gb317, 1, none⟩ = some (.int .i64 a1_1) ∧ w'.cell? ⟨gb317, 2, none⟩ = some (.string a1_2) ∧ w'.cell? ⟨gb317, 3, none⟩ = some (.slice A1_3 l1_3.length c1_3)) (ds := []) (mB 6 0) (by kernel_rfl) rfl rfl ⟨(blk_cell BK316.out 0).trans rfl, (blk_cell BK316.out 1).trans rfl, (blk_cell BK317.out 0).trans rfl, (blk_cell BK317.out 1).trans rfl, (blk_cell BK317.out 2).trans rfl, (blk_cell BK317.out 3).trans rfl⟩ (fun hHeld => ?_)
   generalize w15.drew = w24 at BK316 BK317 HB hHeld ⊢
   refine take_ (i := 0) (N := some 20) (v := ?_) (a' := ?_) (mB 6 1) rfl rfl (by kernel_rfl) (fun _ _ _ h => h) (Or.inl ⟨by rfl, ?_⟩) hHeld ?_ ?_
   rotate_left
   ·
    rintro w' ⟨s0, s1, s2, s3, s4, s5⟩
    go_simp
    with_reducible rfl
   rotate_left
   ·
    simp only [Act.put, List.setIfInBounds_toArray, List.set_cons_zero, List.set_cons_succ, i64_w, i32_w]
    rfl
   refine take_ (i := 2) (N := some 22) (v := ?_) (a' := ?_) (mB 6 5) rfl rfl (by kernel_rfl) (fun _ _ _ h => h) (Or.inl ⟨by rfl, ?_⟩) hHeld ?_ ?_
   rotate_left
   ·
    rintro w' ⟨s0, s1, s2, s3, s4, s5⟩
    go_simp
    with_reducible rfl
   rotate_left
   ·
    simp only [Act.put, List.setIfInBounds_toArray, List.set_cons_zero, List.set_cons_succ, i64_w, i32_w]
    rfl
   refine one_ (i := 1) (N := some 21) (mB 6 7) rfl rfl (by kernel_rfl) (by decide) (fun K hK => ?_)
   refine gs Try.func14 #[.agg #[.slice A0_0 l0_0.length c0_0, .slice A0_1 l0_1.length c0_1]] ?_
   with_reducible refine (laws_toSchema.calls k _ _ l0_0 _ _ l0_1 t320 t323 _ ?side1 ?side2 ?side3 ?side4 A17.out).mono ?_
   (case side1 => repeat (first | exact (Kd.C_below HR0_0.out HB.out) | (with_reducible refine Kd.C_alloc ?_ _) | (with_reducible refine Kd.C_drewN ?_ _) | (with_reducible refine Kd.C_drew ?_)))
   (case side2 => exact HC0_0.out)
   (case side3 => repeat (first | exact (Kd.C_below HR0_1.out HB.out) | (with_reducible refine Kd.C_alloc ?_ _) | (with_reducible refine Kd.C_drewN ?_ _) | (with_reducible refine Kd.C_drew ?_)))
   (case side4 => exact HC0_1.out)
   rintro e w25 ⟨v321, v324, rfl, ho0, ho1, hb⟩
   refine ⟨_, rfl, ?_⟩
   have HO322 := Aside0.mk (Kd.R_lower ho0 (below_size (by exact bw HB.out)))
   have HO325 := Aside0.mk (Kd.R_lower ho1 (below_size (by exact bw HB.out)))
   replace BK316 := bB BK316 hb
   replace BK317 := bB BK317 hb
   replace HB := bS HB hb
   (try clear hb)
   (try clear hb2)
   (try clear hk)
   (try clear hi)
   (try clear ho0)
   (try clear ho1)
   refine hK.out _ _ ⟨(blk_cell BK316.out 0).trans rfl, (blk_cell BK316.out 1).trans rfl, (blk_cell BK317.out 0).trans rfl, (blk_cell BK317.out 1).trans rfl, (blk_cell BK317.out 2).trans rfl, (blk_cell BK317.out 3).trans rfl⟩ (fun hHeld => ?_)
   clear hK K
   refine nm (some 21) ?_
   refine one_ (i := 3) (N := some 23) (mB 6 15) rfl rfl (by kernel_rfl) (by decide) (fun K hK => ?_)
   refine gs Try.func9 #[.agg #[.int .i64 a1_0, .int .i64 a1_1, .string a1_2, .slice A1_3 l1_3.length c1_3]] ?_
   with_reducible refine (laws_toExpr.calls k a1_0 a1_1 a1_2 _ _ l1_3 t326 t327 t328 t329 _ ?side1 ?side2 A18.out).mono ?_
   (case side1 => repeat (first | exact (Kd.C_below HR1_3.out HB.out) | (with_reducible refine Kd.C_alloc ?_ _) | (with_reducible refine Kd.C_drewN ?_ _) | (with_reducible refine Kd.C_drew ?_)))
   (case side2 => exact HC1_3.out)
   rintro e w26 ⟨v330, rfl, ho0, hb⟩
   refine ⟨_, rfl, ?_⟩
   replace HO322 := Aside0.mk (Kd.R_below (by exact Kd.xR HO322.out) hb)
   replace HO325 := Aside0.mk (Kd.R_below (by exact Kd.xR HO325.out) hb)
   have HO331 := Aside0.mk (Kd.R_lower ho0 (below_size (by exact bw HB.out)))
   replace BK316 := bB BK316 hb
   replace BK317 := bB BK317 hb
   replace HB := bS HB hb
   (try clear hb)
   (try clear hb2)
   (try clear hk)
   (try clear hi)
   (try clear ho0)
   obtain ⟨Ao27, co27, eo27⟩ := Kd.R_slice HO322.out
   (first | subst eo27 | (injection eo27 with f1_ f2_ f3_; have f4_ := f1_.symm; have f5_ := f3_.symm; clear f1_ f2_ f3_; subst f4_; subst f5_))
   obtain ⟨Ao28, co28, eo28⟩ := Kd.R_slice HO325.out
   (first | subst eo28 | (injection eo28 with f1_ f2_ f3_; have f4_ := f1_.symm; have f5_ := f3_.symm; clear f1_ f2_ f3_; subst f4_; subst f5_))
   obtain ⟨Ao29, co29, eo29⟩ := Kd.R_slice HO331.out
   (first | subst eo29 | (injection eo29 with f1_ f2_ f3_; have f4_ := f1_.symm; have f5_ := f3_.symm; clear f1_ f2_ f3_; subst f4_; subst f5_))
   refine hK.out _ _ ⟨(blk_cell BK316.out 0).trans rfl, (blk_cell BK316.out 1).trans rfl, (blk_cell BK317.out 0).trans rfl, (blk_cell BK317.out 1).trans rfl, (blk_cell BK317.out 2).trans rfl, (blk_cell BK317.out 3).trans rfl⟩ (fun hHeld => ?_)
   clear hK K
   refine nm (some 23) ?_
   refine one_ (i := 4) (N := some 24) (mB 6 31) rfl rfl (by kernel_rfl) (by decide) (fun K hK => ?_)
   refine gs Try.func13 #[.agg #[.slice Ao27 t320.length co27, .slice Ao28 t323.length co28], .agg #[.int .i64 t326, .int .i64 t327, .string t328, .slice Ao29 t329.length co29]] ?_
   with_reducible refine (spec_KindOf.calls k _ _ t320 _ _ t323 t326 t327 t328 _ _ t329 t332 _ ?side1 ?side2 ?side3 ?side4 ?side5 ?side6 A19.out).mono ?_
   (case side1 => repeat (first | exact (Kd.R_reads' HO322.out).2.2 | (with_reducible refine Kd.C_alloc ?_ _) | (with_reducible refine Kd.C_drewN ?_ _) | (with_reducible refine Kd.C_drew ?_)))
   (case side2 => exact (Kd.R_reads' HO322.out).2.1)
   (case side3 => repeat (first | exact (Kd.R_reads' HO325.out).2.2 | (with_reducible refine Kd.C_alloc ?_ _) | (with_reducible refine Kd.C_drewN ?_ _) | (with_reducible refine Kd.C_drew ?_)))
   (case side4 => exact (Kd.R_reads' HO325.out).2.1)
   (case side5 => repeat (first | exact (Kd.R_reads' HO331.out).2.2 | (with_reducible refine Kd.C_alloc ?_ _) | (with_reducible refine Kd.C_drewN ?_ _) | (with_reducible refine Kd.C_drew ?_)))
   (case side6 => exact (Kd.R_reads' HO331.out).2.1)
   rintro e w30 ⟨rfl, hb⟩
   refine ⟨_, rfl, ?_⟩
   replace HO322 := Aside0.mk (Kd.R_below (by exact Kd.xR HO322.out) hb)
   replace HO325 := Aside0.mk (Kd.R_below (by exact Kd.xR HO325.out) hb)
   replace HO331 := Aside0.mk (Kd.R_below (by exact Kd.xR HO331.out) hb)
   replace BK316 := bB BK316 hb
   replace BK317 := bB BK317 hb
   replace HB := bS HB hb
   (try clear hb)
   (try clear hb2)
   (try clear hk)
   (try clear hi)
   refine hK.out _ _ ⟨(blk_cell BK316.out 0).trans rfl, (blk_cell BK316.out 1).trans rfl, (blk_cell BK317.out 0).trans rfl, (blk_cell BK317.out 1).trans rfl, (blk_cell BK317.out 2).trans rfl, (blk_cell BK317.out 3).trans rfl⟩ (fun hHeld => ?_)
   clear hK K
   refine nm (some 24) ?_
   refine pure_ (i := 5) (N := some 6) (v := ?_) (a' := ?_) (mB 6 63) rfl rfl (by kernel_rfl) (fun _ _ _ h => h) (Or.inl ⟨by rfl, ?_⟩) ?_ ?_
   rotate_left
   ·
    intro w'
    go_simp
    with_reducible rfl
   rotate_left
   ·
    simp only [Act.put, List.setIfInBounds_toArray, List.set_cons_zero, List.set_cons_succ, i64_w, i32_w]
    rfl
   refine done_ (by kernel_rfl) ?_
   have hnb31 := NB316_317.out
   have hnc31 := NB317_316.out
   have hcz32_0 : w30.cell? ⟨gb316, 0, none⟩ = some (.slice A0_0 l0_0.length c0_0) := (blk_cell BK316.out 0).trans rfl
   have hcz32_1 : w30.cell? ⟨gb316, 1, none⟩ = some (.slice A0_1 l0_1.length c0_1) := (blk_cell BK316.out 1).trans rfl
   have hfz32_0 := blk_frozen BK316.out 0
   have hfz32_1 := blk_frozen BK316.out 1
   go_upto_if 34 with (first | ((with_reducible refine gate_callee (f := 14) rfl ?_); refine gl (some 26) Try.func14 #[.agg #[.slice A0_0 l0_0.length c0_0, .slice A0_1 l0_1.length c0_1]] ?_; (with_reducible refine (laws_toSchema.calls k _ _ l0_0 _ _ l0_1 t333 t336 _ ?side1 ?side2 ?side3 ?side4 A20.out).mono ?_); (case side1 => repeat (first | exact (Kd.C_below HR0_0.out HB.out) | (with_reducible refine Kd.C_alloc ?_ _) | (with_reducible refine Kd.C_drewN ?_ _) | (with_reducible refine Kd.C_drew ?_))); (case side2 => exact HC0_0.out); (case side3 => repeat (first | exact (Kd.C_below HR0_1.out HB.out) | (with_reducible refine Kd.C_alloc ?_ _) | (with_reducible refine Kd.C_drewN ?_ _) | (with_reducible refine Kd.C_drew ?_))); (case side4 => exact HC0_1.out); rintro e w33 ⟨v334, v337, rfl, ho0, ho1, hb⟩; refine ⟨_, rfl, ?_⟩; replace HO331 := Aside0.mk (Kd.R_below (by exact Kd.xR HO331.out) hb); have HO335 := Aside0.mk (Kd.R_lower (Kd.R_new' (Kd.R_new' ho0 (Kd.R_lt (by exact Kd.xR HO322.out))) (Kd.R_lt (by exact Kd.xR HO325.out))) (below_size (by exact bw HB.out))); have HO338 := Aside0.mk (Kd.R_lower (Kd.R_new' (Kd.R_new' ho1 (Kd.R_lt (by exact Kd.xR HO322.out))) (Kd.R_lt (by exact Kd.xR HO325.out))) (below_size (by exact bw HB.out))); replace HO322 := Aside0.mk (Kd.R_mono (Kd.R_told (Kd.R_told (Kd.R_old (by exact Kd.xR HO322.out) hb) (Kd.R_base ho0)) (Kd.R_base ho1)) (fun _ h_ => h_.1)); replace HO325 := Aside0.mk (Kd.R_mono (Kd.R_told (Kd.R_told (Kd.R_old (by exact Kd.xR HO325.out) hb) (Kd.R_base ho0)) (Kd.R_base ho1)) (fun _ h_ => h_.1)); replace BK316 := bB BK316 hb; replace BK317 := bB BK317 hb; replace HB := bS HB hb; (try clear hb); (try clear hb2); (try clear hk); (try clear hi); (try clear ho0); (try clear ho1)) | ((with_reducible refine gate_dst (N := 7) rfl ?_); refine bx 7 #[.slice none 0 0, .slice none 0 0] 40 ?_; intro gb339 hg w34 hbox hb; replace HO322 := Aside0.mk (Kd.R_below (by exact Kd.xR HO322.out) hb); replace HO325 := Aside0.mk (Kd.R_below (by exact Kd.xR HO325.out) hb); replace HO331 := Aside0.mk (Kd.R_below (by exact Kd.xR HO331.out) hb); replace HO335 := Aside0.mk (Kd.R_below (by exact Kd.xR HO335.out) hb); replace HO338 := Aside0.mk (Kd.R_below (by exact Kd.xR HO338.out) hb); have BK339 := Aside0.mk (hbox); have GW339 := gwB HB hg; have GE339 := gwB HB hg; replace HB := bS HB hb; have NB316_339 := nbL BK316 hg; have NB339_316 := nbR BK316 hg; replace BK316 := bB BK316 hb; have NB317_339 := nbL BK317 hg; have NB339_317 := nbR BK317 hg; replace BK317 := bB BK317 hb; clear hb hbox hg; obtain ⟨Ao35, co35, eo35⟩ := Kd.R_slice HO335.out; subst eo35; have hnb36 := NB339_316.out; have hnc36 := NB316_339.out; have hnb37 := NB339_317.out; have hnc37 := NB317_339.out; obtain ⟨hcz38_0, hcz38_1⟩ := cs2 BK339.out; obtain ⟨hfz38_0, hfz38_1⟩ := fz2 BK339.out; obtain ⟨Ao39, co39, eo39⟩ := Kd.R_slice HO338.out; subst eo39; obtain ⟨hcz40_0, hcz40_1, hcz40_2, hcz40_3⟩ := cs4 BK317.out; obtain ⟨hfz40_0, hfz40_1, hfz40_2, hfz40_3⟩ := fz4 BK317.out) | ((with_reducible refine gate_callee (f := 9) rfl ?_); refine gl (some 28) Try.func9 #[.agg #[.int .i64 a1_0, .int .i64 a1_1, .string a1_2, .slice A1_3 l1_3.length c1_3]] ?_; (with_reducible refine (laws_toExpr.calls k a1_0 a1_1 a1_2 _ _ l1_3 t340 t341 t342 t343 _ ?side1 ?side2 A21.out).mono ?_); (case side1 => exact Kd.C_below HR1_3.out (by exact bw HB.out)); (case side2 => exact HC1_3.out); rintro e w41 ⟨v344, rfl, ho0, hb⟩; refine ⟨_, rfl, ?_⟩; replace HO322 := Aside0.mk (Kd.R_below (by (with_reducible repeat (first | apply Kd.R_alloc | apply Kd.R_drewN | apply Kd.R_drew)); exact (Kd.R_mono (Kd.R_far (p := ⟨gb339, 1, none⟩) (Kd.R_far (p := ⟨gb339, 0, none⟩) (Kd.R_types HO322.out BK339.out (by decide)) (fun _ hk => hk.2) (.slice Ao35 t333.length co35)) (fun _ hk => hk.2) (.slice Ao39 t336.length co39)) (fun _ h_ => h_.1))) hb); replace HO325 := Aside0.mk (Kd.R_below (by (with_reducible repeat (first | apply Kd.R_alloc | apply Kd.R_drewN | apply Kd.R_drew)); exact (Kd.R_mono (Kd.R_far (p := ⟨gb339, 1, none⟩) (Kd.R_far (p := ⟨gb339, 0, none⟩) (Kd.R_types HO325.out BK339.out (by decide)) (fun _ hk => hk.2) (.slice Ao35 t333.length co35)) (fun _ hk => hk.2) (.slice Ao39 t336.length co39)) (fun _ h_ => h_.1))) hb); replace HO335 := Aside0.mk (Kd.R_below (by (with_reducible repeat (first | apply Kd.R_alloc | apply Kd.R_drewN | apply Kd.R_drew)); exact (Kd.R_mono (Kd.R_far (p := ⟨gb339, 1, none⟩) (Kd.R_far (p := ⟨gb339, 0, none⟩) (Kd.R_types HO335.out BK339.out (by decide)) (fun _ hk => hk.2) (.slice Ao35 t333.length co35)) (fun _ hk => hk.2) (.slice Ao39 t336.length co39)) (fun _ h_ => h_.1))) hb); replace HO338 := Aside0.mk (Kd.R_below (by (with_reducible repeat (first | apply Kd.R_alloc | apply Kd.R_drewN | apply Kd.R_drew)); exact (Kd.R_mono (Kd.R_far (p := ⟨gb339, 1, none⟩) (Kd.R_far (p := ⟨gb339, 0, none⟩) (Kd.R_types HO338.out BK339.out (by decide)) (fun _ hk => hk.2) (.slice Ao35 t333.length co35)) (fun _ hk => hk.2) (.slice Ao39 t336.length co39)) (fun _ h_ => h_.1))) hb); have HO345 := Aside0.mk (Kd.R_lower (Kd.R_new' ho0 (Kd.R_lt (by (with_reducible repeat (first | apply Kd.R_alloc | apply Kd.R_drewN | apply Kd.R_drew)); exact (Kd.R_mono (Kd.R_far (p := ⟨gb339, 1, none⟩) (Kd.R_far (p := ⟨gb339, 0, none⟩) (Kd.R_types HO331.out BK339.out (by decide)) (fun _ hk => hk.2) (.slice Ao35 t333.length co35)) (fun _ hk => hk.2) (.slice Ao39 t336.length co39)) (fun _ h_ => h_.1))))) (below_size (by exact bw HB.out))); replace HO331 := Aside0.mk (Kd.R_elder' (by (with_reducible repeat (first | apply Kd.R_alloc | apply Kd.R_drewN | apply Kd.R_drew)); exact (Kd.R_mono (Kd.R_far (p := ⟨gb339, 1, none⟩) (Kd.R_far (p := ⟨gb339, 0, none⟩) (Kd.R_types HO331.out BK339.out (by decide)) (fun _ hk => hk.2) (.slice Ao35 t333.length co35)) (fun _ hk => hk.2) (.slice Ao39 t336.length co39)) (fun _ h_ => h_.1))) (Kd.R_base ho0) hb); replace BK316 := Aside0.mk (blk_below (g := gb316) (o := .cells #[.slice A0_0 l0_0.length c0_0, .slice A0_1 l0_1.length c0_1] 35 (0, 0)) (bo BK316) hb); replace BK317 := Aside0.mk (blk_below (g := gb317) (o := .cells #[.int .i64 a1_0, .int .i64 a1_1, .string a1_2, .slice A1_3 l1_3.length c1_3] 24 (0, 0)) (bo BK317) hb); replace BK339 := Aside0.mk (blk_below (g := gb339) (o := .cells #[.slice Ao35 t333.length co35, .slice Ao39 t336.length co39] 40 (0, 0)) (bp BK339) hb); replace HB := bS HB hb; (try clear hb); (try clear hb2); (try clear hk); (try clear hi); (try clear ho0)) | ((with_reducible refine gate_dst (N := 8) rfl ?_); refine bx 8 #[.int .i64 0, .int .i64 0, .string (⟨#[]⟩ : ByteArray), .slice none 0 0] 29 ?_; intro gb346 hg w42 hbox hb; replace HO322 := Aside0.mk (Kd.R_below (by exact Kd.xR HO322.out) hb); replace HO325 := Aside0.mk (Kd.R_below (by exact Kd.xR HO325.out) hb); replace HO331 := Aside0.mk (Kd.R_below (Kd.R_elderB (by exact Kd.xR HO331.out) gb346 (Nat.le_of_eq hg.symm)) hb); replace HO335 := Aside0.mk (Kd.R_below (by exact Kd.xR HO335.out) hb); replace HO338 := Aside0.mk (Kd.R_below (by exact Kd.xR HO338.out) hb); replace HO345 := Aside0.mk (Kd.R_below (Kd.R_elderB (by exact Kd.xR HO345.out) gb346 (Nat.le_of_eq hg.symm)) hb); have BK346 := Aside0.mk (hbox); have GW346 := gwB HB hg; have GE346 := gwB HB hg; replace HB := bS HB hb; have NB316_346 := nbL BK316 hg; have NB346_316 := nbR BK316 hg; replace BK316 := bB BK316 hb; have NB317_346 := nbL BK317 hg; have NB346_317 := nbR BK317 hg; replace BK317 := bB BK317 hb; have NB339_346 := nbL BK339 hg; have NB346_339 := nbR BK339 hg; replace BK339 := bB BK339 hb; clear hb hbox hg; have hnb43 := NB346_316.out; have hnc43 := NB316_346.out; have hnb44 := NB346_317.out; have hnc44 := NB317_346.out; have hnb45 := NB346_339.out; have hnc45 := NB339_346.out; obtain ⟨hcz46_0, hcz46_1, hcz46_2, hcz46_3⟩ := cs4 BK346.out; obtain ⟨hfz46_0, hfz46_1, hfz46_2, hfz46_3⟩ := fz4 BK346.out; obtain ⟨Ao47, co47, eo47⟩ := Kd.R_slice HO345.out; subst eo47; obtain ⟨hcz48_0, hcz48_1⟩ := cs2 BK339.out; obtain ⟨hfz48_0, hfz48_1⟩ := fz2 BK339.out) | ((with_reducible refine gate_callee (f := 15) rfl ?_); refine gl (some 31) Try.func15 #[.agg #[.slice Ao35 t333.length co35, .slice Ao39 t336.length co39], .agg #[.int .i64 t340, .int .i64 t341, .string t342, .slice Ao47 t343.length co47]] ?_; (with_reducible refine (impl_KindOf.calls k _ _ t333 _ _ t336 t340 t341 t342 _ _ t343 t347 _ ?side1 ?side2 ?side3 ?side4 ?side5 ?side6 A22.out).mono ?_); (case side1 => refine (Kd.R_reads' (e := 91) (base := w.heap.size) (ok := fun k_ => ((some k_ ≠ (.slice Ao39 t336.length co39 : Value).ownBlock ∧ some k_ ≠ (.slice Ao27 t320.length co27 : Value).ownBlock) ∧ some k_ ≠ (.slice Ao28 t323.length co28 : Value).ownBlock)) (n := t333.length) (c := co35) ?_).2.2; exact (by (with_reducible repeat (first | apply Kd.R_alloc | apply Kd.R_drewN | apply Kd.R_drew)); exact (Kd.R_mono (Kd.R_far (p := ⟨gb346, 3, none⟩) (Kd.R_far (p := ⟨gb346, 2, none⟩) (Kd.R_far (p := ⟨gb346, 1, none⟩) (Kd.R_far (p := ⟨gb346, 0, none⟩) (Kd.R_types HO335.out BK346.out (by decide)) (fun _ hk => hk.2) (.int .i64 t340)) (fun _ hk => hk.2) (.int .i64 t341)) (fun _ hk => hk.2) (.string t342)) (fun _ hk => hk.2) (.slice Ao47 t343.length co47)) (fun _ h_ => h_.1)))); (case side2 => exact (Kd.R_reads' HO335.out).2.1); (case side3 => refine (Kd.R_reads' (e := 91) (base := w.heap.size) (ok := fun k_ => ((some k_ ≠ (.slice Ao35 t333.length co35 : Value).ownBlock ∧ some k_ ≠ (.slice Ao27 t320.length co27 : Value).ownBlock) ∧ some k_ ≠ (.slice Ao28 t323.length co28 : Value).ownBlock)) (n := t336.length) (c := co39) ?_).2.2; exact (by (with_reducible repeat (first | apply Kd.R_alloc | apply Kd.R_drewN | apply Kd.R_drew)); exact (Kd.R_mono (Kd.R_far (p := ⟨gb346, 3, none⟩) (Kd.R_far (p := ⟨gb346, 2, none⟩) (Kd.R_far (p := ⟨gb346, 1, none⟩) (Kd.R_far (p := ⟨gb346, 0, none⟩) (Kd.R_types HO338.out BK346.out (by decide)) (fun _ hk => hk.2) (.int .i64 t340)) (fun _ hk => hk.2) (.int .i64 t341)) (fun _ hk => hk.2) (.string t342)) (fun _ hk => hk.2) (.slice Ao47 t343.length co47)) (fun _ h_ => h_.1)))); (case side4 => exact (Kd.R_reads' HO338.out).2.1); (case side5 => refine (Kd.R_reads' (e := 29) (base := w.heap.size) (ok := fun k_ => ((True ∧ some k_ ≠ (.slice Ao29 t329.length co29 : Value).ownBlock) ∧ k_ ≠ gb346)) (n := t343.length) (c := co47) ?_).2.2; exact (by (with_reducible repeat (first | apply Kd.R_alloc | apply Kd.R_drewN | apply Kd.R_drew)); exact (Kd.R_mono (Kd.R_far (p := ⟨gb346, 3, none⟩) (Kd.R_far (p := ⟨gb346, 2, none⟩) (Kd.R_far (p := ⟨gb346, 1, none⟩) (Kd.R_far (p := ⟨gb346, 0, none⟩) (Kd.R_mono HO345.out (fun k_ hk => (⟨hk, okp hk⟩ : _ ∧ k_ ≠ gb346))) (fun _ hk => hk.2) (.int .i64 t340)) (fun _ hk => hk.2) (.int .i64 t341)) (fun _ hk => hk.2) (.string t342)) (fun _ hk => hk.2) (.slice Ao47 t343.length co47)) (fun _ h_ => h_.1)))); (case side6 => exact (Kd.R_reads' HO345.out).2.1); rintro e w49 ⟨rfl, hb⟩; refine ⟨_, rfl, ?_⟩; replace HO322 := Aside0.mk (Kd.R_below (by (with_reducible repeat (first | apply Kd.R_alloc | apply Kd.R_drewN | apply Kd.R_drew)); exact (Kd.R_mono (Kd.R_far (p := ⟨gb346, 3, none⟩) (Kd.R_far (p := ⟨gb346, 2, none⟩) (Kd.R_far (p := ⟨gb346, 1, none⟩) (Kd.R_far (p := ⟨gb346, 0, none⟩) (Kd.R_types HO322.out BK346.out (by decide)) (fun _ hk => hk.2) (.int .i64 t340)) (fun _ hk => hk.2) (.int .i64 t341)) (fun _ hk => hk.2) (.string t342)) (fun _ hk => hk.2) (.slice Ao47 t343.length co47)) (fun _ h_ => h_.1))) hb); replace HO325 := Aside0.mk (Kd.R_below (by (with_reducible repeat (first | apply Kd.R_alloc | apply Kd.R_drewN | apply Kd.R_drew)); exact (Kd.R_mono (Kd.R_far (p := ⟨gb346, 3, none⟩) (Kd.R_far (p := ⟨gb346, 2, none⟩) (Kd.R_far (p := ⟨gb346, 1, none⟩) (Kd.R_far (p := ⟨gb346, 0, none⟩) (Kd.R_types HO325.out BK346.out (by decide)) (fun _ hk => hk.2) (.int .i64 t340)) (fun _ hk => hk.2) (.int .i64 t341)) (fun _ hk => hk.2) (.string t342)) (fun _ hk => hk.2) (.slice Ao47 t343.length co47)) (fun _ h_ => h_.1))) hb); replace HO331 := Aside0.mk (Kd.R_below (by (with_reducible repeat (first | apply Kd.R_alloc | apply Kd.R_drewN | apply Kd.R_drew)); exact (Kd.R_mono (Kd.R_far (p := ⟨gb346, 3, none⟩) (Kd.R_far (p := ⟨gb346, 2, none⟩) (Kd.R_far (p := ⟨gb346, 1, none⟩) (Kd.R_far (p := ⟨gb346, 0, none⟩) (Kd.R_mono HO331.out (fun k_ hk => (⟨hk, okp hk⟩ : _ ∧ k_ ≠ gb346))) (fun _ hk => hk.2) (.int .i64 t340)) (fun _ hk => hk.2) (.int .i64 t341)) (fun _ hk => hk.2) (.string t342)) (fun _ hk => hk.2) (.slice Ao47 t343.length co47)) (fun _ h_ => h_.1))) hb); replace HO335 := Aside0.mk (Kd.R_below (by (with_reducible repeat (first | apply Kd.R_alloc | apply Kd.R_drewN | apply Kd.R_drew)); exact (Kd.R_mono (Kd.R_far (p := ⟨gb346, 3, none⟩) (Kd.R_far (p := ⟨gb346, 2, none⟩) (Kd.R_far (p := ⟨gb346, 1, none⟩) (Kd.R_far (p := ⟨gb346, 0, none⟩) (Kd.R_types HO335.out BK346.out (by decide)) (fun _ hk => hk.2) (.int .i64 t340)) (fun _ hk => hk.2) (.int .i64 t341)) (fun _ hk => hk.2) (.string t342)) (fun _ hk => hk.2) (.slice Ao47 t343.length co47)) (fun _ h_ => h_.1))) hb); replace HO338 := Aside0.mk (Kd.R_below (by (with_reducible repeat (first | apply Kd.R_alloc | apply Kd.R_drewN | apply Kd.R_drew)); exact (Kd.R_mono (Kd.R_far (p := ⟨gb346, 3, none⟩) (Kd.R_far (p := ⟨gb346, 2, none⟩) (Kd.R_far (p := ⟨gb346, 1, none⟩) (Kd.R_far (p := ⟨gb346, 0, none⟩) (Kd.R_types HO338.out BK346.out (by decide)) (fun _ hk => hk.2) (.int .i64 t340)) (fun _ hk => hk.2) (.int .i64 t341)) (fun _ hk => hk.2) (.string t342)) (fun _ hk => hk.2) (.slice Ao47 t343.length co47)) (fun _ h_ => h_.1))) hb); replace HO345 := Aside0.mk (Kd.R_below (by (with_reducible repeat (first | apply Kd.R_alloc | apply Kd.R_drewN | apply Kd.R_drew)); exact (Kd.R_mono (Kd.R_far (p := ⟨gb346, 3, none⟩) (Kd.R_far (p := ⟨gb346, 2, none⟩) (Kd.R_far (p := ⟨gb346, 1, none⟩) (Kd.R_far (p := ⟨gb346, 0, none⟩) (Kd.R_mono HO345.out (fun k_ hk => (⟨hk, okp hk⟩ : _ ∧ k_ ≠ gb346))) (fun _ hk => hk.2) (.int .i64 t340)) (fun _ hk => hk.2) (.int .i64 t341)) (fun _ hk => hk.2) (.string t342)) (fun _ hk => hk.2) (.slice Ao47 t343.length co47)) (fun _ h_ => h_.1))) hb); replace BK316 := Aside0.mk (blk_below (g := gb316) (o := .cells #[.slice A0_0 l0_0.length c0_0, .slice A0_1 l0_1.length c0_1] 35 (0, 0)) (bo BK316) hb); replace BK317 := Aside0.mk (blk_below (g := gb317) (o := .cells #[.int .i64 a1_0, .int .i64 a1_1, .string a1_2, .slice A1_3 l1_3.length c1_3] 24 (0, 0)) (bo BK317) hb); replace BK339 := Aside0.mk (blk_below (g := gb339) (o := .cells #[.slice Ao35 t333.length co35, .slice Ao39 t336.length co39] 40 (0, 0)) (bo BK339) hb); replace BK346 := Aside0.mk (blk_below (g := gb346) (o := .cells #[.int .i64 t340, .int .i64 t341, .string t342, .slice Ao47 t343.length co47] 29 (0, 0)) (bp BK346) hb); replace HB := bS HB hb; (try clear hb); (try clear hb2); (try clear hk); (try clear hi)))
   (try simp only [Act.put, List.setIfInBounds_toArray, List.set_cons_zero, List.set_cons_succ])
   have H := HC23.out
   clear HC23
   by_cases c50 : t347 = t332
   ·
    rw [if_pos c50] at H; obtain ⟨c50b0, c50b1⟩ := eqY c50; clear c50
    (first | rw [c50b0] | (simp only [i64_w, i32_w]; rw [c50b0]) | rw [c50b2] | rw [c50b1] | skip)
    replace H := Option.bind_eq_some_iff.mp H
    obtain ⟨⟨t348, t351⟩, A510, H⟩ := H
    replace H : ((laws_eqSchema.f k t333 t336 t348 t351).bind fun t354 => (if t354 = true then ((laws_toExpr.f k a1_0 a1_1 a1_2 l1_3).bind fun bt355 => ((laws_eqExpr.f k t340 t341 t342 t343 bt355.1 bt355.2.1 bt355.2.2.1 bt355.2.2.2).bind fun t361 => (if t361 = true then (some true) else (some false)))) else (some false))) = some r := H
    have A51 := Aside0.mk A510
    clear A510
    replace H := Option.bind_eq_some_iff.mp H
    obtain ⟨t354, A520, H⟩ := H
    replace H : (if t354 = true then ((laws_toExpr.f k a1_0 a1_1 a1_2 l1_3).bind fun bt355 => ((laws_eqExpr.f k t340 t341 t342 t343 bt355.1 bt355.2.1 bt355.2.2.1 bt355.2.2.2).bind fun t361 => (if t361 = true then (some true) else (some false)))) else (some false)) = some r := H
    have A52 := Aside0.mk A520
    clear A520
    have HC53 := Aside0.mk H
    clear H
    try go_wp2
    replace HO322 := Aside0.mk (Kd.R_drew HO322.out)
    replace HO325 := Aside0.mk (Kd.R_drew HO325.out)
    replace HO331 := Aside0.mk (Kd.R_drew HO331.out)
    replace HO335 := Aside0.mk (Kd.R_drew HO335.out)
    replace HO338 := Aside0.mk (Kd.R_drew HO338.out)
    replace HO345 := Aside0.mk (Kd.R_drew HO345.out)
    replace BK316 := Aside0.mk (blk_drew BK316.out)
    replace BK317 := Aside0.mk (blk_drew BK317.out)
    replace BK339 := Aside0.mk (blk_drew BK339.out)
    replace BK346 := Aside0.mk (blk_drew BK346.out)
    replace HB := Aside0.mk (below_drew1 HB.out)
    refine start_ (n := 5) (S := fun w' => w'.cell? ⟨gb339, 0, none⟩ = some (.slice Ao35 t333.length co35) ∧ w'.cell? ⟨gb339, 1, none⟩ = some (.slice Ao39 t336.length co39) ∧ w'.cell? ⟨gb316, 0, none⟩ = some (.slice A0_0 l0_0.length c0_0) ∧ w'.cell? ⟨gb316, 1, none⟩ = some (.slice A0_1 l0_1.length c0_1)) (ds := []) (mB 5 0) (by kernel_rfl) rfl rfl ⟨(blk_cell BK339.out 0).trans rfl, (blk_cell BK339.out 1).trans rfl, (blk_cell BK316.out 0).trans rfl, (blk_cell BK316.out 1).trans rfl⟩ (fun hHeld => ?_)
    generalize w49.drew = w54 at HO322 HO325 HO331 HO335 HO338 HO345 BK316 BK317 BK339 BK346 HB hHeld ⊢
    refine take_ (i := 0) (N := some 35) (v := ?_) (a' := ?_) (mB 5 1) rfl rfl (by kernel_rfl) (fun _ _ _ h => h) (Or.inl ⟨by rfl, ?_⟩) hHeld ?_ ?_
    rotate_left
    ·
     rintro w' ⟨s0, s1, s2, s3⟩
     go_simp
     with_reducible rfl
    rotate_left
    ·
     simp only [Act.put, List.setIfInBounds_toArray, List.set_cons_zero, List.set_cons_succ, i64_w, i32_w]
     rfl
    refine take_ (i := 1) (N := some 36) (v := ?_) (a' := ?_) (mB 5 3) rfl rfl (by kernel_rfl) (fun _ _ _ h => h) (Or.inl ⟨by rfl, ?_⟩) hHeld ?_ ?_
    rotate_left
    ·
     rintro w' ⟨s0, s1, s2, s3⟩
     go_simp
     with_reducible rfl
    rotate_left
    ·
     simp only [Act.put, List.setIfInBounds_toArray, List.set_cons_zero, List.set_cons_succ, i64_w, i32_w]
     rfl
    refine one_ (i := 2) (N := some 37) (mB 5 7) rfl rfl (by kernel_rfl) (by decide) (fun K hK => ?_)
    refine gs Try.func14 #[.agg #[.slice A0_0 l0_0.length c0_0, .slice A0_1 l0_1.length c0_1]] ?_
    with_reducible refine (laws_toSchema.calls k _ _ l0_0 _ _ l0_1 t348 t351 _ ?side1 ?side2 ?side3 ?side4 A51.out).mono ?_
    (case side1 => repeat (first | exact (Kd.C_below HR0_0.out HB.out) | (with_reducible refine Kd.C_alloc ?_ _) | (with_reducible refine Kd.C_drewN ?_ _) | (with_reducible refine Kd.C_drew ?_)))
    (case side2 => exact HC0_0.out)
    (case side3 => repeat (first | exact (Kd.C_below HR0_1.out HB.out) | (with_reducible refine Kd.C_alloc ?_ _) | (with_reducible refine Kd.C_drewN ?_ _) | (with_reducible refine Kd.C_drew ?_)))
    (case side4 => exact HC0_1.out)
    rintro e w55 ⟨v349, v352, rfl, ho0, ho1, hb⟩
    refine ⟨_, rfl, ?_⟩
    replace HO331 := Aside0.mk (Kd.R_below (by exact Kd.xR HO331.out) hb)
    replace HO345 := Aside0.mk (Kd.R_below (by exact Kd.xR HO345.out) hb)
    have HO350 := Aside0.mk (Kd.R_lower (Kd.R_new' (Kd.R_new' (Kd.R_new' (Kd.R_new' ho0 (Kd.R_lt (by exact Kd.xR HO322.out))) (Kd.R_lt (by exact Kd.xR HO325.out))) (Kd.R_lt (by exact Kd.xR HO335.out))) (Kd.R_lt (by exact Kd.xR HO338.out))) (below_size (by exact bw HB.out)))
    have HO353 := Aside0.mk (Kd.R_lower (Kd.R_new' (Kd.R_new' (Kd.R_new' (Kd.R_new' ho1 (Kd.R_lt (by exact Kd.xR HO322.out))) (Kd.R_lt (by exact Kd.xR HO325.out))) (Kd.R_lt (by exact Kd.xR HO335.out))) (Kd.R_lt (by exact Kd.xR HO338.out))) (below_size (by exact bw HB.out)))
    replace HO322 := Aside0.mk (Kd.R_mono (Kd.R_told (Kd.R_told (Kd.R_old (by exact Kd.xR HO322.out) hb) (Kd.R_base ho0)) (Kd.R_base ho1)) (fun _ h_ => h_.1))
    replace HO325 := Aside0.mk (Kd.R_mono (Kd.R_told (Kd.R_told (Kd.R_old (by exact Kd.xR HO325.out) hb) (Kd.R_base ho0)) (Kd.R_base ho1)) (fun _ h_ => h_.1))
    replace HO335 := Aside0.mk (Kd.R_mono (Kd.R_told (Kd.R_told (Kd.R_old (by exact Kd.xR HO335.out) hb) (Kd.R_base ho0)) (Kd.R_base ho1)) (fun _ h_ => h_.1))
    replace HO338 := Aside0.mk (Kd.R_mono (Kd.R_told (Kd.R_told (Kd.R_old (by exact Kd.xR HO338.out) hb) (Kd.R_base ho0)) (Kd.R_base ho1)) (fun _ h_ => h_.1))
    replace BK316 := bB BK316 hb
    replace BK317 := bB BK317 hb
    replace BK339 := bB BK339 hb
    replace BK346 := bB BK346 hb
    replace HB := bS HB hb
    (try clear hb)
    (try clear hb2)
    (try clear hk)
    (try clear hi)
    (try clear ho0)
    (try clear ho1)
    obtain ⟨Ao56, co56, eo56⟩ := Kd.R_slice HO350.out
    (first | subst eo56 | (injection eo56 with f1_ f2_ f3_; have f4_ := f1_.symm; have f5_ := f3_.symm; clear f1_ f2_ f3_; subst f4_; subst f5_))
    obtain ⟨Ao57, co57, eo57⟩ := Kd.R_slice HO353.out
    (first | subst eo57 | (injection eo57 with f1_ f2_ f3_; have f4_ := f1_.symm; have f5_ := f3_.symm; clear f1_ f2_ f3_; subst f4_; subst f5_))
    refine hK.out _ _ ⟨(blk_cell BK339.out 0).trans rfl, (blk_cell BK339.out 1).trans rfl, (blk_cell BK316.out 0).trans rfl, (blk_cell BK316.out 1).trans rfl⟩ (fun hHeld => ?_)
    clear hK K
    refine nm (some 37) ?_
    refine one_ (i := 3) (N := some 38) (mB 5 15) rfl rfl (by kernel_rfl) (by decide) (fun K hK => ?_)
    refine gs Try.func16 #[.agg #[.slice Ao35 t333.length co35, .slice Ao39 t336.length co39], .agg #[.slice Ao56 t348.length co56, .slice Ao57 t351.length co57]] ?_
    with_reducible refine (laws_eqSchema.calls k _ _ t333 _ _ t336 _ _ t348 _ _ t351 t354 _ ?side1 ?side2 ?side3 ?side4 ?side5 ?side6 ?side7 ?side8 A52.out).mono ?_
    (case side1 => repeat (first | exact (Kd.R_reads' HO335.out).2.2 | (with_reducible refine Kd.C_alloc ?_ _) | (with_reducible refine Kd.C_drewN ?_ _) | (with_reducible refine Kd.C_drew ?_)))
    (case side2 => exact (Kd.R_reads' HO335.out).2.1)
    (case side3 => repeat (first | exact (Kd.R_reads' HO338.out).2.2 | (with_reducible refine Kd.C_alloc ?_ _) | (with_reducible refine Kd.C_drewN ?_ _) | (with_reducible refine Kd.C_drew ?_)))
    (case side4 => exact (Kd.R_reads' HO338.out).2.1)
    (case side5 => repeat (first | exact (Kd.R_reads' HO350.out).2.2 | (with_reducible refine Kd.C_alloc ?_ _) | (with_reducible refine Kd.C_drewN ?_ _) | (with_reducible refine Kd.C_drew ?_)))
    (case side6 => exact (Kd.R_reads' HO350.out).2.1)
    (case side7 => repeat (first | exact (Kd.R_reads' HO353.out).2.2 | (with_reducible refine Kd.C_alloc ?_ _) | (with_reducible refine Kd.C_drewN ?_ _) | (with_reducible refine Kd.C_drew ?_)))
    (case side8 => exact (Kd.R_reads' HO353.out).2.1)
    rintro e w58 ⟨rfl, hb⟩
    refine ⟨_, rfl, ?_⟩
    replace HO322 := Aside0.mk (Kd.R_below (by exact Kd.xR HO322.out) hb)
    replace HO325 := Aside0.mk (Kd.R_below (by exact Kd.xR HO325.out) hb)
    replace HO331 := Aside0.mk (Kd.R_below (by exact Kd.xR HO331.out) hb)
    replace HO335 := Aside0.mk (Kd.R_below (by exact Kd.xR HO335.out) hb)
    replace HO338 := Aside0.mk (Kd.R_below (by exact Kd.xR HO338.out) hb)
    replace HO345 := Aside0.mk (Kd.R_below (by exact Kd.xR HO345.out) hb)
    replace HO350 := Aside0.mk (Kd.R_below (by exact Kd.xR HO350.out) hb)
    replace HO353 := Aside0.mk (Kd.R_below (by exact Kd.xR HO353.out) hb)
    replace BK316 := bB BK316 hb
    replace BK317 := bB BK317 hb
    replace BK339 := bB BK339 hb
    replace BK346 := bB BK346 hb
    replace HB := bS HB hb
    (try clear hb)
    (try clear hb2)
    (try clear hk)
    (try clear hi)
    refine hK.out _ _ ⟨(blk_cell BK339.out 0).trans rfl, (blk_cell BK339.out 1).trans rfl, (blk_cell BK316.out 0).trans rfl, (blk_cell BK316.out 1).trans rfl⟩ (fun hHeld => ?_)
    clear hK K
    refine nm (some 38) ?_
    refine pure_ (i := 4) (N := some 39) (v := ?_) (a' := ?_) (mB 5 31) rfl rfl (by kernel_rfl) (fun _ _ _ h => h) (Or.inl ⟨by rfl, ?_⟩) ?_ ?_
    rotate_left
    ·
     intro w'
     go_simp
     with_reducible rfl
    rotate_left
    ·
     simp only [Act.put, List.setIfInBounds_toArray, List.set_cons_zero, List.set_cons_succ, i64_w, i32_w]
     rfl
    refine done_ (by kernel_rfl) ?_
    go_upto_if 39 with (fail)
    have H := HC53.out
    clear HC53
    by_cases c59 : t354 = true
    ·
     subst c59
     have H1 : ((laws_toExpr.f k a1_0 a1_1 a1_2 l1_3).bind fun bt355 => ((laws_eqExpr.f k t340 t341 t342 t343 bt355.1 bt355.2.1 bt355.2.2.1 bt355.2.2.2).bind fun t361 => (if t361 = true then (some true) else (some false)))) = some r := by rw [if_pos rfl] at H; exact H
     clear H
     have H := H1
     clear H1
     replace H := Option.bind_eq_some_iff.mp H
     obtain ⟨⟨t355, t356, t357, t358⟩, A600, H⟩ := H
     replace H : ((laws_eqExpr.f k t340 t341 t342 t343 t355 t356 t357 t358).bind fun t361 => (if t361 = true then (some true) else (some false))) = some r := H
     have A60 := Aside0.mk A600
     clear A600
     replace H := Option.bind_eq_some_iff.mp H
     obtain ⟨t361, A610, H⟩ := H
     replace H : (if t361 = true then (some true) else (some false)) = some r := H
     have A61 := Aside0.mk A610
     clear A610
     have HC62 := Aside0.mk H
     clear H
     try go_wp2
     replace HO322 := Aside0.mk (Kd.R_drew HO322.out)
     replace HO325 := Aside0.mk (Kd.R_drew HO325.out)
     replace HO331 := Aside0.mk (Kd.R_drew HO331.out)
     replace HO335 := Aside0.mk (Kd.R_drew HO335.out)
     replace HO338 := Aside0.mk (Kd.R_drew HO338.out)
     replace HO345 := Aside0.mk (Kd.R_drew HO345.out)
     replace HO350 := Aside0.mk (Kd.R_drew HO350.out)
     replace HO353 := Aside0.mk (Kd.R_drew HO353.out)
     replace BK316 := Aside0.mk (blk_drew BK316.out)
     replace BK317 := Aside0.mk (blk_drew BK317.out)
     replace BK339 := Aside0.mk (blk_drew BK339.out)
     replace BK346 := Aside0.mk (blk_drew BK346.out)
     replace HB := Aside0.mk (below_drew1 HB.out)
     refine start_ (n := 5) (S := fun w' => w'.cell? ⟨gb346, 0, none⟩ = some (.int .i64 t340) ∧ w'.cell? ⟨gb346, 1, none⟩ = some (.int .i64 t341) ∧ w'.cell? ⟨gb346, 2, none⟩ = some (.string t342) ∧ w'.cell? ⟨gb346, 3, none⟩ = some (.slice Ao47 t343.length co47) ∧ w'.cell? ⟨gb317, 0, none⟩ = some (.int .i64 a1_0) ∧ w'.cell? ⟨gb317, 1, none⟩ = some (.int .i64 a1_1) ∧ w'.cell? ⟨gb317, 2, none⟩ = some (.string a1_2) ∧ w'.cell? ⟨gb317, 3, none⟩ = some (.slice A1_3 l1_3.length c1_3)) (ds := []) (mB 5 0) (by kernel_rfl) rfl rfl ⟨(blk_cell BK346.out 0).trans rfl, (blk_cell BK346.out 1).trans rfl, (blk_cell BK346.out 2).trans rfl, (blk_cell BK346.out 3).trans rfl, (blk_cell BK317.out 0).trans rfl, (blk_cell BK317.out 1).trans rfl, (blk_cell BK317.out 2).trans rfl, (blk_cell BK317.out 3).trans rfl⟩ (fun hHeld => ?_)
     generalize w58.drew = w63 at HO322 HO325 HO331 HO335 HO338 HO345 HO350 HO353 BK316 BK317 BK339 BK346 HB hHeld ⊢
     refine take_ (i := 0) (N := some 40) (v := ?_) (a' := ?_) (mB 5 1) rfl rfl (by kernel_rfl) (fun _ _ _ h => h) (Or.inl ⟨by rfl, ?_⟩) hHeld ?_ ?_
     rotate_left
     ·
      rintro w' ⟨s0, s1, s2, s3, s4, s5, s6, s7⟩
      go_simp
      with_reducible rfl
     rotate_left
     ·
      simp only [Act.put, List.setIfInBounds_toArray, List.set_cons_zero, List.set_cons_succ, i64_w, i32_w]
      rfl
     refine take_ (i := 1) (N := some 41) (v := ?_) (a' := ?_) (mB 5 3) rfl rfl (by kernel_rfl) (fun _ _ _ h => h) (Or.inl ⟨by rfl, ?_⟩) hHeld ?_ ?_
     rotate_left
     ·
      rintro w' ⟨s0, s1, s2, s3, s4, s5, s6, s7⟩
      go_simp
      with_reducible rfl
     rotate_left
     ·
      simp only [Act.put, List.setIfInBounds_toArray, List.set_cons_zero, List.set_cons_succ, i64_w, i32_w]
      rfl
     refine one_ (i := 2) (N := some 42) (mB 5 7) rfl rfl (by kernel_rfl) (by decide) (fun K hK => ?_)
     refine gs Try.func9 #[.agg #[.int .i64 a1_0, .int .i64 a1_1, .string a1_2, .slice A1_3 l1_3.length c1_3]] ?_
     with_reducible refine (laws_toExpr.calls k a1_0 a1_1 a1_2 _ _ l1_3 t355 t356 t357 t358 _ ?side1 ?side2 A60.out).mono ?_
     (case side1 => repeat (first | exact (Kd.C_below HR1_3.out HB.out) | (with_reducible refine Kd.C_alloc ?_ _) | (with_reducible refine Kd.C_drewN ?_ _) | (with_reducible refine Kd.C_drew ?_)))
     (case side2 => exact HC1_3.out)
     rintro e w64 ⟨v359, rfl, ho0, hb⟩
     refine ⟨_, rfl, ?_⟩
     replace HO322 := Aside0.mk (Kd.R_below (by exact Kd.xR HO322.out) hb)
     replace HO325 := Aside0.mk (Kd.R_below (by exact Kd.xR HO325.out) hb)
     replace HO335 := Aside0.mk (Kd.R_below (by exact Kd.xR HO335.out) hb)
     replace HO338 := Aside0.mk (Kd.R_below (by exact Kd.xR HO338.out) hb)
     replace HO350 := Aside0.mk (Kd.R_below (by exact Kd.xR HO350.out) hb)
     replace HO353 := Aside0.mk (Kd.R_below (by exact Kd.xR HO353.out) hb)
     have HO360 := Aside0.mk (Kd.R_lower (Kd.R_newB (Kd.R_new' (Kd.R_new' ho0 (Kd.R_lt (by exact Kd.xR HO331.out))) (Kd.R_lt (by exact Kd.xR HO345.out))) (g := gb346) (o := .cells #[.int .i64 t340, .int .i64 t341, .string t342, .slice Ao47 t343.length co47] 29 (0, 0)) (by exact bk BK346.out)) (below_size (by exact bw HB.out)))
     replace HO331 := Aside0.mk (Kd.R_elder' (by exact Kd.xR HO331.out) (Kd.R_base ho0) hb)
     replace HO345 := Aside0.mk (Kd.R_elder' (by exact Kd.xR HO345.out) (Kd.R_base ho0) hb)
     replace BK316 := bB BK316 hb
     replace BK317 := bB BK317 hb
     replace BK339 := bB BK339 hb
     replace BK346 := bB BK346 hb
     replace HB := bS HB hb
     (try clear hb)
     (try clear hb2)
     (try clear hk)
     (try clear hi)
     (try clear ho0)
     obtain ⟨Ao65, co65, eo65⟩ := Kd.R_slice HO360.out
     (first | subst eo65 | (injection eo65 with f1_ f2_ f3_; have f4_ := f1_.symm; have f5_ := f3_.symm; clear f1_ f2_ f3_; subst f4_; subst f5_))
     refine hK.out _ _ ⟨(blk_cell BK346.out 0).trans rfl, (blk_cell BK346.out 1).trans rfl, (blk_cell BK346.out 2).trans rfl, (blk_cell BK346.out 3).trans rfl, (blk_cell BK317.out 0).trans rfl, (blk_cell BK317.out 1).trans rfl, (blk_cell BK317.out 2).trans rfl, (blk_cell BK317.out 3).trans rfl⟩ (fun hHeld => ?_)
     clear hK K
     refine nm (some 42) ?_
     refine one_ (i := 3) (N := some 43) (mB 5 15) rfl rfl (by kernel_rfl) (by decide) (fun K hK => ?_)
     refine gs Try.func11 #[.agg #[.int .i64 t340, .int .i64 t341, .string t342, .slice Ao47 t343.length co47], .agg #[.int .i64 t355, .int .i64 t356, .string t357, .slice Ao65 t358.length co65]] ?_
     with_reducible refine (laws_eqExpr.calls k t340 t341 t342 _ _ t343 t355 t356 t357 _ _ t358 t361 _ ?side1 ?side2 ?side3 ?side4 A61.out).mono ?_
     (case side1 => repeat (first | exact (Kd.R_reads' HO345.out).2.2 | (with_reducible refine Kd.C_alloc ?_ _) | (with_reducible refine Kd.C_drewN ?_ _) | (with_reducible refine Kd.C_drew ?_)))
     (case side2 => exact (Kd.R_reads' HO345.out).2.1)
     (case side3 => repeat (first | exact (Kd.R_reads' HO360.out).2.2 | (with_reducible refine Kd.C_alloc ?_ _) | (with_reducible refine Kd.C_drewN ?_ _) | (with_reducible refine Kd.C_drew ?_)))
     (case side4 => exact (Kd.R_reads' HO360.out).2.1)
     rintro e w66 ⟨rfl, hb⟩
     refine ⟨_, rfl, ?_⟩
     replace HO322 := Aside0.mk (Kd.R_below (by exact Kd.xR HO322.out) hb)
     replace HO325 := Aside0.mk (Kd.R_below (by exact Kd.xR HO325.out) hb)
     replace HO331 := Aside0.mk (Kd.R_below (by exact Kd.xR HO331.out) hb)
     replace HO335 := Aside0.mk (Kd.R_below (by exact Kd.xR HO335.out) hb)
     replace HO338 := Aside0.mk (Kd.R_below (by exact Kd.xR HO338.out) hb)
     replace HO345 := Aside0.mk (Kd.R_below (by exact Kd.xR HO345.out) hb)
     replace HO350 := Aside0.mk (Kd.R_below (by exact Kd.xR HO350.out) hb)
     replace HO353 := Aside0.mk (Kd.R_below (by exact Kd.xR HO353.out) hb)
     replace HO360 := Aside0.mk (Kd.R_below (by exact Kd.xR HO360.out) hb)
     replace BK316 := bB BK316 hb
     replace BK317 := bB BK317 hb
     replace BK339 := bB BK339 hb
     replace BK346 := bB BK346 hb
     replace HB := bS HB hb
     (try clear hb)
     (try clear hb2)
     (try clear hk)
     (try clear hi)
     refine hK.out _ _ ⟨(blk_cell BK346.out 0).trans rfl, (blk_cell BK346.out 1).trans rfl, (blk_cell BK346.out 2).trans rfl, (blk_cell BK346.out 3).trans rfl, (blk_cell BK317.out 0).trans rfl, (blk_cell BK317.out 1).trans rfl, (blk_cell BK317.out 2).trans rfl, (blk_cell BK317.out 3).trans rfl⟩ (fun hHeld => ?_)
     clear hK K
     refine nm (some 43) ?_
     refine pure_ (i := 4) (N := some 44) (v := ?_) (a' := ?_) (mB 5 31) rfl rfl (by kernel_rfl) (fun _ _ _ h => h) (Or.inl ⟨by rfl, ?_⟩) ?_ ?_
     rotate_left
     ·
      intro w'
      go_simp
      with_reducible rfl
     rotate_left
     ·
      simp only [Act.put, List.setIfInBounds_toArray, List.set_cons_zero, List.set_cons_succ, i64_w, i32_w]
      rfl
     refine done_ (by kernel_rfl) ?_
     go_upto_if 44 with (fail)
     have H := HC62.out
     clear HC62
     by_cases c67 : t361 = true
     ·
      subst c67
      have H1 : (some true) = some r := by rw [if_pos rfl] at H; exact H
      clear H
      have H := H1
      clear H1
      obtain rfl := Option.some.inj H
      go_wp2
      go_ret
      exact ⟨by first | rfl | (simp [errW_none, errW_some] <;> rfl) | (simp [*, errW_none, errW_some] <;> rfl), by exact bw HB.out⟩
     ·
      replace c67 := Bool.eq_false_iff.mpr c67
      subst c67
      have H1 : (some false) = some r := by rw [if_neg (show ¬ (false = true) by decide)] at H; exact H
      clear H
      have H := H1
      clear H1
      obtain rfl := Option.some.inj H
      go_wp2
      go_ret
      exact ⟨by first | rfl | (simp [errW_none, errW_some] <;> rfl) | (simp [*, errW_none, errW_some] <;> rfl), by exact bw HB.out⟩
    ·
     replace c59 := Bool.eq_false_iff.mpr c59
     subst c59
     have H1 : (some false) = some r := by rw [if_neg (show ¬ (false = true) by decide)] at H; exact H
     clear H
     have H := H1
     clear H1
     obtain rfl := Option.some.inj H
     go_wp2
     go_ret
     exact ⟨by first | rfl | (simp [errW_none, errW_some] <;> rfl) | (simp [*, errW_none, errW_some] <;> rfl), by exact bw HB.out⟩
   ·
    rw [if_neg c50] at H; obtain ⟨c50b0, c50b1⟩ := eqN c50
    (first | rw [c50b0] | (simp only [i64_w, i32_w]; rw [c50b0]) | rw [c50b2] | rw [c50b1] | skip)
    obtain rfl := Option.some.inj H
    go_wp2
    go_ret
    exact ⟨by first | rfl | (simp [errW_none, errW_some] <;> rfl) | (simp [*, errW_none, errW_some] <;> rfl), by exact bw HB.out⟩

/-- THE ONE PURE STATEMENT of laws_FnExactKindOf: yours. -/
def laws_FnExactKindOf.Pure : Prop := ∀ (l0_0 : List (S87)) (l0_1 : List (S87)) (a1_0 : Int) (a1_1 : Int) (a1_2 : ByteArray) (l1_3 : List (S24)), Fine35 (⟨l0_0, l0_1⟩ : S35) → Fine24 (⟨a1_0, a1_1, a1_2, l1_3⟩ : S24) → ∃ k, laws_FnExactKindOf.f k l0_0 l0_1 a1_0 a1_1 a1_2 l1_3 = some true
theorem laws_FnExactKindOf.walk (P : laws_FnExactKindOf.Pure) (A0_0 : Option Addr) (c0_0 : Nat) (l0_0 : List (S87)) (A0_1 : Option Addr) (c0_1 : Nat) (l0_1 : List (S87)) (a1_0 : Int) (a1_1 : Int) (a1_2 : ByteArray) (A1_3 : Option Addr) (c1_3 : Nat) (l1_3 : List (S24)) (w : World) (hr0_0 : Kd.C k87 w A0_0 l0_0.length l0_0) (hc0_0 : l0_0.length ≤ c0_0) (hr0_1 : Kd.C k87 w A0_1 l0_1.length l0_1) (hc0_1 : l0_1.length ≤ c0_1) (w0 : Fine35 (⟨l0_0, l0_1⟩ : S35)) (hr1_3 : Kd.C k24 w A1_3 l1_3.length l1_3) (hc1_3 : l1_3.length ≤ c1_3) (w1 : Fine24 (⟨a1_0, a1_1, a1_2, l1_3⟩ : S24)) :
  Calls Try.prog 4 #[.agg #[.slice A0_0 l0_0.length c0_0, .slice A0_1 l0_1.length c0_1], .agg #[.int .i64 a1_0, .int .i64 a1_1, .string a1_2, .slice A1_3 l1_3.length c1_3]] w fun e w' => e = .returned (.bool true) ∧ Below w.heap.size w w' := by
 obtain ⟨k, h⟩ := P l0_0 l0_1 a1_0 a1_1 a1_2 l1_3 w0 w1
 refine (laws_FnExactKindOf.calls k _ _ l0_0 _ _ l0_1 a1_0 a1_1 a1_2 _ _ l1_3 true w hr0_0 hc0_0 hr0_1 hc0_1 hr1_3 hc1_3 h).mono ?_
 rintro e w' ⟨rfl, hd⟩
 exact ⟨rfl, hd⟩

end Go.Proofs.Ytbbbgochcfccgaa.P
