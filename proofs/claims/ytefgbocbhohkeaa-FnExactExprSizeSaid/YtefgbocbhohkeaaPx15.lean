-- Written by a program of this session (wip/tool).
import Derived.Test.YtefgbocbhohkeaaPx0
import Derived.Test.YtefgbocbhohkeaaPx2
import Derived.Test.YtefgbocbhohkeaaPx10
import Derived.Test.YtefgbocbhohkeaaPx11
import Derived.Test.YtefgbocbhohkeaaPx12
import Derived.Test.YtefgbocbhohkeaaPx13
import Derived.Test.YtefgbocbhohkeaaPx14
namespace Go.Proofs.Ytefgbocbhohkeaa.P
open Go.RowKit Go.Proofs.YtefgbocbhohkeaaW.PrintWords Go.Proofs.YtefgbocbhohkeaaW.PrintLast Go.Proofs.YtefgbocbhohkeaaW.PrintMore
attribute [local go_sem] max2_int min2_int max_two min_two max_three min_three max_four min_four   -- for this text's walks alone
set_option linter.unusedVariables false
set_option linter.unusedSimpArgs false

/-! ### laws_FnExactSameExpr: function 11 -/
def laws_FnExactSameExpr.f (k : Nat) (a0_0 : Int) (a0_1 : Int) (a0_2 : ByteArray) (l0_3 : List (S49)) (a1_0 : Int) (a1_1 : Int) (a1_2 : ByteArray) (l1_3 : List (S49)) : Option (Bool) := (laws_szExpr.f k a0_0 a0_1 a0_2 l0_3 1048576).bind fun t389 => (if t389 < 0 then (some true) else ((laws_szExpr.f k a1_0 a1_1 a1_2 l1_3 t389).bind fun t390 => (if t390 < 0 then (some true) else ((laws_toExpr.f k a0_0 a0_1 a0_2 l0_3).bind fun bt391 => ((laws_toExpr.f k a1_0 a1_1 a1_2 l1_3).bind fun bt397 => ((spec_SameExpr.f k bt391.1 bt391.2.1 bt391.2.2.1 bt391.2.2.2 bt397.1 bt397.2.1 bt397.2.2.1 bt397.2.2.2).bind fun t403 => ((laws_toExpr.f k a0_0 a0_1 a0_2 l0_3).bind fun bt404 => ((laws_toExpr.f k a1_0 a1_1 a1_2 l1_3).bind fun bt411 => ((impl_SameExpr.f k bt404.1 bt404.2.1 bt404.2.2.1 bt404.2.2.2 bt411.1 bt411.2.1 bt411.2.2.1 bt411.2.2.2).bind fun t418 => (if (t418 != t403) = true then (some false) else ((laws_toExpr.f k a0_0 a0_1 a0_2 l0_3).bind fun bt419 => ((laws_eqExpr.f k bt404.1 bt404.2.1 bt404.2.2.1 bt404.2.2.2 bt419.1 bt419.2.1 bt419.2.2.1 bt419.2.2.2).bind fun t425 => (if t425 = true then ((laws_toExpr.f k a1_0 a1_1 a1_2 l1_3).bind fun bt426 => ((laws_eqExpr.f k bt411.1 bt411.2.1 bt411.2.2.1 bt411.2.2.2 bt426.1 bt426.2.1 bt426.2.2.1 bt426.2.2.2).bind fun t432 => (if t432 = true then (some true) else (some false)))) else (some false))))))))))))))
theorem laws_FnExactSameExpr.mono : ∀ a0 a1 a2 a3 a4 a5 a6 a7 k, LeO (laws_FnExactSameExpr.f k a0 a1 a2 a3 a4 a5 a6 a7) (laws_FnExactSameExpr.f (k + 1) a0 a1 a2 a3 a4 a5 a6 a7) := by
 intro a0 a1 a2 a3 a4 a5 a6 a7 k
 unfold laws_FnExactSameExpr.f
 repeat' first
   | (with_reducible exact impl_SameExpr.mono _ _ _ _ _ _ _ _ _)
   | (with_reducible exact laws_eqExpr.mono _ _ _ _ _ _ _ _ _)
   | (with_reducible exact laws_szExpr.mono _ _ _ _ _ _)
   | (with_reducible exact laws_toExpr.mono _ _ _ _ _)
   | (with_reducible exact spec_SameExpr.mono _ _ _ _ _ _ _ _ _)
   | (with_reducible exact LeO.refl _)
   | (with_reducible exact LeO.none _)
   | (with_reducible refine LeO.ite ?_ ?_)
   | (with_reducible refine LeO.bind ?_ (fun _ => ?_))
   | exact impl_SameExpr.mono _ _ _ _ _ _ _ _ _
   | exact laws_eqExpr.mono _ _ _ _ _ _ _ _ _
   | exact laws_szExpr.mono _ _ _ _ _ _
   | exact laws_toExpr.mono _ _ _ _ _
   | exact spec_SameExpr.mono _ _ _ _ _ _ _ _ _
   | exact LeO.none _
   | refine LeO.ite ?_ ?_
   | refine LeO.bind ?_ (fun _ => ?_)
set_option maxHeartbeats 8000000 in
set_option maxRecDepth 100000 in
theorem laws_FnExactSameExpr.calls (k : Nat) (a0_0 : Int) (a0_1 : Int) (a0_2 : ByteArray) (A0_3 : Option Addr) (c0_3 : Nat) (l0_3 : List (S49)) (a1_0 : Int) (a1_1 : Int) (a1_2 : ByteArray) (A1_3 : Option Addr) (c1_3 : Nat) (l1_3 : List (S49)) (r : Bool) (w : World) (hr0_3 : Kd.C k49 w A0_3 l0_3.length l0_3) (hc0_3 : l0_3.length ≤ c0_3) (hr1_3 : Kd.C k49 w A1_3 l1_3.length l1_3) (hc1_3 : l1_3.length ≤ c1_3) (h : laws_FnExactSameExpr.f k a0_0 a0_1 a0_2 l0_3 a1_0 a1_1 a1_2 l1_3 = some r) :
  Calls Try.prog 11 #[.agg #[.int .i64 a0_0, .int .i64 a0_1, .string a0_2, .slice A0_3 l0_3.length c0_3], .agg #[.int .i64 a1_0, .int .i64 a1_1, .string a1_2, .slice A1_3 l1_3.length c1_3]] w fun e w' => e = .returned (.bool r) ∧ Below w.heap.size w w' := by
 have hu49 := Try.underlying49
 have hu54 := Try.underlying54
 have HR0_3 := Aside0.mk hr0_3
 have HC0_3 := Aside0.mk hc0_3
 clear hr0_3 hc0_3
 have HR1_3 := Aside0.mk hr1_3
 have HC1_3 := Aside0.mk hc1_3
 clear hr1_3 hc1_3
 have HB := Aside0.mk (Below.refl w.heap.size w)
 have H : ((laws_szExpr.f k a0_0 a0_1 a0_2 l0_3 1048576).bind fun t389 => (if t389 < 0 then (some true) else ((laws_szExpr.f k a1_0 a1_1 a1_2 l1_3 t389).bind fun t390 => (if t390 < 0 then (some true) else ((laws_toExpr.f k a0_0 a0_1 a0_2 l0_3).bind fun bt391 => ((laws_toExpr.f k a1_0 a1_1 a1_2 l1_3).bind fun bt397 => ((spec_SameExpr.f k bt391.1 bt391.2.1 bt391.2.2.1 bt391.2.2.2 bt397.1 bt397.2.1 bt397.2.2.1 bt397.2.2.2).bind fun t403 => ((laws_toExpr.f k a0_0 a0_1 a0_2 l0_3).bind fun bt404 => ((laws_toExpr.f k a1_0 a1_1 a1_2 l1_3).bind fun bt411 => ((impl_SameExpr.f k bt404.1 bt404.2.1 bt404.2.2.1 bt404.2.2.2 bt411.1 bt411.2.1 bt411.2.2.1 bt411.2.2.2).bind fun t418 => (if (t418 != t403) = true then (some false) else ((laws_toExpr.f k a0_0 a0_1 a0_2 l0_3).bind fun bt419 => ((laws_eqExpr.f k bt404.1 bt404.2.1 bt404.2.2.1 bt404.2.2.2 bt419.1 bt419.2.1 bt419.2.2.1 bt419.2.2.2).bind fun t425 => (if t425 = true then ((laws_toExpr.f k a1_0 a1_1 a1_2 l1_3).bind fun bt426 => ((laws_eqExpr.f k bt411.1 bt411.2.1 bt411.2.2.1 bt411.2.2.2 bt426.1 bt426.2.1 bt426.2.2.1 bt426.2.2.2).bind fun t432 => (if t432 = true then (some true) else (some false)))) else (some false))))))))))))))) = some r := h
 clear h
 replace H := Option.bind_eq_some_iff.mp H
 obtain ⟨t389, A30, H⟩ := H
 replace H : (if t389 < 0 then (some true) else ((laws_szExpr.f k a1_0 a1_1 a1_2 l1_3 t389).bind fun t390 => (if t390 < 0 then (some true) else ((laws_toExpr.f k a0_0 a0_1 a0_2 l0_3).bind fun bt391 => ((laws_toExpr.f k a1_0 a1_1 a1_2 l1_3).bind fun bt397 => ((spec_SameExpr.f k bt391.1 bt391.2.1 bt391.2.2.1 bt391.2.2.2 bt397.1 bt397.2.1 bt397.2.2.1 bt397.2.2.2).bind fun t403 => ((laws_toExpr.f k a0_0 a0_1 a0_2 l0_3).bind fun bt404 => ((laws_toExpr.f k a1_0 a1_1 a1_2 l1_3).bind fun bt411 => ((impl_SameExpr.f k bt404.1 bt404.2.1 bt404.2.2.1 bt404.2.2.2 bt411.1 bt411.2.1 bt411.2.2.1 bt411.2.2.2).bind fun t418 => (if (t418 != t403) = true then (some false) else ((laws_toExpr.f k a0_0 a0_1 a0_2 l0_3).bind fun bt419 => ((laws_eqExpr.f k bt404.1 bt404.2.1 bt404.2.2.1 bt404.2.2.2 bt419.1 bt419.2.1 bt419.2.2.1 bt419.2.2.2).bind fun t425 => (if t425 = true then ((laws_toExpr.f k a1_0 a1_1 a1_2 l1_3).bind fun bt426 => ((laws_eqExpr.f k bt411.1 bt411.2.1 bt411.2.2.1 bt411.2.2.2 bt426.1 bt426.2.1 bt426.2.2.1 bt426.2.2.2).bind fun t432 => (if t432 = true then (some true) else (some false)))) else (some false)))))))))))))) = some r := H
 have A3 := Aside0.mk A30
 clear A30
 have HC4 := Aside0.mk H
 clear H
 go_enter Try.func11, Try.ntmps11
 go_upto_if 14 with (first | ((with_reducible refine gate_dst (N := 2) rfl ?_); refine box_event ?hg (N := 2) ?hd (cs := #[.int .i64 a0_0, .int .i64 a0_1, .string a0_2, .slice A0_3 l0_3.length c0_3]) (t := 49) ?hr ?_; (case hd => rfl); (case hg => rfl); (case hr => first | (go_simp; done) | (go_simp; rfl)); intro gb387 hg w5 hbox hb; have n0_ := Aside0.mk (below_step (by exact bw HB.out) hb); have n1_ := Aside0.mk (hbox); have n2_ := Aside0.mk ((by rw [hg]; exact (below_size (by exact bw HB.out)) : w.heap.size ≤ gb387)); have n3_ := Aside0.mk ((by rw [hg]; exact (below_size (by exact bw HB.out)) : w.heap.size ≤ gb387)); clear HB; have HB := n0_; have BK387 := n1_; have GW387 := n2_; have GE387 := n3_; clear n0_ n1_ n2_ n3_; clear hb hbox hg) | ((with_reducible refine gate_dst (N := 3) rfl ?_); refine box_event ?hg (N := 3) ?hd (cs := #[.int .i64 a1_0, .int .i64 a1_1, .string a1_2, .slice A1_3 l1_3.length c1_3]) (t := 49) ?hr ?_; (case hd => rfl); (case hg => rfl); (case hr => first | (go_simp; done) | (go_simp; rfl)); intro gb388 hg w6 hbox hb; have n0_ := Aside0.mk (blk_below (g := gb387) (o := .cells #[.int .i64 a0_0, .int .i64 a0_1, .string a0_2, .slice A0_3 l0_3.length c0_3] 49 (0, 0)) (by exact bk BK387.out) hb); have n1_ := Aside0.mk (below_step (by exact bw HB.out) hb); have n2_ := Aside0.mk (hbox); have n3_ := Aside0.mk ((by rw [hg]; exact (below_size (by exact bw HB.out)) : w.heap.size ≤ gb388)); have n4_ := Aside0.mk ((by rw [hg]; exact (below_size (by exact bw HB.out)) : w.heap.size ≤ gb388)); have n5_ := Aside0.mk ((by rw [hg]; exact Nat.ne_of_lt (blk_lt (g := gb387) (o := .cells #[.int .i64 a0_0, .int .i64 a0_1, .string a0_2, .slice A0_3 l0_3.length c0_3] 49 (0, 0)) (by exact bk BK387.out)) : gb387 ≠ gb388)); have n6_ := Aside0.mk ((by rw [hg]; exact Nat.ne_of_gt (blk_lt (g := gb387) (o := .cells #[.int .i64 a0_0, .int .i64 a0_1, .string a0_2, .slice A0_3 l0_3.length c0_3] 49 (0, 0)) (by exact bk BK387.out)) : gb388 ≠ gb387)); clear BK387; clear HB; have BK387 := n0_; have HB := n1_; have BK388 := n2_; have GW388 := n3_; have GE388 := n4_; have NB387_388 := n5_; have NB388_387 := n6_; clear n0_ n1_ n2_ n3_ n4_ n5_ n6_; clear hb hbox hg; have hnb7 := NB387_388.out; have hnc7 := NB388_387.out; have hcz8_0 : w6.cell? ⟨gb387, 0, none⟩ = some (.int .i64 a0_0) := (blk_cell BK387.out 0).trans rfl; have hcz8_1 : w6.cell? ⟨gb387, 1, none⟩ = some (.int .i64 a0_1) := (blk_cell BK387.out 1).trans rfl; have hcz8_2 : w6.cell? ⟨gb387, 2, none⟩ = some (.string a0_2) := (blk_cell BK387.out 2).trans rfl; have hcz8_3 : w6.cell? ⟨gb387, 3, none⟩ = some (.slice A0_3 l0_3.length c0_3) := (blk_cell BK387.out 3).trans rfl; have hfz8_0 := blk_frozen BK387.out 0; have hfz8_1 := blk_frozen BK387.out 1; have hfz8_2 := blk_frozen BK387.out 2; have hfz8_3 := blk_frozen BK387.out 3) | ((with_reducible refine gate_callee (f := 32) rfl ?_); refine gl (some 12) Try.func32 #[.agg #[.int .i64 a0_0, .int .i64 a0_1, .string a0_2, .slice A0_3 l0_3.length c0_3], .int .i64 1048576] ?_; (with_reducible refine (laws_szExpr.calls k a0_0 a0_1 a0_2 _ _ l0_3 1048576 t389 _ ?side1 ?side2 A3.out).mono ?_); (case side1 => repeat (first | exact (Kd.C_below HR0_3.out HB.out) | (with_reducible refine Kd.C_alloc ?_ _) | (with_reducible refine Kd.C_drewN ?_ _) | (with_reducible refine Kd.C_drew ?_))); (case side2 => exact HC0_3.out); rintro e w9 ⟨rfl, hb⟩; refine ⟨_, rfl, ?_⟩; have n0_ := Aside0.mk (blk_below (g := gb387) (o := .cells #[.int .i64 a0_0, .int .i64 a0_1, .string a0_2, .slice A0_3 l0_3.length c0_3] 49 (0, 0)) (by exact bk BK387.out) hb); have n1_ := Aside0.mk (blk_below (g := gb388) (o := .cells #[.int .i64 a1_0, .int .i64 a1_1, .string a1_2, .slice A1_3 l1_3.length c1_3] 49 (0, 0)) (by exact bk BK388.out) hb); have n2_ := Aside0.mk (below_step (by exact bw HB.out) hb); clear BK387; clear BK388; clear HB; have BK387 := n0_; have BK388 := n1_; have HB := n2_; clear n0_ n1_ n2_; (try clear hb); (try clear hb2); (try clear hk); (try clear hi)))
 (try simp only [Act.put, List.setIfInBounds_toArray, List.set_cons_zero, List.set_cons_succ])
 have H := HC4.out
 clear HC4
 by_cases c10 : t389 < 0
 ·
  rw [if_pos c10] at H
  have c10b0 : decide (t389 < 0) = true := decide_eq_true c10
  clear c10
  (first | rw [c10b0] | (simp only [i64_w, i32_w]; rw [c10b0]) | rw [c10b2] | rw [c10b1] | skip)
  obtain rfl := Option.some.inj H
  go_wp2
  go_ret
  exact ⟨by first | rfl | (simp [errW_none, errW_some] <;> rfl) | (simp [*, errW_none, errW_some] <;> rfl), by exact bw HB.out⟩
 ·
  rw [if_neg c10] at H
  have c10b0 : decide (t389 < 0) = false := decide_eq_false c10
  clear c10
  (first | rw [c10b0] | (simp only [i64_w, i32_w]; rw [c10b0]) | rw [c10b2] | rw [c10b1] | skip)
  replace H := Option.bind_eq_some_iff.mp H
  obtain ⟨t390, A110, H⟩ := H
  replace H : (if t390 < 0 then (some true) else ((laws_toExpr.f k a0_0 a0_1 a0_2 l0_3).bind fun bt391 => ((laws_toExpr.f k a1_0 a1_1 a1_2 l1_3).bind fun bt397 => ((spec_SameExpr.f k bt391.1 bt391.2.1 bt391.2.2.1 bt391.2.2.2 bt397.1 bt397.2.1 bt397.2.2.1 bt397.2.2.2).bind fun t403 => ((laws_toExpr.f k a0_0 a0_1 a0_2 l0_3).bind fun bt404 => ((laws_toExpr.f k a1_0 a1_1 a1_2 l1_3).bind fun bt411 => ((impl_SameExpr.f k bt404.1 bt404.2.1 bt404.2.2.1 bt404.2.2.2 bt411.1 bt411.2.1 bt411.2.2.1 bt411.2.2.2).bind fun t418 => (if (t418 != t403) = true then (some false) else ((laws_toExpr.f k a0_0 a0_1 a0_2 l0_3).bind fun bt419 => ((laws_eqExpr.f k bt404.1 bt404.2.1 bt404.2.2.1 bt404.2.2.2 bt419.1 bt419.2.1 bt419.2.2.1 bt419.2.2.2).bind fun t425 => (if t425 = true then ((laws_toExpr.f k a1_0 a1_1 a1_2 l1_3).bind fun bt426 => ((laws_eqExpr.f k bt411.1 bt411.2.1 bt411.2.2.1 bt411.2.2.2 bt426.1 bt426.2.1 bt426.2.2.1 bt426.2.2.2).bind fun t432 => (if t432 = true then (some true) else (some false)))) else (some false)))))))))))) = some r := H
  have A11 := Aside0.mk A110
  clear A110
  have HC12 := Aside0.mk H
  clear H
  have hnb13 := NB388_387.out
  have hnc13 := NB387_388.out
  have hcz14_0 : w9.cell? ⟨gb388, 0, none⟩ = some (.int .i64 a1_0) := (blk_cell BK388.out 0).trans rfl
  have hcz14_1 : w9.cell? ⟨gb388, 1, none⟩ = some (.int .i64 a1_1) := (blk_cell BK388.out 1).trans rfl
  have hcz14_2 : w9.cell? ⟨gb388, 2, none⟩ = some (.string a1_2) := (blk_cell BK388.out 2).trans rfl
  have hcz14_3 : w9.cell? ⟨gb388, 3, none⟩ = some (.slice A1_3 l1_3.length c1_3) := (blk_cell BK388.out 3).trans rfl
  have hfz14_0 := blk_frozen BK388.out 0
  have hfz14_1 := blk_frozen BK388.out 1
  have hfz14_2 := blk_frozen BK388.out 2
  have hfz14_3 := blk_frozen BK388.out 3
  go_upto_if 19 with (first | ((with_reducible refine gate_callee (f := 32) rfl ?_); refine gl (some 17) Try.func32 #[.agg #[.int .i64 a1_0, .int .i64 a1_1, .string a1_2, .slice A1_3 l1_3.length c1_3], .int .i64 t389] ?_; (with_reducible refine (laws_szExpr.calls k a1_0 a1_1 a1_2 _ _ l1_3 t389 t390 _ ?side1 ?side2 A11.out).mono ?_); (case side1 => repeat (first | exact (Kd.C_below HR1_3.out HB.out) | (with_reducible refine Kd.C_alloc ?_ _) | (with_reducible refine Kd.C_drewN ?_ _) | (with_reducible refine Kd.C_drew ?_))); (case side2 => exact HC1_3.out); rintro e w15 ⟨rfl, hb⟩; refine ⟨_, rfl, ?_⟩; have n0_ := Aside0.mk (blk_below (g := gb387) (o := .cells #[.int .i64 a0_0, .int .i64 a0_1, .string a0_2, .slice A0_3 l0_3.length c0_3] 49 (0, 0)) (by exact bk BK387.out) hb); have n1_ := Aside0.mk (blk_below (g := gb388) (o := .cells #[.int .i64 a1_0, .int .i64 a1_1, .string a1_2, .slice A1_3 l1_3.length c1_3] 49 (0, 0)) (by exact bk BK388.out) hb); have n2_ := Aside0.mk (below_step (by exact bw HB.out) hb); clear BK387; clear BK388; clear HB; have BK387 := n0_; have BK388 := n1_; have HB := n2_; clear n0_ n1_ n2_; (try clear hb); (try clear hb2); (try clear hk); (try clear hi)))
  (try simp only [Act.put, List.setIfInBounds_toArray, List.set_cons_zero, List.set_cons_succ])
  have H := HC12.out
  clear HC12
  by_cases c16 : t390 < 0
  ·
   rw [if_pos c16] at H
   have c16b0 : decide (t390 < 0) = true := decide_eq_true c16
   clear c16
   (first | rw [c16b0] | (simp only [i64_w, i32_w]; rw [c16b0]) | rw [c16b2] | rw [c16b1] | skip)
   obtain rfl := Option.some.inj H
   go_wp2
   go_ret
   exact ⟨by first | rfl | (simp [errW_none, errW_some] <;> rfl) | (simp [*, errW_none, errW_some] <;> rfl), by exact bw HB.out⟩
  ·
   rw [if_neg c16] at H
   have c16b0 : decide (t390 < 0) = false := decide_eq_false c16
   clear c16
   (first | rw [c16b0] | (simp only [i64_w, i32_w]; rw [c16b0]) | rw [c16b2] | rw [c16b1] | skip)
   replace H := Option.bind_eq_some_iff.mp H
   obtain ⟨⟨t391, t392, t393, t394⟩, A170, H⟩ := H
   replace H : ((laws_toExpr.f k a1_0 a1_1 a1_2 l1_3).bind fun bt397 => ((spec_SameExpr.f k t391 t392 t393 t394 bt397.1 bt397.2.1 bt397.2.2.1 bt397.2.2.2).bind fun t403 => ((laws_toExpr.f k a0_0 a0_1 a0_2 l0_3).bind fun bt404 => ((laws_toExpr.f k a1_0 a1_1 a1_2 l1_3).bind fun bt411 => ((impl_SameExpr.f k bt404.1 bt404.2.1 bt404.2.2.1 bt404.2.2.2 bt411.1 bt411.2.1 bt411.2.2.1 bt411.2.2.2).bind fun t418 => (if (t418 != t403) = true then (some false) else ((laws_toExpr.f k a0_0 a0_1 a0_2 l0_3).bind fun bt419 => ((laws_eqExpr.f k bt404.1 bt404.2.1 bt404.2.2.1 bt404.2.2.2 bt419.1 bt419.2.1 bt419.2.2.1 bt419.2.2.2).bind fun t425 => (if t425 = true then ((laws_toExpr.f k a1_0 a1_1 a1_2 l1_3).bind fun bt426 => ((laws_eqExpr.f k bt411.1 bt411.2.1 bt411.2.2.1 bt411.2.2.2 bt426.1 bt426.2.1 bt426.2.2.1 bt426.2.2.2).bind fun t432 => (if t432 = true then (some true) else (some false)))) else (some false)))))))))) = some r := H
   have A17 := Aside0.mk A170
   clear A170
   replace H := Option.bind_eq_some_iff.mp H
   obtain ⟨⟨t397, t398, t399, t400⟩, A180, H⟩ := H
   replace H : ((spec_SameExpr.f k t391 t392 t393 t394 t397 t398 t399 t400).bind fun t403 => ((laws_toExpr.f k a0_0 a0_1 a0_2 l0_3).bind fun bt404 => ((laws_toExpr.f k a1_0 a1_1 a1_2 l1_3).bind fun bt411 => ((impl_SameExpr.f k bt404.1 bt404.2.1 bt404.2.2.1 bt404.2.2.2 bt411.1 bt411.2.1 bt411.2.2.1 bt411.2.2.2).bind fun t418 => (if (t418 != t403) = true then (some false) else ((laws_toExpr.f k a0_0 a0_1 a0_2 l0_3).bind fun bt419 => ((laws_eqExpr.f k bt404.1 bt404.2.1 bt404.2.2.1 bt404.2.2.2 bt419.1 bt419.2.1 bt419.2.2.1 bt419.2.2.2).bind fun t425 => (if t425 = true then ((laws_toExpr.f k a1_0 a1_1 a1_2 l1_3).bind fun bt426 => ((laws_eqExpr.f k bt411.1 bt411.2.1 bt411.2.2.1 bt411.2.2.2 bt426.1 bt426.2.1 bt426.2.2.1 bt426.2.2.2).bind fun t432 => (if t432 = true then (some true) else (some false)))) else (some false))))))))) = some r := H
   have A18 := Aside0.mk A180
   clear A180
   replace H := Option.bind_eq_some_iff.mp H
   obtain ⟨t403, A190, H⟩ := H
   replace H : ((laws_toExpr.f k a0_0 a0_1 a0_2 l0_3).bind fun bt404 => ((laws_toExpr.f k a1_0 a1_1 a1_2 l1_3).bind fun bt411 => ((impl_SameExpr.f k bt404.1 bt404.2.1 bt404.2.2.1 bt404.2.2.2 bt411.1 bt411.2.1 bt411.2.2.1 bt411.2.2.2).bind fun t418 => (if (t418 != t403) = true then (some false) else ((laws_toExpr.f k a0_0 a0_1 a0_2 l0_3).bind fun bt419 => ((laws_eqExpr.f k bt404.1 bt404.2.1 bt404.2.2.1 bt404.2.2.2 bt419.1 bt419.2.1 bt419.2.2.1 bt419.2.2.2).bind fun t425 => (if t425 = true then ((laws_toExpr.f k a1_0 a1_1 a1_2 l1_3).bind fun bt426 => ((laws_eqExpr.f k bt411.1 bt411.2.1 bt411.2.2.1 bt411.2.2.2 bt426.1 bt426.2.1 bt426.2.2.1 bt426.2.2.2).bind fun t432 => (if t432 = true then (some true) else (some false)))) else (some false)))))))) = some r := H
   have A19 := Aside0.mk A190
   clear A190
   replace H := Option.bind_eq_some_iff.mp H
   obtain ⟨⟨t404, t405, t406, t407⟩, A200, H⟩ := H
   replace H : ((laws_toExpr.f k a1_0 a1_1 a1_2 l1_3).bind fun bt411 => ((impl_SameExpr.f k t404 t405 t406 t407 bt411.1 bt411.2.1 bt411.2.2.1 bt411.2.2.2).bind fun t418 => (if (t418 != t403) = true then (some false) else ((laws_toExpr.f k a0_0 a0_1 a0_2 l0_3).bind fun bt419 => ((laws_eqExpr.f k t404 t405 t406 t407 bt419.1 bt419.2.1 bt419.2.2.1 bt419.2.2.2).bind fun t425 => (if t425 = true then ((laws_toExpr.f k a1_0 a1_1 a1_2 l1_3).bind fun bt426 => ((laws_eqExpr.f k bt411.1 bt411.2.1 bt411.2.2.1 bt411.2.2.2 bt426.1 bt426.2.1 bt426.2.2.1 bt426.2.2.2).bind fun t432 => (if t432 = true then (some true) else (some false)))) else (some false))))))) = some r := H
   have A20 := Aside0.mk A200
   clear A200
   replace H := Option.bind_eq_some_iff.mp H
   obtain ⟨⟨t411, t412, t413, t414⟩, A210, H⟩ := H
   replace H : ((impl_SameExpr.f k t404 t405 t406 t407 t411 t412 t413 t414).bind fun t418 => (if (t418 != t403) = true then (some false) else ((laws_toExpr.f k a0_0 a0_1 a0_2 l0_3).bind fun bt419 => ((laws_eqExpr.f k t404 t405 t406 t407 bt419.1 bt419.2.1 bt419.2.2.1 bt419.2.2.2).bind fun t425 => (if t425 = true then ((laws_toExpr.f k a1_0 a1_1 a1_2 l1_3).bind fun bt426 => ((laws_eqExpr.f k t411 t412 t413 t414 bt426.1 bt426.2.1 bt426.2.2.1 bt426.2.2.2).bind fun t432 => (if t432 = true then (some true) else (some false)))) else (some false)))))) = some r := H
   have A21 := Aside0.mk A210
   clear A210
   replace H := Option.bind_eq_some_iff.mp H
   obtain ⟨t418, A220, H⟩ := H
   replace H : (if (t418 != t403) = true then (some false) else ((laws_toExpr.f k a0_0 a0_1 a0_2 l0_3).bind fun bt419 => ((laws_eqExpr.f k t404 t405 t406 t407 bt419.1 bt419.2.1 bt419.2.2.1 bt419.2.2.2).bind fun t425 => (if t425 = true then ((laws_toExpr.f k a1_0 a1_1 a1_2 l1_3).bind fun bt426 => ((laws_eqExpr.f k t411 t412 t413 t414 bt426.1 bt426.2.1 bt426.2.2.1 bt426.2.2.2).bind fun t432 => (if t432 = true then (some true) else (some false)))) else (some false))))) = some r := H
   have A22 := Aside0.mk A220
   clear A220
   have HC23 := Aside0.mk H
   clear H
   try go_wp2
   have n0_ := Aside0.mk (blk_drew BK387.out)
   have n1_ := Aside0.mk (blk_drew BK388.out)
   have n2_ := Aside0.mk (below_drew1 HB.out)
   clear BK387
   clear BK388
   clear HB
   have BK387 := n0_
   have BK388 := n1_
   have HB := n2_
   clear n0_ n1_ n2_
   refine start_ (n := 6) (S := fun w' => w'.cell? ⟨gb387, 0, none⟩ = some (.int .i64 a0_0) ∧ w'.cell? ⟨gb387, 1, none⟩ = some (.int .i64 a0_1) ∧ w'.cell? ⟨gb387, 2, none⟩ = some (.string a0_2) ∧ w'.cell? ⟨gb387, 3, none⟩ = some (.slice A0_3 l0_3.length c0_3) ∧ w'.cell? ⟨gb388, 0, none⟩ = some (.int .i64 a1_0) ∧ w'.cell? ⟨gb388, 1, none⟩ = some (.int .i64 a1_1) ∧ w'.cell? ⟨gb388, 2, none⟩ = some (.string a1_2) ∧ w'.cell? ⟨gb388, 3, none⟩ = some (.slice A1_3 l1_3.length c1_3)) (ds := []) #[false, false, false, false, false, false] (by kernel_rfl) rfl rfl ⟨(blk_cell BK387.out 0).trans rfl, (blk_cell BK387.out 1).trans rfl, (blk_cell BK387.out 2).trans rfl, (blk_cell BK387.out 3).trans rfl, (blk_cell BK388.out 0).trans rfl, (blk_cell BK388.out 1).trans rfl, (blk_cell BK388.out 2).trans rfl, (blk_cell BK388.out 3).trans rfl⟩ (fun hHeld => ?_)
   generalize w15.drew = w24 at BK387 BK388 HB hHeld ⊢
   refine take_ (i := 0) (N := some 20) (v := ?_) (a' := ?_) #[true, false, false, false, false, false] rfl rfl (by kernel_rfl) (fun _ _ _ h => h) (Or.inl ⟨by rfl, ?_⟩) hHeld ?_ ?_
   rotate_left
   ·
    rintro w' ⟨s0, s1, s2, s3, s4, s5, s6, s7⟩
    go_simp
    with_reducible rfl
   rotate_left
   ·
    simp only [Act.put, List.setIfInBounds_toArray, List.set_cons_zero, List.set_cons_succ, i64_w, i32_w]
    rfl
   refine take_ (i := 2) (N := some 22) (v := ?_) (a' := ?_) #[true, false, true, false, false, false] rfl rfl (by kernel_rfl) (fun _ _ _ h => h) (Or.inl ⟨by rfl, ?_⟩) hHeld ?_ ?_
   rotate_left
   ·
    rintro w' ⟨s0, s1, s2, s3, s4, s5, s6, s7⟩
    go_simp
    with_reducible rfl
   rotate_left
   ·
    simp only [Act.put, List.setIfInBounds_toArray, List.set_cons_zero, List.set_cons_succ, i64_w, i32_w]
    rfl
   refine one_ (i := 1) (N := some 21) #[true, true, true, false, false, false] rfl rfl (by kernel_rfl) (by decide) (fun K hK => ?_)
   refine goes_ Try.func34 (by kernel_rfl) rfl #[.agg #[.int .i64 a0_0, .int .i64 a0_1, .string a0_2, .slice A0_3 l0_3.length c0_3]] (by rfl) rfl rfl (by (try simp only [List.map_toArray, List.map_cons, List.map_nil]); first | done | rfl | (simp only [List.length_drop, List.length_take]; rfl)) ?_
   with_reducible refine (laws_toExpr.calls k a0_0 a0_1 a0_2 _ _ l0_3 t391 t392 t393 t394 _ ?side1 ?side2 A17.out).mono ?_
   (case side1 => repeat (first | exact (Kd.C_below HR0_3.out HB.out) | (with_reducible refine Kd.C_alloc ?_ _) | (with_reducible refine Kd.C_drewN ?_ _) | (with_reducible refine Kd.C_drew ?_)))
   (case side2 => exact HC0_3.out)
   rintro e w25 ⟨v395, rfl, ho0, hb⟩
   refine ⟨_, rfl, ?_⟩
   have n0_ := Aside0.mk (Kd.R_lower ho0 (below_size (by exact bw HB.out)))
   have n1_ := Aside0.mk (blk_below (g := gb387) (o := .cells #[.int .i64 a0_0, .int .i64 a0_1, .string a0_2, .slice A0_3 l0_3.length c0_3] 49 (0, 0)) (by exact bk BK387.out) hb)
   have n2_ := Aside0.mk (blk_below (g := gb388) (o := .cells #[.int .i64 a1_0, .int .i64 a1_1, .string a1_2, .slice A1_3 l1_3.length c1_3] 49 (0, 0)) (by exact bk BK388.out) hb)
   have n3_ := Aside0.mk (below_step (by exact bw HB.out) hb)
   clear BK387
   clear BK388
   clear HB
   have HO396 := n0_
   have BK387 := n1_
   have BK388 := n2_
   have HB := n3_
   clear n0_ n1_ n2_ n3_
   (try clear hb)
   (try clear hb2)
   (try clear hk)
   (try clear hi)
   (try clear ho0)
   refine hK.out _ _ ⟨(blk_cell BK387.out 0).trans rfl, (blk_cell BK387.out 1).trans rfl, (blk_cell BK387.out 2).trans rfl, (blk_cell BK387.out 3).trans rfl, (blk_cell BK388.out 0).trans rfl, (blk_cell BK388.out 1).trans rfl, (blk_cell BK388.out 2).trans rfl, (blk_cell BK388.out 3).trans rfl⟩ (fun hHeld => ?_)
   clear hK K
   refine norm_ (a' := ?_) ?_ ?_
   rotate_left
   ·
    show Act.put _ (some 21) _ = _
    simp only [Act.put, List.setIfInBounds_toArray, List.set_cons_zero, List.set_cons_succ, i64_w, i32_w]
    rfl
   refine one_ (i := 3) (N := some 23) #[true, true, true, true, false, false] rfl rfl (by kernel_rfl) (by decide) (fun K hK => ?_)
   refine goes_ Try.func34 (by kernel_rfl) rfl #[.agg #[.int .i64 a1_0, .int .i64 a1_1, .string a1_2, .slice A1_3 l1_3.length c1_3]] (by rfl) rfl rfl (by (try simp only [List.map_toArray, List.map_cons, List.map_nil]); first | done | rfl | (simp only [List.length_drop, List.length_take]; rfl)) ?_
   with_reducible refine (laws_toExpr.calls k a1_0 a1_1 a1_2 _ _ l1_3 t397 t398 t399 t400 _ ?side1 ?side2 A18.out).mono ?_
   (case side1 => repeat (first | exact (Kd.C_below HR1_3.out HB.out) | (with_reducible refine Kd.C_alloc ?_ _) | (with_reducible refine Kd.C_drewN ?_ _) | (with_reducible refine Kd.C_drew ?_)))
   (case side2 => exact HC1_3.out)
   rintro e w26 ⟨v401, rfl, ho0, hb⟩
   refine ⟨_, rfl, ?_⟩
   have n0_ := Aside0.mk (Kd.R_elder' (by exact Kd.xR HO396.out) (Kd.R_base ho0) hb)
   have n1_ := Aside0.mk (Kd.R_lower (Kd.R_new' ho0 (Kd.R_lt (by exact Kd.xR HO396.out))) (below_size (by exact bw HB.out)))
   have n2_ := Aside0.mk (blk_below (g := gb387) (o := .cells #[.int .i64 a0_0, .int .i64 a0_1, .string a0_2, .slice A0_3 l0_3.length c0_3] 49 (0, 0)) (by exact bk BK387.out) hb)
   have n3_ := Aside0.mk (blk_below (g := gb388) (o := .cells #[.int .i64 a1_0, .int .i64 a1_1, .string a1_2, .slice A1_3 l1_3.length c1_3] 49 (0, 0)) (by exact bk BK388.out) hb)
   have n4_ := Aside0.mk (below_step (by exact bw HB.out) hb)
   clear HO396
   clear BK387
   clear BK388
   clear HB
   have HO396 := n0_
   have HO402 := n1_
   have BK387 := n2_
   have BK388 := n3_
   have HB := n4_
   clear n0_ n1_ n2_ n3_ n4_
   (try clear hb)
   (try clear hb2)
   (try clear hk)
   (try clear hi)
   (try clear ho0)
   obtain ⟨Ao27, co27, eo27⟩ := Kd.R_slice HO396.out
   (first | subst eo27 | (injection eo27 with f1_ f2_ f3_; have f4_ := f1_.symm; have f5_ := f3_.symm; clear f1_ f2_ f3_; subst f4_; subst f5_))
   obtain ⟨Ao28, co28, eo28⟩ := Kd.R_slice HO402.out
   (first | subst eo28 | (injection eo28 with f1_ f2_ f3_; have f4_ := f1_.symm; have f5_ := f3_.symm; clear f1_ f2_ f3_; subst f4_; subst f5_))
   refine hK.out _ _ ⟨(blk_cell BK387.out 0).trans rfl, (blk_cell BK387.out 1).trans rfl, (blk_cell BK387.out 2).trans rfl, (blk_cell BK387.out 3).trans rfl, (blk_cell BK388.out 0).trans rfl, (blk_cell BK388.out 1).trans rfl, (blk_cell BK388.out 2).trans rfl, (blk_cell BK388.out 3).trans rfl⟩ (fun hHeld => ?_)
   clear hK K
   refine norm_ (a' := ?_) ?_ ?_
   rotate_left
   ·
    show Act.put _ (some 23) _ = _
    simp only [Act.put, List.setIfInBounds_toArray, List.set_cons_zero, List.set_cons_succ, i64_w, i32_w]
    rfl
   refine one_ (i := 4) (N := some 24) #[true, true, true, true, true, false] rfl rfl (by kernel_rfl) (by decide) (fun K hK => ?_)
   refine goes_ Try.func33 (by kernel_rfl) rfl #[.agg #[.int .i64 t391, .int .i64 t392, .string t393, .slice Ao27 t394.length co27], .agg #[.int .i64 t397, .int .i64 t398, .string t399, .slice Ao28 t400.length co28]] (by rfl) rfl rfl (by (try simp only [List.map_toArray, List.map_cons, List.map_nil]); first | done | rfl | (simp only [List.length_drop, List.length_take]; rfl)) ?_
   with_reducible refine (spec_SameExpr.calls k t391 t392 t393 _ _ t394 t397 t398 t399 _ _ t400 t403 _ ?side1 ?side2 ?side3 ?side4 A19.out).mono ?_
   (case side1 => repeat (first | exact (Kd.R_reads' HO396.out).2.2 | (with_reducible refine Kd.C_alloc ?_ _) | (with_reducible refine Kd.C_drewN ?_ _) | (with_reducible refine Kd.C_drew ?_)))
   (case side2 => exact (Kd.R_reads' HO396.out).2.1)
   (case side3 => repeat (first | exact (Kd.R_reads' HO402.out).2.2 | (with_reducible refine Kd.C_alloc ?_ _) | (with_reducible refine Kd.C_drewN ?_ _) | (with_reducible refine Kd.C_drew ?_)))
   (case side4 => exact (Kd.R_reads' HO402.out).2.1)
   rintro e w29 ⟨rfl, hb⟩
   refine ⟨_, rfl, ?_⟩
   have n0_ := Aside0.mk (Kd.R_below (by exact Kd.xR HO396.out) hb)
   have n1_ := Aside0.mk (Kd.R_below (by exact Kd.xR HO402.out) hb)
   have n2_ := Aside0.mk (blk_below (g := gb387) (o := .cells #[.int .i64 a0_0, .int .i64 a0_1, .string a0_2, .slice A0_3 l0_3.length c0_3] 49 (0, 0)) (by exact bk BK387.out) hb)
   have n3_ := Aside0.mk (blk_below (g := gb388) (o := .cells #[.int .i64 a1_0, .int .i64 a1_1, .string a1_2, .slice A1_3 l1_3.length c1_3] 49 (0, 0)) (by exact bk BK388.out) hb)
   have n4_ := Aside0.mk (below_step (by exact bw HB.out) hb)
   clear HO396
   clear HO402
   clear BK387
   clear BK388
   clear HB
   have HO396 := n0_
   have HO402 := n1_
   have BK387 := n2_
   have BK388 := n3_
   have HB := n4_
   clear n0_ n1_ n2_ n3_ n4_
   (try clear hb)
   (try clear hb2)
   (try clear hk)
   (try clear hi)
   refine hK.out _ _ ⟨(blk_cell BK387.out 0).trans rfl, (blk_cell BK387.out 1).trans rfl, (blk_cell BK387.out 2).trans rfl, (blk_cell BK387.out 3).trans rfl, (blk_cell BK388.out 0).trans rfl, (blk_cell BK388.out 1).trans rfl, (blk_cell BK388.out 2).trans rfl, (blk_cell BK388.out 3).trans rfl⟩ (fun hHeld => ?_)
   clear hK K
   refine norm_ (a' := ?_) ?_ ?_
   rotate_left
   ·
    show Act.put _ (some 24) _ = _
    simp only [Act.put, List.setIfInBounds_toArray, List.set_cons_zero, List.set_cons_succ, i64_w, i32_w]
    rfl
   refine pure_ (i := 5) (N := some 6) (v := ?_) (a' := ?_) #[true, true, true, true, true, true] rfl rfl (by kernel_rfl) (fun _ _ _ h => h) (Or.inl ⟨by rfl, ?_⟩) ?_ ?_
   rotate_left
   ·
    intro w'
    go_simp
    with_reducible rfl
   rotate_left
   ·
    simp only [Act.put, List.setIfInBounds_toArray, List.set_cons_zero, List.set_cons_succ, i64_w, i32_w]
    rfl
   refine done_ (by kernel_rfl) ?_
   have hnb30 := NB387_388.out
   have hnc30 := NB388_387.out
   have hcz31_0 : w29.cell? ⟨gb387, 0, none⟩ = some (.int .i64 a0_0) := (blk_cell BK387.out 0).trans rfl
   have hcz31_1 : w29.cell? ⟨gb387, 1, none⟩ = some (.int .i64 a0_1) := (blk_cell BK387.out 1).trans rfl
   have hcz31_2 : w29.cell? ⟨gb387, 2, none⟩ = some (.string a0_2) := (blk_cell BK387.out 2).trans rfl
   have hcz31_3 : w29.cell? ⟨gb387, 3, none⟩ = some (.slice A0_3 l0_3.length c0_3) := (blk_cell BK387.out 3).trans rfl
   have hfz31_0 := blk_frozen BK387.out 0
   have hfz31_1 := blk_frozen BK387.out 1
   have hfz31_2 := blk_frozen BK387.out 2
   have hfz31_3 := blk_frozen BK387.out 3
   go_upto_if 34 with (first | ((with_reducible refine gate_callee (f := 34) rfl ?_); refine gl (some 26) Try.func34 #[.agg #[.int .i64 a0_0, .int .i64 a0_1, .string a0_2, .slice A0_3 l0_3.length c0_3]] ?_; (with_reducible refine (laws_toExpr.calls k a0_0 a0_1 a0_2 _ _ l0_3 t404 t405 t406 t407 _ ?side1 ?side2 A20.out).mono ?_); (case side1 => repeat (first | exact (Kd.C_below HR0_3.out HB.out) | (with_reducible refine Kd.C_alloc ?_ _) | (with_reducible refine Kd.C_drewN ?_ _) | (with_reducible refine Kd.C_drew ?_))); (case side2 => exact HC0_3.out); rintro e w32 ⟨v408, rfl, ho0, hb⟩; refine ⟨_, rfl, ?_⟩; have n0_ := Aside0.mk (Kd.R_elder' (by exact Kd.xR HO396.out) (Kd.R_base ho0) hb); have n1_ := Aside0.mk (Kd.R_elder' (by exact Kd.xR HO402.out) (Kd.R_base ho0) hb); have n2_ := Aside0.mk (Kd.R_lower (Kd.R_new' (Kd.R_new' ho0 (Kd.R_lt (by exact Kd.xR HO396.out))) (Kd.R_lt (by exact Kd.xR HO402.out))) (below_size (by exact bw HB.out))); have n3_ := Aside0.mk (blk_below (g := gb387) (o := .cells #[.int .i64 a0_0, .int .i64 a0_1, .string a0_2, .slice A0_3 l0_3.length c0_3] 49 (0, 0)) (by exact bk BK387.out) hb); have n4_ := Aside0.mk (blk_below (g := gb388) (o := .cells #[.int .i64 a1_0, .int .i64 a1_1, .string a1_2, .slice A1_3 l1_3.length c1_3] 49 (0, 0)) (by exact bk BK388.out) hb); have n5_ := Aside0.mk (below_step (by exact bw HB.out) hb); clear HO396; clear HO402; clear BK387; clear BK388; clear HB; have HO396 := n0_; have HO402 := n1_; have HO409 := n2_; have BK387 := n3_; have BK388 := n4_; have HB := n5_; clear n0_ n1_ n2_ n3_ n4_ n5_; (try clear hb); (try clear hb2); (try clear hk); (try clear hi); (try clear ho0)) | ((with_reducible refine gate_dst (N := 7) rfl ?_); refine box_event ?hg (N := 7) ?hd (cs := #[.int .i64 0, .int .i64 0, .string (⟨#[]⟩ : ByteArray), .slice none 0 0]) (t := 54) ?hr ?_; (case hd => rfl); (case hg => rfl); (case hr => first | (go_simp; done) | (go_simp; rfl)); intro gb410 hg w33 hbox hb; have n0_ := Aside0.mk (Kd.R_below (Kd.R_elderB (by exact Kd.xR HO396.out) gb410 (Nat.le_of_eq hg.symm)) hb); have n1_ := Aside0.mk (Kd.R_below (Kd.R_elderB (by exact Kd.xR HO402.out) gb410 (Nat.le_of_eq hg.symm)) hb); have n2_ := Aside0.mk (Kd.R_below (Kd.R_elderB (by exact Kd.xR HO409.out) gb410 (Nat.le_of_eq hg.symm)) hb); have n3_ := Aside0.mk (blk_below (g := gb387) (o := .cells #[.int .i64 a0_0, .int .i64 a0_1, .string a0_2, .slice A0_3 l0_3.length c0_3] 49 (0, 0)) (by exact bk BK387.out) hb); have n4_ := Aside0.mk (blk_below (g := gb388) (o := .cells #[.int .i64 a1_0, .int .i64 a1_1, .string a1_2, .slice A1_3 l1_3.length c1_3] 49 (0, 0)) (by exact bk BK388.out) hb); have n5_ := Aside0.mk (below_step (by exact bw HB.out) hb); have n6_ := Aside0.mk (hbox); have n7_ := Aside0.mk ((by rw [hg]; exact (below_size (by exact bw HB.out)) : w.heap.size ≤ gb410)); have n8_ := Aside0.mk ((by rw [hg]; exact (below_size (by exact bw HB.out)) : w.heap.size ≤ gb410)); have n9_ := Aside0.mk ((by rw [hg]; exact Nat.ne_of_lt (blk_lt (g := gb387) (o := .cells #[.int .i64 a0_0, .int .i64 a0_1, .string a0_2, .slice A0_3 l0_3.length c0_3] 49 (0, 0)) (by exact bk BK387.out)) : gb387 ≠ gb410)); have n10_ := Aside0.mk ((by rw [hg]; exact Nat.ne_of_gt (blk_lt (g := gb387) (o := .cells #[.int .i64 a0_0, .int .i64 a0_1, .string a0_2, .slice A0_3 l0_3.length c0_3] 49 (0, 0)) (by exact bk BK387.out)) : gb410 ≠ gb387)); have n11_ := Aside0.mk ((by rw [hg]; exact Nat.ne_of_lt (blk_lt (g := gb388) (o := .cells #[.int .i64 a1_0, .int .i64 a1_1, .string a1_2, .slice A1_3 l1_3.length c1_3] 49 (0, 0)) (by exact bk BK388.out)) : gb388 ≠ gb410)); have n12_ := Aside0.mk ((by rw [hg]; exact Nat.ne_of_gt (blk_lt (g := gb388) (o := .cells #[.int .i64 a1_0, .int .i64 a1_1, .string a1_2, .slice A1_3 l1_3.length c1_3] 49 (0, 0)) (by exact bk BK388.out)) : gb410 ≠ gb388)); clear HO396; clear HO402; clear HO409; clear BK387; clear BK388; clear HB; have HO396 := n0_; have HO402 := n1_; have HO409 := n2_; have BK387 := n3_; have BK388 := n4_; have HB := n5_; have BK410 := n6_; have GW410 := n7_; have GE410 := n8_; have NB387_410 := n9_; have NB410_387 := n10_; have NB388_410 := n11_; have NB410_388 := n12_; clear n0_ n1_ n2_ n3_ n4_ n5_ n6_ n7_ n8_ n9_ n10_ n11_ n12_; clear hb hbox hg; have hnb34 := NB410_387.out; have hnc34 := NB387_410.out; have hnb35 := NB410_388.out; have hnc35 := NB388_410.out; have hcz36_0 : w33.cell? ⟨gb410, 0, none⟩ = some (.int .i64 0) := (blk_cell BK410.out 0).trans rfl; have hcz36_1 : w33.cell? ⟨gb410, 1, none⟩ = some (.int .i64 0) := (blk_cell BK410.out 1).trans rfl; have hcz36_2 : w33.cell? ⟨gb410, 2, none⟩ = some (.string (⟨#[]⟩ : ByteArray)) := (blk_cell BK410.out 2).trans rfl; have hcz36_3 : w33.cell? ⟨gb410, 3, none⟩ = some (.slice none 0 0) := (blk_cell BK410.out 3).trans rfl; have hfz36_0 := blk_frozen BK410.out 0; have hfz36_1 := blk_frozen BK410.out 1; have hfz36_2 := blk_frozen BK410.out 2; have hfz36_3 := blk_frozen BK410.out 3; obtain ⟨Ao37, co37, eo37⟩ := Kd.R_slice HO409.out; subst eo37; have hcz38_0 : w33.cell? ⟨gb388, 0, none⟩ = some (.int .i64 a1_0) := (blk_cell BK388.out 0).trans rfl; have hcz38_1 : w33.cell? ⟨gb388, 1, none⟩ = some (.int .i64 a1_1) := (blk_cell BK388.out 1).trans rfl; have hcz38_2 : w33.cell? ⟨gb388, 2, none⟩ = some (.string a1_2) := (blk_cell BK388.out 2).trans rfl; have hcz38_3 : w33.cell? ⟨gb388, 3, none⟩ = some (.slice A1_3 l1_3.length c1_3) := (blk_cell BK388.out 3).trans rfl; have hfz38_0 := blk_frozen BK388.out 0; have hfz38_1 := blk_frozen BK388.out 1; have hfz38_2 := blk_frozen BK388.out 2; have hfz38_3 := blk_frozen BK388.out 3) | ((with_reducible refine gate_callee (f := 34) rfl ?_); refine gl (some 28) Try.func34 #[.agg #[.int .i64 a1_0, .int .i64 a1_1, .string a1_2, .slice A1_3 l1_3.length c1_3]] ?_; (with_reducible refine (laws_toExpr.calls k a1_0 a1_1 a1_2 _ _ l1_3 t411 t412 t413 t414 _ ?side1 ?side2 A21.out).mono ?_); (case side1 => exact Kd.C_below HR1_3.out (by exact bw HB.out)); (case side2 => exact HC1_3.out); rintro e w39 ⟨v415, rfl, ho0, hb⟩; refine ⟨_, rfl, ?_⟩; have n0_ := Aside0.mk (Kd.R_elder' (by (with_reducible repeat (first | apply Kd.R_alloc | apply Kd.R_drewN | apply Kd.R_drew)); exact (Kd.R_mono (Kd.R_far (p := ⟨gb410, 3, none⟩) (Kd.R_far (p := ⟨gb410, 2, none⟩) (Kd.R_far (p := ⟨gb410, 1, none⟩) (Kd.R_far (p := ⟨gb410, 0, none⟩) (Kd.R_mono HO396.out (fun k_ hk => (⟨hk, okp hk⟩ : _ ∧ k_ ≠ gb410))) (fun _ hk => hk.2) (.int .i64 t404)) (fun _ hk => hk.2) (.int .i64 t405)) (fun _ hk => hk.2) (.string t406)) (fun _ hk => hk.2) (.slice Ao37 t407.length co37)) (fun _ h_ => h_.1))) (Kd.R_base ho0) hb); have n1_ := Aside0.mk (Kd.R_elder' (by (with_reducible repeat (first | apply Kd.R_alloc | apply Kd.R_drewN | apply Kd.R_drew)); exact (Kd.R_mono (Kd.R_far (p := ⟨gb410, 3, none⟩) (Kd.R_far (p := ⟨gb410, 2, none⟩) (Kd.R_far (p := ⟨gb410, 1, none⟩) (Kd.R_far (p := ⟨gb410, 0, none⟩) (Kd.R_mono HO402.out (fun k_ hk => (⟨hk, okp hk⟩ : _ ∧ k_ ≠ gb410))) (fun _ hk => hk.2) (.int .i64 t404)) (fun _ hk => hk.2) (.int .i64 t405)) (fun _ hk => hk.2) (.string t406)) (fun _ hk => hk.2) (.slice Ao37 t407.length co37)) (fun _ h_ => h_.1))) (Kd.R_base ho0) hb); have n2_ := Aside0.mk (Kd.R_elder' (by (with_reducible repeat (first | apply Kd.R_alloc | apply Kd.R_drewN | apply Kd.R_drew)); exact (Kd.R_mono (Kd.R_far (p := ⟨gb410, 3, none⟩) (Kd.R_far (p := ⟨gb410, 2, none⟩) (Kd.R_far (p := ⟨gb410, 1, none⟩) (Kd.R_far (p := ⟨gb410, 0, none⟩) (Kd.R_mono HO409.out (fun k_ hk => (⟨hk, okp hk⟩ : _ ∧ k_ ≠ gb410))) (fun _ hk => hk.2) (.int .i64 t404)) (fun _ hk => hk.2) (.int .i64 t405)) (fun _ hk => hk.2) (.string t406)) (fun _ hk => hk.2) (.slice Ao37 t407.length co37)) (fun _ h_ => h_.1))) (Kd.R_base ho0) hb); have n3_ := Aside0.mk (Kd.R_lower (Kd.R_newB (Kd.R_new' (Kd.R_new' (Kd.R_new' ho0 (Kd.R_lt (by (with_reducible repeat (first | apply Kd.R_alloc | apply Kd.R_drewN | apply Kd.R_drew)); exact (Kd.R_mono (Kd.R_far (p := ⟨gb410, 3, none⟩) (Kd.R_far (p := ⟨gb410, 2, none⟩) (Kd.R_far (p := ⟨gb410, 1, none⟩) (Kd.R_far (p := ⟨gb410, 0, none⟩) (Kd.R_mono HO396.out (fun k_ hk => (⟨hk, okp hk⟩ : _ ∧ k_ ≠ gb410))) (fun _ hk => hk.2) (.int .i64 t404)) (fun _ hk => hk.2) (.int .i64 t405)) (fun _ hk => hk.2) (.string t406)) (fun _ hk => hk.2) (.slice Ao37 t407.length co37)) (fun _ h_ => h_.1))))) (Kd.R_lt (by (with_reducible repeat (first | apply Kd.R_alloc | apply Kd.R_drewN | apply Kd.R_drew)); exact (Kd.R_mono (Kd.R_far (p := ⟨gb410, 3, none⟩) (Kd.R_far (p := ⟨gb410, 2, none⟩) (Kd.R_far (p := ⟨gb410, 1, none⟩) (Kd.R_far (p := ⟨gb410, 0, none⟩) (Kd.R_mono HO402.out (fun k_ hk => (⟨hk, okp hk⟩ : _ ∧ k_ ≠ gb410))) (fun _ hk => hk.2) (.int .i64 t404)) (fun _ hk => hk.2) (.int .i64 t405)) (fun _ hk => hk.2) (.string t406)) (fun _ hk => hk.2) (.slice Ao37 t407.length co37)) (fun _ h_ => h_.1))))) (Kd.R_lt (by (with_reducible repeat (first | apply Kd.R_alloc | apply Kd.R_drewN | apply Kd.R_drew)); exact (Kd.R_mono (Kd.R_far (p := ⟨gb410, 3, none⟩) (Kd.R_far (p := ⟨gb410, 2, none⟩) (Kd.R_far (p := ⟨gb410, 1, none⟩) (Kd.R_far (p := ⟨gb410, 0, none⟩) (Kd.R_mono HO409.out (fun k_ hk => (⟨hk, okp hk⟩ : _ ∧ k_ ≠ gb410))) (fun _ hk => hk.2) (.int .i64 t404)) (fun _ hk => hk.2) (.int .i64 t405)) (fun _ hk => hk.2) (.string t406)) (fun _ hk => hk.2) (.slice Ao37 t407.length co37)) (fun _ h_ => h_.1))))) (g := gb410) (o := .cells #[.int .i64 t404, .int .i64 t405, .string t406, .slice Ao37 t407.length co37] 54 (0, 0)) (by (with_reducible repeat (first | refine blk_drewN ?_ _ | refine blk_drew ?_ | refine blk_alloc ?_ _)); refine blk_put (cs := #[.int .i64 t404, .int .i64 t405, .string t406, .slice none 0 0]) ?_ 3 _ rfl; (with_reducible repeat (first | refine blk_drewN ?_ _ | refine blk_drew ?_ | refine blk_alloc ?_ _)); refine blk_put (cs := #[.int .i64 t404, .int .i64 t405, .string (⟨#[]⟩ : ByteArray), .slice none 0 0]) ?_ 2 _ rfl; (with_reducible repeat (first | refine blk_drewN ?_ _ | refine blk_drew ?_ | refine blk_alloc ?_ _)); refine blk_put (cs := #[.int .i64 t404, .int .i64 0, .string (⟨#[]⟩ : ByteArray), .slice none 0 0]) ?_ 1 _ rfl; (with_reducible repeat (first | refine blk_drewN ?_ _ | refine blk_drew ?_ | refine blk_alloc ?_ _)); refine blk_put (cs := #[.int .i64 0, .int .i64 0, .string (⟨#[]⟩ : ByteArray), .slice none 0 0]) ?_ 0 _ rfl; exact bk BK410.out)) (below_size (by exact bw HB.out))); have n4_ := Aside0.mk (blk_below (g := gb387) (o := .cells #[.int .i64 a0_0, .int .i64 a0_1, .string a0_2, .slice A0_3 l0_3.length c0_3] 49 (0, 0)) (by (with_reducible repeat (first | refine blk_drewN ?_ _ | refine blk_drew ?_ | refine blk_alloc ?_ _)); refine blk_far ?_ NB387_410.out _; (with_reducible repeat (first | refine blk_drewN ?_ _ | refine blk_drew ?_ | refine blk_alloc ?_ _)); refine blk_far ?_ NB387_410.out _; (with_reducible repeat (first | refine blk_drewN ?_ _ | refine blk_drew ?_ | refine blk_alloc ?_ _)); refine blk_far ?_ NB387_410.out _; (with_reducible repeat (first | refine blk_drewN ?_ _ | refine blk_drew ?_ | refine blk_alloc ?_ _)); refine blk_far ?_ NB387_410.out _; exact bk BK387.out) hb); have n5_ := Aside0.mk (blk_below (g := gb388) (o := .cells #[.int .i64 a1_0, .int .i64 a1_1, .string a1_2, .slice A1_3 l1_3.length c1_3] 49 (0, 0)) (by (with_reducible repeat (first | refine blk_drewN ?_ _ | refine blk_drew ?_ | refine blk_alloc ?_ _)); refine blk_far ?_ NB388_410.out _; (with_reducible repeat (first | refine blk_drewN ?_ _ | refine blk_drew ?_ | refine blk_alloc ?_ _)); refine blk_far ?_ NB388_410.out _; (with_reducible repeat (first | refine blk_drewN ?_ _ | refine blk_drew ?_ | refine blk_alloc ?_ _)); refine blk_far ?_ NB388_410.out _; (with_reducible repeat (first | refine blk_drewN ?_ _ | refine blk_drew ?_ | refine blk_alloc ?_ _)); refine blk_far ?_ NB388_410.out _; exact bk BK388.out) hb); have n6_ := Aside0.mk (blk_below (g := gb410) (o := .cells #[.int .i64 t404, .int .i64 t405, .string t406, .slice Ao37 t407.length co37] 54 (0, 0)) (by (with_reducible repeat (first | refine blk_drewN ?_ _ | refine blk_drew ?_ | refine blk_alloc ?_ _)); refine blk_put (cs := #[.int .i64 t404, .int .i64 t405, .string t406, .slice none 0 0]) ?_ 3 _ rfl; (with_reducible repeat (first | refine blk_drewN ?_ _ | refine blk_drew ?_ | refine blk_alloc ?_ _)); refine blk_put (cs := #[.int .i64 t404, .int .i64 t405, .string (⟨#[]⟩ : ByteArray), .slice none 0 0]) ?_ 2 _ rfl; (with_reducible repeat (first | refine blk_drewN ?_ _ | refine blk_drew ?_ | refine blk_alloc ?_ _)); refine blk_put (cs := #[.int .i64 t404, .int .i64 0, .string (⟨#[]⟩ : ByteArray), .slice none 0 0]) ?_ 1 _ rfl; (with_reducible repeat (first | refine blk_drewN ?_ _ | refine blk_drew ?_ | refine blk_alloc ?_ _)); refine blk_put (cs := #[.int .i64 0, .int .i64 0, .string (⟨#[]⟩ : ByteArray), .slice none 0 0]) ?_ 0 _ rfl; exact bk BK410.out) hb); have n7_ := Aside0.mk (below_step (by exact bw HB.out) hb); clear HO396; clear HO402; clear HO409; clear BK387; clear BK388; clear BK410; clear HB; have HO396 := n0_; have HO402 := n1_; have HO409 := n2_; have HO416 := n3_; have BK387 := n4_; have BK388 := n5_; have BK410 := n6_; have HB := n7_; clear n0_ n1_ n2_ n3_ n4_ n5_ n6_ n7_; (try clear hb); (try clear hb2); (try clear hk); (try clear hi); (try clear ho0)) | ((with_reducible refine gate_dst (N := 8) rfl ?_); refine box_event ?hg (N := 8) ?hd (cs := #[.int .i64 0, .int .i64 0, .string (⟨#[]⟩ : ByteArray), .slice none 0 0]) (t := 54) ?hr ?_; (case hd => rfl); (case hg => rfl); (case hr => first | (go_simp; done) | (go_simp; rfl)); intro gb417 hg w40 hbox hb; have n0_ := Aside0.mk (Kd.R_below (Kd.R_elderB (by exact Kd.xR HO396.out) gb417 (Nat.le_of_eq hg.symm)) hb); have n1_ := Aside0.mk (Kd.R_below (Kd.R_elderB (by exact Kd.xR HO402.out) gb417 (Nat.le_of_eq hg.symm)) hb); have n2_ := Aside0.mk (Kd.R_below (Kd.R_elderB (by exact Kd.xR HO409.out) gb417 (Nat.le_of_eq hg.symm)) hb); have n3_ := Aside0.mk (Kd.R_below (Kd.R_elderB (by exact Kd.xR HO416.out) gb417 (Nat.le_of_eq hg.symm)) hb); have n4_ := Aside0.mk (blk_below (g := gb387) (o := .cells #[.int .i64 a0_0, .int .i64 a0_1, .string a0_2, .slice A0_3 l0_3.length c0_3] 49 (0, 0)) (by exact bk BK387.out) hb); have n5_ := Aside0.mk (blk_below (g := gb388) (o := .cells #[.int .i64 a1_0, .int .i64 a1_1, .string a1_2, .slice A1_3 l1_3.length c1_3] 49 (0, 0)) (by exact bk BK388.out) hb); have n6_ := Aside0.mk (blk_below (g := gb410) (o := .cells #[.int .i64 t404, .int .i64 t405, .string t406, .slice Ao37 t407.length co37] 54 (0, 0)) (by exact bk BK410.out) hb); have n7_ := Aside0.mk (below_step (by exact bw HB.out) hb); have n8_ := Aside0.mk (hbox); have n9_ := Aside0.mk ((by rw [hg]; exact (below_size (by exact bw HB.out)) : w.heap.size ≤ gb417)); have n10_ := Aside0.mk ((by rw [hg]; exact (below_size (by exact bw HB.out)) : w.heap.size ≤ gb417)); have n11_ := Aside0.mk ((by rw [hg]; exact Nat.ne_of_lt (blk_lt (g := gb387) (o := .cells #[.int .i64 a0_0, .int .i64 a0_1, .string a0_2, .slice A0_3 l0_3.length c0_3] 49 (0, 0)) (by exact bk BK387.out)) : gb387 ≠ gb417)); have n12_ := Aside0.mk ((by rw [hg]; exact Nat.ne_of_gt (blk_lt (g := gb387) (o := .cells #[.int .i64 a0_0, .int .i64 a0_1, .string a0_2, .slice A0_3 l0_3.length c0_3] 49 (0, 0)) (by exact bk BK387.out)) : gb417 ≠ gb387)); have n13_ := Aside0.mk ((by rw [hg]; exact Nat.ne_of_lt (blk_lt (g := gb388) (o := .cells #[.int .i64 a1_0, .int .i64 a1_1, .string a1_2, .slice A1_3 l1_3.length c1_3] 49 (0, 0)) (by exact bk BK388.out)) : gb388 ≠ gb417)); have n14_ := Aside0.mk ((by rw [hg]; exact Nat.ne_of_gt (blk_lt (g := gb388) (o := .cells #[.int .i64 a1_0, .int .i64 a1_1, .string a1_2, .slice A1_3 l1_3.length c1_3] 49 (0, 0)) (by exact bk BK388.out)) : gb417 ≠ gb388)); have n15_ := Aside0.mk ((by rw [hg]; exact Nat.ne_of_lt (blk_lt (g := gb410) (o := .cells #[.int .i64 t404, .int .i64 t405, .string t406, .slice Ao37 t407.length co37] 54 (0, 0)) (by exact bk BK410.out)) : gb410 ≠ gb417)); have n16_ := Aside0.mk ((by rw [hg]; exact Nat.ne_of_gt (blk_lt (g := gb410) (o := .cells #[.int .i64 t404, .int .i64 t405, .string t406, .slice Ao37 t407.length co37] 54 (0, 0)) (by exact bk BK410.out)) : gb417 ≠ gb410)); clear HO396; clear HO402; clear HO409; clear HO416; clear BK387; clear BK388; clear BK410; clear HB; have HO396 := n0_; have HO402 := n1_; have HO409 := n2_; have HO416 := n3_; have BK387 := n4_; have BK388 := n5_; have BK410 := n6_; have HB := n7_; have BK417 := n8_; have GW417 := n9_; have GE417 := n10_; have NB387_417 := n11_; have NB417_387 := n12_; have NB388_417 := n13_; have NB417_388 := n14_; have NB410_417 := n15_; have NB417_410 := n16_; clear n0_ n1_ n2_ n3_ n4_ n5_ n6_ n7_ n8_ n9_ n10_ n11_ n12_ n13_ n14_ n15_ n16_; clear hb hbox hg; have hnb41 := NB417_387.out; have hnc41 := NB387_417.out; have hnb42 := NB417_388.out; have hnc42 := NB388_417.out; have hnb43 := NB417_410.out; have hnc43 := NB410_417.out; have hcz44_0 : w40.cell? ⟨gb417, 0, none⟩ = some (.int .i64 0) := (blk_cell BK417.out 0).trans rfl; have hcz44_1 : w40.cell? ⟨gb417, 1, none⟩ = some (.int .i64 0) := (blk_cell BK417.out 1).trans rfl; have hcz44_2 : w40.cell? ⟨gb417, 2, none⟩ = some (.string (⟨#[]⟩ : ByteArray)) := (blk_cell BK417.out 2).trans rfl; have hcz44_3 : w40.cell? ⟨gb417, 3, none⟩ = some (.slice none 0 0) := (blk_cell BK417.out 3).trans rfl; have hfz44_0 := blk_frozen BK417.out 0; have hfz44_1 := blk_frozen BK417.out 1; have hfz44_2 := blk_frozen BK417.out 2; have hfz44_3 := blk_frozen BK417.out 3; obtain ⟨Ao45, co45, eo45⟩ := Kd.R_slice HO416.out; subst eo45; have hcz46_0 : w40.cell? ⟨gb410, 0, none⟩ = some (.int .i64 t404) := (blk_cell BK410.out 0).trans rfl; have hcz46_1 : w40.cell? ⟨gb410, 1, none⟩ = some (.int .i64 t405) := (blk_cell BK410.out 1).trans rfl; have hcz46_2 : w40.cell? ⟨gb410, 2, none⟩ = some (.string t406) := (blk_cell BK410.out 2).trans rfl; have hcz46_3 : w40.cell? ⟨gb410, 3, none⟩ = some (.slice Ao37 t407.length co37) := (blk_cell BK410.out 3).trans rfl; have hfz46_0 := blk_frozen BK410.out 0; have hfz46_1 := blk_frozen BK410.out 1; have hfz46_2 := blk_frozen BK410.out 2; have hfz46_3 := blk_frozen BK410.out 3) | ((with_reducible refine gate_callee (f := 35) rfl ?_); refine gl (some 31) Try.func35 #[.agg #[.int .i64 t404, .int .i64 t405, .string t406, .slice Ao37 t407.length co37], .agg #[.int .i64 t411, .int .i64 t412, .string t413, .slice Ao45 t414.length co45]] ?_; (with_reducible refine (impl_SameExpr.calls k t404 t405 t406 _ _ t407 t411 t412 t413 _ _ t414 t418 _ ?side1 ?side2 ?side3 ?side4 A22.out).mono ?_); (case side1 => refine (Kd.R_reads' (e := 54) (base := w.heap.size) (ok := fun k_ => (((((True ∧ some k_ ≠ (.slice Ao27 t394.length co27 : Value).ownBlock) ∧ some k_ ≠ (.slice Ao28 t400.length co28 : Value).ownBlock) ∧ k_ ≠ gb410) ∧ some k_ ≠ (.slice Ao45 t414.length co45 : Value).ownBlock) ∧ k_ ≠ gb417)) (n := t407.length) (c := co37) ?_).2.2; exact (by (with_reducible repeat (first | apply Kd.R_alloc | apply Kd.R_drewN | apply Kd.R_drew)); exact (Kd.R_mono (Kd.R_far (p := ⟨gb417, 3, none⟩) (Kd.R_far (p := ⟨gb417, 2, none⟩) (Kd.R_far (p := ⟨gb417, 1, none⟩) (Kd.R_far (p := ⟨gb417, 0, none⟩) (Kd.R_mono HO409.out (fun k_ hk => (⟨hk, okp hk⟩ : _ ∧ k_ ≠ gb417))) (fun _ hk => hk.2) (.int .i64 t411)) (fun _ hk => hk.2) (.int .i64 t412)) (fun _ hk => hk.2) (.string t413)) (fun _ hk => hk.2) (.slice Ao45 t414.length co45)) (fun _ h_ => h_.1)))); (case side2 => exact (Kd.R_reads' HO409.out).2.1); (case side3 => refine (Kd.R_reads' (e := 54) (base := w.heap.size) (ok := fun k_ => (((((True ∧ some k_ ≠ (.slice Ao27 t394.length co27 : Value).ownBlock) ∧ some k_ ≠ (.slice Ao28 t400.length co28 : Value).ownBlock) ∧ some k_ ≠ (.slice Ao37 t407.length co37 : Value).ownBlock) ∧ k_ ≠ gb410) ∧ k_ ≠ gb417)) (n := t414.length) (c := co45) ?_).2.2; exact (by (with_reducible repeat (first | apply Kd.R_alloc | apply Kd.R_drewN | apply Kd.R_drew)); exact (Kd.R_mono (Kd.R_far (p := ⟨gb417, 3, none⟩) (Kd.R_far (p := ⟨gb417, 2, none⟩) (Kd.R_far (p := ⟨gb417, 1, none⟩) (Kd.R_far (p := ⟨gb417, 0, none⟩) (Kd.R_mono HO416.out (fun k_ hk => (⟨hk, okp hk⟩ : _ ∧ k_ ≠ gb417))) (fun _ hk => hk.2) (.int .i64 t411)) (fun _ hk => hk.2) (.int .i64 t412)) (fun _ hk => hk.2) (.string t413)) (fun _ hk => hk.2) (.slice Ao45 t414.length co45)) (fun _ h_ => h_.1)))); (case side4 => exact (Kd.R_reads' HO416.out).2.1); rintro e w47 ⟨rfl, hb⟩; refine ⟨_, rfl, ?_⟩; have n0_ := Aside0.mk (Kd.R_below (by (with_reducible repeat (first | apply Kd.R_alloc | apply Kd.R_drewN | apply Kd.R_drew)); exact (Kd.R_mono (Kd.R_far (p := ⟨gb417, 3, none⟩) (Kd.R_far (p := ⟨gb417, 2, none⟩) (Kd.R_far (p := ⟨gb417, 1, none⟩) (Kd.R_far (p := ⟨gb417, 0, none⟩) (Kd.R_mono HO396.out (fun k_ hk => (⟨hk, okp hk⟩ : _ ∧ k_ ≠ gb417))) (fun _ hk => hk.2) (.int .i64 t411)) (fun _ hk => hk.2) (.int .i64 t412)) (fun _ hk => hk.2) (.string t413)) (fun _ hk => hk.2) (.slice Ao45 t414.length co45)) (fun _ h_ => h_.1))) hb); have n1_ := Aside0.mk (Kd.R_below (by (with_reducible repeat (first | apply Kd.R_alloc | apply Kd.R_drewN | apply Kd.R_drew)); exact (Kd.R_mono (Kd.R_far (p := ⟨gb417, 3, none⟩) (Kd.R_far (p := ⟨gb417, 2, none⟩) (Kd.R_far (p := ⟨gb417, 1, none⟩) (Kd.R_far (p := ⟨gb417, 0, none⟩) (Kd.R_mono HO402.out (fun k_ hk => (⟨hk, okp hk⟩ : _ ∧ k_ ≠ gb417))) (fun _ hk => hk.2) (.int .i64 t411)) (fun _ hk => hk.2) (.int .i64 t412)) (fun _ hk => hk.2) (.string t413)) (fun _ hk => hk.2) (.slice Ao45 t414.length co45)) (fun _ h_ => h_.1))) hb); have n2_ := Aside0.mk (Kd.R_below (by (with_reducible repeat (first | apply Kd.R_alloc | apply Kd.R_drewN | apply Kd.R_drew)); exact (Kd.R_mono (Kd.R_far (p := ⟨gb417, 3, none⟩) (Kd.R_far (p := ⟨gb417, 2, none⟩) (Kd.R_far (p := ⟨gb417, 1, none⟩) (Kd.R_far (p := ⟨gb417, 0, none⟩) (Kd.R_mono HO409.out (fun k_ hk => (⟨hk, okp hk⟩ : _ ∧ k_ ≠ gb417))) (fun _ hk => hk.2) (.int .i64 t411)) (fun _ hk => hk.2) (.int .i64 t412)) (fun _ hk => hk.2) (.string t413)) (fun _ hk => hk.2) (.slice Ao45 t414.length co45)) (fun _ h_ => h_.1))) hb); have n3_ := Aside0.mk (Kd.R_below (by (with_reducible repeat (first | apply Kd.R_alloc | apply Kd.R_drewN | apply Kd.R_drew)); exact (Kd.R_mono (Kd.R_far (p := ⟨gb417, 3, none⟩) (Kd.R_far (p := ⟨gb417, 2, none⟩) (Kd.R_far (p := ⟨gb417, 1, none⟩) (Kd.R_far (p := ⟨gb417, 0, none⟩) (Kd.R_mono HO416.out (fun k_ hk => (⟨hk, okp hk⟩ : _ ∧ k_ ≠ gb417))) (fun _ hk => hk.2) (.int .i64 t411)) (fun _ hk => hk.2) (.int .i64 t412)) (fun _ hk => hk.2) (.string t413)) (fun _ hk => hk.2) (.slice Ao45 t414.length co45)) (fun _ h_ => h_.1))) hb); have n4_ := Aside0.mk (blk_below (g := gb387) (o := .cells #[.int .i64 a0_0, .int .i64 a0_1, .string a0_2, .slice A0_3 l0_3.length c0_3] 49 (0, 0)) (by (with_reducible repeat (first | refine blk_drewN ?_ _ | refine blk_drew ?_ | refine blk_alloc ?_ _)); refine blk_far ?_ NB387_417.out _; (with_reducible repeat (first | refine blk_drewN ?_ _ | refine blk_drew ?_ | refine blk_alloc ?_ _)); refine blk_far ?_ NB387_417.out _; (with_reducible repeat (first | refine blk_drewN ?_ _ | refine blk_drew ?_ | refine blk_alloc ?_ _)); refine blk_far ?_ NB387_417.out _; (with_reducible repeat (first | refine blk_drewN ?_ _ | refine blk_drew ?_ | refine blk_alloc ?_ _)); refine blk_far ?_ NB387_417.out _; exact bk BK387.out) hb); have n5_ := Aside0.mk (blk_below (g := gb388) (o := .cells #[.int .i64 a1_0, .int .i64 a1_1, .string a1_2, .slice A1_3 l1_3.length c1_3] 49 (0, 0)) (by (with_reducible repeat (first | refine blk_drewN ?_ _ | refine blk_drew ?_ | refine blk_alloc ?_ _)); refine blk_far ?_ NB388_417.out _; (with_reducible repeat (first | refine blk_drewN ?_ _ | refine blk_drew ?_ | refine blk_alloc ?_ _)); refine blk_far ?_ NB388_417.out _; (with_reducible repeat (first | refine blk_drewN ?_ _ | refine blk_drew ?_ | refine blk_alloc ?_ _)); refine blk_far ?_ NB388_417.out _; (with_reducible repeat (first | refine blk_drewN ?_ _ | refine blk_drew ?_ | refine blk_alloc ?_ _)); refine blk_far ?_ NB388_417.out _; exact bk BK388.out) hb); have n6_ := Aside0.mk (blk_below (g := gb410) (o := .cells #[.int .i64 t404, .int .i64 t405, .string t406, .slice Ao37 t407.length co37] 54 (0, 0)) (by (with_reducible repeat (first | refine blk_drewN ?_ _ | refine blk_drew ?_ | refine blk_alloc ?_ _)); refine blk_far ?_ NB410_417.out _; (with_reducible repeat (first | refine blk_drewN ?_ _ | refine blk_drew ?_ | refine blk_alloc ?_ _)); refine blk_far ?_ NB410_417.out _; (with_reducible repeat (first | refine blk_drewN ?_ _ | refine blk_drew ?_ | refine blk_alloc ?_ _)); refine blk_far ?_ NB410_417.out _; (with_reducible repeat (first | refine blk_drewN ?_ _ | refine blk_drew ?_ | refine blk_alloc ?_ _)); refine blk_far ?_ NB410_417.out _; exact bk BK410.out) hb); have n7_ := Aside0.mk (blk_below (g := gb417) (o := .cells #[.int .i64 t411, .int .i64 t412, .string t413, .slice Ao45 t414.length co45] 54 (0, 0)) (by (with_reducible repeat (first | refine blk_drewN ?_ _ | refine blk_drew ?_ | refine blk_alloc ?_ _)); refine blk_put (cs := #[.int .i64 t411, .int .i64 t412, .string t413, .slice none 0 0]) ?_ 3 _ rfl; (with_reducible repeat (first | refine blk_drewN ?_ _ | refine blk_drew ?_ | refine blk_alloc ?_ _)); refine blk_put (cs := #[.int .i64 t411, .int .i64 t412, .string (⟨#[]⟩ : ByteArray), .slice none 0 0]) ?_ 2 _ rfl; (with_reducible repeat (first | refine blk_drewN ?_ _ | refine blk_drew ?_ | refine blk_alloc ?_ _)); refine blk_put (cs := #[.int .i64 t411, .int .i64 0, .string (⟨#[]⟩ : ByteArray), .slice none 0 0]) ?_ 1 _ rfl; (with_reducible repeat (first | refine blk_drewN ?_ _ | refine blk_drew ?_ | refine blk_alloc ?_ _)); refine blk_put (cs := #[.int .i64 0, .int .i64 0, .string (⟨#[]⟩ : ByteArray), .slice none 0 0]) ?_ 0 _ rfl; exact bk BK417.out) hb); have n8_ := Aside0.mk (below_step (by exact bw HB.out) hb); clear HO396; clear HO402; clear HO409; clear HO416; clear BK387; clear BK388; clear BK410; clear BK417; clear HB; have HO396 := n0_; have HO402 := n1_; have HO409 := n2_; have HO416 := n3_; have BK387 := n4_; have BK388 := n5_; have BK410 := n6_; have BK417 := n7_; have HB := n8_; clear n0_ n1_ n2_ n3_ n4_ n5_ n6_ n7_ n8_; (try clear hb); (try clear hb2); (try clear hk); (try clear hi)))
   (try simp only [Act.put, List.setIfInBounds_toArray, List.set_cons_zero, List.set_cons_succ])
   have H := HC23.out
   clear HC23
   by_cases c48 : (t418 != t403) = true
   ·
    rw [if_pos c48] at H
    have c48b0 : (t418 != t403) = true := c48
    (try (have c48b1 : decide (t418 = t403) = false := by simpa using c48))
    (try (have c48b2 : (t418 == t403) = false := by simpa using c48))
    (try (have c48b3 : ¬ (t418 = t403) := by simpa using c48))
    clear c48
    (first | rw [c48b0] | (simp only [i64_w, i32_w]; rw [c48b0]) | rw [c48b2] | rw [c48b1] | skip)
    obtain rfl := Option.some.inj H
    go_wp2
    go_ret
    exact ⟨by first | rfl | (simp [errW_none, errW_some] <;> rfl) | (simp [*, errW_none, errW_some] <;> rfl), by exact bw HB.out⟩
   ·
    rw [if_neg c48] at H
    have c48b0 : (t418 != t403) = false := by simpa using c48
    (try (have c48b1 : decide (t418 = t403) = true := by simpa using c48))
    (try (have c48b2 : (t418 == t403) = true := by simpa using c48))
    clear c48
    (first | rw [c48b0] | (simp only [i64_w, i32_w]; rw [c48b0]) | rw [c48b2] | rw [c48b1] | skip)
    replace H := Option.bind_eq_some_iff.mp H
    obtain ⟨⟨t419, t420, t421, t422⟩, A490, H⟩ := H
    replace H : ((laws_eqExpr.f k t404 t405 t406 t407 t419 t420 t421 t422).bind fun t425 => (if t425 = true then ((laws_toExpr.f k a1_0 a1_1 a1_2 l1_3).bind fun bt426 => ((laws_eqExpr.f k t411 t412 t413 t414 bt426.1 bt426.2.1 bt426.2.2.1 bt426.2.2.2).bind fun t432 => (if t432 = true then (some true) else (some false)))) else (some false))) = some r := H
    have A49 := Aside0.mk A490
    clear A490
    replace H := Option.bind_eq_some_iff.mp H
    obtain ⟨t425, A500, H⟩ := H
    replace H : (if t425 = true then ((laws_toExpr.f k a1_0 a1_1 a1_2 l1_3).bind fun bt426 => ((laws_eqExpr.f k t411 t412 t413 t414 bt426.1 bt426.2.1 bt426.2.2.1 bt426.2.2.2).bind fun t432 => (if t432 = true then (some true) else (some false)))) else (some false)) = some r := H
    have A50 := Aside0.mk A500
    clear A500
    have HC51 := Aside0.mk H
    clear H
    try go_wp2
    have n0_ := Aside0.mk (Kd.R_drew HO396.out)
    have n1_ := Aside0.mk (Kd.R_drew HO402.out)
    have n2_ := Aside0.mk (Kd.R_drew HO409.out)
    have n3_ := Aside0.mk (Kd.R_drew HO416.out)
    have n4_ := Aside0.mk (blk_drew BK387.out)
    have n5_ := Aside0.mk (blk_drew BK388.out)
    have n6_ := Aside0.mk (blk_drew BK410.out)
    have n7_ := Aside0.mk (blk_drew BK417.out)
    have n8_ := Aside0.mk (below_drew1 HB.out)
    clear HO396
    clear HO402
    clear HO409
    clear HO416
    clear BK387
    clear BK388
    clear BK410
    clear BK417
    clear HB
    have HO396 := n0_
    have HO402 := n1_
    have HO409 := n2_
    have HO416 := n3_
    have BK387 := n4_
    have BK388 := n5_
    have BK410 := n6_
    have BK417 := n7_
    have HB := n8_
    clear n0_ n1_ n2_ n3_ n4_ n5_ n6_ n7_ n8_
    refine start_ (n := 5) (S := fun w' => w'.cell? ⟨gb410, 0, none⟩ = some (.int .i64 t404) ∧ w'.cell? ⟨gb410, 1, none⟩ = some (.int .i64 t405) ∧ w'.cell? ⟨gb410, 2, none⟩ = some (.string t406) ∧ w'.cell? ⟨gb410, 3, none⟩ = some (.slice Ao37 t407.length co37) ∧ w'.cell? ⟨gb387, 0, none⟩ = some (.int .i64 a0_0) ∧ w'.cell? ⟨gb387, 1, none⟩ = some (.int .i64 a0_1) ∧ w'.cell? ⟨gb387, 2, none⟩ = some (.string a0_2) ∧ w'.cell? ⟨gb387, 3, none⟩ = some (.slice A0_3 l0_3.length c0_3)) (ds := []) #[false, false, false, false, false] (by kernel_rfl) rfl rfl ⟨(blk_cell BK410.out 0).trans rfl, (blk_cell BK410.out 1).trans rfl, (blk_cell BK410.out 2).trans rfl, (blk_cell BK410.out 3).trans rfl, (blk_cell BK387.out 0).trans rfl, (blk_cell BK387.out 1).trans rfl, (blk_cell BK387.out 2).trans rfl, (blk_cell BK387.out 3).trans rfl⟩ (fun hHeld => ?_)
    generalize w47.drew = w52 at HO396 HO402 HO409 HO416 BK387 BK388 BK410 BK417 HB hHeld ⊢
    refine take_ (i := 0) (N := some 35) (v := ?_) (a' := ?_) #[true, false, false, false, false] rfl rfl (by kernel_rfl) (fun _ _ _ h => h) (Or.inl ⟨by rfl, ?_⟩) hHeld ?_ ?_
    rotate_left
    ·
     rintro w' ⟨s0, s1, s2, s3, s4, s5, s6, s7⟩
     go_simp
     with_reducible rfl
    rotate_left
    ·
     simp only [Act.put, List.setIfInBounds_toArray, List.set_cons_zero, List.set_cons_succ, i64_w, i32_w]
     rfl
    refine take_ (i := 1) (N := some 36) (v := ?_) (a' := ?_) #[true, true, false, false, false] rfl rfl (by kernel_rfl) (fun _ _ _ h => h) (Or.inl ⟨by rfl, ?_⟩) hHeld ?_ ?_
    rotate_left
    ·
     rintro w' ⟨s0, s1, s2, s3, s4, s5, s6, s7⟩
     go_simp
     with_reducible rfl
    rotate_left
    ·
     simp only [Act.put, List.setIfInBounds_toArray, List.set_cons_zero, List.set_cons_succ, i64_w, i32_w]
     rfl
    refine one_ (i := 2) (N := some 37) #[true, true, true, false, false] rfl rfl (by kernel_rfl) (by decide) (fun K hK => ?_)
    refine goes_ Try.func34 (by kernel_rfl) rfl #[.agg #[.int .i64 a0_0, .int .i64 a0_1, .string a0_2, .slice A0_3 l0_3.length c0_3]] (by rfl) rfl rfl (by (try simp only [List.map_toArray, List.map_cons, List.map_nil]); first | done | rfl | (simp only [List.length_drop, List.length_take]; rfl)) ?_
    with_reducible refine (laws_toExpr.calls k a0_0 a0_1 a0_2 _ _ l0_3 t419 t420 t421 t422 _ ?side1 ?side2 A49.out).mono ?_
    (case side1 => repeat (first | exact (Kd.C_below HR0_3.out HB.out) | (with_reducible refine Kd.C_alloc ?_ _) | (with_reducible refine Kd.C_drewN ?_ _) | (with_reducible refine Kd.C_drew ?_)))
    (case side2 => exact HC0_3.out)
    rintro e w53 ⟨v423, rfl, ho0, hb⟩
    refine ⟨_, rfl, ?_⟩
    have n0_ := Aside0.mk (Kd.R_elder' (by exact Kd.xR HO396.out) (Kd.R_base ho0) hb)
    have n1_ := Aside0.mk (Kd.R_elder' (by exact Kd.xR HO402.out) (Kd.R_base ho0) hb)
    have n2_ := Aside0.mk (Kd.R_elder' (by exact Kd.xR HO409.out) (Kd.R_base ho0) hb)
    have n3_ := Aside0.mk (Kd.R_elder' (by exact Kd.xR HO416.out) (Kd.R_base ho0) hb)
    have n4_ := Aside0.mk (Kd.R_lower (Kd.R_newB (Kd.R_newB (Kd.R_new' (Kd.R_new' (Kd.R_new' (Kd.R_new' ho0 (Kd.R_lt (by exact Kd.xR HO396.out))) (Kd.R_lt (by exact Kd.xR HO402.out))) (Kd.R_lt (by exact Kd.xR HO409.out))) (Kd.R_lt (by exact Kd.xR HO416.out))) (g := gb410) (o := .cells #[.int .i64 t404, .int .i64 t405, .string t406, .slice Ao37 t407.length co37] 54 (0, 0)) (by exact bk BK410.out)) (g := gb417) (o := .cells #[.int .i64 t411, .int .i64 t412, .string t413, .slice Ao45 t414.length co45] 54 (0, 0)) (by exact bk BK417.out)) (below_size (by exact bw HB.out)))
    have n5_ := Aside0.mk (blk_below (g := gb387) (o := .cells #[.int .i64 a0_0, .int .i64 a0_1, .string a0_2, .slice A0_3 l0_3.length c0_3] 49 (0, 0)) (by exact bk BK387.out) hb)
    have n6_ := Aside0.mk (blk_below (g := gb388) (o := .cells #[.int .i64 a1_0, .int .i64 a1_1, .string a1_2, .slice A1_3 l1_3.length c1_3] 49 (0, 0)) (by exact bk BK388.out) hb)
    have n7_ := Aside0.mk (blk_below (g := gb410) (o := .cells #[.int .i64 t404, .int .i64 t405, .string t406, .slice Ao37 t407.length co37] 54 (0, 0)) (by exact bk BK410.out) hb)
    have n8_ := Aside0.mk (blk_below (g := gb417) (o := .cells #[.int .i64 t411, .int .i64 t412, .string t413, .slice Ao45 t414.length co45] 54 (0, 0)) (by exact bk BK417.out) hb)
    have n9_ := Aside0.mk (below_step (by exact bw HB.out) hb)
    clear HO396
    clear HO402
    clear HO409
    clear HO416
    clear BK387
    clear BK388
    clear BK410
    clear BK417
    clear HB
    have HO396 := n0_
    have HO402 := n1_
    have HO409 := n2_
    have HO416 := n3_
    have HO424 := n4_
    have BK387 := n5_
    have BK388 := n6_
    have BK410 := n7_
    have BK417 := n8_
    have HB := n9_
    clear n0_ n1_ n2_ n3_ n4_ n5_ n6_ n7_ n8_ n9_
    (try clear hb)
    (try clear hb2)
    (try clear hk)
    (try clear hi)
    (try clear ho0)
    obtain ⟨Ao54, co54, eo54⟩ := Kd.R_slice HO424.out
    (first | subst eo54 | (injection eo54 with f1_ f2_ f3_; have f4_ := f1_.symm; have f5_ := f3_.symm; clear f1_ f2_ f3_; subst f4_; subst f5_))
    refine hK.out _ _ ⟨(blk_cell BK410.out 0).trans rfl, (blk_cell BK410.out 1).trans rfl, (blk_cell BK410.out 2).trans rfl, (blk_cell BK410.out 3).trans rfl, (blk_cell BK387.out 0).trans rfl, (blk_cell BK387.out 1).trans rfl, (blk_cell BK387.out 2).trans rfl, (blk_cell BK387.out 3).trans rfl⟩ (fun hHeld => ?_)
    clear hK K
    refine norm_ (a' := ?_) ?_ ?_
    rotate_left
    ·
     show Act.put _ (some 37) _ = _
     simp only [Act.put, List.setIfInBounds_toArray, List.set_cons_zero, List.set_cons_succ, i64_w, i32_w]
     rfl
    refine one_ (i := 3) (N := some 38) #[true, true, true, true, false] rfl rfl (by kernel_rfl) (by decide) (fun K hK => ?_)
    refine goes_ Try.func36 (by kernel_rfl) rfl #[.agg #[.int .i64 t404, .int .i64 t405, .string t406, .slice Ao37 t407.length co37], .agg #[.int .i64 t419, .int .i64 t420, .string t421, .slice Ao54 t422.length co54]] (by rfl) rfl rfl (by (try simp only [List.map_toArray, List.map_cons, List.map_nil]); first | done | rfl | (simp only [List.length_drop, List.length_take]; rfl)) ?_
    with_reducible refine (laws_eqExpr.calls k t404 t405 t406 _ _ t407 t419 t420 t421 _ _ t422 t425 _ ?side1 ?side2 ?side3 ?side4 A50.out).mono ?_
    (case side1 => repeat (first | exact (Kd.R_reads' HO409.out).2.2 | (with_reducible refine Kd.C_alloc ?_ _) | (with_reducible refine Kd.C_drewN ?_ _) | (with_reducible refine Kd.C_drew ?_)))
    (case side2 => exact (Kd.R_reads' HO409.out).2.1)
    (case side3 => repeat (first | exact (Kd.R_reads' HO424.out).2.2 | (with_reducible refine Kd.C_alloc ?_ _) | (with_reducible refine Kd.C_drewN ?_ _) | (with_reducible refine Kd.C_drew ?_)))
    (case side4 => exact (Kd.R_reads' HO424.out).2.1)
    rintro e w55 ⟨rfl, hb⟩
    refine ⟨_, rfl, ?_⟩
    have n0_ := Aside0.mk (Kd.R_below (by exact Kd.xR HO396.out) hb)
    have n1_ := Aside0.mk (Kd.R_below (by exact Kd.xR HO402.out) hb)
    have n2_ := Aside0.mk (Kd.R_below (by exact Kd.xR HO409.out) hb)
    have n3_ := Aside0.mk (Kd.R_below (by exact Kd.xR HO416.out) hb)
    have n4_ := Aside0.mk (Kd.R_below (by exact Kd.xR HO424.out) hb)
    have n5_ := Aside0.mk (blk_below (g := gb387) (o := .cells #[.int .i64 a0_0, .int .i64 a0_1, .string a0_2, .slice A0_3 l0_3.length c0_3] 49 (0, 0)) (by exact bk BK387.out) hb)
    have n6_ := Aside0.mk (blk_below (g := gb388) (o := .cells #[.int .i64 a1_0, .int .i64 a1_1, .string a1_2, .slice A1_3 l1_3.length c1_3] 49 (0, 0)) (by exact bk BK388.out) hb)
    have n7_ := Aside0.mk (blk_below (g := gb410) (o := .cells #[.int .i64 t404, .int .i64 t405, .string t406, .slice Ao37 t407.length co37] 54 (0, 0)) (by exact bk BK410.out) hb)
    have n8_ := Aside0.mk (blk_below (g := gb417) (o := .cells #[.int .i64 t411, .int .i64 t412, .string t413, .slice Ao45 t414.length co45] 54 (0, 0)) (by exact bk BK417.out) hb)
    have n9_ := Aside0.mk (below_step (by exact bw HB.out) hb)
    clear HO396
    clear HO402
    clear HO409
    clear HO416
    clear HO424
    clear BK387
    clear BK388
    clear BK410
    clear BK417
    clear HB
    have HO396 := n0_
    have HO402 := n1_
    have HO409 := n2_
    have HO416 := n3_
    have HO424 := n4_
    have BK387 := n5_
    have BK388 := n6_
    have BK410 := n7_
    have BK417 := n8_
    have HB := n9_
    clear n0_ n1_ n2_ n3_ n4_ n5_ n6_ n7_ n8_ n9_
    (try clear hb)
    (try clear hb2)
    (try clear hk)
    (try clear hi)
    refine hK.out _ _ ⟨(blk_cell BK410.out 0).trans rfl, (blk_cell BK410.out 1).trans rfl, (blk_cell BK410.out 2).trans rfl, (blk_cell BK410.out 3).trans rfl, (blk_cell BK387.out 0).trans rfl, (blk_cell BK387.out 1).trans rfl, (blk_cell BK387.out 2).trans rfl, (blk_cell BK387.out 3).trans rfl⟩ (fun hHeld => ?_)
    clear hK K
    refine norm_ (a' := ?_) ?_ ?_
    rotate_left
    ·
     show Act.put _ (some 38) _ = _
     simp only [Act.put, List.setIfInBounds_toArray, List.set_cons_zero, List.set_cons_succ, i64_w, i32_w]
     rfl
    refine pure_ (i := 4) (N := some 39) (v := ?_) (a' := ?_) #[true, true, true, true, true] rfl rfl (by kernel_rfl) (fun _ _ _ h => h) (Or.inl ⟨by rfl, ?_⟩) ?_ ?_
    rotate_left
    ·
     intro w'
     go_simp
     with_reducible rfl
    rotate_left
    ·
     simp only [Act.put, List.setIfInBounds_toArray, List.set_cons_zero, List.set_cons_succ, i64_w, i32_w]
     rfl
    refine done_ (by kernel_rfl) ?_
    go_upto_if 39 with (fail)
    have H := HC51.out
    clear HC51
    by_cases c56 : t425 = true
    ·
     subst c56
     have H1 : ((laws_toExpr.f k a1_0 a1_1 a1_2 l1_3).bind fun bt426 => ((laws_eqExpr.f k t411 t412 t413 t414 bt426.1 bt426.2.1 bt426.2.2.1 bt426.2.2.2).bind fun t432 => (if t432 = true then (some true) else (some false)))) = some r := by rw [if_pos rfl] at H; exact H
     clear H
     have H := H1
     clear H1
     replace H := Option.bind_eq_some_iff.mp H
     obtain ⟨⟨t426, t427, t428, t429⟩, A570, H⟩ := H
     replace H : ((laws_eqExpr.f k t411 t412 t413 t414 t426 t427 t428 t429).bind fun t432 => (if t432 = true then (some true) else (some false))) = some r := H
     have A57 := Aside0.mk A570
     clear A570
     replace H := Option.bind_eq_some_iff.mp H
     obtain ⟨t432, A580, H⟩ := H
     replace H : (if t432 = true then (some true) else (some false)) = some r := H
     have A58 := Aside0.mk A580
     clear A580
     have HC59 := Aside0.mk H
     clear H
     try go_wp2
     have n0_ := Aside0.mk (Kd.R_drew HO396.out)
     have n1_ := Aside0.mk (Kd.R_drew HO402.out)
     have n2_ := Aside0.mk (Kd.R_drew HO409.out)
     have n3_ := Aside0.mk (Kd.R_drew HO416.out)
     have n4_ := Aside0.mk (Kd.R_drew HO424.out)
     have n5_ := Aside0.mk (blk_drew BK387.out)
     have n6_ := Aside0.mk (blk_drew BK388.out)
     have n7_ := Aside0.mk (blk_drew BK410.out)
     have n8_ := Aside0.mk (blk_drew BK417.out)
     have n9_ := Aside0.mk (below_drew1 HB.out)
     clear HO396
     clear HO402
     clear HO409
     clear HO416
     clear HO424
     clear BK387
     clear BK388
     clear BK410
     clear BK417
     clear HB
     have HO396 := n0_
     have HO402 := n1_
     have HO409 := n2_
     have HO416 := n3_
     have HO424 := n4_
     have BK387 := n5_
     have BK388 := n6_
     have BK410 := n7_
     have BK417 := n8_
     have HB := n9_
     clear n0_ n1_ n2_ n3_ n4_ n5_ n6_ n7_ n8_ n9_
     refine start_ (n := 5) (S := fun w' => w'.cell? ⟨gb417, 0, none⟩ = some (.int .i64 t411) ∧ w'.cell? ⟨gb417, 1, none⟩ = some (.int .i64 t412) ∧ w'.cell? ⟨gb417, 2, none⟩ = some (.string t413) ∧ w'.cell? ⟨gb417, 3, none⟩ = some (.slice Ao45 t414.length co45) ∧ w'.cell? ⟨gb388, 0, none⟩ = some (.int .i64 a1_0) ∧ w'.cell? ⟨gb388, 1, none⟩ = some (.int .i64 a1_1) ∧ w'.cell? ⟨gb388, 2, none⟩ = some (.string a1_2) ∧ w'.cell? ⟨gb388, 3, none⟩ = some (.slice A1_3 l1_3.length c1_3)) (ds := []) #[false, false, false, false, false] (by kernel_rfl) rfl rfl ⟨(blk_cell BK417.out 0).trans rfl, (blk_cell BK417.out 1).trans rfl, (blk_cell BK417.out 2).trans rfl, (blk_cell BK417.out 3).trans rfl, (blk_cell BK388.out 0).trans rfl, (blk_cell BK388.out 1).trans rfl, (blk_cell BK388.out 2).trans rfl, (blk_cell BK388.out 3).trans rfl⟩ (fun hHeld => ?_)
     generalize w55.drew = w60 at HO396 HO402 HO409 HO416 HO424 BK387 BK388 BK410 BK417 HB hHeld ⊢
     refine take_ (i := 0) (N := some 40) (v := ?_) (a' := ?_) #[true, false, false, false, false] rfl rfl (by kernel_rfl) (fun _ _ _ h => h) (Or.inl ⟨by rfl, ?_⟩) hHeld ?_ ?_
     rotate_left
     ·
      rintro w' ⟨s0, s1, s2, s3, s4, s5, s6, s7⟩
      go_simp
      with_reducible rfl
     rotate_left
     ·
      simp only [Act.put, List.setIfInBounds_toArray, List.set_cons_zero, List.set_cons_succ, i64_w, i32_w]
      rfl
     refine take_ (i := 1) (N := some 41) (v := ?_) (a' := ?_) #[true, true, false, false, false] rfl rfl (by kernel_rfl) (fun _ _ _ h => h) (Or.inl ⟨by rfl, ?_⟩) hHeld ?_ ?_
     rotate_left
     ·
      rintro w' ⟨s0, s1, s2, s3, s4, s5, s6, s7⟩
      go_simp
      with_reducible rfl
     rotate_left
     ·
      simp only [Act.put, List.setIfInBounds_toArray, List.set_cons_zero, List.set_cons_succ, i64_w, i32_w]
      rfl
     refine one_ (i := 2) (N := some 42) #[true, true, true, false, false] rfl rfl (by kernel_rfl) (by decide) (fun K hK => ?_)
     refine goes_ Try.func34 (by kernel_rfl) rfl #[.agg #[.int .i64 a1_0, .int .i64 a1_1, .string a1_2, .slice A1_3 l1_3.length c1_3]] (by rfl) rfl rfl (by (try simp only [List.map_toArray, List.map_cons, List.map_nil]); first | done | rfl | (simp only [List.length_drop, List.length_take]; rfl)) ?_
     with_reducible refine (laws_toExpr.calls k a1_0 a1_1 a1_2 _ _ l1_3 t426 t427 t428 t429 _ ?side1 ?side2 A57.out).mono ?_
     (case side1 => repeat (first | exact (Kd.C_below HR1_3.out HB.out) | (with_reducible refine Kd.C_alloc ?_ _) | (with_reducible refine Kd.C_drewN ?_ _) | (with_reducible refine Kd.C_drew ?_)))
     (case side2 => exact HC1_3.out)
     rintro e w61 ⟨v430, rfl, ho0, hb⟩
     refine ⟨_, rfl, ?_⟩
     have n0_ := Aside0.mk (Kd.R_elder' (by exact Kd.xR HO396.out) (Kd.R_base ho0) hb)
     have n1_ := Aside0.mk (Kd.R_elder' (by exact Kd.xR HO402.out) (Kd.R_base ho0) hb)
     have n2_ := Aside0.mk (Kd.R_elder' (by exact Kd.xR HO409.out) (Kd.R_base ho0) hb)
     have n3_ := Aside0.mk (Kd.R_elder' (by exact Kd.xR HO416.out) (Kd.R_base ho0) hb)
     have n4_ := Aside0.mk (Kd.R_elder' (by exact Kd.xR HO424.out) (Kd.R_base ho0) hb)
     have n5_ := Aside0.mk (Kd.R_lower (Kd.R_newB (Kd.R_newB (Kd.R_new' (Kd.R_new' (Kd.R_new' (Kd.R_new' (Kd.R_new' ho0 (Kd.R_lt (by exact Kd.xR HO396.out))) (Kd.R_lt (by exact Kd.xR HO402.out))) (Kd.R_lt (by exact Kd.xR HO409.out))) (Kd.R_lt (by exact Kd.xR HO416.out))) (Kd.R_lt (by exact Kd.xR HO424.out))) (g := gb410) (o := .cells #[.int .i64 t404, .int .i64 t405, .string t406, .slice Ao37 t407.length co37] 54 (0, 0)) (by exact bk BK410.out)) (g := gb417) (o := .cells #[.int .i64 t411, .int .i64 t412, .string t413, .slice Ao45 t414.length co45] 54 (0, 0)) (by exact bk BK417.out)) (below_size (by exact bw HB.out)))
     have n6_ := Aside0.mk (blk_below (g := gb387) (o := .cells #[.int .i64 a0_0, .int .i64 a0_1, .string a0_2, .slice A0_3 l0_3.length c0_3] 49 (0, 0)) (by exact bk BK387.out) hb)
     have n7_ := Aside0.mk (blk_below (g := gb388) (o := .cells #[.int .i64 a1_0, .int .i64 a1_1, .string a1_2, .slice A1_3 l1_3.length c1_3] 49 (0, 0)) (by exact bk BK388.out) hb)
     have n8_ := Aside0.mk (blk_below (g := gb410) (o := .cells #[.int .i64 t404, .int .i64 t405, .string t406, .slice Ao37 t407.length co37] 54 (0, 0)) (by exact bk BK410.out) hb)
     have n9_ := Aside0.mk (blk_below (g := gb417) (o := .cells #[.int .i64 t411, .int .i64 t412, .string t413, .slice Ao45 t414.length co45] 54 (0, 0)) (by exact bk BK417.out) hb)
     have n10_ := Aside0.mk (below_step (by exact bw HB.out) hb)
     clear HO396
     clear HO402
     clear HO409
     clear HO416
     clear HO424
     clear BK387
     clear BK388
     clear BK410
     clear BK417
     clear HB
     have HO396 := n0_
     have HO402 := n1_
     have HO409 := n2_
     have HO416 := n3_
     have HO424 := n4_
     have HO431 := n5_
     have BK387 := n6_
     have BK388 := n7_
     have BK410 := n8_
     have BK417 := n9_
     have HB := n10_
     clear n0_ n1_ n2_ n3_ n4_ n5_ n6_ n7_ n8_ n9_ n10_
     (try clear hb)
     (try clear hb2)
     (try clear hk)
     (try clear hi)
     (try clear ho0)
     obtain ⟨Ao62, co62, eo62⟩ := Kd.R_slice HO431.out
     (first | subst eo62 | (injection eo62 with f1_ f2_ f3_; have f4_ := f1_.symm; have f5_ := f3_.symm; clear f1_ f2_ f3_; subst f4_; subst f5_))
     refine hK.out _ _ ⟨(blk_cell BK417.out 0).trans rfl, (blk_cell BK417.out 1).trans rfl, (blk_cell BK417.out 2).trans rfl, (blk_cell BK417.out 3).trans rfl, (blk_cell BK388.out 0).trans rfl, (blk_cell BK388.out 1).trans rfl, (blk_cell BK388.out 2).trans rfl, (blk_cell BK388.out 3).trans rfl⟩ (fun hHeld => ?_)
     clear hK K
     refine norm_ (a' := ?_) ?_ ?_
     rotate_left
     ·
      show Act.put _ (some 42) _ = _
      simp only [Act.put, List.setIfInBounds_toArray, List.set_cons_zero, List.set_cons_succ, i64_w, i32_w]
      rfl
     refine one_ (i := 3) (N := some 43) #[true, true, true, true, false] rfl rfl (by kernel_rfl) (by decide) (fun K hK => ?_)
     refine goes_ Try.func36 (by kernel_rfl) rfl #[.agg #[.int .i64 t411, .int .i64 t412, .string t413, .slice Ao45 t414.length co45], .agg #[.int .i64 t426, .int .i64 t427, .string t428, .slice Ao62 t429.length co62]] (by rfl) rfl rfl (by (try simp only [List.map_toArray, List.map_cons, List.map_nil]); first | done | rfl | (simp only [List.length_drop, List.length_take]; rfl)) ?_
     with_reducible refine (laws_eqExpr.calls k t411 t412 t413 _ _ t414 t426 t427 t428 _ _ t429 t432 _ ?side1 ?side2 ?side3 ?side4 A58.out).mono ?_
     (case side1 => repeat (first | exact (Kd.R_reads' HO416.out).2.2 | (with_reducible refine Kd.C_alloc ?_ _) | (with_reducible refine Kd.C_drewN ?_ _) | (with_reducible refine Kd.C_drew ?_)))
     (case side2 => exact (Kd.R_reads' HO416.out).2.1)
     (case side3 => repeat (first | exact (Kd.R_reads' HO431.out).2.2 | (with_reducible refine Kd.C_alloc ?_ _) | (with_reducible refine Kd.C_drewN ?_ _) | (with_reducible refine Kd.C_drew ?_)))
     (case side4 => exact (Kd.R_reads' HO431.out).2.1)
     rintro e w63 ⟨rfl, hb⟩
     refine ⟨_, rfl, ?_⟩
     have n0_ := Aside0.mk (Kd.R_below (by exact Kd.xR HO396.out) hb)
     have n1_ := Aside0.mk (Kd.R_below (by exact Kd.xR HO402.out) hb)
     have n2_ := Aside0.mk (Kd.R_below (by exact Kd.xR HO409.out) hb)
     have n3_ := Aside0.mk (Kd.R_below (by exact Kd.xR HO416.out) hb)
     have n4_ := Aside0.mk (Kd.R_below (by exact Kd.xR HO424.out) hb)
     have n5_ := Aside0.mk (Kd.R_below (by exact Kd.xR HO431.out) hb)
     have n6_ := Aside0.mk (blk_below (g := gb387) (o := .cells #[.int .i64 a0_0, .int .i64 a0_1, .string a0_2, .slice A0_3 l0_3.length c0_3] 49 (0, 0)) (by exact bk BK387.out) hb)
     have n7_ := Aside0.mk (blk_below (g := gb388) (o := .cells #[.int .i64 a1_0, .int .i64 a1_1, .string a1_2, .slice A1_3 l1_3.length c1_3] 49 (0, 0)) (by exact bk BK388.out) hb)
     have n8_ := Aside0.mk (blk_below (g := gb410) (o := .cells #[.int .i64 t404, .int .i64 t405, .string t406, .slice Ao37 t407.length co37] 54 (0, 0)) (by exact bk BK410.out) hb)
     have n9_ := Aside0.mk (blk_below (g := gb417) (o := .cells #[.int .i64 t411, .int .i64 t412, .string t413, .slice Ao45 t414.length co45] 54 (0, 0)) (by exact bk BK417.out) hb)
     have n10_ := Aside0.mk (below_step (by exact bw HB.out) hb)
     clear HO396
     clear HO402
     clear HO409
     clear HO416
     clear HO424
     clear HO431
     clear BK387
     clear BK388
     clear BK410
     clear BK417
     clear HB
     have HO396 := n0_
     have HO402 := n1_
     have HO409 := n2_
     have HO416 := n3_
     have HO424 := n4_
     have HO431 := n5_
     have BK387 := n6_
     have BK388 := n7_
     have BK410 := n8_
     have BK417 := n9_
     have HB := n10_
     clear n0_ n1_ n2_ n3_ n4_ n5_ n6_ n7_ n8_ n9_ n10_
     (try clear hb)
     (try clear hb2)
     (try clear hk)
     (try clear hi)
     refine hK.out _ _ ⟨(blk_cell BK417.out 0).trans rfl, (blk_cell BK417.out 1).trans rfl, (blk_cell BK417.out 2).trans rfl, (blk_cell BK417.out 3).trans rfl, (blk_cell BK388.out 0).trans rfl, (blk_cell BK388.out 1).trans rfl, (blk_cell BK388.out 2).trans rfl, (blk_cell BK388.out 3).trans rfl⟩ (fun hHeld => ?_)
     clear hK K
     refine norm_ (a' := ?_) ?_ ?_
     rotate_left
     ·
      show Act.put _ (some 43) _ = _
      simp only [Act.put, List.setIfInBounds_toArray, List.set_cons_zero, List.set_cons_succ, i64_w, i32_w]
      rfl
     refine pure_ (i := 4) (N := some 44) (v := ?_) (a' := ?_) #[true, true, true, true, true] rfl rfl (by kernel_rfl) (fun _ _ _ h => h) (Or.inl ⟨by rfl, ?_⟩) ?_ ?_
     rotate_left
     ·
      intro w'
      go_simp
      with_reducible rfl
     rotate_left
     ·
      simp only [Act.put, List.setIfInBounds_toArray, List.set_cons_zero, List.set_cons_succ, i64_w, i32_w]
      rfl
     refine done_ (by kernel_rfl) ?_
     go_upto_if 44 with (fail)
     have H := HC59.out
     clear HC59
     by_cases c64 : t432 = true
     ·
      subst c64
      have H1 : (some true) = some r := by rw [if_pos rfl] at H; exact H
      clear H
      have H := H1
      clear H1
      obtain rfl := Option.some.inj H
      go_wp2
      go_ret
      exact ⟨by first | rfl | (simp [errW_none, errW_some] <;> rfl) | (simp [*, errW_none, errW_some] <;> rfl), by exact bw HB.out⟩
     ·
      replace c64 := Bool.eq_false_iff.mpr c64
      subst c64
      have H1 : (some false) = some r := by rw [if_neg (show ¬ (false = true) by decide)] at H; exact H
      clear H
      have H := H1
      clear H1
      obtain rfl := Option.some.inj H
      go_wp2
      go_ret
      exact ⟨by first | rfl | (simp [errW_none, errW_some] <;> rfl) | (simp [*, errW_none, errW_some] <;> rfl), by exact bw HB.out⟩
    ·
     replace c56 := Bool.eq_false_iff.mpr c56
     subst c56
     have H1 : (some false) = some r := by rw [if_neg (show ¬ (false = true) by decide)] at H; exact H
     clear H
     have H := H1
     clear H1
     obtain rfl := Option.some.inj H
     go_wp2
     go_ret
     exact ⟨by first | rfl | (simp [errW_none, errW_some] <;> rfl) | (simp [*, errW_none, errW_some] <;> rfl), by exact bw HB.out⟩

/-- THE ONE PURE STATEMENT of laws_FnExactSameExpr: yours. -/
def laws_FnExactSameExpr.Pure : Prop := ∀ (a0_0 : Int) (a0_1 : Int) (a0_2 : ByteArray) (l0_3 : List (S49)) (a1_0 : Int) (a1_1 : Int) (a1_2 : ByteArray) (l1_3 : List (S49)), Fine49 (⟨a0_0, a0_1, a0_2, l0_3⟩ : S49) → Fine49 (⟨a1_0, a1_1, a1_2, l1_3⟩ : S49) → ∃ k, laws_FnExactSameExpr.f k a0_0 a0_1 a0_2 l0_3 a1_0 a1_1 a1_2 l1_3 = some true
theorem laws_FnExactSameExpr.walk (P : laws_FnExactSameExpr.Pure) (a0_0 : Int) (a0_1 : Int) (a0_2 : ByteArray) (A0_3 : Option Addr) (c0_3 : Nat) (l0_3 : List (S49)) (a1_0 : Int) (a1_1 : Int) (a1_2 : ByteArray) (A1_3 : Option Addr) (c1_3 : Nat) (l1_3 : List (S49)) (w : World) (hr0_3 : Kd.C k49 w A0_3 l0_3.length l0_3) (hc0_3 : l0_3.length ≤ c0_3) (w0 : Fine49 (⟨a0_0, a0_1, a0_2, l0_3⟩ : S49)) (hr1_3 : Kd.C k49 w A1_3 l1_3.length l1_3) (hc1_3 : l1_3.length ≤ c1_3) (w1 : Fine49 (⟨a1_0, a1_1, a1_2, l1_3⟩ : S49)) :
  Calls Try.prog 11 #[.agg #[.int .i64 a0_0, .int .i64 a0_1, .string a0_2, .slice A0_3 l0_3.length c0_3], .agg #[.int .i64 a1_0, .int .i64 a1_1, .string a1_2, .slice A1_3 l1_3.length c1_3]] w fun e w' => e = .returned (.bool true) ∧ Below w.heap.size w w' := by
 obtain ⟨k, h⟩ := P a0_0 a0_1 a0_2 l0_3 a1_0 a1_1 a1_2 l1_3 w0 w1
 refine (laws_FnExactSameExpr.calls k a0_0 a0_1 a0_2 _ _ l0_3 a1_0 a1_1 a1_2 _ _ l1_3 true w hr0_3 hc0_3 hr1_3 hc1_3 h).mono ?_
 rintro e w' ⟨rfl, hd⟩
 exact ⟨rfl, hd⟩

/-! ### spec_l4Parts: function 63 -/
def spec_l4Parts.f (a0 : Int) : Option (Int) := (spec_l1In.f a0 1 15).bind fun t433 => (if t433 = true then ((some (([0, 0, 0, 0, 0, 0, 0, 1, 1, 2, 2, 2, 1, 2, 2] : List Int) : List Int)).bind fun y434 => (if 0 ≤ (wrap64 (a0 - 1)) then (if (wrap64 (a0 - 1)) < (y434.length : Int) then (some (rd y434 (wrap64 (a0 - 1)))) else (none)) else (none))) else (some (-1)))
set_option maxHeartbeats 8000000 in
set_option maxRecDepth 100000 in
theorem spec_l4Parts.calls (a0 : Int) (r : Int) (w : World) (h : spec_l4Parts.f a0 = some r) :
  Calls Try.prog 63 #[.int .i64 a0] w fun e w' => e = .returned (.int .i64 r) ∧ Below w.heap.size w w' := by
 have HB := Aside0.mk (Below.refl w.heap.size w)
 have H : ((spec_l1In.f a0 1 15).bind fun t433 => (if t433 = true then ((some (([0, 0, 0, 0, 0, 0, 0, 1, 1, 2, 2, 2, 1, 2, 2] : List Int) : List Int)).bind fun y434 => (if 0 ≤ (wrap64 (a0 - 1)) then (if (wrap64 (a0 - 1)) < (y434.length : Int) then (some (rd y434 (wrap64 (a0 - 1)))) else (none)) else (none))) else (some (-1)))) = some r := h
 clear h
 replace H := Option.bind_eq_some_iff.mp H
 obtain ⟨t433, A20, H⟩ := H
 replace H : (if t433 = true then ((some (([0, 0, 0, 0, 0, 0, 0, 1, 1, 2, 2, 2, 1, 2, 2] : List Int) : List Int)).bind fun y434 => (if 0 ≤ (wrap64 (a0 - 1)) then (if (wrap64 (a0 - 1)) < (y434.length : Int) then (some (rd y434 (wrap64 (a0 - 1)))) else (none)) else (none))) else (some (-1))) = some r := H
 have A2 := Aside0.mk A20
 clear A20
 by_cases c3 : t433 = true
 ·
  subst c3
  have H1 : ((some (([0, 0, 0, 0, 0, 0, 0, 1, 1, 2, 2, 2, 1, 2, 2] : List Int) : List Int)).bind fun y434 => (if 0 ≤ (wrap64 (a0 - 1)) then (if (wrap64 (a0 - 1)) < (y434.length : Int) then (some (rd y434 (wrap64 (a0 - 1)))) else (none)) else (none))) = some r := by rw [if_pos rfl] at H; exact H
  clear H
  have H := H1
  clear H1
  obtain ⟨y434, hy434⟩ : ∃ y_ : List Int, y_ = (([0, 0, 0, 0, 0, 0, 0, 1, 1, 2, 2, 2, 1, 2, 2] : List Int)) := ⟨_, rfl⟩
  replace H : (if 0 ≤ (wrap64 (a0 - 1)) then (if (wrap64 (a0 - 1)) < (y434.length : Int) then (some (rd y434 (wrap64 (a0 - 1)))) else (none)) else (none)) = some r := by first | (rw [hy434]; with_reducible exact H) | (have H2_ := (Option.bind_some _ _).symm.trans H; rw [hy434]; with_reducible exact H2_) | (have H2_ := (Option.bind_some _ _).symm.trans H; with_reducible exact H2_) | with_reducible exact H | (rw [hy434]; exact H) | exact H
  have Ny434 := Aside0.mk hy434
  clear hy434
  obtain ⟨ji4, hji4⟩ : ∃ j_ : Int, (wrap64 (a0 - 1)) = j_ := ⟨_, rfl⟩
  replace H : (if 0 ≤ (ji4) then (if (ji4) < (y434.length : Int) then (some (rd y434 (ji4))) else (none)) else (none)) = some r := by first | (rw [hji4] at H; exact H) | (simp only [hji4] at H ⊢; exact H)
  (try rw [hji4] at A2)
  have hji4w : (IntKind.i64.wrap (a0 - 1)) = ji4 := (i64_w _).trans hji4
  by_cases c5 : 0 ≤ (ji4)
  ·
   rw [if_pos c5] at H
   have c5b0 : decide (0 ≤ (ji4)) = true := decide_eq_true c5
   clear c5
   by_cases c6 : (ji4) < (y434.length : Int)
   ·
    rw [if_pos c6] at H
    have c6b0 : decide ((ji4) < (y434.length : Int)) = true := decide_eq_true c6
    clear c6
    obtain rfl := Option.some.inj H
    go_enter Try.func63, Try.ntmps63
    go_wp2_with (first | ((with_reducible refine gate_callee (f := 42) rfl ?_); refine gl (some 4) Try.func42 #[.int .i64 a0, .int .i64 1, .int .i64 15] ?_; (with_reducible refine (spec_l1In.calls a0 1 15 true _ A2.out).mono ?_); rintro e w' ⟨rfl, ⟨nd, rfl⟩⟩; refine ⟨_, rfl, ?_⟩) | ((with_reducible refine gate_dst (N := 6) rfl ?_); refine Kd.R_lit (Kd.int .i64) _ 3 ?hg (N := 6) ?hd (xs := ([0, 0, 0, 0, 0, 0, 0, 1, 1, 2, 2, 2, 1, 2, 2] : List Int)) (inner := [.int .i64 0, .int .i64 0, .int .i64 0, .int .i64 0, .int .i64 0, .int .i64 0, .int .i64 0, .int .i64 1, .int .i64 1, .int .i64 2, .int .i64 2, .int .i64 2, .int .i64 1, .int .i64 2, .int .i64 2]) (ok := fun _ => True) (okp := fun _ => True) ?hr ?hp (fun _ hk => hk) trivial (Below.refl _ _) (Nat.le_refl _) (by simp) ?_; (case hd => rfl); (case hg => rfl); (case hr => first | (go_simp; done) | (go_simp; rfl)); (case hp => exact (Reps.one (show Kd.M (Kd.int .i64) _ _ _ 0 [.int .i64 0] from rfl) (Reps.one (show Kd.M (Kd.int .i64) _ _ _ 0 [.int .i64 0] from rfl) (Reps.one (show Kd.M (Kd.int .i64) _ _ _ 0 [.int .i64 0] from rfl) (Reps.one (show Kd.M (Kd.int .i64) _ _ _ 0 [.int .i64 0] from rfl) (Reps.one (show Kd.M (Kd.int .i64) _ _ _ 0 [.int .i64 0] from rfl) (Reps.one (show Kd.M (Kd.int .i64) _ _ _ 0 [.int .i64 0] from rfl) (Reps.one (show Kd.M (Kd.int .i64) _ _ _ 0 [.int .i64 0] from rfl) (Reps.one (show Kd.M (Kd.int .i64) _ _ _ 1 [.int .i64 1] from rfl) (Reps.one (show Kd.M (Kd.int .i64) _ _ _ 1 [.int .i64 1] from rfl) (Reps.one (show Kd.M (Kd.int .i64) _ _ _ 2 [.int .i64 2] from rfl) (Reps.one (show Kd.M (Kd.int .i64) _ _ _ 2 [.int .i64 2] from rfl) (Reps.one (show Kd.M (Kd.int .i64) _ _ _ 2 [.int .i64 2] from rfl) (Reps.one (show Kd.M (Kd.int .i64) _ _ _ 1 [.int .i64 1] from rfl) (Reps.one (show Kd.M (Kd.int .i64) _ _ _ 2 [.int .i64 2] from rfl) (Reps.one (show Kd.M (Kd.int .i64) _ _ _ 2 [.int .i64 2] from rfl) (Reps.none _ _))))))))))))))))); intro v435 w7 ho8 hb hg_ hnew_; clear hg_ hnew_; (first | rw [← Ny434.out] at ho8 | (simp only [Int.reduceToNat] at ho8; rw [← Ny434.out] at ho8)); have n0_ := Aside0.mk (Kd.R_lower ho8 (below_size (by exact bw HB.out))); have n1_ := Aside0.mk (below_step (by exact bw HB.out) hb); clear HB; have HO436 := n0_; have HB := n1_; clear n0_ n1_; clear hb ho8; obtain ⟨Ao9, co9, eo9⟩ := Kd.R_slice HO436.out; subst eo9; have p437 : 0 ≤ ((ji4) : Int) := of_decide_eq_true (by first | (with_reducible assumption) | assumption); have q437 : (ji4) < (y434.length : Int) := of_decide_eq_true (by first | (with_reducible assumption) | assumption); obtain ⟨ad437, e437, hx437_0⟩ := Kd.at_int (Kd.R_reads' HO436.out).2.2 (ji4) p437 q437; cases e437; replace p437 := eq_true p437; replace q437 := eq_true q437))
    go_ret
    exact ⟨by first | rfl | (simp [errW_none, errW_some] <;> rfl) | (simp only [← hji4]; first | rfl | (simp [errW_none, errW_some] <;> rfl)) | (simp [*, errW_none, errW_some] <;> rfl), by exact bw HB.out⟩
   ·
    rw [if_neg c6] at H
    exact absurd H (by simp)
  ·
   rw [if_neg c5] at H
   exact absurd H (by simp)
 ·
  replace c3 := Bool.eq_false_iff.mpr c3
  subst c3
  have H1 : (some (-1)) = some r := by rw [if_neg (show ¬ (false = true) by decide)] at H; exact H
  clear H
  have H := H1
  clear H1
  obtain rfl := Option.some.inj H
  go_enter Try.func63, Try.ntmps63
  go_wp2_with (first | ((with_reducible refine gate_callee (f := 42) rfl ?_); refine gl (some 4) Try.func42 #[.int .i64 a0, .int .i64 1, .int .i64 15] ?_; (with_reducible refine (spec_l1In.calls a0 1 15 false _ A2.out).mono ?_); rintro e w' ⟨rfl, ⟨nd, rfl⟩⟩; refine ⟨_, rfl, ?_⟩))
  go_ret
  exact ⟨by first | rfl | (simp [errW_none, errW_some] <;> rfl) | (simp [*, errW_none, errW_some] <;> rfl), by exact bw HB.out⟩

end Go.Proofs.Ytefgbocbhohkeaa.P
