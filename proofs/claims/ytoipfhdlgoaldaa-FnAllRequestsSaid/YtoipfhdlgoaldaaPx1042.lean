-- Written by a program of this session (wip/tool).
import Derived.Test.YtoipfhdlgoaldaaPx0
import Derived.Test.YtoipfhdlgoaldaaPx1031
namespace Go.Proofs.Ytoipfhdlgoaldaa.P
open Go.RowKit Go.Proofs.YtoipfhdlgoaldaaW.PrintWords Go.Proofs.YtoipfhdlgoaldaaW.PrintLast Go.Proofs.YtoipfhdlgoaldaaW.PrintMore
attribute [local go_sem] max2_int min2_int max_two min_two max_three min_three max_four min_four   -- for this text's walks alone
set_option linter.unusedVariables false
set_option linter.unusedSimpArgs false

/-! ### spec_l20Rd_odd: function 42 -/
def spec_l20Rd_odd.f (k : Nat) (s0_0 : List Int) (s0_1 : Int) (a1 : Int) : Option (Bool × Int) := if a1 > 0 then ((spec_l20Rd_pick.f k s0_0 s0_1 a1).bind fun bt130 => (some ((bt130.1 == (wrap64 (a1 - 1))), bt130.2))) else (some (false, s0_1))
theorem spec_l20Rd_odd.mono : ∀ a0 a1 a2 k, LeO (spec_l20Rd_odd.f k a0 a1 a2) (spec_l20Rd_odd.f (k + 1) a0 a1 a2) := by
 intro a0 a1 a2 k
 unfold spec_l20Rd_odd.f
 repeat' first
   | (with_reducible exact spec_l20Rd_pick.mono _ _ _ _)
   | (with_reducible exact LeO.refl _)
   | (with_reducible exact LeO.none _)
   | (with_reducible refine LeO.ite ?_ ?_)
   | (with_reducible refine LeO.bind ?_ (fun _ => ?_))
   | exact spec_l20Rd_pick.mono _ _ _ _
   | exact LeO.none _
   | refine LeO.ite ?_ ?_
   | refine LeO.bind ?_ (fun _ => ?_)
set_option maxHeartbeats 8000000 in
set_option maxRecDepth 100000 in
theorem spec_l20Rd_odd.calls (k : Nat) (g : Nat) (s0_0 : List Int) (s0_1 : Int) (a1 : Int) (r1 : Bool) (r2 : Int) (w0 w : World) (hI : IsS80 w0 w g s0_0 s0_1) (hB : Below w0.heap.size w0 w) (h : spec_l20Rd_odd.f k s0_0 s0_1 a1 = some (r1, r2)) :
  Calls Try.prog 42 #[.pointer (some ⟨g, 0, none⟩), .int .i64 a1] w fun e w' => e = .returned (.bool r1) ∧ IsS80 w0 w' g s0_0 r2 ∧ Below w0.heap.size w0 w' ∧ KeepBut w w' g none := by
 have HI0 := Aside0.mk hI
 have HK := Aside0.mk (KeepBut.refl w g none)
 have HL := Aside0.mk hB.size
 have HG0 := Aside0.mk (IsS80.ge hI)
 clear hI
 have HW0 := Aside0.mk hB.size
 have HB := Aside0.mk hB
 clear hB
 have H : (if a1 > 0 then ((spec_l20Rd_pick.f k s0_0 s0_1 a1).bind fun bt130 => (some ((bt130.1 == (wrap64 (a1 - 1))), bt130.2))) else (some (false, s0_1))) = some (r1, r2) := h
 clear h
 by_cases c3 : a1 > 0
 ·
  rw [if_pos c3] at H; have c3b0 : decide (0 < a1) = true := decide_eq_true c3; clear c3
  replace H := Option.bind_eq_some_iff.mp H
  obtain ⟨⟨t130, t131⟩, A40, H⟩ := H
  replace H : (some ((t130 == (wrap64 (a1 - 1))), t131)) = some (r1, r2) := H
  have A4 := Aside0.mk A40
  clear A40
  simp only [Option.some.injEq, Prod.mk.injEq] at H
  obtain ⟨rfl, rfl⟩ := H
  go_enter Try.func42, Try.ntmps42
  go_wp2_with (first | (go_at_call 33; (with_reducible refine (spec_l20Rd_pick.calls k g s0_0 s0_1 a1 t130 t131 w0 _ ?side1 ?side2 A4.out).mono ?_); (case side1 => exact sw80 HI0.out); (case side2 => exact bw HB.out); rintro e w5 ⟨rfl, hi, hb, hk⟩; have n0_ := kT HK hk; have n1_ := Aside0.mk (hb); have n2_ := Aside0.mk (hi); clear HK; clear HB; clear HI0; have HK := n0_; have HB := n1_; have HI0 := n2_; clear n0_ n1_ n2_; (try clear hb); (try clear hb2); (try clear hk); (try clear hi)))
  go_ret
  exact ⟨by first | rfl | (simp [errW_none, errW_some] <;> rfl) | (simp [*, errW_none, errW_some] <;> rfl), by exact sw80 HI0.out, by exact bw HB.out, by exact kw HK.out⟩
 ·
  rw [if_neg c3] at H; have c3b0 : decide (0 < a1) = false := decide_eq_false c3; clear c3
  simp only [Option.some.injEq, Prod.mk.injEq] at H
  obtain ⟨rfl, rfl⟩ := H
  go_enter Try.func42, Try.ntmps42
  go_wp2
  go_ret
  exact ⟨by first | rfl | (simp [errW_none, errW_some] <;> rfl) | (simp [*, errW_none, errW_some] <;> rfl), by exact sw80 HI0.out, by exact bw HB.out, by exact kw HK.out⟩

/-! ### spec_TruthOf: function 56 -/
def spec_TruthOf.f (a0 : Bool) : Option (Int × Int) := if a0 = true then (some (1, 1)) else (some (1, 0))
set_option maxHeartbeats 8000000 in
set_option maxRecDepth 100000 in
theorem spec_TruthOf.calls (a0 : Bool) (r1 : Int) (r2 : Int) (w : World) (h : spec_TruthOf.f a0 = some (r1, r2)) :
  Calls Try.prog 56 #[.bool a0] w fun e w' => e = .returned (.agg #[.int .i64 r1, .int .i64 r2]) ∧ Below w.heap.size w w' := by
 have hu52 := Try.underlying52
 have HB := Aside0.mk (Below.refl w.heap.size w)
 have H : (if a0 = true then (some (1, 1)) else (some (1, 0))) = some (r1, r2) := h
 clear h
 by_cases c2 : a0 = true
 ·
  subst c2
  have H1 : (some (1, 1)) = some (r1, r2) := by rw [if_pos rfl] at H; exact H
  clear H
  have H := H1
  clear H1
  simp only [Option.some.injEq, Prod.mk.injEq] at H
  obtain ⟨rfl, rfl⟩ := H
  go_enter Try.func56, Try.ntmps56
  go_wp2_with (first | ((with_reducible refine gate_dst (N := 2) rfl ?_); refine bx 2 #[.int .i64 0, .int .i64 0] 52 ?_; intro gb132 hg w3 hbox hb; have BK132 := Aside0.mk (hbox); have GW132 := gwB HB hg; have GE132 := gwB HB hg; replace HB := bS HB hb; clear hb hbox hg; obtain ⟨hcz4_0, hcz4_1⟩ := cs2 BK132.out; obtain ⟨hfz4_0, hfz4_1⟩ := fz2 BK132.out))
  refine bodyPost_ret (results_cell_row rfl _ _ gb132 52 #[.int .i64 1, .int .i64 1] (0, 0) _ rfl (bp BK132) Try.underlying52 rfl (by kernel_rfl)) rfl ?_
  exact ⟨by first | rfl | (simp [errW_none, errW_some] <;> rfl) | (simp [*, errW_none, errW_some] <;> rfl), by exact bw HB.out⟩
 ·
  replace c2 := Bool.eq_false_iff.mpr c2
  subst c2
  have H1 : (some (1, 0)) = some (r1, r2) := by rw [if_neg (show ¬ (false = true) by decide)] at H; exact H
  clear H
  have H := H1
  clear H1
  simp only [Option.some.injEq, Prod.mk.injEq] at H
  obtain ⟨rfl, rfl⟩ := H
  go_enter Try.func56, Try.ntmps56
  go_wp2_with (first | ((with_reducible refine gate_dst (N := 2) rfl ?_); refine bx 2 #[.int .i64 0, .int .i64 0] 52 ?_; intro gb132 hg w5 hbox hb; have BK132 := Aside0.mk (hbox); have GW132 := gwB HB hg; have GE132 := gwB HB hg; replace HB := bS HB hb; clear hb hbox hg; obtain ⟨hcz6_0, hcz6_1⟩ := cs2 BK132.out; obtain ⟨hfz6_0, hfz6_1⟩ := fz2 BK132.out))
  refine bodyPost_ret (results_cell_row rfl _ _ gb132 52 #[.int .i64 1, .int .i64 0] (0, 0) _ rfl (bp BK132) Try.underlying52 rfl (by kernel_rfl)) rfl ?_
  exact ⟨by first | rfl | (simp [errW_none, errW_some] <;> rfl) | (simp [*, errW_none, errW_some] <;> rfl), by exact bw HB.out⟩

end Go.Proofs.Ytoipfhdlgoaldaa.P
