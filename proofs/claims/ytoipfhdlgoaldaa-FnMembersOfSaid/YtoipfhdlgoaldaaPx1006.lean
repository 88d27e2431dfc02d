-- Written by a program of this session (wip/tool).
import Derived.Test.YtoipfhdlgoaldaaPx0
import Derived.Test.YtoipfhdlgoaldaaPx1012
import Derived.Test.YtoipfhdlgoaldaaPx1023
import Derived.Test.YtoipfhdlgoaldaaPx1039
namespace Go.Proofs.Ytoipfhdlgoaldaa.P
open Go.RowKit Go.Proofs.YtoipfhdlgoaldaaW.PrintWords Go.Proofs.YtoipfhdlgoaldaaW.PrintLast Go.Proofs.YtoipfhdlgoaldaaW.PrintMore
attribute [local go_sem] max2_int min2_int max_two min_two max_three min_three max_four min_four   -- for this text's walks alone
set_option linter.unusedVariables false
set_option linter.unusedSimpArgs false

/-! ### laws_FnMembersOf: function 6 -/
mutual
def laws_FnMembersOf.l0 : Nat → List (S74) → Int → List Int → Int → Option (Bool)
 | 0, _, _, _, _ => none
 | k + 1, x3, x4, x5, x6 => if x6 < (x5.length : Int) then (if 0 ≤ x6 then ((impl_GroupsOf.f k x3 (rd x5 x6)).bind fun t408 => (laws_FnMembersOf.l1 k x3 x4 x5 x6 false t408 0)) else (none)) else (if (x5.length : Int) = 0 then ((laws_alive.f k).bind fun t404 => (some t404)) else (if 0 < (x5.length : Int) then (if (rd x5 0) = x4 then ((laws_alive.f k).bind fun t406 => (some t406)) else (some false)) else (none)))
def laws_FnMembersOf.l1 : Nat → List (S74) → Int → List Int → Int → Bool → List Int → Int → Option (Bool)
 | 0, _, _, _, _, _, _, _ => none
 | k + 1, x3, x4, x5, x6, x7, x8, x9 => if x9 < (x8.length : Int) then (if x7 = true then (laws_FnMembersOf.l1 k x3 x4 x5 x6 true x8 (wrap64 (x9 + 1))) else (if 0 ≤ x9 then (laws_FnMembersOf.l1 k x3 x4 x5 x6 ((rd x8 x9) == x4) x8 (wrap64 (x9 + 1))) else (none))) else (if x7 = true then (if x6 > 0 then (if 0 ≤ x6 then (if x6 < (x5.length : Int) then (if 0 ≤ (wrap64 (x6 - 1)) then (if (wrap64 (x6 - 1)) < (x5.length : Int) then (if (rd x5 x6) ≤ (rd x5 (wrap64 (x6 - 1))) then (some false) else (laws_FnMembersOf.l0 k x3 x4 x5 (wrap64 (x6 + 1)))) else (none)) else (none)) else (none)) else (none)) else (laws_FnMembersOf.l0 k x3 x4 x5 (wrap64 (x6 + 1)))) else (some false))
end
def laws_FnMembersOf.f (k : Nat) (l0 : List Int) : Option (Bool) := if (l0.length : Int) > 1048576 then (some true) else ((spec_DrawMembersOf.f k l0).bind fun bt393 => ((impl_MembersOf.f k bt393.1 bt393.2).bind fun t397 => ((spec_MembersOf.f k bt393.1 bt393.2).bind fun t400 => ((laws_sameInts.f k t397 t400).bind fun t403 => (if t403 = true then (laws_FnMembersOf.l0 k bt393.1 bt393.2 t397 0) else (some false))))))
theorem laws_FnMembersOf.mono_l : ∀ k, (∀ y0 y1 y2 y3, LeO (laws_FnMembersOf.l0 k y0 y1 y2 y3) (laws_FnMembersOf.l0 (k + 1) y0 y1 y2 y3)) ∧ (∀ y0 y1 y2 y3 y4 y5 y6, LeO (laws_FnMembersOf.l1 k y0 y1 y2 y3 y4 y5 y6) (laws_FnMembersOf.l1 (k + 1) y0 y1 y2 y3 y4 y5 y6))
 | 0 => ⟨fun _ _ _ _ r h => by simp [laws_FnMembersOf.l0] at h, fun _ _ _ _ _ _ _ r h => by simp [laws_FnMembersOf.l1] at h⟩
 | k + 1 => by
  obtain ⟨ih0, ih1⟩ := laws_FnMembersOf.mono_l k
  refine ⟨?_, ?_⟩
  ·
   intro y0 y1 y2 y3
   unfold laws_FnMembersOf.l0
   repeat' first
   | (with_reducible exact ih0 _ _ _ _)
   | (with_reducible exact ih1 _ _ _ _ _ _ _)
   | (with_reducible exact impl_GroupsOf.mono _ _ _)
   | (with_reducible exact impl_MembersOf.mono _ _ _)
   | (with_reducible exact laws_alive.mono _)
   | (with_reducible exact laws_sameInts.mono _ _ _)
   | (with_reducible exact spec_DrawMembersOf.mono _ _)
   | (with_reducible exact spec_MembersOf.mono _ _ _)
   | (with_reducible exact LeO.refl _)
   | (with_reducible exact LeO.none _)
   | (with_reducible refine LeO.ite ?_ ?_)
   | (with_reducible refine LeO.bind ?_ (fun _ => ?_))
   | exact ih0 _ _ _ _
   | exact ih1 _ _ _ _ _ _ _
   | exact impl_GroupsOf.mono _ _ _
   | exact impl_MembersOf.mono _ _ _
   | exact laws_alive.mono _
   | exact laws_sameInts.mono _ _ _
   | exact spec_DrawMembersOf.mono _ _
   | exact spec_MembersOf.mono _ _ _
   | exact LeO.none _
   | refine LeO.ite ?_ ?_
   | refine LeO.bind ?_ (fun _ => ?_)
  ·
   intro y0 y1 y2 y3 y4 y5 y6
   unfold laws_FnMembersOf.l1
   repeat' first
   | (with_reducible exact ih0 _ _ _ _)
   | (with_reducible exact ih1 _ _ _ _ _ _ _)
   | (with_reducible exact impl_GroupsOf.mono _ _ _)
   | (with_reducible exact impl_MembersOf.mono _ _ _)
   | (with_reducible exact laws_alive.mono _)
   | (with_reducible exact laws_sameInts.mono _ _ _)
   | (with_reducible exact spec_DrawMembersOf.mono _ _)
   | (with_reducible exact spec_MembersOf.mono _ _ _)
   | (with_reducible exact LeO.refl _)
   | (with_reducible exact LeO.none _)
   | (with_reducible refine LeO.ite ?_ ?_)
   | (with_reducible refine LeO.bind ?_ (fun _ => ?_))
   | exact ih0 _ _ _ _
   | exact ih1 _ _ _ _ _ _ _
   | exact impl_GroupsOf.mono _ _ _
   | exact impl_MembersOf.mono _ _ _
   | exact laws_alive.mono _
   | exact laws_sameInts.mono _ _ _
   | exact spec_DrawMembersOf.mono _ _
   | exact spec_MembersOf.mono _ _ _
   | exact LeO.none _
   | refine LeO.ite ?_ ?_
   | refine LeO.bind ?_ (fun _ => ?_)
theorem laws_FnMembersOf.mono : ∀ a0 k, LeO (laws_FnMembersOf.f k a0) (laws_FnMembersOf.f (k + 1) a0) := by
 intro a0 k
 obtain ⟨ih0, ih1⟩ := laws_FnMembersOf.mono_l k
 unfold laws_FnMembersOf.f
 repeat' first
   | (with_reducible exact ih0 _ _ _ _)
   | (with_reducible exact ih1 _ _ _ _ _ _ _)
   | (with_reducible exact impl_GroupsOf.mono _ _ _)
   | (with_reducible exact impl_MembersOf.mono _ _ _)
   | (with_reducible exact laws_alive.mono _)
   | (with_reducible exact laws_sameInts.mono _ _ _)
   | (with_reducible exact spec_DrawMembersOf.mono _ _)
   | (with_reducible exact spec_MembersOf.mono _ _ _)
   | (with_reducible exact LeO.refl _)
   | (with_reducible exact LeO.none _)
   | (with_reducible refine LeO.ite ?_ ?_)
   | (with_reducible refine LeO.bind ?_ (fun _ => ?_))
   | exact ih0 _ _ _ _
   | exact ih1 _ _ _ _ _ _ _
   | exact impl_GroupsOf.mono _ _ _
   | exact impl_MembersOf.mono _ _ _
   | exact laws_alive.mono _
   | exact laws_sameInts.mono _ _ _
   | exact spec_DrawMembersOf.mono _ _
   | exact spec_MembersOf.mono _ _ _
   | exact LeO.none _
   | refine LeO.ite ?_ ?_
   | refine LeO.bind ?_ (fun _ => ?_)
set_option maxHeartbeats 8000000 in
set_option maxRecDepth 100000 in
theorem laws_FnMembersOf.calls (k : Nat) (A0 : Option Addr) (c0 : Nat) (l0 : List Int) (r : Bool) (w : World) (hr0 : Kd.C (Kd.int .u8) w A0 l0.length l0) (hc0 : l0.length ≤ c0) (h : laws_FnMembersOf.f k l0 = some r) :
  Calls Try.prog 6 #[.slice A0 l0.length c0] w fun e w' => e = .returned (.bool r) ∧ Below w.heap.size w w' := by
 have HR0 := Aside0.mk hr0
 have HC0 := Aside0.mk hc0
 clear hr0 hc0
 have HB := Aside0.mk (Below.refl w.heap.size w)
 have H : (if (l0.length : Int) > 1048576 then (some true) else ((spec_DrawMembersOf.f k l0).bind fun bt393 => ((impl_MembersOf.f k bt393.1 bt393.2).bind fun t397 => ((spec_MembersOf.f k bt393.1 bt393.2).bind fun t400 => ((laws_sameInts.f k t397 t400).bind fun t403 => (if t403 = true then (laws_FnMembersOf.l0 k bt393.1 bt393.2 t397 0) else (some false))))))) = some r := h
 clear h
 by_cases c2 : (l0.length : Int) > 1048576
 ·
  rw [if_pos c2] at H; have c2b0 : decide (1048576 < (l0.length : Int)) = true := decide_eq_true c2
  have c2b1 : decide (1048576 < l0.length) = true := decide_eq_true (by omega)
  clear c2
  obtain rfl := Option.some.inj H
  go_enter Try.func6, Try.ntmps6
  go_wp2
  repeat (go_quiet (fail); try go_wp2)
  go_ret
  exact ⟨by first | rfl | (simp [errW_none, errW_some] <;> rfl) | (simp [*, errW_none, errW_some] <;> rfl), by exact bw HB.out⟩
 ·
  rw [if_neg c2] at H; have c2b0 : decide (1048576 < (l0.length : Int)) = false := decide_eq_false c2
  have c2b1 : decide (1048576 < l0.length) = false := decide_eq_false (by omega)
  clear c2
  replace H := Option.bind_eq_some_iff.mp H
  obtain ⟨⟨t393, t394⟩, A30, H⟩ := H
  replace H : ((impl_MembersOf.f k t393 t394).bind fun t397 => ((spec_MembersOf.f k t393 t394).bind fun t400 => ((laws_sameInts.f k t397 t400).bind fun t403 => (if t403 = true then (laws_FnMembersOf.l0 k t393 t394 t397 0) else (some false))))) = some r := H
  have A3 := Aside0.mk A30
  clear A30
  replace H := Option.bind_eq_some_iff.mp H
  obtain ⟨t397, A40, H⟩ := H
  replace H : ((spec_MembersOf.f k t393 t394).bind fun t400 => ((laws_sameInts.f k t397 t400).bind fun t403 => (if t403 = true then (laws_FnMembersOf.l0 k t393 t394 t397 0) else (some false)))) = some r := H
  have A4 := Aside0.mk A40
  clear A40
  replace H := Option.bind_eq_some_iff.mp H
  obtain ⟨t400, A50, H⟩ := H
  replace H : ((laws_sameInts.f k t397 t400).bind fun t403 => (if t403 = true then (laws_FnMembersOf.l0 k t393 t394 t397 0) else (some false))) = some r := H
  have A5 := Aside0.mk A50
  clear A50
  replace H := Option.bind_eq_some_iff.mp H
  obtain ⟨t403, A60, H⟩ := H
  replace H : (if t403 = true then (laws_FnMembersOf.l0 k t393 t394 t397 0) else (some false)) = some r := H
  have A6 := Aside0.mk A60
  clear A60
  have HC7 := Aside0.mk H
  clear H
  go_enter Try.func6, Try.ntmps6
  go_upto_if 26 with (first | (go_at_call 23; (with_reducible refine (spec_DrawMembersOf.calls k _ _ l0 t393 t394 _ ?side1 ?side2 A3.out).mono ?_); (case side1 => repeat (first | exact HR0.out | (with_reducible refine Kd.C_alloc ?_ _) | (with_reducible refine Kd.C_drewN ?_ _) | (with_reducible refine Kd.C_drew ?_))); (case side2 => exact HC0.out); rintro e w8 ⟨v395, rfl, ho0, hb⟩; have n0_ := Aside0.mk (Kd.S_lower ho0 (below_size (by exact bw HB.out))); have n1_ := bS HB hb; clear HB; have HO396 := n0_; have HB := n1_; clear n0_ n1_; (try clear hb); (try clear hb2); (try clear hk); (try clear hi); (try clear ho0); obtain ⟨Ao9, co9, eo9⟩ := Kd.S_slice HO396.out; subst eo9) | (go_at_call 24; (with_reducible refine (impl_MembersOf.calls k _ _ t393 t394 t397 _ ?side1 ?side2 A4.out).mono ?_); (case side1 => repeat (first | exact (Kd.S_reads' HO396.out).2.2 | (with_reducible refine Kd.C_alloc ?_ _) | (with_reducible refine Kd.C_drewN ?_ _) | (with_reducible refine Kd.C_drew ?_))); (case side2 => exact (Kd.S_reads' HO396.out).2.1); rintro e w10 ⟨v398, rfl, ho0, hb⟩; have n0_ := Aside0.mk (Kd.S_elder' (by exact Kd.xS HO396.out) (Kd.R_base ho0) hb); have n1_ := Aside0.mk (Kd.R_lower ho0 (below_size (by exact bw HB.out))); have n2_ := bS HB hb; clear HO396; clear HB; have HO396 := n0_; have HO399 := n1_; have HB := n2_; clear n0_ n1_ n2_; (try clear hb); (try clear hb2); (try clear hk); (try clear hi); (try clear ho0)) | (go_at_call 25; (with_reducible refine (spec_MembersOf.calls k _ _ t393 t394 t400 _ ?side1 ?side2 A5.out).mono ?_); (case side1 => repeat (first | exact (Kd.S_reads' HO396.out).2.2 | (with_reducible refine Kd.C_alloc ?_ _) | (with_reducible refine Kd.C_drewN ?_ _) | (with_reducible refine Kd.C_drew ?_))); (case side2 => exact (Kd.S_reads' HO396.out).2.1); rintro e w11 ⟨v401, rfl, ho0, hb⟩; have n0_ := Aside0.mk (Kd.S_elder' (by exact Kd.xS HO396.out) (Kd.R_base ho0) hb); have n1_ := Aside0.mk (Kd.R_elder' (by exact Kd.xR HO399.out) (Kd.R_base ho0) hb); have n2_ := Aside0.mk (Kd.R_lower (Kd.R_new' ho0 (Kd.R_lt (by exact Kd.xR HO399.out))) (below_size (by exact bw HB.out))); have n3_ := bS HB hb; clear HO396; clear HO399; clear HB; have HO396 := n0_; have HO399 := n1_; have HO402 := n2_; have HB := n3_; clear n0_ n1_ n2_ n3_; (try clear hb); (try clear hb2); (try clear hk); (try clear hi); (try clear ho0); obtain ⟨Ao12, co12, eo12⟩ := Kd.R_slice HO399.out; subst eo12; obtain ⟨Ao13, co13, eo13⟩ := Kd.R_slice HO402.out; subst eo13) | (go_at_call 14; (with_reducible refine (laws_sameInts.calls k _ _ t397 _ _ t400 t403 _ ?side1 ?side2 ?side3 ?side4 A6.out).mono ?_); (case side1 => repeat (first | exact (Kd.R_reads' HO399.out).2.2 | (with_reducible refine Kd.C_alloc ?_ _) | (with_reducible refine Kd.C_drewN ?_ _) | (with_reducible refine Kd.C_drew ?_))); (case side2 => exact (Kd.R_reads' HO399.out).2.1); (case side3 => repeat (first | exact (Kd.R_reads' HO402.out).2.2 | (with_reducible refine Kd.C_alloc ?_ _) | (with_reducible refine Kd.C_drewN ?_ _) | (with_reducible refine Kd.C_drew ?_))); (case side4 => exact (Kd.R_reads' HO402.out).2.1); rintro e w' ⟨rfl, ⟨nd, rfl⟩⟩; (try first | exact ⟨rfl, _, World.drewN_drewN _ _ _⟩ | exact ⟨rfl, _, Eq.trans (World.drewN_drewN _ _ _) (congrArg (World.drewN _) (Nat.add_assoc _ _ _))⟩)))
  repeat (go_quiet (first | (go_at_call 23; (with_reducible refine (spec_DrawMembersOf.calls k _ _ l0 t393 t394 _ ?side1 ?side2 A3.out).mono ?_); (case side1 => repeat (first | exact HR0.out | (with_reducible refine Kd.C_alloc ?_ _) | (with_reducible refine Kd.C_drewN ?_ _) | (with_reducible refine Kd.C_drew ?_))); (case side2 => exact HC0.out); rintro e w8 ⟨v395, rfl, ho0, hb⟩; have n0_ := Aside0.mk (Kd.S_lower ho0 (below_size (by exact bw HB.out))); have n1_ := bS HB hb; clear HB; have HO396 := n0_; have HB := n1_; clear n0_ n1_; (try clear hb); (try clear hb2); (try clear hk); (try clear hi); (try clear ho0); obtain ⟨Ao9, co9, eo9⟩ := Kd.S_slice HO396.out; subst eo9) | (go_at_call 24; (with_reducible refine (impl_MembersOf.calls k _ _ t393 t394 t397 _ ?side1 ?side2 A4.out).mono ?_); (case side1 => repeat (first | exact (Kd.S_reads' HO396.out).2.2 | (with_reducible refine Kd.C_alloc ?_ _) | (with_reducible refine Kd.C_drewN ?_ _) | (with_reducible refine Kd.C_drew ?_))); (case side2 => exact (Kd.S_reads' HO396.out).2.1); rintro e w10 ⟨v398, rfl, ho0, hb⟩; have n0_ := Aside0.mk (Kd.S_elder' (by exact Kd.xS HO396.out) (Kd.R_base ho0) hb); have n1_ := Aside0.mk (Kd.R_lower ho0 (below_size (by exact bw HB.out))); have n2_ := bS HB hb; clear HO396; clear HB; have HO396 := n0_; have HO399 := n1_; have HB := n2_; clear n0_ n1_ n2_; (try clear hb); (try clear hb2); (try clear hk); (try clear hi); (try clear ho0)) | (go_at_call 25; (with_reducible refine (spec_MembersOf.calls k _ _ t393 t394 t400 _ ?side1 ?side2 A5.out).mono ?_); (case side1 => repeat (first | exact (Kd.S_reads' HO396.out).2.2 | (with_reducible refine Kd.C_alloc ?_ _) | (with_reducible refine Kd.C_drewN ?_ _) | (with_reducible refine Kd.C_drew ?_))); (case side2 => exact (Kd.S_reads' HO396.out).2.1); rintro e w11 ⟨v401, rfl, ho0, hb⟩; have n0_ := Aside0.mk (Kd.S_elder' (by exact Kd.xS HO396.out) (Kd.R_base ho0) hb); have n1_ := Aside0.mk (Kd.R_elder' (by exact Kd.xR HO399.out) (Kd.R_base ho0) hb); have n2_ := Aside0.mk (Kd.R_lower (Kd.R_new' ho0 (Kd.R_lt (by exact Kd.xR HO399.out))) (below_size (by exact bw HB.out))); have n3_ := bS HB hb; clear HO396; clear HO399; clear HB; have HO396 := n0_; have HO399 := n1_; have HO402 := n2_; have HB := n3_; clear n0_ n1_ n2_ n3_; (try clear hb); (try clear hb2); (try clear hk); (try clear hi); (try clear ho0); obtain ⟨Ao12, co12, eo12⟩ := Kd.R_slice HO399.out; subst eo12; obtain ⟨Ao13, co13, eo13⟩ := Kd.R_slice HO402.out; subst eo13) | (go_at_call 14; (with_reducible refine (laws_sameInts.calls k _ _ t397 _ _ t400 t403 _ ?side1 ?side2 ?side3 ?side4 A6.out).mono ?_); (case side1 => repeat (first | exact (Kd.R_reads' HO399.out).2.2 | (with_reducible refine Kd.C_alloc ?_ _) | (with_reducible refine Kd.C_drewN ?_ _) | (with_reducible refine Kd.C_drew ?_))); (case side2 => exact (Kd.R_reads' HO399.out).2.1); (case side3 => repeat (first | exact (Kd.R_reads' HO402.out).2.2 | (with_reducible refine Kd.C_alloc ?_ _) | (with_reducible refine Kd.C_drewN ?_ _) | (with_reducible refine Kd.C_drew ?_))); (case side4 => exact (Kd.R_reads' HO402.out).2.1); rintro e w' ⟨rfl, ⟨nd, rfl⟩⟩; (try first | exact ⟨rfl, _, World.drewN_drewN _ _ _⟩ | exact ⟨rfl, _, Eq.trans (World.drewN_drewN _ _ _) (congrArg (World.drewN _) (Nat.add_assoc _ _ _))⟩))); go_upto_if 26 with (first | (go_at_call 23; (with_reducible refine (spec_DrawMembersOf.calls k _ _ l0 t393 t394 _ ?side1 ?side2 A3.out).mono ?_); (case side1 => repeat (first | exact HR0.out | (with_reducible refine Kd.C_alloc ?_ _) | (with_reducible refine Kd.C_drewN ?_ _) | (with_reducible refine Kd.C_drew ?_))); (case side2 => exact HC0.out); rintro e w8 ⟨v395, rfl, ho0, hb⟩; have n0_ := Aside0.mk (Kd.S_lower ho0 (below_size (by exact bw HB.out))); have n1_ := bS HB hb; clear HB; have HO396 := n0_; have HB := n1_; clear n0_ n1_; (try clear hb); (try clear hb2); (try clear hk); (try clear hi); (try clear ho0); obtain ⟨Ao9, co9, eo9⟩ := Kd.S_slice HO396.out; subst eo9) | (go_at_call 24; (with_reducible refine (impl_MembersOf.calls k _ _ t393 t394 t397 _ ?side1 ?side2 A4.out).mono ?_); (case side1 => repeat (first | exact (Kd.S_reads' HO396.out).2.2 | (with_reducible refine Kd.C_alloc ?_ _) | (with_reducible refine Kd.C_drewN ?_ _) | (with_reducible refine Kd.C_drew ?_))); (case side2 => exact (Kd.S_reads' HO396.out).2.1); rintro e w10 ⟨v398, rfl, ho0, hb⟩; have n0_ := Aside0.mk (Kd.S_elder' (by exact Kd.xS HO396.out) (Kd.R_base ho0) hb); have n1_ := Aside0.mk (Kd.R_lower ho0 (below_size (by exact bw HB.out))); have n2_ := bS HB hb; clear HO396; clear HB; have HO396 := n0_; have HO399 := n1_; have HB := n2_; clear n0_ n1_ n2_; (try clear hb); (try clear hb2); (try clear hk); (try clear hi); (try clear ho0)) | (go_at_call 25; (with_reducible refine (spec_MembersOf.calls k _ _ t393 t394 t400 _ ?side1 ?side2 A5.out).mono ?_); (case side1 => repeat (first | exact (Kd.S_reads' HO396.out).2.2 | (with_reducible refine Kd.C_alloc ?_ _) | (with_reducible refine Kd.C_drewN ?_ _) | (with_reducible refine Kd.C_drew ?_))); (case side2 => exact (Kd.S_reads' HO396.out).2.1); rintro e w11 ⟨v401, rfl, ho0, hb⟩; have n0_ := Aside0.mk (Kd.S_elder' (by exact Kd.xS HO396.out) (Kd.R_base ho0) hb); have n1_ := Aside0.mk (Kd.R_elder' (by exact Kd.xR HO399.out) (Kd.R_base ho0) hb); have n2_ := Aside0.mk (Kd.R_lower (Kd.R_new' ho0 (Kd.R_lt (by exact Kd.xR HO399.out))) (below_size (by exact bw HB.out))); have n3_ := bS HB hb; clear HO396; clear HO399; clear HB; have HO396 := n0_; have HO399 := n1_; have HO402 := n2_; have HB := n3_; clear n0_ n1_ n2_ n3_; (try clear hb); (try clear hb2); (try clear hk); (try clear hi); (try clear ho0); obtain ⟨Ao12, co12, eo12⟩ := Kd.R_slice HO399.out; subst eo12; obtain ⟨Ao13, co13, eo13⟩ := Kd.R_slice HO402.out; subst eo13) | (go_at_call 14; (with_reducible refine (laws_sameInts.calls k _ _ t397 _ _ t400 t403 _ ?side1 ?side2 ?side3 ?side4 A6.out).mono ?_); (case side1 => repeat (first | exact (Kd.R_reads' HO399.out).2.2 | (with_reducible refine Kd.C_alloc ?_ _) | (with_reducible refine Kd.C_drewN ?_ _) | (with_reducible refine Kd.C_drew ?_))); (case side2 => exact (Kd.R_reads' HO399.out).2.1); (case side3 => repeat (first | exact (Kd.R_reads' HO402.out).2.2 | (with_reducible refine Kd.C_alloc ?_ _) | (with_reducible refine Kd.C_drewN ?_ _) | (with_reducible refine Kd.C_drew ?_))); (case side4 => exact (Kd.R_reads' HO402.out).2.1); rintro e w' ⟨rfl, ⟨nd, rfl⟩⟩; (try first | exact ⟨rfl, _, World.drewN_drewN _ _ _⟩ | exact ⟨rfl, _, Eq.trans (World.drewN_drewN _ _ _) (congrArg (World.drewN _) (Nat.add_assoc _ _ _))⟩))))
  (try simp only [Act.put, List.setIfInBounds_toArray, List.set_cons_zero, List.set_cons_succ])
  have H := HC7.out
  clear HC7
  by_cases c14 : t403 = true
  ·
   subst c14
   have H1 : (laws_FnMembersOf.l0 k t393 t394 t397 0) = some r := by rw [if_pos rfl] at H; exact H
   clear H
   have H := H1
   clear H1
   have H' := Aside0.mk H
   clear H
   go_wp2
   repeat (go_quiet (fail); try go_wp2)
   go_loopg [6] k (fun kq v6 w' => ∃ (x6_1 : Int), v6 = .int .i64 x6_1 ∧ Aside0 (laws_FnMembersOf.l0 kq t393 t394 t397 x6_1 = some r) ∧ Aside0 (kq ≤ k) ∧ Aside0 (Kd.S k74 74 w' w.heap.size (fun k_ => some k_ ≠ ((.slice Ao12 t397.length co12) : Value).ownBlock) (.slice Ao9 t393.length co9) t393) ∧ Aside0 (Kd.R (Kd.int .i64) 3 w' w.heap.size (fun _ => True) (.slice Ao12 t397.length co12) t397) ∧ Aside0 (Below w.heap.size w w'))
   case atStart => exact ⟨(0), (by first | rfl | (simp; done) | (simp [*]; done)), H', ⟨Nat.le_refl _⟩, ⟨by (with_reducible repeat (first | apply Kd.S_alloc | apply Kd.S_drewN | apply Kd.S_drew)); exact Kd.S_mono HO396.out (fun _ hk => hk.1.2)⟩, ⟨by (with_reducible repeat (first | apply Kd.R_alloc | apply Kd.R_drewN | apply Kd.R_drew)); exact Kd.R_mono HO399.out (fun _ hk => trivial)⟩, ⟨by exact bw HB.out⟩⟩
   case round =>
    clear H'
    try clear c1
    try clear c2
    try clear c2b0
    try clear c2b1
    try clear p2
    try clear c6
    try clear c14
    obtain ⟨x6_1, rfl, HA, HK1, HO_3, HO_5, HB⟩ := hrel
    cases gk with
    | zero => exact absurd HA.out (by simp [laws_FnMembersOf.l0])
    | succ k1 =>
     have H := HA.out
     clear HA
     simp only [laws_FnMembersOf.l0] at H
     by_cases c15 : x6_1 < (t397.length : Int)
     ·
      rw [if_pos c15] at H; have c15b0 : decide (x6_1 < (t397.length : Int)) = true := decide_eq_true c15; clear c15
      (first | rw [c15b0] | (simp only [i64_w, i32_w]; rw [c15b0]) | rw [c15b2] | rw [c15b1] | skip)
      by_cases c16 : 0 ≤ x6_1
      ·
       rw [if_pos c16] at H; have c16b0 : decide (0 ≤ x6_1) = true := decide_eq_true c16; clear c16
       replace H := Option.bind_eq_some_iff.mp H
       obtain ⟨t408, A170, H⟩ := H
       replace H : (laws_FnMembersOf.l1 k1 t393 t394 t397 x6_1 false t408 0) = some r := H
       have A17 := Aside0.mk A170
       clear A170
       have H' := Aside0.mk H
       clear H
       have p407 : 0 ≤ (x6_1 : Int) := of_decide_eq_true (by first | (with_reducible assumption) | assumption)
       have q407 : x6_1 < (t397.length : Int) := of_decide_eq_true (by first | (with_reducible assumption) | assumption)
       obtain ⟨ad407, e407, hx407_0⟩ := Kd.at_int (Kd.R_reads' HO_5.out).2.2 x6_1 p407 q407
       cases e407
       replace p407 := eq_true p407
       replace q407 := eq_true q407
       go_wp2_with (first | (go_at_call 13; (with_reducible refine (impl_GroupsOf.calls k1 _ _ t393 (rd t397 x6_1) t408 _ ?side1 ?side2 A17.out).mono ?_); (case side1 => repeat (first | exact (Kd.S_reads' HO_3.out).2.2 | (with_reducible refine Kd.C_alloc ?_ _) | (with_reducible refine Kd.C_drewN ?_ _) | (with_reducible refine Kd.C_drew ?_))); (case side2 => exact (Kd.S_reads' HO_3.out).2.1); rintro e w18 ⟨v409, rfl, ho0, hb⟩; have n0_ := Aside0.mk (Kd.S_elder' (by exact Kd.xS HO_3.out) (Kd.R_base ho0) hb); have n1_ := Aside0.mk (Kd.R_elder' (by exact Kd.xR HO_5.out) (Kd.R_base ho0) hb); have n2_ := Aside0.mk (Kd.R_lower (Kd.R_new' ho0 (Kd.R_lt (by exact Kd.xR HO_5.out))) (below_size (by exact bw HB.out))); have n3_ := bS HB hb; clear HO_3; clear HO_5; clear HB; have HO_3 := n0_; have HO_5 := n1_; have HO410 := n2_; have HB := n3_; clear n0_ n1_ n2_ n3_; (try clear hb); (try clear hb2); (try clear hk); (try clear hi); (try clear ho0)))
       repeat (go_quiet (first | (go_at_call 13; (with_reducible refine (impl_GroupsOf.calls k1 _ _ t393 (rd t397 x6_1) t408 _ ?side1 ?side2 A17.out).mono ?_); (case side1 => repeat (first | exact (Kd.S_reads' HO_3.out).2.2 | (with_reducible refine Kd.C_alloc ?_ _) | (with_reducible refine Kd.C_drewN ?_ _) | (with_reducible refine Kd.C_drew ?_))); (case side2 => exact (Kd.S_reads' HO_3.out).2.1); rintro e w18 ⟨v409, rfl, ho0, hb⟩; have n0_ := Aside0.mk (Kd.S_elder' (by exact Kd.xS HO_3.out) (Kd.R_base ho0) hb); have n1_ := Aside0.mk (Kd.R_elder' (by exact Kd.xR HO_5.out) (Kd.R_base ho0) hb); have n2_ := Aside0.mk (Kd.R_lower (Kd.R_new' ho0 (Kd.R_lt (by exact Kd.xR HO_5.out))) (below_size (by exact bw HB.out))); have n3_ := bS HB hb; clear HO_3; clear HO_5; clear HB; have HO_3 := n0_; have HO_5 := n1_; have HO410 := n2_; have HB := n3_; clear n0_ n1_ n2_ n3_; (try clear hb); (try clear hb2); (try clear hk); (try clear hi); (try clear ho0))); try go_wp2_with (first | (go_at_call 13; (with_reducible refine (impl_GroupsOf.calls k1 _ _ t393 (rd t397 x6_1) t408 _ ?side1 ?side2 A17.out).mono ?_); (case side1 => repeat (first | exact (Kd.S_reads' HO_3.out).2.2 | (with_reducible refine Kd.C_alloc ?_ _) | (with_reducible refine Kd.C_drewN ?_ _) | (with_reducible refine Kd.C_drew ?_))); (case side2 => exact (Kd.S_reads' HO_3.out).2.1); rintro e w18 ⟨v409, rfl, ho0, hb⟩; have n0_ := Aside0.mk (Kd.S_elder' (by exact Kd.xS HO_3.out) (Kd.R_base ho0) hb); have n1_ := Aside0.mk (Kd.R_elder' (by exact Kd.xR HO_5.out) (Kd.R_base ho0) hb); have n2_ := Aside0.mk (Kd.R_lower (Kd.R_new' ho0 (Kd.R_lt (by exact Kd.xR HO_5.out))) (below_size (by exact bw HB.out))); have n3_ := bS HB hb; clear HO_3; clear HO_5; clear HB; have HO_3 := n0_; have HO_5 := n1_; have HO410 := n2_; have HB := n3_; clear n0_ n1_ n2_ n3_; (try clear hb); (try clear hb2); (try clear hk); (try clear hi); (try clear ho0))))
       go_loopg [7, 9] k1 (fun kq v7 v9 w' => ∃ (x7_2 : Bool) (x9_2 : Int), v7 = .bool x7_2 ∧ v9 = .int .i64 x9_2 ∧ Aside0 (laws_FnMembersOf.l1 kq t393 t394 t397 x6_1 x7_2 t408 x9_2 = some r) ∧ Aside0 (kq ≤ k1) ∧ Aside0 (Kd.S k74 74 w' w.heap.size (fun k_ => some k_ ≠ ((.slice (some ad407) t397.length co12) : Value).ownBlock ∧ some k_ ≠ (v409 : Value).ownBlock) (.slice Ao9 t393.length co9) t393) ∧ Aside0 (Kd.R (Kd.int .i64) 3 w' w.heap.size (fun k_ => some k_ ≠ (v409 : Value).ownBlock) (.slice (some ad407) t397.length co12) t397) ∧ Aside0 (Kd.R (Kd.int .i64) 3 w' w.heap.size (fun k_ => some k_ ≠ ((.slice (some ad407) t397.length co12) : Value).ownBlock) v409 t408) ∧ Aside0 (Below w.heap.size w w'))
       case atStart => exact ⟨(false), (0), (by first | rfl | (simp; done) | (simp [*]; done)), (by first | rfl | (simp; done) | (simp [*]; done)), H', ⟨Nat.le_refl _⟩, ⟨by exact Kd.xS HO_3.out⟩, ⟨by (with_reducible repeat (first | apply Kd.R_alloc | apply Kd.R_drewN | apply Kd.R_drew)); exact Kd.R_mono HO_5.out (fun _ hk => hk.2)⟩, ⟨by (with_reducible repeat (first | apply Kd.R_alloc | apply Kd.R_drewN | apply Kd.R_drew)); exact Kd.R_mono HO410.out (fun _ hk => hk.2)⟩, ⟨by exact bw HB.out⟩⟩
       case round =>
        clear H'
        try clear c1
        try clear c2
        try clear c2b0
        try clear c2b1
        try clear p2
        try clear p4
        try clear q4
        try clear hx4
        try clear c6
        try clear c14
        try clear c15
        try clear c15b0
        try clear c15b1
        try clear c15b2
        try clear c16
        try clear c16b0
        try clear hx407_0
        try clear p2
        try clear p407
        try clear q407
        obtain ⟨x7_2, x9_2, rfl, rfl, HA, HK2, HO_3, HO_5, HO_8, HB⟩ := hrel
        cases gk with
        | zero => exact absurd HA.out (by simp [laws_FnMembersOf.l1])
        | succ k2 =>
         have H := HA.out
         clear HA
         simp only [laws_FnMembersOf.l1] at H
         by_cases c19 : x9_2 < (t408.length : Int)
         ·
          rw [if_pos c19] at H; have c19b0 : decide (x9_2 < (t408.length : Int)) = true := decide_eq_true c19; clear c19
          by_cases c20 : x7_2 = true
          ·
           subst c20
           have H1 : (laws_FnMembersOf.l1 k2 t393 t394 t397 x6_1 true t408 (wrap64 (x9_2 + 1))) = some r := by rw [if_pos rfl] at H; exact H
           clear H
           have H := H1
           clear H1
           have H' := Aside0.mk H
           clear H
           obtain ⟨Ao21, co21, eo21⟩ := Kd.R_slice HO_8.out
           subst eo21
           go_wp2
           repeat (go_quiet (fail); try go_wp2)
           go_roundg k2
           case measure => have := HK1.out; have := HK2.out; omega
           case rel => exact ⟨(true), (wrap64 (x9_2 + 1)), (by first | rfl | (simp; done) | (simp [*]; done)), (by first | rfl | (simp; done) | (simp [*]; done)), H', ⟨by have := HK1.out; have := HK2.out; omega⟩, ⟨by exact Kd.xS HO_3.out⟩, ⟨by exact Kd.xR HO_5.out⟩, ⟨by exact Kd.xR HO_8.out⟩, ⟨by exact bw HB.out⟩⟩
          ·
           replace c20 := Bool.eq_false_iff.mpr c20
           subst c20
           have H1 : (if 0 ≤ x9_2 then (laws_FnMembersOf.l1 k2 t393 t394 t397 x6_1 ((rd t408 x9_2) == t394) t408 (wrap64 (x9_2 + 1))) else (none)) = some r := by rw [if_neg (show ¬ (false = true) by decide)] at H; exact H
           clear H
           have H := H1
           clear H1
           by_cases c22 : 0 ≤ x9_2
           ·
            rw [if_pos c22] at H; have c22b0 : decide (0 ≤ x9_2) = true := decide_eq_true c22; clear c22
            have H' := Aside0.mk H
            clear H
            obtain ⟨Ao23, co23, eo23⟩ := Kd.R_slice HO_8.out
            subst eo23
            have p411 : 0 ≤ (x9_2 : Int) := of_decide_eq_true (by first | (with_reducible assumption) | assumption)
            have q411 : x9_2 < (t408.length : Int) := of_decide_eq_true (by first | (with_reducible assumption) | assumption)
            obtain ⟨ad411, e411, hx411_0⟩ := Kd.at_int (Kd.R_reads' HO_8.out).2.2 x9_2 p411 q411
            cases e411
            replace p411 := eq_true p411
            replace q411 := eq_true q411
            go_wp2
            repeat (go_quiet (fail); try go_wp2)
            go_roundg k2
            case measure => have := HK1.out; have := HK2.out; omega
            case rel => exact ⟨(((rd t408 x9_2) == t394)), (wrap64 (x9_2 + 1)), (by first | rfl | (simp; done) | (simp [*]; done)), (by first | rfl | (simp; done) | (simp [*]; done)), H', ⟨by have := HK1.out; have := HK2.out; omega⟩, ⟨by exact Kd.xS HO_3.out⟩, ⟨by exact Kd.xR HO_5.out⟩, ⟨by exact Kd.xR HO_8.out⟩, ⟨by exact bw HB.out⟩⟩
           ·
            rw [if_neg c22] at H; exact absurd H (by simp)
         ·
          rw [if_neg c19] at H; have c19b0 : decide (x9_2 < (t408.length : Int)) = false := decide_eq_false c19; clear c19
          by_cases c24 : x7_2 = true
          ·
           subst c24
           have H1 : (if x6_1 > 0 then (if 0 ≤ x6_1 then (if x6_1 < (t397.length : Int) then (if 0 ≤ (wrap64 (x6_1 - 1)) then (if (wrap64 (x6_1 - 1)) < (t397.length : Int) then (if (rd t397 x6_1) ≤ (rd t397 (wrap64 (x6_1 - 1))) then (some false) else (laws_FnMembersOf.l0 k2 t393 t394 t397 (wrap64 (x6_1 + 1)))) else (none)) else (none)) else (none)) else (none)) else (laws_FnMembersOf.l0 k2 t393 t394 t397 (wrap64 (x6_1 + 1)))) = some r := by rw [if_pos rfl] at H; exact H
           clear H
           have H := H1
           clear H1
           by_cases c25 : x6_1 > 0
           ·
            rw [if_pos c25] at H; have c25b0 : decide (0 < x6_1) = true := decide_eq_true c25; clear c25
            by_cases c26 : 0 ≤ x6_1
            ·
             rw [if_pos c26] at H; have c26b0 : decide (0 ≤ x6_1) = true := decide_eq_true c26; clear c26
             by_cases c27 : x6_1 < (t397.length : Int)
             ·
              rw [if_pos c27] at H; have c27b0 : decide (x6_1 < (t397.length : Int)) = true := decide_eq_true c27; clear c27
              obtain ⟨ji28, hji28⟩ : ∃ j_ : Int, (wrap64 (x6_1 - 1)) = j_ := ⟨_, rfl⟩
              replace H : (if 0 ≤ (ji28) then (if (ji28) < (t397.length : Int) then (if (rd t397 x6_1) ≤ (rd t397 (ji28)) then (some false) else (laws_FnMembersOf.l0 k2 t393 t394 t397 (wrap64 (x6_1 + 1)))) else (none)) else (none)) = some r := by first | (rw [hji28] at H; exact H) | (simp only [hji28] at H ⊢; exact H)
              have hji28w : (IntKind.i64.wrap (x6_1 - 1)) = ji28 := (i64_w _).trans hji28
              by_cases c29 : 0 ≤ (ji28)
              ·
               rw [if_pos c29] at H; have c29b0 : decide (0 ≤ (ji28)) = true := decide_eq_true c29; clear c29
               by_cases c30 : (ji28) < (t397.length : Int)
               ·
                rw [if_pos c30] at H; have c30b0 : decide ((ji28) < (t397.length : Int)) = true := decide_eq_true c30; clear c30
                by_cases c31 : (rd t397 x6_1) ≤ (rd t397 (ji28))
                ·
                 rw [if_pos c31] at H; have c31b0 : decide ((rd t397 x6_1) ≤ (rd t397 (ji28))) = true := decide_eq_true c31; clear c31
                 obtain rfl := Option.some.inj H
                 obtain ⟨Ao32, co32, eo32⟩ := Kd.R_slice HO_8.out
                 subst eo32
                 have p412 : 0 ≤ (x6_1 : Int) := of_decide_eq_true (by first | (with_reducible assumption) | assumption)
                 have q412 : x6_1 < (t397.length : Int) := of_decide_eq_true (by first | (with_reducible assumption) | assumption)
                 obtain ⟨ad412, e412, hx412_0⟩ := Kd.at_int (Kd.R_reads' HO_5.out).2.2 x6_1 p412 q412
                 obtain rfl : ad407 = ad412 := (by injection e412)
                 replace p412 := eq_true p412
                 replace q412 := eq_true q412
                 have p413 : 0 ≤ ((ji28) : Int) := of_decide_eq_true (by first | (with_reducible assumption) | assumption)
                 have q413 : (ji28) < (t397.length : Int) := of_decide_eq_true (by first | (with_reducible assumption) | assumption)
                 obtain ⟨ad413, e413, hx413_0⟩ := Kd.at_int (Kd.R_reads' HO_5.out).2.2 (ji28) p413 q413
                 obtain rfl : ad407 = ad413 := (by injection e413)
                 replace p413 := eq_true p413
                 replace q413 := eq_true q413
                 go_wp2
                 repeat (go_quiet (fail); try go_wp2)
                 go_ret
                 exact ⟨by first | rfl | (simp [errW_none, errW_some] <;> rfl) | (simp only [← hji28]; first | rfl | (simp [errW_none, errW_some] <;> rfl)) | (simp [*, errW_none, errW_some] <;> rfl), by exact bw HB.out⟩
                ·
                 rw [if_neg c31] at H; have c31b0 : decide ((rd t397 x6_1) ≤ (rd t397 (ji28))) = false := decide_eq_false c31; clear c31
                 have H' := Aside0.mk H
                 clear H
                 obtain ⟨Ao33, co33, eo33⟩ := Kd.R_slice HO_8.out
                 subst eo33
                 have p412 : 0 ≤ (x6_1 : Int) := of_decide_eq_true (by first | (with_reducible assumption) | assumption)
                 have q412 : x6_1 < (t397.length : Int) := of_decide_eq_true (by first | (with_reducible assumption) | assumption)
                 obtain ⟨ad412, e412, hx412_0⟩ := Kd.at_int (Kd.R_reads' HO_5.out).2.2 x6_1 p412 q412
                 obtain rfl : ad407 = ad412 := (by injection e412)
                 replace p412 := eq_true p412
                 replace q412 := eq_true q412
                 have p413 : 0 ≤ ((ji28) : Int) := of_decide_eq_true (by first | (with_reducible assumption) | assumption)
                 have q413 : (ji28) < (t397.length : Int) := of_decide_eq_true (by first | (with_reducible assumption) | assumption)
                 obtain ⟨ad413, e413, hx413_0⟩ := Kd.at_int (Kd.R_reads' HO_5.out).2.2 (ji28) p413 q413
                 obtain rfl : ad407 = ad413 := (by injection e413)
                 replace p413 := eq_true p413
                 replace q413 := eq_true q413
                 go_wp2
                 repeat (go_quiet (fail); try go_wp2)
                 go_roundg k2
                 case measure => have := HK1.out; have := HK2.out; omega
                 case rel => exact ⟨(wrap64 (x6_1 + 1)), (by first | rfl | (simp; done) | (simp [*]; done)), H', ⟨by have := HK1.out; have := HK2.out; omega⟩, ⟨by (with_reducible repeat (first | apply Kd.S_alloc | apply Kd.S_drewN | apply Kd.S_drew)); exact Kd.S_mono HO_3.out (fun _ hk => hk.1)⟩, ⟨by (with_reducible repeat (first | apply Kd.R_alloc | apply Kd.R_drewN | apply Kd.R_drew)); exact Kd.R_mono HO_5.out (fun _ hk => trivial)⟩, ⟨by exact bw HB.out⟩⟩
               ·
                rw [if_neg c30] at H; exact absurd H (by simp)
              ·
               rw [if_neg c29] at H; exact absurd H (by simp)
             ·
              rw [if_neg c27] at H; exact absurd H (by simp)
            ·
             rw [if_neg c26] at H; exact absurd H (by simp)
           ·
            rw [if_neg c25] at H; have c25b0 : decide (0 < x6_1) = false := decide_eq_false c25; clear c25
            have H' := Aside0.mk H
            clear H
            obtain ⟨Ao34, co34, eo34⟩ := Kd.R_slice HO_8.out
            subst eo34
            go_wp2
            repeat (go_quiet (fail); try go_wp2)
            go_roundg k2
            case measure => have := HK1.out; have := HK2.out; omega
            case rel => exact ⟨(wrap64 (x6_1 + 1)), (by first | rfl | (simp; done) | (simp [*]; done)), H', ⟨by have := HK1.out; have := HK2.out; omega⟩, ⟨by (with_reducible repeat (first | apply Kd.S_alloc | apply Kd.S_drewN | apply Kd.S_drew)); exact Kd.S_mono HO_3.out (fun _ hk => hk.1)⟩, ⟨by (with_reducible repeat (first | apply Kd.R_alloc | apply Kd.R_drewN | apply Kd.R_drew)); exact Kd.R_mono HO_5.out (fun _ hk => trivial)⟩, ⟨by exact bw HB.out⟩⟩
          ·
           replace c24 := Bool.eq_false_iff.mpr c24
           subst c24
           have H1 : (some false) = some r := by rw [if_neg (show ¬ (false = true) by decide)] at H; exact H
           clear H
           have H := H1
           clear H1
           obtain rfl := Option.some.inj H
           obtain ⟨Ao35, co35, eo35⟩ := Kd.R_slice HO_8.out
           subst eo35
           go_wp2
           repeat (go_quiet (fail); try go_wp2)
           go_ret
           exact ⟨by first | rfl | (simp [errW_none, errW_some] <;> rfl) | (simp [*, errW_none, errW_some] <;> rfl), by exact bw HB.out⟩
      ·
       rw [if_neg c16] at H; exact absurd H (by simp)
     ·
      rw [if_neg c15] at H; have c15b0 : decide (x6_1 < (t397.length : Int)) = false := decide_eq_false c15; clear c15
      (first | rw [c15b0] | (simp only [i64_w, i32_w]; rw [c15b0]) | rw [c15b2] | rw [c15b1] | skip)
      by_cases c36 : (t397.length : Int) = 0
      ·
       rw [if_pos c36] at H; obtain ⟨c36b0, c36b1⟩ := eqY c36; clear c36
       replace H := Option.bind_eq_some_iff.mp H
       obtain ⟨t404, A370, H⟩ := H
       replace H : (some t404) = some r := H
       have A37 := Aside0.mk A370
       clear A370
       obtain rfl := Option.some.inj H
       go_wp2_with (first | (go_at_call 11; (with_reducible refine (laws_alive.calls k1  t404 _ A37.out).mono ?_); rintro e w' ⟨rfl, ⟨nd, rfl⟩⟩; (try first | exact ⟨rfl, _, World.drewN_drewN _ _ _⟩ | exact ⟨rfl, _, Eq.trans (World.drewN_drewN _ _ _) (congrArg (World.drewN _) (Nat.add_assoc _ _ _))⟩)))
       repeat (go_quiet (first | (go_at_call 11; (with_reducible refine (laws_alive.calls k1  t404 _ A37.out).mono ?_); rintro e w' ⟨rfl, ⟨nd, rfl⟩⟩; (try first | exact ⟨rfl, _, World.drewN_drewN _ _ _⟩ | exact ⟨rfl, _, Eq.trans (World.drewN_drewN _ _ _) (congrArg (World.drewN _) (Nat.add_assoc _ _ _))⟩))); try go_wp2_with (first | (go_at_call 11; (with_reducible refine (laws_alive.calls k1  t404 _ A37.out).mono ?_); rintro e w' ⟨rfl, ⟨nd, rfl⟩⟩; (try first | exact ⟨rfl, _, World.drewN_drewN _ _ _⟩ | exact ⟨rfl, _, Eq.trans (World.drewN_drewN _ _ _) (congrArg (World.drewN _) (Nat.add_assoc _ _ _))⟩))))
       go_ret
       exact ⟨by first | rfl | (simp [errW_none, errW_some] <;> rfl) | (simp [*, errW_none, errW_some] <;> rfl), by exact bw HB.out⟩
      ·
       rw [if_neg c36] at H; obtain ⟨c36b0, c36b1⟩ := eqN c36
       have c36b2 : ¬ (t397 = []) := fun h_ => c36 (by rw [h_]; rfl)
       by_cases c38 : 0 < (t397.length : Int)
       ·
        rw [if_pos c38] at H; have c38b0 : decide (0 < (t397.length : Int)) = true := decide_eq_true c38
        have c38b1 : decide (0 < t397.length) = true := decide_eq_true (by omega)
        clear c38
        by_cases c39 : (rd t397 0) = t394
        ·
         rw [if_pos c39] at H; obtain ⟨c39b0, c39b1⟩ := eqY c39; clear c39
         replace H := Option.bind_eq_some_iff.mp H
         obtain ⟨t406, A400, H⟩ := H
         replace H : (some t406) = some r := H
         have A40 := Aside0.mk A400
         clear A400
         obtain rfl := Option.some.inj H
         have p405 : 0 ≤ (0 : Int) := (by omega)
         have q405 : 0 < (t397.length : Int) := of_decide_eq_true (by first | (with_reducible assumption) | assumption)
         obtain ⟨ad405, e405, hx405_0⟩ := Kd.at_int (Kd.R_reads' HO_5.out).2.2 0 p405 q405
         cases e405
         have qi405 : (0 < t397.length) = True := eq_true (by omega)
         (try rw [show ((0 : Int)).toNat = 0 from rfl] at hx405_0)
         (try rw [Addr.add_zero'] at hx405_0)
         replace p405 := eq_true p405
         replace q405 := eq_true q405
         go_wp2_with (first | (go_at_call 11; (with_reducible refine (laws_alive.calls k1  t406 _ A40.out).mono ?_); rintro e w' ⟨rfl, ⟨nd, rfl⟩⟩; (try first | exact ⟨rfl, _, World.drewN_drewN _ _ _⟩ | exact ⟨rfl, _, Eq.trans (World.drewN_drewN _ _ _) (congrArg (World.drewN _) (Nat.add_assoc _ _ _))⟩)))
         repeat (go_quiet (first | (go_at_call 11; (with_reducible refine (laws_alive.calls k1  t406 _ A40.out).mono ?_); rintro e w' ⟨rfl, ⟨nd, rfl⟩⟩; (try first | exact ⟨rfl, _, World.drewN_drewN _ _ _⟩ | exact ⟨rfl, _, Eq.trans (World.drewN_drewN _ _ _) (congrArg (World.drewN _) (Nat.add_assoc _ _ _))⟩))); try go_wp2_with (first | (go_at_call 11; (with_reducible refine (laws_alive.calls k1  t406 _ A40.out).mono ?_); rintro e w' ⟨rfl, ⟨nd, rfl⟩⟩; (try first | exact ⟨rfl, _, World.drewN_drewN _ _ _⟩ | exact ⟨rfl, _, Eq.trans (World.drewN_drewN _ _ _) (congrArg (World.drewN _) (Nat.add_assoc _ _ _))⟩))))
         go_ret
         exact ⟨by first | rfl | (simp [errW_none, errW_some] <;> rfl) | (simp [*, errW_none, errW_some] <;> rfl), by exact bw HB.out⟩
        ·
         rw [if_neg c39] at H; obtain ⟨c39b0, c39b1⟩ := eqN c39
         obtain rfl := Option.some.inj H
         have p405 : 0 ≤ (0 : Int) := (by omega)
         have q405 : 0 < (t397.length : Int) := of_decide_eq_true (by first | (with_reducible assumption) | assumption)
         obtain ⟨ad405, e405, hx405_0⟩ := Kd.at_int (Kd.R_reads' HO_5.out).2.2 0 p405 q405
         cases e405
         have qi405 : (0 < t397.length) = True := eq_true (by omega)
         (try rw [show ((0 : Int)).toNat = 0 from rfl] at hx405_0)
         (try rw [Addr.add_zero'] at hx405_0)
         replace p405 := eq_true p405
         replace q405 := eq_true q405
         go_wp2
         repeat (go_quiet (fail); try go_wp2)
         go_ret
         exact ⟨by first | rfl | (simp [errW_none, errW_some] <;> rfl) | (simp [*, errW_none, errW_some] <;> rfl), by exact bw HB.out⟩
       ·
        rw [if_neg c38] at H; exact absurd H (by simp)
  ·
   replace c14 := Bool.eq_false_iff.mpr c14
   subst c14
   have H1 : (some false) = some r := by rw [if_neg (show ¬ (false = true) by decide)] at H; exact H
   clear H
   have H := H1
   clear H1
   obtain rfl := Option.some.inj H
   go_wp2
   repeat (go_quiet (fail); try go_wp2)
   go_ret
   exact ⟨by first | rfl | (simp [errW_none, errW_some] <;> rfl) | (simp [*, errW_none, errW_some] <;> rfl), by exact bw HB.out⟩

/-- THE ONE PURE STATEMENT of laws_FnMembersOf: yours. -/
def laws_FnMembersOf.Pure : Prop := ∀ (l0 : List Int), l0.length ≤ maxLen → l0.length * 1 ≤ 140737488351232 → (∀ x ∈ l0, (Lit.int .u8 x).wf = true) → ∃ k, laws_FnMembersOf.f k l0 = some true
theorem laws_FnMembersOf.walk (P : laws_FnMembersOf.Pure) (a0 : Option Addr) (len0 cap0 : Nat) (z0 : List Int) (w : World) (w0 : (a0 = none ∧ len0 = 0 ∧ cap0 = 0 ∧ z0 = []) ∨ ∃ x, a0 = some x ∧ len0 ≤ cap0 ∧ cap0 ≤ maxLen ∧ z0.length = cap0 ∧ (∀ i, i < z0.length → w.cell? (x.add i) = some (.int .u8 (z0.getD i 0))) ∧ ∀ n ∈ z0, (Lit.int .u8 n).wf = true) (y0 : len0 * 1 ≤ 140737488351232) :
  Calls Try.prog 6 #[.slice a0 len0 cap0] w fun e w' => e = .returned (.bool true) ∧ Below w.heap.size w w' := by
 obtain ⟨l0, rfl, hr0, hm0, hw0, hc0⟩ := ReadsInt.ofRowC w0
 obtain ⟨k, h⟩ := P l0 hm0 y0 hw0
 refine (laws_FnMembersOf.calls k _ _ l0 true w (Kd.C_of_reads (d := (0 : Int)) (h1 := fun _ => rfl) hr0) hc0 h).mono ?_
 rintro e w' ⟨rfl, hd⟩
 exact ⟨rfl, hd⟩

end Go.Proofs.Ytoipfhdlgoaldaa.P
