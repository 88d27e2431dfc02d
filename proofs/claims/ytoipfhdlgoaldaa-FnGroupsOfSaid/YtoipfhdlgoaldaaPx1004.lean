-- Written by a program of this session (wip/tool).
import Derived.Test.YtoipfhdlgoaldaaPx0
import Derived.Test.YtoipfhdlgoaldaaPx1012
import Derived.Test.YtoipfhdlgoaldaaPx1039
import Derived.Test.YtoipfhdlgoaldaaPx1057
namespace Go.Proofs.Ytoipfhdlgoaldaa.P
open Go.RowKit Go.Proofs.YtoipfhdlgoaldaaW.PrintWords Go.Proofs.YtoipfhdlgoaldaaW.PrintLast Go.Proofs.YtoipfhdlgoaldaaW.PrintMore
attribute [local go_sem] max2_int min2_int max_two min_two max_three min_three max_four min_four   -- for this text's walks alone
set_option linter.unusedVariables false
set_option linter.unusedSimpArgs false

/-! ### laws_FnGroupsOf: function 4 -/
def laws_FnGroupsOf.l0 : Nat → List (S74) → Int → List Int → Int → Option (Bool)
 | 0, _, _, _, _ => none
 | k + 1, x3, x4, x5, x6 => if x6 < (x5.length : Int) then (if 0 ≤ x6 then ((impl_IsIn.f k x3 x4 (rd x5 x6)).bind fun t293 => (if t293 = true then (if x6 > 0 then (if 0 ≤ (wrap64 (x6 - 1)) then (if (wrap64 (x6 - 1)) < (x5.length : Int) then (if (rd x5 x6) ≤ (rd x5 (wrap64 (x6 - 1))) then (some false) else (laws_FnGroupsOf.l0 k x3 x4 x5 (wrap64 (x6 + 1)))) else (none)) else (none)) else (laws_FnGroupsOf.l0 k x3 x4 x5 (wrap64 (x6 + 1)))) else (some false))) else (none)) else (if (x5.length : Int) = 0 then ((laws_alive.f k).bind fun t296 => (some t296)) else (if 0 ≤ (wrap64 ((x5.length : Int) - 1)) then (if (wrap64 ((x5.length : Int) - 1)) < (x5.length : Int) then (if (rd x5 (wrap64 ((x5.length : Int) - 1))) = x4 then ((laws_alive.f k).bind fun t298 => (some t298)) else (some false)) else (none)) else (none)))
def laws_FnGroupsOf.f (k : Nat) (l0 : List Int) : Option (Bool) := if (l0.length : Int) > 1048576 then (some true) else ((spec_DrawGroupsOf.f k l0).bind fun bt281 => ((impl_GroupsOf.f k bt281.1 bt281.2).bind fun t285 => ((spec_GroupsOf.f k bt281.1 bt281.2).bind fun t288 => ((laws_sameInts.f k t285 t288).bind fun t291 => (if t291 = true then (laws_FnGroupsOf.l0 k bt281.1 bt281.2 t285 0) else (some false))))))
theorem laws_FnGroupsOf.mono_l : ∀ k, (∀ y0 y1 y2 y3, LeO (laws_FnGroupsOf.l0 k y0 y1 y2 y3) (laws_FnGroupsOf.l0 (k + 1) y0 y1 y2 y3))
 | 0 => fun _ _ _ _ r h => by simp [laws_FnGroupsOf.l0] at h
 | k + 1 => by
  have ih0 := laws_FnGroupsOf.mono_l k
  ·
   intro y0 y1 y2 y3
   unfold laws_FnGroupsOf.l0
   repeat' first
   | (with_reducible exact ih0 _ _ _ _)
   | (with_reducible exact impl_GroupsOf.mono _ _ _)
   | (with_reducible exact impl_IsIn.mono _ _ _ _)
   | (with_reducible exact laws_alive.mono _)
   | (with_reducible exact laws_sameInts.mono _ _ _)
   | (with_reducible exact spec_DrawGroupsOf.mono _ _)
   | (with_reducible exact spec_GroupsOf.mono _ _ _)
   | (with_reducible exact LeO.refl _)
   | (with_reducible exact LeO.none _)
   | (with_reducible refine LeO.ite ?_ ?_)
   | (with_reducible refine LeO.bind ?_ (fun _ => ?_))
   | exact ih0 _ _ _ _
   | exact impl_GroupsOf.mono _ _ _
   | exact impl_IsIn.mono _ _ _ _
   | exact laws_alive.mono _
   | exact laws_sameInts.mono _ _ _
   | exact spec_DrawGroupsOf.mono _ _
   | exact spec_GroupsOf.mono _ _ _
   | exact LeO.none _
   | refine LeO.ite ?_ ?_
   | refine LeO.bind ?_ (fun _ => ?_)
theorem laws_FnGroupsOf.mono : ∀ a0 k, LeO (laws_FnGroupsOf.f k a0) (laws_FnGroupsOf.f (k + 1) a0) := by
 intro a0 k
 have ih0 := laws_FnGroupsOf.mono_l k
 unfold laws_FnGroupsOf.f
 repeat' first
   | (with_reducible exact ih0 _ _ _ _)
   | (with_reducible exact impl_GroupsOf.mono _ _ _)
   | (with_reducible exact impl_IsIn.mono _ _ _ _)
   | (with_reducible exact laws_alive.mono _)
   | (with_reducible exact laws_sameInts.mono _ _ _)
   | (with_reducible exact spec_DrawGroupsOf.mono _ _)
   | (with_reducible exact spec_GroupsOf.mono _ _ _)
   | (with_reducible exact LeO.refl _)
   | (with_reducible exact LeO.none _)
   | (with_reducible refine LeO.ite ?_ ?_)
   | (with_reducible refine LeO.bind ?_ (fun _ => ?_))
   | exact ih0 _ _ _ _
   | exact impl_GroupsOf.mono _ _ _
   | exact impl_IsIn.mono _ _ _ _
   | exact laws_alive.mono _
   | exact laws_sameInts.mono _ _ _
   | exact spec_DrawGroupsOf.mono _ _
   | exact spec_GroupsOf.mono _ _ _
   | exact LeO.none _
   | refine LeO.ite ?_ ?_
   | refine LeO.bind ?_ (fun _ => ?_)
def laws_FnGroupsOf.T10 : Bool × List (List Nat × List Nat) := (true, [([], []), ([], []), ([], []), ([], []), ([2, 3], [2, 3]), ([4], [4]), ([0, 1, 5], [0, 1, 5]), ([6], [6]), ([7, 6], [7]), ([8], [8]), ([9, 8], [8, 9]), ([10, 8, 8], [8, 10]), ([11], [11]), ([11], [11]), ([12, 13, 11], [11, 12, 13]), ([14, 11], [11, 14]), ([11], [11]), ([11], [11]), ([17, 11], [11, 17]), ([16, 18, 11], [11, 16, 18]), ([19, 11], [11, 19]), ([15, 20, 11], [11, 15, 20]), ([11, 21, 8], [8, 11, 21]), ([8, 22], [8, 22])])
def laws_FnGroupsOf.B10 : List Nat := [0, 0, 0, 0, 12, 28, 63, 127, 255, 511, 1023, 2047, 4095, 4095, 16383, 32767, 4095, 4095, 135167, 462847, 987135, 2097151, 4194303, 8388607]
theorem laws_FnGroupsOf.tab10 : rtab .any (opsOf Try.f4 10) = laws_FnGroupsOf.T10 := by kernel_rfl
theorem laws_FnGroupsOf.bits10 : waitsOk laws_FnGroupsOf.T10.2 laws_FnGroupsOf.B10 = true := by kernel_rfl
set_option maxHeartbeats 8000000 in
set_option maxRecDepth 100000 in
theorem laws_FnGroupsOf.calls (k : Nat) (A0 : Option Addr) (c0 : Nat) (l0 : List Int) (r : Bool) (w : World) (hr0 : Kd.C (Kd.int .u8) w A0 l0.length l0) (hc0 : l0.length ≤ c0) (h : laws_FnGroupsOf.f k l0 = some r) :
  Calls Try.prog 4 #[.slice A0 l0.length c0] w fun e w' => e = .returned (.bool r) ∧ Below w.heap.size w w' := by
 have HR0 := Aside0.mk hr0
 have HC0 := Aside0.mk hc0
 clear hr0 hc0
 have HB := Aside0.mk (Below.refl w.heap.size w)
 have H : (if (l0.length : Int) > 1048576 then (some true) else ((spec_DrawGroupsOf.f k l0).bind fun bt281 => ((impl_GroupsOf.f k bt281.1 bt281.2).bind fun t285 => ((spec_GroupsOf.f k bt281.1 bt281.2).bind fun t288 => ((laws_sameInts.f k t285 t288).bind fun t291 => (if t291 = true then (laws_FnGroupsOf.l0 k bt281.1 bt281.2 t285 0) else (some false))))))) = some r := h
 clear h
 by_cases c2 : (l0.length : Int) > 1048576
 ·
  rw [if_pos c2] at H; have c2b0 : decide (1048576 < (l0.length : Int)) = true := decide_eq_true c2
  have c2b1 : decide (1048576 < l0.length) = true := decide_eq_true (by omega)
  clear c2
  obtain rfl := Option.some.inj H
  go_enter Try.func4, Try.ntmps4
  go_wp2
  go_ret
  exact ⟨by first | rfl | (simp [errW_none, errW_some] <;> rfl) | (simp [*, errW_none, errW_some] <;> rfl), by exact bw HB.out⟩
 ·
  rw [if_neg c2] at H; have c2b0 : decide (1048576 < (l0.length : Int)) = false := decide_eq_false c2
  have c2b1 : decide (1048576 < l0.length) = false := decide_eq_false (by omega)
  clear c2
  replace H := Option.bind_eq_some_iff.mp H
  obtain ⟨⟨t281, t282⟩, A30, H⟩ := H
  replace H : ((impl_GroupsOf.f k t281 t282).bind fun t285 => ((spec_GroupsOf.f k t281 t282).bind fun t288 => ((laws_sameInts.f k t285 t288).bind fun t291 => (if t291 = true then (laws_FnGroupsOf.l0 k t281 t282 t285 0) else (some false))))) = some r := H
  have A3 := Aside0.mk A30
  clear A30
  replace H := Option.bind_eq_some_iff.mp H
  obtain ⟨t285, A40, H⟩ := H
  replace H : ((spec_GroupsOf.f k t281 t282).bind fun t288 => ((laws_sameInts.f k t285 t288).bind fun t291 => (if t291 = true then (laws_FnGroupsOf.l0 k t281 t282 t285 0) else (some false)))) = some r := H
  have A4 := Aside0.mk A40
  clear A40
  replace H := Option.bind_eq_some_iff.mp H
  obtain ⟨t288, A50, H⟩ := H
  replace H : ((laws_sameInts.f k t285 t288).bind fun t291 => (if t291 = true then (laws_FnGroupsOf.l0 k t281 t282 t285 0) else (some false))) = some r := H
  have A5 := Aside0.mk A50
  clear A50
  replace H := Option.bind_eq_some_iff.mp H
  obtain ⟨t291, A60, H⟩ := H
  replace H : (if t291 = true then (laws_FnGroupsOf.l0 k t281 t282 t285 0) else (some false)) = some r := H
  have A6 := Aside0.mk A60
  clear A60
  have HC7 := Aside0.mk H
  clear H
  go_enter Try.func4, Try.ntmps4
  go_upto_if 23 with (first | ((with_reducible refine gate_callee (f := 12) rfl ?_); refine gl (some 12) Try.func12 #[.slice A0 l0.length c0] ?_; (with_reducible refine (spec_DrawGroupsOf.calls k _ _ l0 t281 t282 _ ?side1 ?side2 A3.out).mono ?_); (case side1 => repeat (first | exact HR0.out | (with_reducible refine Kd.C_alloc ?_ _) | (with_reducible refine Kd.C_drewN ?_ _) | (with_reducible refine Kd.C_drew ?_))); (case side2 => exact HC0.out); rintro e w8 ⟨v283, rfl, ho0, hb⟩; refine ⟨_, rfl, ?_⟩; have HO284 := Aside0.mk (Kd.S_lower ho0 (below_size (by exact bw HB.out))); replace HB := bS HB hb; (try clear hb); (try clear hb2); (try clear hk); (try clear hi); (try clear ho0); obtain ⟨Ao9, co9, eo9⟩ := Kd.S_slice HO284.out; subst eo9) | ((with_reducible refine gate_callee (f := 13) rfl ?_); refine gl (some 17) Try.func13 #[.slice Ao9 t281.length co9, .int .i64 t282] ?_; (with_reducible refine (impl_GroupsOf.calls k _ _ t281 t282 t285 _ ?side1 ?side2 A4.out).mono ?_); (case side1 => repeat (first | exact (Kd.S_reads' HO284.out).2.2 | (with_reducible refine Kd.C_alloc ?_ _) | (with_reducible refine Kd.C_drewN ?_ _) | (with_reducible refine Kd.C_drew ?_))); (case side2 => exact (Kd.S_reads' HO284.out).2.1); rintro e w10 ⟨v286, rfl, ho0, hb⟩; refine ⟨_, rfl, ?_⟩; replace HO284 := Aside0.mk (Kd.S_elder' (by exact Kd.xS HO284.out) (Kd.R_base ho0) hb); have HO287 := Aside0.mk (Kd.R_lower ho0 (below_size (by exact bw HB.out))); replace HB := bS HB hb; (try clear hb); (try clear hb2); (try clear hk); (try clear hi); (try clear ho0)) | ((with_reducible refine gate_callee (f := 15) rfl ?_); refine gl (some 21) Try.func15 #[.slice Ao9 t281.length co9, .int .i64 t282] ?_; (with_reducible refine (spec_GroupsOf.calls k _ _ t281 t282 t288 _ ?side1 ?side2 A5.out).mono ?_); (case side1 => repeat (first | exact (Kd.S_reads' HO284.out).2.2 | (with_reducible refine Kd.C_alloc ?_ _) | (with_reducible refine Kd.C_drewN ?_ _) | (with_reducible refine Kd.C_drew ?_))); (case side2 => exact (Kd.S_reads' HO284.out).2.1); rintro e w11 ⟨v289, rfl, ho0, hb⟩; refine ⟨_, rfl, ?_⟩; replace HO284 := Aside0.mk (Kd.S_elder' (by exact Kd.xS HO284.out) (Kd.R_base ho0) hb); have HO290 := Aside0.mk (Kd.R_lower (Kd.R_new' ho0 (Kd.R_lt (by exact Kd.xR HO287.out))) (below_size (by exact bw HB.out))); replace HO287 := Aside0.mk (Kd.R_elder' (by exact Kd.xR HO287.out) (Kd.R_base ho0) hb); replace HB := bS HB hb; (try clear hb); (try clear hb2); (try clear hk); (try clear hi); (try clear ho0); obtain ⟨Ao12, co12, eo12⟩ := Kd.R_slice HO287.out; subst eo12; obtain ⟨Ao13, co13, eo13⟩ := Kd.R_slice HO290.out; subst eo13) | ((with_reducible refine gate_callee (f := 14) rfl ?_); refine gl (some 22) Try.func14 #[.slice Ao12 t285.length co12, .slice Ao13 t288.length co13] ?_; (with_reducible refine (laws_sameInts.calls k _ _ t285 _ _ t288 t291 _ ?side1 ?side2 ?side3 ?side4 A6.out).mono ?_); (case side1 => repeat (first | exact (Kd.R_reads' HO287.out).2.2 | (with_reducible refine Kd.C_alloc ?_ _) | (with_reducible refine Kd.C_drewN ?_ _) | (with_reducible refine Kd.C_drew ?_))); (case side2 => exact (Kd.R_reads' HO287.out).2.1); (case side3 => repeat (first | exact (Kd.R_reads' HO290.out).2.2 | (with_reducible refine Kd.C_alloc ?_ _) | (with_reducible refine Kd.C_drewN ?_ _) | (with_reducible refine Kd.C_drew ?_))); (case side4 => exact (Kd.R_reads' HO290.out).2.1); rintro e w' ⟨rfl, ⟨nd, rfl⟩⟩; refine ⟨_, rfl, ?_⟩; (try (rw [drewN_self w11]; generalize hq_ : World.drewN w11 _ = w11; have n0_ : Aside0 (Kd.S k74 74 w11 w.heap.size (fun k_ => some k_ ≠ (.slice Ao12 t285.length co12 : Value).ownBlock ∧ some k_ ≠ (.slice Ao13 t288.length co13 : Value).ownBlock) (.slice Ao9 t281.length co9) t281) := ⟨by rw [← hq_]; exact (by (with_reducible repeat (first | apply Kd.S_alloc | apply Kd.S_drewN | apply Kd.S_drew)); exact Kd.S_mono HO284.out (fun _ hk => okp hk))⟩; have n1_ : Aside0 (Kd.R (Kd.int .i64) 3 w11 w.heap.size (fun k_ => some k_ ≠ (.slice Ao13 t288.length co13 : Value).ownBlock) (.slice Ao12 t285.length co12) t285) := ⟨by rw [← hq_]; exact (by (with_reducible repeat (first | apply Kd.R_alloc | apply Kd.R_drewN | apply Kd.R_drew)); exact Kd.R_mono HO287.out (fun _ hk => hk.2))⟩; have n2_ : Aside0 (Kd.R (Kd.int .i64) 3 w11 w.heap.size (fun k_ => some k_ ≠ (.slice Ao12 t285.length co12 : Value).ownBlock) (.slice Ao13 t288.length co13) t288) := ⟨by rw [← hq_]; exact (by (with_reducible repeat (first | apply Kd.R_alloc | apply Kd.R_drewN | apply Kd.R_drew)); exact Kd.R_mono HO290.out (fun _ hk => hk.2))⟩; have n3_ : Aside0 (Below w.heap.size w w11) := ⟨by rw [← hq_]; exact (by exact bw HB.out)⟩; clear HO284 HO287 HO290 HB hq_; have HO284 := n0_; have HO287 := n1_; have HO290 := n2_; have HB := n3_; clear n0_ n1_ n2_ n3_))))
  (try simp only [Act.put, List.setIfInBounds_toArray, List.set_cons_zero, List.set_cons_succ])
  have H := HC7.out
  clear HC7
  by_cases c14 : t291 = true
  ·
   subst c14
   have H1 : (laws_FnGroupsOf.l0 k t281 t282 t285 0) = some r := by rw [if_pos rfl] at H; exact H
   clear H
   have H := H1
   clear H1
   have H' := Aside0.mk H
   clear H
   go_wp2
   go_loopg [6] k (fun kq v6 w' => ∃ (x6_1 : Int), v6 = .int .i64 x6_1 ∧ Aside0 (laws_FnGroupsOf.l0 kq t281 t282 t285 x6_1 = some r) ∧ Aside0 (kq ≤ k) ∧ Aside0 (Kd.S k74 74 w' w.heap.size (fun k_ => some k_ ≠ ((.slice Ao12 t285.length co12) : Value).ownBlock) (.slice Ao9 t281.length co9) t281) ∧ Aside0 (Kd.R (Kd.int .i64) 3 w' w.heap.size (fun _ => True) (.slice Ao12 t285.length co12) t285) ∧ Aside0 (Below w.heap.size w w'))
   case atStart => exact ⟨(0), (by first | rfl | (simp; done) | (simp [*]; done)), H', ⟨Nat.le_refl _⟩, ⟨by (with_reducible repeat (first | apply Kd.S_alloc | apply Kd.S_drewN | apply Kd.S_drew)); exact Kd.S_mono HO284.out (fun _ hk => hk.1)⟩, ⟨by (with_reducible repeat (first | apply Kd.R_alloc | apply Kd.R_drewN | apply Kd.R_drew)); exact Kd.R_mono HO287.out (fun _ hk => trivial)⟩, ⟨by exact bw HB.out⟩⟩
   case round =>
    clear H'
    try clear c1
    try clear c2
    try clear c2b0
    try clear c2b1
    try clear p2
    try clear c4
    try clear c12
    try clear c13
    try clear c14
    obtain ⟨x6_1, rfl, HA, HK1, HO_3, HO_5, HB⟩ := hrel
    cases gk with
    | zero => exact absurd HA.out (by simp [laws_FnGroupsOf.l0])
    | succ k1 =>
     have H := HA.out
     clear HA
     simp only [laws_FnGroupsOf.l0] at H
     by_cases c15 : x6_1 < (t285.length : Int)
     ·
      rw [if_pos c15] at H; have c15b0 : decide (x6_1 < (t285.length : Int)) = true := decide_eq_true c15; clear c15
      (first | rw [c15b0] | (simp only [i64_w, i32_w]; rw [c15b0]) | rw [c15b2] | rw [c15b1] | skip)
      by_cases c16 : 0 ≤ x6_1
      ·
       rw [if_pos c16] at H; have c16b0 : decide (0 ≤ x6_1) = true := decide_eq_true c16; clear c16
       replace H := Option.bind_eq_some_iff.mp H
       obtain ⟨t293, A170, H⟩ := H
       replace H : (if t293 = true then (if x6_1 > 0 then (if 0 ≤ (wrap64 (x6_1 - 1)) then (if (wrap64 (x6_1 - 1)) < (t285.length : Int) then (if (rd t285 x6_1) ≤ (rd t285 (wrap64 (x6_1 - 1))) then (some false) else (laws_FnGroupsOf.l0 k1 t281 t282 t285 (wrap64 (x6_1 + 1)))) else (none)) else (none)) else (laws_FnGroupsOf.l0 k1 t281 t282 t285 (wrap64 (x6_1 + 1)))) else (some false)) = some r := H
       have A17 := Aside0.mk A170
       clear A170
       by_cases c18 : t293 = true
       ·
        subst c18
        have H1 : (if x6_1 > 0 then (if 0 ≤ (wrap64 (x6_1 - 1)) then (if (wrap64 (x6_1 - 1)) < (t285.length : Int) then (if (rd t285 x6_1) ≤ (rd t285 (wrap64 (x6_1 - 1))) then (some false) else (laws_FnGroupsOf.l0 k1 t281 t282 t285 (wrap64 (x6_1 + 1)))) else (none)) else (none)) else (laws_FnGroupsOf.l0 k1 t281 t282 t285 (wrap64 (x6_1 + 1)))) = some r := by rw [if_pos rfl] at H; exact H
        clear H
        have H := H1
        clear H1
        by_cases c19 : x6_1 > 0
        ·
         rw [if_pos c19] at H; have c19b0 : decide (0 < x6_1) = true := decide_eq_true c19; clear c19
         obtain ⟨ji20, hji20⟩ : ∃ j_ : Int, (wrap64 (x6_1 - 1)) = j_ := ⟨_, rfl⟩
         replace H : (if 0 ≤ (ji20) then (if (ji20) < (t285.length : Int) then (if (rd t285 x6_1) ≤ (rd t285 (ji20)) then (some false) else (laws_FnGroupsOf.l0 k1 t281 t282 t285 (wrap64 (x6_1 + 1)))) else (none)) else (none)) = some r := by first | (rw [hji20] at H; exact H) | (simp only [hji20] at H ⊢; exact H)
         (try rw [hji20] at A17)
         have hji20w : (IntKind.i64.wrap (x6_1 - 1)) = ji20 := (i64_w _).trans hji20
         by_cases c21 : 0 ≤ (ji20)
         ·
          rw [if_pos c21] at H; have c21b0 : decide (0 ≤ (ji20)) = true := decide_eq_true c21; clear c21
          by_cases c22 : (ji20) < (t285.length : Int)
          ·
           rw [if_pos c22] at H; have c22b0 : decide ((ji20) < (t285.length : Int)) = true := decide_eq_true c22; clear c22
           have HC23 := Aside0.mk H
           clear H
           try go_wp2
           replace HO_3 := Aside0.mk (Kd.S_drew HO_3.out)
           replace HO_5 := Aside0.mk (Kd.R_drew HO_5.out)
           replace HB := Aside0.mk (below_drew1 HB.out)
           have p292 : 0 ≤ (x6_1 : Int) := of_decide_eq_true (by first | (with_reducible assumption) | assumption)
           have q292 : x6_1 < (t285.length : Int) := of_decide_eq_true (by first | (with_reducible assumption) | assumption)
           obtain ⟨ad292, e292, hx292_0⟩ := Kd.at_int (Kd.R_reads' HO_5.out).2.2 x6_1 p292 q292
           cases e292
           replace p292 := eq_true p292
           replace q292 := eq_true q292
           have p294 : 0 ≤ (x6_1 : Int) := of_decide_eq_true (by first | (with_reducible assumption) | assumption)
           have q294 : x6_1 < (t285.length : Int) := of_decide_eq_true (by first | (with_reducible assumption) | assumption)
           obtain ⟨ad294, e294, hx294_0⟩ := Kd.at_int (Kd.R_reads' HO_5.out).2.2 x6_1 p294 q294
           obtain rfl : ad292 = ad294 := (by injection e294)
           replace p294 := eq_true p294
           replace q294 := eq_true q294
           have p295 : 0 ≤ ((ji20) : Int) := of_decide_eq_true (by first | (with_reducible assumption) | assumption)
           have q295 : (ji20) < (t285.length : Int) := of_decide_eq_true (by first | (with_reducible assumption) | assumption)
           obtain ⟨ad295, e295, hx295_0⟩ := Kd.at_int (Kd.R_reads' HO_5.out).2.2 (ji20) p295 q295
           obtain rfl : ad292 = ad295 := (by injection e295)
           replace p295 := eq_true p295
           replace q295 := eq_true q295
           refine start_ (n := 24) (S := fun w' => w'.cell? (ad292.add (x6_1).toNat) = some (.int .i64 (rd t285 x6_1)) ∧ w'.cell? (ad292.add (x6_1).toNat) = some (.int .i64 (rd t285 x6_1)) ∧ w'.cell? (ad292.add ((ji20)).toNat) = some (.int .i64 (rd t285 (ji20)))) (ds := []) (mB 24 0) (by kernel_rfl) rfl rfl ⟨hx292_0, hx294_0, hx295_0⟩ (fun hHeld => ?_); refine with_tabW laws_FnGroupsOf.tab10 laws_FnGroupsOf.bits10 (fun HT_ HW_ => ?_)
           generalize wr.drew = w24 at HO_3 HO_5 HB hx292_0 hx294_0 hx295_0 hHeld ⊢
           refine pn 0 30 HT_.out ?_
           refine pn 1 31 HT_.out ?_
           refine pn 2 32 HT_.out ?_
           refine pn 3 33 HT_.out ?_
           refine pn 4 34 HT_.out ?_
           refine tk 5 35 HT_.out HW_.out hHeld ?_
           refine on 6 36 HT_.out (fun K hK => ?_)
           refine gs Try.func9 #[.slice Ao9 t281.length co9, .int .i64 t282, .int .i64 (rd t285 x6_1)] ?_
           with_reducible refine (impl_IsIn.calls k1 _ _ t281 t282 (rd t285 x6_1) true _ ?side1 ?side2 A17.out).mono ?_
           (case side1 => repeat (first | exact (Kd.S_reads' HO_3.out).2.2 | (with_reducible refine Kd.C_alloc ?_ _) | (with_reducible refine Kd.C_drewN ?_ _) | (with_reducible refine Kd.C_drew ?_)))
           (case side2 => exact (Kd.S_reads' HO_3.out).2.1)
           rintro e w25 ⟨rfl, hb⟩
           have HS0_ := (hb.cell (World.block_lt_of_cell? _ _ (hHeld.1))).trans (hHeld.1)
           have HS1_ := (hb.cell (World.block_lt_of_cell? _ _ (hHeld.2.1))).trans (hHeld.2.1)
           have HS2_ := (hb.cell (World.block_lt_of_cell? _ _ (hHeld.2.2))).trans (hHeld.2.2)
           refine ⟨_, rfl, ?_⟩
           replace HO_3 := Aside0.mk (Kd.S_below (by exact Kd.xS HO_3.out) hb)
           replace HO_5 := Aside0.mk (Kd.R_below (by exact Kd.xR HO_5.out) hb)
           replace HB := bS HB hb
           (try clear hb)
           (try clear hb2)
           (try clear hk)
           (try clear hi)
           refine hK.out _ _ ⟨HS0_, HS1_, HS2_⟩ (fun hHeld => ?_)
           clear hK K
           refine nm (some 36) ?_
           refine pn 7 37 HT_.out ?_
           refine pn 8 38 HT_.out ?_
           refine pn 9 39 HT_.out ?_
           refine pn 10 40 HT_.out ?_
           refine pn 11 41 HT_.out ?_
           refine pn 12 42 HT_.out ?_
           refine pn 13 43 HT_.out ?_
           refine pn 14 44 HT_.out ?_
           refine pn 16 46 HT_.out ?_
           refine pn 17 47 HT_.out ?_
           refine pn 18 48 HT_.out ?_
           refine pn 19 49 HT_.out ?_
           refine tk 15 45 HT_.out HW_.out hHeld ?_
           refine tk 20 50 HT_.out HW_.out hHeld ?_
           refine pn 21 51 HT_.out ?_
           refine pn 22 52 HT_.out ?_
           refine pn 23 53 HT_.out ?_
           refine done_ (done_of HT_.out (by kernel_rfl)) ?_
           go_upto_if 53 with (fail)
           have H := HC23.out
           clear HC23
           by_cases c26 : (rd t285 x6_1) ≤ (rd t285 (ji20))
           ·
            rw [if_pos c26] at H; have c26b0 : decide ((rd t285 x6_1) ≤ (rd t285 (ji20))) = true := decide_eq_true c26; clear c26
            (first | rw [c26b0] | (simp only [i64_w, i32_w]; rw [c26b0]) | rw [c26b2] | rw [c26b1] | skip)
            obtain rfl := Option.some.inj H
            go_wp2
            go_ret
            exact ⟨by first | rfl | (simp [errW_none, errW_some] <;> rfl) | (simp only [← hji20]; first | rfl | (simp [errW_none, errW_some] <;> rfl)) | (simp [*, errW_none, errW_some] <;> rfl), by exact bw HB.out⟩
           ·
            rw [if_neg c26] at H; have c26b0 : decide ((rd t285 x6_1) ≤ (rd t285 (ji20))) = false := decide_eq_false c26; clear c26
            (first | rw [c26b0] | (simp only [i64_w, i32_w]; rw [c26b0]) | rw [c26b2] | rw [c26b1] | skip)
            have H' := Aside0.mk H
            clear H
            go_wp2
            go_roundg k1
            case measure => have := HK1.out; omega
            case rel => exact ⟨(wrap64 (x6_1 + 1)), (by first | rfl | (simp; done) | (simp [*]; done)), H', ⟨by have := HK1.out; omega⟩, ⟨by exact Kd.xS HO_3.out⟩, ⟨by exact Kd.xR HO_5.out⟩, ⟨by exact bw HB.out⟩⟩
          ·
           rw [if_neg c22] at H; exact absurd H (by simp)
         ·
          rw [if_neg c21] at H; exact absurd H (by simp)
        ·
         rw [if_neg c19] at H; have c19b0 : decide (0 < x6_1) = false := decide_eq_false c19; clear c19
         have H' := Aside0.mk H
         clear H
         try go_wp2
         replace HO_3 := Aside0.mk (Kd.S_drew HO_3.out)
         replace HO_5 := Aside0.mk (Kd.R_drew HO_5.out)
         replace HB := Aside0.mk (below_drew1 HB.out)
         have p292 : 0 ≤ (x6_1 : Int) := of_decide_eq_true (by first | (with_reducible assumption) | assumption)
         have q292 : x6_1 < (t285.length : Int) := of_decide_eq_true (by first | (with_reducible assumption) | assumption)
         obtain ⟨ad292, e292, hx292_0⟩ := Kd.at_int (Kd.R_reads' HO_5.out).2.2 x6_1 p292 q292
         cases e292
         replace p292 := eq_true p292
         replace q292 := eq_true q292
         refine start_ (n := 24) (S := fun w' => w'.cell? (ad292.add (x6_1).toNat) = some (.int .i64 (rd t285 x6_1))) (ds := []) (mB 24 0) (by kernel_rfl) rfl rfl (hx292_0) (fun hHeld => ?_); refine with_tabW laws_FnGroupsOf.tab10 laws_FnGroupsOf.bits10 (fun HT_ HW_ => ?_)
         generalize wr.drew = w27 at HO_3 HO_5 HB hx292_0 hHeld ⊢
         refine pn 0 30 HT_.out ?_
         refine pn 1 31 HT_.out ?_
         refine pn 2 32 HT_.out ?_
         refine pn 3 33 HT_.out ?_
         refine pn 4 34 HT_.out ?_
         refine take_ (i := 5) (N := some 35) (v := ?_) (a' := ?_) (mB 24 63) rfl rfl (take_ofW HT_.out HW_.out (by kernel_rfl)) (fun _ _ _ h => h) (Or.inl ⟨by rfl, ?_⟩) hHeld ?_ ?_
         rotate_left
         ·
          intro w' s0
          go_simp
          with_reducible rfl
         rotate_left
         ·
          simp only [Act.put, List.setIfInBounds_toArray, List.set_cons_zero, List.set_cons_succ, i64_w, i32_w]
          rfl
         refine on 6 36 HT_.out (fun K hK => ?_)
         refine gs Try.func9 #[.slice Ao9 t281.length co9, .int .i64 t282, .int .i64 (rd t285 x6_1)] ?_
         with_reducible refine (impl_IsIn.calls k1 _ _ t281 t282 (rd t285 x6_1) true _ ?side1 ?side2 A17.out).mono ?_
         (case side1 => repeat (first | exact (Kd.S_reads' HO_3.out).2.2 | (with_reducible refine Kd.C_alloc ?_ _) | (with_reducible refine Kd.C_drewN ?_ _) | (with_reducible refine Kd.C_drew ?_)))
         (case side2 => exact (Kd.S_reads' HO_3.out).2.1)
         rintro e w28 ⟨rfl, hb⟩
         have HS0_ := (hb.cell (World.block_lt_of_cell? _ _ (hHeld))).trans (hHeld)
         refine ⟨_, rfl, ?_⟩
         replace HO_3 := Aside0.mk (Kd.S_below (by exact Kd.xS HO_3.out) hb)
         replace HO_5 := Aside0.mk (Kd.R_below (by exact Kd.xR HO_5.out) hb)
         replace HB := bS HB hb
         (try clear hb)
         (try clear hb2)
         (try clear hk)
         (try clear hi)
         refine hK.out _ _ (HS0_) (fun hHeld => ?_)
         clear hK K
         refine nm (some 36) ?_
         refine pn 7 37 HT_.out ?_
         refine pn 8 38 HT_.out ?_
         refine pn 9 39 HT_.out ?_
         refine pn 10 40 HT_.out ?_
         refine pn 11 41 HT_.out ?_
         refine pf 12 42 HT_.out ?_
         refine pf 13 43 HT_.out ?_
         refine pf 14 44 HT_.out ?_
         refine pf 15 45 HT_.out ?_
         refine pf 16 46 HT_.out ?_
         refine pf 17 47 HT_.out ?_
         refine pf 18 48 HT_.out ?_
         refine pf 19 49 HT_.out ?_
         refine pf 20 50 HT_.out ?_
         refine pf 21 51 HT_.out ?_
         refine pn 22 52 HT_.out ?_
         refine pn 23 53 HT_.out ?_
         refine done_ (done_of HT_.out (by kernel_rfl)) ?_
         try go_wp2
         go_roundg k1
         case measure => have := HK1.out; omega
         case rel => exact ⟨(wrap64 (x6_1 + 1)), (by first | rfl | (simp; done) | (simp [*]; done)), H', ⟨by have := HK1.out; omega⟩, ⟨by exact Kd.xS HO_3.out⟩, ⟨by exact Kd.xR HO_5.out⟩, ⟨by exact bw HB.out⟩⟩
       ·
        replace c18 := Bool.eq_false_iff.mpr c18
        subst c18
        have H1 : (some false) = some r := by rw [if_neg (show ¬ (false = true) by decide)] at H; exact H
        clear H
        have H := H1
        clear H1
        obtain rfl := Option.some.inj H
        try go_wp2
        replace HO_3 := Aside0.mk (Kd.S_drew HO_3.out)
        replace HO_5 := Aside0.mk (Kd.R_drew HO_5.out)
        replace HB := Aside0.mk (below_drew1 HB.out)
        have p292 : 0 ≤ (x6_1 : Int) := of_decide_eq_true (by first | (with_reducible assumption) | assumption)
        have q292 : x6_1 < (t285.length : Int) := of_decide_eq_true (by first | (with_reducible assumption) | assumption)
        obtain ⟨ad292, e292, hx292_0⟩ := Kd.at_int (Kd.R_reads' HO_5.out).2.2 x6_1 p292 q292
        cases e292
        replace p292 := eq_true p292
        replace q292 := eq_true q292
        refine start_ (n := 24) (S := fun w' => w'.cell? (ad292.add (x6_1).toNat) = some (.int .i64 (rd t285 x6_1))) (ds := []) (mB 24 0) (by kernel_rfl) rfl rfl (hx292_0) (fun hHeld => ?_); refine with_tabW laws_FnGroupsOf.tab10 laws_FnGroupsOf.bits10 (fun HT_ HW_ => ?_)
        generalize wr.drew = w29 at HO_3 HO_5 HB hx292_0 hHeld ⊢
        refine pn 0 30 HT_.out ?_
        refine pn 1 31 HT_.out ?_
        refine pn 2 32 HT_.out ?_
        refine pn 3 33 HT_.out ?_
        refine pn 4 34 HT_.out ?_
        refine take_ (i := 5) (N := some 35) (v := ?_) (a' := ?_) (mB 24 63) rfl rfl (take_ofW HT_.out HW_.out (by kernel_rfl)) (fun _ _ _ h => h) (Or.inl ⟨by rfl, ?_⟩) hHeld ?_ ?_
        rotate_left
        ·
         intro w' s0
         go_simp
         with_reducible rfl
        rotate_left
        ·
         simp only [Act.put, List.setIfInBounds_toArray, List.set_cons_zero, List.set_cons_succ, i64_w, i32_w]
         rfl
        refine on 6 36 HT_.out (fun K hK => ?_)
        refine gs Try.func9 #[.slice Ao9 t281.length co9, .int .i64 t282, .int .i64 (rd t285 x6_1)] ?_
        with_reducible refine (impl_IsIn.calls k1 _ _ t281 t282 (rd t285 x6_1) false _ ?side1 ?side2 A17.out).mono ?_
        (case side1 => repeat (first | exact (Kd.S_reads' HO_3.out).2.2 | (with_reducible refine Kd.C_alloc ?_ _) | (with_reducible refine Kd.C_drewN ?_ _) | (with_reducible refine Kd.C_drew ?_)))
        (case side2 => exact (Kd.S_reads' HO_3.out).2.1)
        rintro e w30 ⟨rfl, hb⟩
        have HS0_ := (hb.cell (World.block_lt_of_cell? _ _ (hHeld))).trans (hHeld)
        refine ⟨_, rfl, ?_⟩
        replace HO_3 := Aside0.mk (Kd.S_below (by exact Kd.xS HO_3.out) hb)
        replace HO_5 := Aside0.mk (Kd.R_below (by exact Kd.xR HO_5.out) hb)
        replace HB := bS HB hb
        (try clear hb)
        (try clear hb2)
        (try clear hk)
        (try clear hi)
        refine hK.out _ _ (HS0_) (fun hHeld => ?_)
        clear hK K
        refine nm (some 36) ?_
        refine pn 7 37 HT_.out ?_
        refine pn 8 38 HT_.out ?_
        refine pf 9 39 HT_.out ?_
        refine pf 10 40 HT_.out ?_
        refine pf 11 41 HT_.out ?_
        refine pf 12 42 HT_.out ?_
        refine pf 13 43 HT_.out ?_
        refine pf 14 44 HT_.out ?_
        refine pf 15 45 HT_.out ?_
        refine pf 16 46 HT_.out ?_
        refine pf 17 47 HT_.out ?_
        refine pf 18 48 HT_.out ?_
        refine pf 19 49 HT_.out ?_
        refine pf 20 50 HT_.out ?_
        refine pf 21 51 HT_.out ?_
        refine pf 22 52 HT_.out ?_
        refine pn 23 53 HT_.out ?_
        refine done_ (done_of HT_.out (by kernel_rfl)) ?_
        try go_wp2
        go_ret
        exact ⟨by first | rfl | (simp [errW_none, errW_some] <;> rfl) | (simp [*, errW_none, errW_some] <;> rfl), by exact bw HB.out⟩
      ·
       rw [if_neg c16] at H; exact absurd H (by simp)
     ·
      rw [if_neg c15] at H; have c15b0 : decide (x6_1 < (t285.length : Int)) = false := decide_eq_false c15; clear c15
      (first | rw [c15b0] | (simp only [i64_w, i32_w]; rw [c15b0]) | rw [c15b2] | rw [c15b1] | skip)
      by_cases c31 : (t285.length : Int) = 0
      ·
       rw [if_pos c31] at H; obtain ⟨c31b0, c31b1⟩ := eqY c31; clear c31
       replace H := Option.bind_eq_some_iff.mp H
       obtain ⟨t296, A320, H⟩ := H
       replace H : (some t296) = some r := H
       have A32 := Aside0.mk A320
       clear A320
       obtain rfl := Option.some.inj H
       go_wp2_with (first | (go_at_call 11; (with_reducible refine (laws_alive.calls k1  t296 _ A32.out).mono ?_); rintro e w' ⟨rfl, ⟨nd, rfl⟩⟩; (try (rw [drewN_self wr]; generalize hq_ : World.drewN wr _ = wr; have n0_ : Aside0 (Kd.S k74 74 wr w.heap.size (fun k_ => some k_ ≠ (.slice Ao12 t285.length co12 : Value).ownBlock) (.slice Ao9 t281.length co9) t281) := ⟨by rw [← hq_]; exact (by exact Kd.xS HO_3.out)⟩; have n1_ : Aside0 (Kd.R (Kd.int .i64) 3 wr w.heap.size (fun _ => True) (.slice Ao12 t285.length co12) t285) := ⟨by rw [← hq_]; exact (by exact Kd.xR HO_5.out)⟩; have n2_ : Aside0 (Below w.heap.size w wr) := ⟨by rw [← hq_]; exact (by exact bw HB.out)⟩; clear HO_3 HO_5 HB hq_; have HO_3 := n0_; have HO_5 := n1_; have HB := n2_; clear n0_ n1_ n2_))))
       go_ret
       exact ⟨by first | rfl | (simp [errW_none, errW_some] <;> rfl) | (simp [*, errW_none, errW_some] <;> rfl), by exact bw HB.out⟩
      ·
       rw [if_neg c31] at H; obtain ⟨c31b0, c31b1⟩ := eqN c31
       have c31b2 : ¬ (t285 = []) := fun h_ => c31 (by rw [h_]; rfl)
       obtain ⟨ji33, hji33⟩ : ∃ j_ : Int, (wrap64 ((t285.length : Int) - 1)) = j_ := ⟨_, rfl⟩
       replace H : (if 0 ≤ (ji33) then (if (ji33) < (t285.length : Int) then (if (rd t285 (ji33)) = t282 then ((laws_alive.f k1).bind fun t298 => (some t298)) else (some false)) else (none)) else (none)) = some r := by first | (rw [hji33] at H; exact H) | (simp only [hji33] at H ⊢; exact H)
       have hji33w : (IntKind.i64.wrap ((t285.length : Int) - 1)) = ji33 := (i64_w _).trans hji33
       by_cases c34 : 0 ≤ (ji33)
       ·
        rw [if_pos c34] at H; have c34b0 : decide (0 ≤ (ji33)) = true := decide_eq_true c34; clear c34
        by_cases c35 : (ji33) < (t285.length : Int)
        ·
         rw [if_pos c35] at H; have c35b0 : decide ((ji33) < (t285.length : Int)) = true := decide_eq_true c35; clear c35
         by_cases c36 : (rd t285 (ji33)) = t282
         ·
          rw [if_pos c36] at H; obtain ⟨c36b0, c36b1⟩ := eqY c36; clear c36
          replace H := Option.bind_eq_some_iff.mp H
          obtain ⟨t298, A370, H⟩ := H
          replace H : (some t298) = some r := H
          have A37 := Aside0.mk A370
          clear A370
          obtain rfl := Option.some.inj H
          have p297 : 0 ≤ ((ji33) : Int) := of_decide_eq_true (by first | (with_reducible assumption) | assumption)
          have q297 : (ji33) < (t285.length : Int) := of_decide_eq_true (by first | (with_reducible assumption) | assumption)
          obtain ⟨ad297, e297, hx297_0⟩ := Kd.at_int (Kd.R_reads' HO_5.out).2.2 (ji33) p297 q297
          cases e297
          replace p297 := eq_true p297
          replace q297 := eq_true q297
          go_wp2_with (first | (go_at_call 11; (with_reducible refine (laws_alive.calls k1  t298 _ A37.out).mono ?_); rintro e w' ⟨rfl, ⟨nd, rfl⟩⟩; (try (rw [drewN_self wr]; generalize hq_ : World.drewN wr _ = wr; have n0_ : Aside0 (Kd.S k74 74 wr w.heap.size (fun k_ => some k_ ≠ (.slice (some ad297) t285.length co12 : Value).ownBlock) (.slice Ao9 t281.length co9) t281) := ⟨by rw [← hq_]; exact (by exact Kd.xS HO_3.out)⟩; have n1_ : Aside0 (Kd.R (Kd.int .i64) 3 wr w.heap.size (fun _ => True) (.slice (some ad297) t285.length co12) t285) := ⟨by rw [← hq_]; exact (by exact Kd.xR HO_5.out)⟩; have n2_ : Aside0 (Below w.heap.size w wr) := ⟨by rw [← hq_]; exact (by exact bw HB.out)⟩; clear HO_3 HO_5 HB hq_; have HO_3 := n0_; have HO_5 := n1_; have HB := n2_; clear n0_ n1_ n2_))))
          go_ret
          exact ⟨by first | rfl | (simp [errW_none, errW_some] <;> rfl) | (simp only [← hji33]; first | rfl | (simp [errW_none, errW_some] <;> rfl)) | (simp [*, errW_none, errW_some] <;> rfl), by exact bw HB.out⟩
         ·
          rw [if_neg c36] at H; obtain ⟨c36b0, c36b1⟩ := eqN c36
          obtain rfl := Option.some.inj H
          have p297 : 0 ≤ ((ji33) : Int) := of_decide_eq_true (by first | (with_reducible assumption) | assumption)
          have q297 : (ji33) < (t285.length : Int) := of_decide_eq_true (by first | (with_reducible assumption) | assumption)
          obtain ⟨ad297, e297, hx297_0⟩ := Kd.at_int (Kd.R_reads' HO_5.out).2.2 (ji33) p297 q297
          cases e297
          replace p297 := eq_true p297
          replace q297 := eq_true q297
          go_wp2
          go_ret
          exact ⟨by first | rfl | (simp [errW_none, errW_some] <;> rfl) | (simp only [← hji33]; first | rfl | (simp [errW_none, errW_some] <;> rfl)) | (simp [*, errW_none, errW_some] <;> rfl), by exact bw HB.out⟩
        ·
         rw [if_neg c35] at H; exact absurd H (by simp)
       ·
        rw [if_neg c34] at H; exact absurd H (by simp)
  ·
   replace c14 := Bool.eq_false_iff.mpr c14
   subst c14
   have H1 : (some false) = some r := by rw [if_neg (show ¬ (false = true) by decide)] at H; exact H
   clear H
   have H := H1
   clear H1
   obtain rfl := Option.some.inj H
   go_wp2
   go_ret
   exact ⟨by first | rfl | (simp [errW_none, errW_some] <;> rfl) | (simp [*, errW_none, errW_some] <;> rfl), by exact bw HB.out⟩

/-- THE ONE PURE STATEMENT of laws_FnGroupsOf: yours. -/
def laws_FnGroupsOf.Pure : Prop := ∀ (l0 : List Int), l0.length ≤ maxLen → l0.length * 1 ≤ 140737488351232 → (∀ x ∈ l0, (Lit.int .u8 x).wf = true) → ∃ k, laws_FnGroupsOf.f k l0 = some true
theorem laws_FnGroupsOf.walk (P : laws_FnGroupsOf.Pure) (a0 : Option Addr) (len0 cap0 : Nat) (z0 : List Int) (w : World) (w0 : (a0 = none ∧ len0 = 0 ∧ cap0 = 0 ∧ z0 = []) ∨ ∃ x, a0 = some x ∧ len0 ≤ cap0 ∧ cap0 ≤ maxLen ∧ z0.length = cap0 ∧ (∀ i, i < z0.length → w.cell? (x.add i) = some (.int .u8 (z0.getD i 0))) ∧ ∀ n ∈ z0, (Lit.int .u8 n).wf = true) (y0 : len0 * 1 ≤ 140737488351232) :
  Calls Try.prog 4 #[.slice a0 len0 cap0] w fun e w' => e = .returned (.bool true) ∧ Below w.heap.size w w' := by
 obtain ⟨l0, rfl, hr0, hm0, hw0, hc0⟩ := ReadsInt.ofRowC w0
 obtain ⟨k, h⟩ := P l0 hm0 y0 hw0
 refine (laws_FnGroupsOf.calls k _ _ l0 true w (Kd.C_of_reads (d := (0 : Int)) (h1 := fun _ => rfl) hr0) hc0 h).mono ?_
 rintro e w' ⟨rfl, hd⟩
 exact ⟨rfl, hd⟩

end Go.Proofs.Ytoipfhdlgoaldaa.P
