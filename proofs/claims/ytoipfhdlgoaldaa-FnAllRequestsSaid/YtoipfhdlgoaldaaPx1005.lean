-- Written by a program of this session (wip/tool).
import Derived.Test.YtoipfhdlgoaldaaPx0
import Derived.Test.YtoipfhdlgoaldaaPx1016
import Derived.Test.YtoipfhdlgoaldaaPx1018
import Derived.Test.YtoipfhdlgoaldaaPx1019
import Derived.Test.YtoipfhdlgoaldaaPx1039
import Derived.Test.YtoipfhdlgoaldaaPx1046
namespace Go.Proofs.Ytoipfhdlgoaldaa.P
open Go.RowKit Go.Proofs.YtoipfhdlgoaldaaW.PrintWords Go.Proofs.YtoipfhdlgoaldaaW.PrintLast Go.Proofs.YtoipfhdlgoaldaaW.PrintMore
attribute [local go_sem] max2_int min2_int max_two min_two max_three min_three max_four min_four   -- for this text's walks alone
set_option linter.unusedVariables false
set_option linter.unusedSimpArgs false

/-! ### laws_FnAllRequests: function 5 -/
def laws_FnAllRequests.l0 : Nat → List (S74) → List (S55) → List (S42) → Int → Option (Bool)
 | 0, _, _, _, _ => none
 | k + 1, x3, x4, x5, x6 => if x6 < (x5.length : Int) then (if 0 ≤ x6 then ((impl_RequestValid.f k x3 ((rd_T42 x5 x6).f0) ((rd_T42 x5 x6).f1) ((rd_T42 x5 x6).f2) ((rd_T42 x5 x6).f3)).bind fun t372 => (if t372 = true then ((laws_sameFields.f k ((rd_T42 x5 x6).f3) x4).bind fun t374 => (if t374 = true then (if x6 > 0 then (if 0 ≤ (wrap64 (x6 - 1)) then (if (wrap64 (x6 - 1)) < (x5.length : Int) then ((laws_sameRequest.f k ((rd_T42 x5 x6).f0) ((rd_T42 x5 x6).f1) ((rd_T42 x5 x6).f2) ((rd_T42 x5 x6).f3) ((rd_T42 x5 (wrap64 (x6 - 1))).f0) ((rd_T42 x5 (wrap64 (x6 - 1))).f1) ((rd_T42 x5 (wrap64 (x6 - 1))).f2) ((rd_T42 x5 (wrap64 (x6 - 1))).f3)).bind fun t377 => (if t377 = true then (some false) else (laws_FnAllRequests.l0 k x3 x4 x5 (wrap64 (x6 + 1))))) else (none)) else (none)) else (laws_FnAllRequests.l0 k x3 x4 x5 (wrap64 (x6 + 1)))) else (some false))) else (some false))) else (none)) else (if (x5.length : Int) = 0 then ((laws_alive.f k).bind fun t369 => (some t369)) else (if (x5.length : Int) = (wrap64 ((wrap64 ((x3.length : Int) * (x3.length : Int))) * 4)) then ((laws_alive.f k).bind fun t370 => (some t370)) else (some false)))
def laws_FnAllRequests.f (k : Nat) (l0 : List Int) : Option (Bool) := if (l0.length : Int) > 1048576 then (some true) else ((spec_DrawAllRequests.f k l0).bind fun bt356 => ((impl_AllRequests.f k bt356.1 bt356.2).bind fun t362 => ((spec_AllRequests.f k bt356.1 bt356.2).bind fun t365 => ((laws_sameRequests.f k t362 t365).bind fun t368 => (if t368 = true then (laws_FnAllRequests.l0 k bt356.1 bt356.2 t362 0) else (some false))))))
theorem laws_FnAllRequests.mono_l : ∀ k, (∀ y0 y1 y2 y3, LeO (laws_FnAllRequests.l0 k y0 y1 y2 y3) (laws_FnAllRequests.l0 (k + 1) y0 y1 y2 y3))
 | 0 => fun _ _ _ _ r h => by simp [laws_FnAllRequests.l0] at h
 | k + 1 => by
  have ih0 := laws_FnAllRequests.mono_l k
  ·
   intro y0 y1 y2 y3
   unfold laws_FnAllRequests.l0
   repeat' first
   | (with_reducible exact ih0 _ _ _ _)
   | (with_reducible exact impl_AllRequests.mono _ _ _)
   | (with_reducible exact impl_RequestValid.mono _ _ _ _ _ _)
   | (with_reducible exact laws_alive.mono _)
   | (with_reducible exact laws_sameFields.mono _ _ _)
   | (with_reducible exact laws_sameRequest.mono _ _ _ _ _ _ _ _ _)
   | (with_reducible exact laws_sameRequests.mono _ _ _)
   | (with_reducible exact spec_AllRequests.mono _ _ _)
   | (with_reducible exact spec_DrawAllRequests.mono _ _)
   | (with_reducible exact LeO.refl _)
   | (with_reducible exact LeO.none _)
   | (with_reducible refine LeO.ite ?_ ?_)
   | (with_reducible refine LeO.bind ?_ (fun _ => ?_))
   | exact ih0 _ _ _ _
   | exact impl_AllRequests.mono _ _ _
   | exact impl_RequestValid.mono _ _ _ _ _ _
   | exact laws_alive.mono _
   | exact laws_sameFields.mono _ _ _
   | exact laws_sameRequest.mono _ _ _ _ _ _ _ _ _
   | exact laws_sameRequests.mono _ _ _
   | exact spec_AllRequests.mono _ _ _
   | exact spec_DrawAllRequests.mono _ _
   | exact LeO.none _
   | refine LeO.ite ?_ ?_
   | refine LeO.bind ?_ (fun _ => ?_)
theorem laws_FnAllRequests.mono : ∀ a0 k, LeO (laws_FnAllRequests.f k a0) (laws_FnAllRequests.f (k + 1) a0) := by
 intro a0 k
 have ih0 := laws_FnAllRequests.mono_l k
 unfold laws_FnAllRequests.f
 repeat' first
   | (with_reducible exact ih0 _ _ _ _)
   | (with_reducible exact impl_AllRequests.mono _ _ _)
   | (with_reducible exact impl_RequestValid.mono _ _ _ _ _ _)
   | (with_reducible exact laws_alive.mono _)
   | (with_reducible exact laws_sameFields.mono _ _ _)
   | (with_reducible exact laws_sameRequest.mono _ _ _ _ _ _ _ _ _)
   | (with_reducible exact laws_sameRequests.mono _ _ _)
   | (with_reducible exact spec_AllRequests.mono _ _ _)
   | (with_reducible exact spec_DrawAllRequests.mono _ _)
   | (with_reducible exact LeO.refl _)
   | (with_reducible exact LeO.none _)
   | (with_reducible refine LeO.ite ?_ ?_)
   | (with_reducible refine LeO.bind ?_ (fun _ => ?_))
   | exact ih0 _ _ _ _
   | exact impl_AllRequests.mono _ _ _
   | exact impl_RequestValid.mono _ _ _ _ _ _
   | exact laws_alive.mono _
   | exact laws_sameFields.mono _ _ _
   | exact laws_sameRequest.mono _ _ _ _ _ _ _ _ _
   | exact laws_sameRequests.mono _ _ _
   | exact spec_AllRequests.mono _ _ _
   | exact spec_DrawAllRequests.mono _ _
   | exact LeO.none _
   | refine LeO.ite ?_ ?_
   | refine LeO.bind ?_ (fun _ => ?_)
def laws_FnAllRequests.T10 : Bool × List (List Nat × List Nat) := (true, [([], []), ([], []), ([], []), ([1, 2], [1, 2]), ([3], [3]), ([0, 4], [0, 4]), ([5], [5]), ([6, 5], [6]), ([7], [7]), ([7], [7]), ([8, 9, 7], [7, 8, 9]), ([10, 7], [7, 10]), ([11, 7], [7, 11]), ([7], [7]), ([12, 13, 7, 7], [7, 12, 13]), ([14, 7], [7, 14]), ([7, 15], [7, 15]), ([16, 14], [16]), ([17], [17]), ([18, 17], [17, 18]), ([19, 17, 17], [17, 19]), ([20], [20]), ([20], [20]), ([21, 22, 20], [20, 21, 22]), ([23, 20], [20, 23]), ([20], [20]), ([20], [20]), ([26, 20], [20, 26]), ([25, 27, 20], [20, 25, 27]), ([28, 20], [20, 28]), ([24, 29, 20, 20], [20, 24, 29]), ([20, 30, 17], [17, 20, 30]), ([17, 31], [17, 31])])
def laws_FnAllRequests.B10 : List Nat := [0, 0, 0, 6, 14, 31, 63, 127, 255, 255, 1023, 2047, 4095, 255, 16383, 32767, 65535, 131071, 262143, 524287, 1048575, 2097151, 2097151, 8388607, 16777215, 2097151, 2097151, 69206015, 236978175, 505413631, 1073741823, 2147483647, 4294967295]
theorem laws_FnAllRequests.tab10 : rtab .any (opsOf Try.f5 10) = laws_FnAllRequests.T10 := by kernel_rfl
theorem laws_FnAllRequests.bits10 : waitsOk laws_FnAllRequests.T10.2 laws_FnAllRequests.B10 = true := by kernel_rfl
set_option maxHeartbeats 8000000 in
set_option maxRecDepth 100000 in
theorem laws_FnAllRequests.calls (k : Nat) (A0 : Option Addr) (c0 : Nat) (l0 : List Int) (r : Bool) (w : World) (hr0 : Kd.C (Kd.int .u8) w A0 l0.length l0) (hc0 : l0.length ≤ c0) (h : laws_FnAllRequests.f k l0 = some r) :
  Calls Try.prog 5 #[.slice A0 l0.length c0] w fun e w' => e = .returned (.bool r) ∧ Below w.heap.size w w' := by
 have hu42 := Try.underlying42
 have HR0 := Aside0.mk hr0
 have HC0 := Aside0.mk hc0
 clear hr0 hc0
 have HB := Aside0.mk (Below.refl w.heap.size w)
 have H : (if (l0.length : Int) > 1048576 then (some true) else ((spec_DrawAllRequests.f k l0).bind fun bt356 => ((impl_AllRequests.f k bt356.1 bt356.2).bind fun t362 => ((spec_AllRequests.f k bt356.1 bt356.2).bind fun t365 => ((laws_sameRequests.f k t362 t365).bind fun t368 => (if t368 = true then (laws_FnAllRequests.l0 k bt356.1 bt356.2 t362 0) else (some false))))))) = some r := h
 clear h
 by_cases c2 : (l0.length : Int) > 1048576
 ·
  rw [if_pos c2] at H; have c2b0 : decide (1048576 < (l0.length : Int)) = true := decide_eq_true c2
  have c2b1 : decide (1048576 < l0.length) = true := decide_eq_true (by omega)
  clear c2
  obtain rfl := Option.some.inj H
  go_enter Try.func5, Try.ntmps5
  go_wp2
  go_ret
  exact ⟨by first | rfl | (simp [errW_none, errW_some] <;> rfl) | (simp [*, errW_none, errW_some] <;> rfl), by exact bw HB.out⟩
 ·
  rw [if_neg c2] at H; have c2b0 : decide (1048576 < (l0.length : Int)) = false := decide_eq_false c2
  have c2b1 : decide (1048576 < l0.length) = false := decide_eq_false (by omega)
  clear c2
  replace H := Option.bind_eq_some_iff.mp H
  obtain ⟨⟨t356, t357⟩, A30, H⟩ := H
  replace H : ((impl_AllRequests.f k t356 t357).bind fun t362 => ((spec_AllRequests.f k t356 t357).bind fun t365 => ((laws_sameRequests.f k t362 t365).bind fun t368 => (if t368 = true then (laws_FnAllRequests.l0 k t356 t357 t362 0) else (some false))))) = some r := H
  have A3 := Aside0.mk A30
  clear A30
  replace H := Option.bind_eq_some_iff.mp H
  obtain ⟨t362, A40, H⟩ := H
  replace H : ((spec_AllRequests.f k t356 t357).bind fun t365 => ((laws_sameRequests.f k t362 t365).bind fun t368 => (if t368 = true then (laws_FnAllRequests.l0 k t356 t357 t362 0) else (some false)))) = some r := H
  have A4 := Aside0.mk A40
  clear A40
  replace H := Option.bind_eq_some_iff.mp H
  obtain ⟨t365, A50, H⟩ := H
  replace H : ((laws_sameRequests.f k t362 t365).bind fun t368 => (if t368 = true then (laws_FnAllRequests.l0 k t356 t357 t362 0) else (some false))) = some r := H
  have A5 := Aside0.mk A50
  clear A50
  replace H := Option.bind_eq_some_iff.mp H
  obtain ⟨t368, A60, H⟩ := H
  replace H : (if t368 = true then (laws_FnAllRequests.l0 k t356 t357 t362 0) else (some false)) = some r := H
  have A6 := Aside0.mk A60
  clear A60
  have HC7 := Aside0.mk H
  clear H
  go_enter Try.func5, Try.ntmps5
  go_upto_if 23 with (first | ((with_reducible refine gate_callee (f := 16) rfl ?_); refine gl (some 12) Try.func16 #[.slice A0 l0.length c0] ?_; (with_reducible refine (spec_DrawAllRequests.calls k _ _ l0 t356 t357 _ ?side1 ?side2 A3.out).mono ?_); (case side1 => repeat (first | exact HR0.out | (with_reducible refine Kd.C_alloc ?_ _) | (with_reducible refine Kd.C_drewN ?_ _) | (with_reducible refine Kd.C_drew ?_))); (case side2 => exact HC0.out); rintro e w8 ⟨v358, v360, rfl, ho0, ho1, hb⟩; refine ⟨_, rfl, ?_⟩; have HO359 := Aside0.mk (Kd.S_lower ho0 (below_size (by exact bw HB.out))); have HO361 := Aside0.mk (Kd.R_lower ho1 (below_size (by exact bw HB.out))); replace HB := bS HB hb; (try clear hb); (try clear hb2); (try clear hk); (try clear hi); (try clear ho0); (try clear ho1); obtain ⟨Ao9, co9, eo9⟩ := Kd.S_slice HO359.out; subst eo9; obtain ⟨Ao10, co10, eo10⟩ := Kd.R_slice HO361.out; subst eo10) | ((with_reducible refine gate_callee (f := 17) rfl ?_); refine gl (some 17) Try.func17 #[.slice Ao9 t356.length co9, .slice Ao10 t357.length co10] ?_; (with_reducible refine (impl_AllRequests.calls k _ _ t356 _ _ t357 t362 _ ?side1 ?side2 ?side3 ?side4 A4.out).mono ?_); (case side1 => repeat (first | exact (Kd.S_reads' HO359.out).2.2 | (with_reducible refine Kd.C_alloc ?_ _) | (with_reducible refine Kd.C_drewN ?_ _) | (with_reducible refine Kd.C_drew ?_))); (case side2 => exact (Kd.S_reads' HO359.out).2.1); (case side3 => repeat (first | exact (Kd.R_reads' HO361.out).2.2 | (with_reducible refine Kd.C_alloc ?_ _) | (with_reducible refine Kd.C_drewN ?_ _) | (with_reducible refine Kd.C_drew ?_))); (case side4 => exact (Kd.R_reads' HO361.out).2.1); rintro e w11 ⟨v363, rfl, ho0, hb⟩; refine ⟨_, rfl, ?_⟩; replace HO359 := Aside0.mk (Kd.S_below (by exact Kd.xS HO359.out) hb); have HO364 := Aside0.mk (Kd.S_lower (Kd.S_new' ho0 (Kd.R_lt (by exact Kd.xR HO361.out))) (below_size (by exact bw HB.out))); replace HO361 := Aside0.mk (Kd.R_below (by exact Kd.xR HO361.out) hb); replace HB := bS HB hb; (try clear hb); (try clear hb2); (try clear hk); (try clear hi); (try clear ho0)) | ((with_reducible refine gate_callee (f := 19) rfl ?_); refine gl (some 21) Try.func19 #[.slice Ao9 t356.length co9, .slice Ao10 t357.length co10] ?_; (with_reducible refine (spec_AllRequests.calls k _ _ t356 _ _ t357 t365 _ ?side1 ?side2 ?side3 ?side4 A5.out).mono ?_); (case side1 => repeat (first | exact (Kd.S_reads' HO359.out).2.2 | (with_reducible refine Kd.C_alloc ?_ _) | (with_reducible refine Kd.C_drewN ?_ _) | (with_reducible refine Kd.C_drew ?_))); (case side2 => exact (Kd.S_reads' HO359.out).2.1); (case side3 => repeat (first | exact (Kd.R_reads' HO361.out).2.2 | (with_reducible refine Kd.C_alloc ?_ _) | (with_reducible refine Kd.C_drewN ?_ _) | (with_reducible refine Kd.C_drew ?_))); (case side4 => exact (Kd.R_reads' HO361.out).2.1); rintro e w12 ⟨v366, rfl, ho0, hb⟩; refine ⟨_, rfl, ?_⟩; replace HO359 := Aside0.mk (Kd.S_below (by exact Kd.xS HO359.out) hb); have HO367 := Aside0.mk (Kd.S_lower (Kd.S_new' (Kd.S_new' ho0 (Kd.R_lt (by exact Kd.xR HO361.out))) (Kd.S_lt (by exact Kd.xS HO364.out))) (below_size (by exact bw HB.out))); replace HO361 := Aside0.mk (Kd.R_below (by exact Kd.xR HO361.out) hb); replace HO364 := Aside0.mk (Kd.S_elder' (by exact Kd.xS HO364.out) (Kd.S_base ho0) hb); replace HB := bS HB hb; (try clear hb); (try clear hb2); (try clear hk); (try clear hi); (try clear ho0); obtain ⟨Ao13, co13, eo13⟩ := Kd.S_slice HO364.out; subst eo13; obtain ⟨Ao14, co14, eo14⟩ := Kd.S_slice HO367.out; subst eo14) | ((with_reducible refine gate_callee (f := 18) rfl ?_); refine gl (some 22) Try.func18 #[.slice Ao13 t362.length co13, .slice Ao14 t365.length co14] ?_; (with_reducible refine (laws_sameRequests.calls k _ _ t362 _ _ t365 t368 _ ?side1 ?side2 ?side3 ?side4 A6.out).mono ?_); (case side1 => repeat (first | exact (Kd.S_reads' HO364.out).2.2 | (with_reducible refine Kd.C_alloc ?_ _) | (with_reducible refine Kd.C_drewN ?_ _) | (with_reducible refine Kd.C_drew ?_))); (case side2 => exact (Kd.S_reads' HO364.out).2.1); (case side3 => repeat (first | exact (Kd.S_reads' HO367.out).2.2 | (with_reducible refine Kd.C_alloc ?_ _) | (with_reducible refine Kd.C_drewN ?_ _) | (with_reducible refine Kd.C_drew ?_))); (case side4 => exact (Kd.S_reads' HO367.out).2.1); rintro e w15 ⟨rfl, hb⟩; refine ⟨_, rfl, ?_⟩; replace HO359 := Aside0.mk (Kd.S_below (by exact Kd.xS HO359.out) hb); replace HO361 := Aside0.mk (Kd.R_below (by exact Kd.xR HO361.out) hb); replace HO364 := Aside0.mk (Kd.S_below (by exact Kd.xS HO364.out) hb); replace HO367 := Aside0.mk (Kd.S_below (by exact Kd.xS HO367.out) hb); replace HB := bS HB hb; (try clear hb); (try clear hb2); (try clear hk); (try clear hi)))
  (try simp only [Act.put, List.setIfInBounds_toArray, List.set_cons_zero, List.set_cons_succ])
  have H := HC7.out
  clear HC7
  by_cases c16 : t368 = true
  ·
   subst c16
   have H1 : (laws_FnAllRequests.l0 k t356 t357 t362 0) = some r := by rw [if_pos rfl] at H; exact H
   clear H
   have H := H1
   clear H1
   have H' := Aside0.mk H
   clear H
   go_wp2
   go_loopg [6] k (fun kq v6 w' => ∃ (x6_1 : Int), v6 = .int .i64 x6_1 ∧ Aside0 (laws_FnAllRequests.l0 kq t356 t357 t362 x6_1 = some r) ∧ Aside0 (kq ≤ k) ∧ Aside0 (Kd.S k74 74 w' w.heap.size (fun k_ => some k_ ≠ ((.slice Ao10 t357.length co10) : Value).ownBlock) (.slice Ao9 t356.length co9) t356) ∧ Aside0 (Kd.R k55 55 w' w.heap.size (fun _ => True) (.slice Ao10 t357.length co10) t357) ∧ Aside0 (Kd.S k42 42 w' w.heap.size (fun k_ => some k_ ≠ ((.slice Ao10 t357.length co10) : Value).ownBlock) (.slice Ao13 t362.length co13) t362) ∧ Aside0 (Below w.heap.size w w'))
   case atStart => exact ⟨(0), (by first | rfl | (simp; done) | (simp [*]; done)), H', ⟨Nat.le_refl _⟩, ⟨by exact Kd.xS HO359.out⟩, ⟨by exact Kd.xR HO361.out⟩, ⟨by (with_reducible repeat (first | apply Kd.S_alloc | apply Kd.S_drewN | apply Kd.S_drew)); exact Kd.S_mono HO364.out (fun _ hk => hk.1.2)⟩, ⟨by exact bw HB.out⟩⟩
   case round =>
    clear H'
    try clear c1
    try clear c2
    try clear c2b0
    try clear c2b1
    try clear p2
    try clear c5
    try clear c16
    obtain ⟨x6_1, rfl, HA, HK1, HO_3, HO_4, HO_5, HB⟩ := hrel
    cases gk with
    | zero => exact absurd HA.out (by simp [laws_FnAllRequests.l0])
    | succ k1 =>
     have H := HA.out
     clear HA
     simp only [laws_FnAllRequests.l0] at H
     by_cases c17 : x6_1 < (t362.length : Int)
     ·
      rw [if_pos c17] at H; have c17b0 : decide (x6_1 < (t362.length : Int)) = true := decide_eq_true c17; clear c17
      (first | rw [c17b0] | (simp only [i64_w, i32_w]; rw [c17b0]) | rw [c17b2] | rw [c17b1] | skip)
      by_cases c18 : 0 ≤ x6_1
      ·
       rw [if_pos c18] at H; have c18b0 : decide (0 ≤ x6_1) = true := decide_eq_true c18; clear c18
       replace H := Option.bind_eq_some_iff.mp H
       obtain ⟨t372, A190, H⟩ := H
       replace H : (if t372 = true then ((laws_sameFields.f k1 ((rd_T42 t362 x6_1).f3) t357).bind fun t374 => (if t374 = true then (if x6_1 > 0 then (if 0 ≤ (wrap64 (x6_1 - 1)) then (if (wrap64 (x6_1 - 1)) < (t362.length : Int) then ((laws_sameRequest.f k1 ((rd_T42 t362 x6_1).f0) ((rd_T42 t362 x6_1).f1) ((rd_T42 t362 x6_1).f2) ((rd_T42 t362 x6_1).f3) ((rd_T42 t362 (wrap64 (x6_1 - 1))).f0) ((rd_T42 t362 (wrap64 (x6_1 - 1))).f1) ((rd_T42 t362 (wrap64 (x6_1 - 1))).f2) ((rd_T42 t362 (wrap64 (x6_1 - 1))).f3)).bind fun t377 => (if t377 = true then (some false) else (laws_FnAllRequests.l0 k1 t356 t357 t362 (wrap64 (x6_1 + 1))))) else (none)) else (none)) else (laws_FnAllRequests.l0 k1 t356 t357 t362 (wrap64 (x6_1 + 1)))) else (some false))) else (some false)) = some r := H
       have A19 := Aside0.mk A190
       clear A190
       by_cases c20 : t372 = true
       ·
        subst c20
        have H1 : ((laws_sameFields.f k1 ((rd_T42 t362 x6_1).f3) t357).bind fun t374 => (if t374 = true then (if x6_1 > 0 then (if 0 ≤ (wrap64 (x6_1 - 1)) then (if (wrap64 (x6_1 - 1)) < (t362.length : Int) then ((laws_sameRequest.f k1 ((rd_T42 t362 x6_1).f0) ((rd_T42 t362 x6_1).f1) ((rd_T42 t362 x6_1).f2) ((rd_T42 t362 x6_1).f3) ((rd_T42 t362 (wrap64 (x6_1 - 1))).f0) ((rd_T42 t362 (wrap64 (x6_1 - 1))).f1) ((rd_T42 t362 (wrap64 (x6_1 - 1))).f2) ((rd_T42 t362 (wrap64 (x6_1 - 1))).f3)).bind fun t377 => (if t377 = true then (some false) else (laws_FnAllRequests.l0 k1 t356 t357 t362 (wrap64 (x6_1 + 1))))) else (none)) else (none)) else (laws_FnAllRequests.l0 k1 t356 t357 t362 (wrap64 (x6_1 + 1)))) else (some false))) = some r := by rw [if_pos rfl] at H; exact H
        clear H
        have H := H1
        clear H1
        replace H := Option.bind_eq_some_iff.mp H
        obtain ⟨t374, A210, H⟩ := H
        replace H : (if t374 = true then (if x6_1 > 0 then (if 0 ≤ (wrap64 (x6_1 - 1)) then (if (wrap64 (x6_1 - 1)) < (t362.length : Int) then ((laws_sameRequest.f k1 ((rd_T42 t362 x6_1).f0) ((rd_T42 t362 x6_1).f1) ((rd_T42 t362 x6_1).f2) ((rd_T42 t362 x6_1).f3) ((rd_T42 t362 (wrap64 (x6_1 - 1))).f0) ((rd_T42 t362 (wrap64 (x6_1 - 1))).f1) ((rd_T42 t362 (wrap64 (x6_1 - 1))).f2) ((rd_T42 t362 (wrap64 (x6_1 - 1))).f3)).bind fun t377 => (if t377 = true then (some false) else (laws_FnAllRequests.l0 k1 t356 t357 t362 (wrap64 (x6_1 + 1))))) else (none)) else (none)) else (laws_FnAllRequests.l0 k1 t356 t357 t362 (wrap64 (x6_1 + 1)))) else (some false)) = some r := H
        have A21 := Aside0.mk A210
        clear A210
        by_cases c22 : t374 = true
        ·
         subst c22
         have H1 : (if x6_1 > 0 then (if 0 ≤ (wrap64 (x6_1 - 1)) then (if (wrap64 (x6_1 - 1)) < (t362.length : Int) then ((laws_sameRequest.f k1 ((rd_T42 t362 x6_1).f0) ((rd_T42 t362 x6_1).f1) ((rd_T42 t362 x6_1).f2) ((rd_T42 t362 x6_1).f3) ((rd_T42 t362 (wrap64 (x6_1 - 1))).f0) ((rd_T42 t362 (wrap64 (x6_1 - 1))).f1) ((rd_T42 t362 (wrap64 (x6_1 - 1))).f2) ((rd_T42 t362 (wrap64 (x6_1 - 1))).f3)).bind fun t377 => (if t377 = true then (some false) else (laws_FnAllRequests.l0 k1 t356 t357 t362 (wrap64 (x6_1 + 1))))) else (none)) else (none)) else (laws_FnAllRequests.l0 k1 t356 t357 t362 (wrap64 (x6_1 + 1)))) = some r := by rw [if_pos rfl] at H; exact H
         clear H
         have H := H1
         clear H1
         by_cases c23 : x6_1 > 0
         ·
          rw [if_pos c23] at H; have c23b0 : decide (0 < x6_1) = true := decide_eq_true c23; clear c23
          obtain ⟨ji24, hji24⟩ : ∃ j_ : Int, (wrap64 (x6_1 - 1)) = j_ := ⟨_, rfl⟩
          replace H : (if 0 ≤ (ji24) then (if (ji24) < (t362.length : Int) then ((laws_sameRequest.f k1 ((rd_T42 t362 x6_1).f0) ((rd_T42 t362 x6_1).f1) ((rd_T42 t362 x6_1).f2) ((rd_T42 t362 x6_1).f3) ((rd_T42 t362 (ji24)).f0) ((rd_T42 t362 (ji24)).f1) ((rd_T42 t362 (ji24)).f2) ((rd_T42 t362 (ji24)).f3)).bind fun t377 => (if t377 = true then (some false) else (laws_FnAllRequests.l0 k1 t356 t357 t362 (wrap64 (x6_1 + 1))))) else (none)) else (none)) = some r := by first | (rw [hji24] at H; exact H) | (simp only [hji24] at H ⊢; exact H)
          (try rw [hji24] at A19)
          (try rw [hji24] at A21)
          have hji24w : (IntKind.i64.wrap (x6_1 - 1)) = ji24 := (i64_w _).trans hji24
          by_cases c25 : 0 ≤ (ji24)
          ·
           rw [if_pos c25] at H; have c25b0 : decide (0 ≤ (ji24)) = true := decide_eq_true c25; clear c25
           by_cases c26 : (ji24) < (t362.length : Int)
           ·
            rw [if_pos c26] at H; have c26b0 : decide ((ji24) < (t362.length : Int)) = true := decide_eq_true c26; clear c26
            replace H := Option.bind_eq_some_iff.mp H
            obtain ⟨t377, A270, H⟩ := H
            replace H : (if t377 = true then (some false) else (laws_FnAllRequests.l0 k1 t356 t357 t362 (wrap64 (x6_1 + 1)))) = some r := H
            have A27 := Aside0.mk A270
            clear A270
            have HC28 := Aside0.mk H
            clear H
            try go_wp2
            replace HO_3 := Aside0.mk (Kd.S_drew HO_3.out)
            replace HO_4 := Aside0.mk (Kd.R_drew HO_4.out)
            replace HO_5 := Aside0.mk (Kd.S_drew HO_5.out)
            replace HB := Aside0.mk (below_drew1 HB.out)
            have p371 : 0 ≤ (x6_1 : Int) := of_decide_eq_true (by first | (with_reducible assumption) | assumption)
            have q371 : x6_1 < (t362.length : Int) := of_decide_eq_true (by first | (with_reducible assumption) | assumption)
            obtain ⟨ad371, A371_3, c371_3, e371, hx371_0, hx371_1, hx371_2, hx371_3, hl371_3, hi371_3⟩ := at_T42 (Kd.S_reads' HO_5.out).2.2 x6_1 p371 q371
            cases e371
            obtain ⟨ce371, hce371, hMe371, hcc371⟩ := Kd.S_get HO_5.out z42 x6_1 p371 (by first | exact q371 | exact of_decide_eq_true (by first | (with_reducible assumption) | assumption) | (have e_ := (Kd.S_reads' HO_5.out).1; omega))
            obtain ⟨ve371_3, rfl, ge371_3⟩ := k42_openM hMe371
            have hv371_3 := hcc371 3 _ rfl
            rw [add_field _ _ 3 (by omega)] at hv371_3
            replace hv371_3 := Option.some.inj (hv371_3.symm.trans hx371_3)
            rw [hv371_3] at ge371_3
            have HL371_3 := Aside0.mk (show Kd.R k55 55 _ _ _ _ ((rd_T42 t362 x6_1).f3) from ge371_3)
            clear hv371_3 ge371_3
            clear hcc371 hce371
            have HR371_3 := Aside0.mk hi371_3
            have HC371_3 := Aside0.mk hl371_3
            clear hi371_3 hl371_3
            replace p371 := eq_true p371
            replace q371 := eq_true q371
            have p373 : 0 ≤ (x6_1 : Int) := of_decide_eq_true (by first | (with_reducible assumption) | assumption)
            have q373 : x6_1 < (t362.length : Int) := of_decide_eq_true (by first | (with_reducible assumption) | assumption)
            obtain ⟨ad373, A373_3, c373_3, e373, hx373_0, hx373_1, hx373_2, hx373_3, hl373_3, hi373_3⟩ := at_T42 (Kd.S_reads' HO_5.out).2.2 x6_1 p373 q373
            obtain rfl : ad371 = ad373 := (by injection e373)
            obtain ⟨ce373, hce373, hMe373, hcc373⟩ := Kd.S_get HO_5.out z42 x6_1 p373 (by first | exact q373 | exact of_decide_eq_true (by first | (with_reducible assumption) | assumption) | (have e_ := (Kd.S_reads' HO_5.out).1; omega))
            obtain ⟨ve373_3, rfl, ge373_3⟩ := k42_openM hMe373
            have hv373_3 := hcc373 3 _ rfl
            rw [add_field _ _ 3 (by omega)] at hv373_3
            replace hv373_3 := Option.some.inj (hv373_3.symm.trans hx373_3)
            rw [hv373_3] at ge373_3
            have HL373_3 := Aside0.mk (show Kd.R k55 55 _ _ _ _ ((rd_T42 t362 x6_1).f3) from ge373_3)
            clear hv373_3 ge373_3
            clear hcc373 hce373
            have HR373_3 := Aside0.mk hi373_3
            have HC373_3 := Aside0.mk hl373_3
            clear hi373_3 hl373_3
            replace p373 := eq_true p373
            replace q373 := eq_true q373
            have ea_ := Option.some.inj (hx371_3.symm.trans hx373_3)
            injection ea_ with ea_ en_ ec_
            subst ea_
            subst ec_
            clear en_
            have p375 : 0 ≤ (x6_1 : Int) := of_decide_eq_true (by first | (with_reducible assumption) | assumption)
            have q375 : x6_1 < (t362.length : Int) := of_decide_eq_true (by first | (with_reducible assumption) | assumption)
            obtain ⟨ad375, A375_3, c375_3, e375, hx375_0, hx375_1, hx375_2, hx375_3, hl375_3, hi375_3⟩ := at_T42 (Kd.S_reads' HO_5.out).2.2 x6_1 p375 q375
            obtain rfl : ad371 = ad375 := (by injection e375)
            obtain ⟨ce375, hce375, hMe375, hcc375⟩ := Kd.S_get HO_5.out z42 x6_1 p375 (by first | exact q375 | exact of_decide_eq_true (by first | (with_reducible assumption) | assumption) | (have e_ := (Kd.S_reads' HO_5.out).1; omega))
            obtain ⟨ve375_3, rfl, ge375_3⟩ := k42_openM hMe375
            have hv375_3 := hcc375 3 _ rfl
            rw [add_field _ _ 3 (by omega)] at hv375_3
            replace hv375_3 := Option.some.inj (hv375_3.symm.trans hx375_3)
            rw [hv375_3] at ge375_3
            have HL375_3 := Aside0.mk (show Kd.R k55 55 _ _ _ _ ((rd_T42 t362 x6_1).f3) from ge375_3)
            clear hv375_3 ge375_3
            clear hcc375 hce375
            have HR375_3 := Aside0.mk hi375_3
            have HC375_3 := Aside0.mk hl375_3
            clear hi375_3 hl375_3
            replace p375 := eq_true p375
            replace q375 := eq_true q375
            have ea_ := Option.some.inj (hx371_3.symm.trans hx375_3)
            injection ea_ with ea_ en_ ec_
            subst ea_
            subst ec_
            clear en_
            have p376 : 0 ≤ ((ji24) : Int) := of_decide_eq_true (by first | (with_reducible assumption) | assumption)
            have q376 : (ji24) < (t362.length : Int) := of_decide_eq_true (by first | (with_reducible assumption) | assumption)
            obtain ⟨ad376, A376_3, c376_3, e376, hx376_0, hx376_1, hx376_2, hx376_3, hl376_3, hi376_3⟩ := at_T42 (Kd.S_reads' HO_5.out).2.2 (ji24) p376 q376
            obtain rfl : ad371 = ad376 := (by injection e376)
            obtain ⟨ce376, hce376, hMe376, hcc376⟩ := Kd.S_get HO_5.out z42 (ji24) p376 (by first | exact q376 | exact of_decide_eq_true (by first | (with_reducible assumption) | assumption) | (have e_ := (Kd.S_reads' HO_5.out).1; omega))
            obtain ⟨ve376_3, rfl, ge376_3⟩ := k42_openM hMe376
            have hv376_3 := hcc376 3 _ rfl
            rw [add_field _ _ 3 (by omega)] at hv376_3
            replace hv376_3 := Option.some.inj (hv376_3.symm.trans hx376_3)
            rw [hv376_3] at ge376_3
            have HL376_3 := Aside0.mk (show Kd.R k55 55 _ _ _ _ ((rd_T42 t362 (ji24)).f3) from ge376_3)
            clear hv376_3 ge376_3
            clear hcc376 hce376
            have HR376_3 := Aside0.mk hi376_3
            have HC376_3 := Aside0.mk hl376_3
            clear hi376_3 hl376_3
            replace p376 := eq_true p376
            replace q376 := eq_true q376
            refine start_ (n := 33) (S := fun w' => w'.cell? (ad371.add ((x6_1).toNat * 4)) = some (.int .i64 ((rd_T42 t362 x6_1).f0)) ∧ w'.cell? ⟨(ad371.add ((x6_1).toNat * 4)).block, (ad371.add ((x6_1).toNat * 4)).off + 1, none⟩ = some (.int .i64 ((rd_T42 t362 x6_1).f1)) ∧ w'.cell? ⟨(ad371.add ((x6_1).toNat * 4)).block, (ad371.add ((x6_1).toNat * 4)).off + 2, none⟩ = some (.int .i64 ((rd_T42 t362 x6_1).f2)) ∧ w'.cell? ⟨(ad371.add ((x6_1).toNat * 4)).block, (ad371.add ((x6_1).toNat * 4)).off + 3, none⟩ = some (.slice A371_3 ((rd_T42 t362 x6_1).f3).length c371_3) ∧ w'.cell? (ad371.add ((x6_1).toNat * 4)) = some (.int .i64 ((rd_T42 t362 x6_1).f0)) ∧ w'.cell? ⟨(ad371.add ((x6_1).toNat * 4)).block, (ad371.add ((x6_1).toNat * 4)).off + 1, none⟩ = some (.int .i64 ((rd_T42 t362 x6_1).f1)) ∧ w'.cell? ⟨(ad371.add ((x6_1).toNat * 4)).block, (ad371.add ((x6_1).toNat * 4)).off + 2, none⟩ = some (.int .i64 ((rd_T42 t362 x6_1).f2)) ∧ w'.cell? ⟨(ad371.add ((x6_1).toNat * 4)).block, (ad371.add ((x6_1).toNat * 4)).off + 3, none⟩ = some (.slice A371_3 ((rd_T42 t362 x6_1).f3).length c371_3) ∧ w'.cell? (ad371.add ((x6_1).toNat * 4)) = some (.int .i64 ((rd_T42 t362 x6_1).f0)) ∧ w'.cell? ⟨(ad371.add ((x6_1).toNat * 4)).block, (ad371.add ((x6_1).toNat * 4)).off + 1, none⟩ = some (.int .i64 ((rd_T42 t362 x6_1).f1)) ∧ w'.cell? ⟨(ad371.add ((x6_1).toNat * 4)).block, (ad371.add ((x6_1).toNat * 4)).off + 2, none⟩ = some (.int .i64 ((rd_T42 t362 x6_1).f2)) ∧ w'.cell? ⟨(ad371.add ((x6_1).toNat * 4)).block, (ad371.add ((x6_1).toNat * 4)).off + 3, none⟩ = some (.slice A371_3 ((rd_T42 t362 x6_1).f3).length c371_3) ∧ w'.cell? (ad371.add (((ji24)).toNat * 4)) = some (.int .i64 ((rd_T42 t362 (ji24)).f0)) ∧ w'.cell? ⟨(ad371.add (((ji24)).toNat * 4)).block, (ad371.add (((ji24)).toNat * 4)).off + 1, none⟩ = some (.int .i64 ((rd_T42 t362 (ji24)).f1)) ∧ w'.cell? ⟨(ad371.add (((ji24)).toNat * 4)).block, (ad371.add (((ji24)).toNat * 4)).off + 2, none⟩ = some (.int .i64 ((rd_T42 t362 (ji24)).f2)) ∧ w'.cell? ⟨(ad371.add (((ji24)).toNat * 4)).block, (ad371.add (((ji24)).toNat * 4)).off + 3, none⟩ = some (.slice A376_3 ((rd_T42 t362 (ji24)).f3).length c376_3)) (ds := []) (mB 33 0) (by kernel_rfl) rfl rfl ⟨hx371_0, hx371_1, hx371_2, hx371_3, hx373_0, hx373_1, hx373_2, hx373_3, hx375_0, hx375_1, hx375_2, hx375_3, hx376_0, hx376_1, hx376_2, hx376_3⟩ (fun hHeld => ?_); refine with_tabW laws_FnAllRequests.tab10 laws_FnAllRequests.bits10 (fun HT_ HW_ => ?_)
            generalize wr.drew = w29 at HO_3 HO_4 HO_5 HB HL371_3 HL373_3 HL375_3 HL376_3 HR371_3 HR373_3 HR375_3 HR376_3 hx371_0 hx371_1 hx371_2 hx371_3 hx373_0 hx373_1 hx373_2 hx373_3 hx375_0 hx375_1 hx375_2 hx375_3 hx376_0 hx376_1 hx376_2 hx376_3 hHeld ⊢
            refine pn 0 30 HT_.out ?_
            refine pn 1 31 HT_.out ?_
            refine pn 2 32 HT_.out ?_
            refine pn 3 33 HT_.out ?_
            refine tk 4 34 HT_.out HW_.out hHeld ?_
            refine on 5 35 HT_.out (fun K hK => ?_)
            refine gs Try.func20 #[.slice Ao9 t356.length co9, .agg #[.int .i64 ((rd_T42 t362 x6_1).f0), .int .i64 ((rd_T42 t362 x6_1).f1), .int .i64 ((rd_T42 t362 x6_1).f2), .slice A371_3 ((rd_T42 t362 x6_1).f3).length c371_3]] ?_
            with_reducible refine (impl_RequestValid.calls k1 _ _ t356 ((rd_T42 t362 x6_1).f0) ((rd_T42 t362 x6_1).f1) ((rd_T42 t362 x6_1).f2) _ _ ((rd_T42 t362 x6_1).f3) true _ ?side1 ?side2 ?side3 ?side4 A19.out).mono ?_
            (case side1 => repeat (first | exact (Kd.S_reads' HO_3.out).2.2 | (with_reducible refine Kd.C_alloc ?_ _) | (with_reducible refine Kd.C_drewN ?_ _) | (with_reducible refine Kd.C_drew ?_)))
            (case side2 => exact (Kd.S_reads' HO_3.out).2.1)
            (case side3 => repeat (first | exact (by repeat (first | (with_reducible exact HR371_3.out) | (with_reducible refine Kd.C_alloc ?_ _) | (with_reducible refine Kd.C_drewN ?_ _) | (with_reducible refine Kd.C_drew ?_) | exact HR371_3.out)) | (with_reducible refine Kd.C_alloc ?_ _) | (with_reducible refine Kd.C_drewN ?_ _) | (with_reducible refine Kd.C_drew ?_)))
            (case side4 => exact HC371_3.out)
            rintro e w30 ⟨rfl, hb⟩
            have HS0_ := (hb.cell (World.block_lt_of_cell? _ _ (hHeld.1))).trans (hHeld.1)
            have HS1_ := (hb.cell (World.block_lt_of_cell? _ _ (hHeld.2.1))).trans (hHeld.2.1)
            have HS2_ := (hb.cell (World.block_lt_of_cell? _ _ (hHeld.2.2.1))).trans (hHeld.2.2.1)
            have HS3_ := (hb.cell (World.block_lt_of_cell? _ _ (hHeld.2.2.2.1))).trans (hHeld.2.2.2.1)
            have HS4_ := (hb.cell (World.block_lt_of_cell? _ _ (hHeld.2.2.2.2.1))).trans (hHeld.2.2.2.2.1)
            have HS5_ := (hb.cell (World.block_lt_of_cell? _ _ (hHeld.2.2.2.2.2.1))).trans (hHeld.2.2.2.2.2.1)
            have HS6_ := (hb.cell (World.block_lt_of_cell? _ _ (hHeld.2.2.2.2.2.2.1))).trans (hHeld.2.2.2.2.2.2.1)
            have HS7_ := (hb.cell (World.block_lt_of_cell? _ _ (hHeld.2.2.2.2.2.2.2.1))).trans (hHeld.2.2.2.2.2.2.2.1)
            have HS8_ := (hb.cell (World.block_lt_of_cell? _ _ (hHeld.2.2.2.2.2.2.2.2.1))).trans (hHeld.2.2.2.2.2.2.2.2.1)
            have HS9_ := (hb.cell (World.block_lt_of_cell? _ _ (hHeld.2.2.2.2.2.2.2.2.2.1))).trans (hHeld.2.2.2.2.2.2.2.2.2.1)
            have HS10_ := (hb.cell (World.block_lt_of_cell? _ _ (hHeld.2.2.2.2.2.2.2.2.2.2.1))).trans (hHeld.2.2.2.2.2.2.2.2.2.2.1)
            have HS11_ := (hb.cell (World.block_lt_of_cell? _ _ (hHeld.2.2.2.2.2.2.2.2.2.2.2.1))).trans (hHeld.2.2.2.2.2.2.2.2.2.2.2.1)
            have HS12_ := (hb.cell (World.block_lt_of_cell? _ _ (hHeld.2.2.2.2.2.2.2.2.2.2.2.2.1))).trans (hHeld.2.2.2.2.2.2.2.2.2.2.2.2.1)
            have HS13_ := (hb.cell (World.block_lt_of_cell? _ _ (hHeld.2.2.2.2.2.2.2.2.2.2.2.2.2.1))).trans (hHeld.2.2.2.2.2.2.2.2.2.2.2.2.2.1)
            have HS14_ := (hb.cell (World.block_lt_of_cell? _ _ (hHeld.2.2.2.2.2.2.2.2.2.2.2.2.2.2.1))).trans (hHeld.2.2.2.2.2.2.2.2.2.2.2.2.2.2.1)
            have HS15_ := (hb.cell (World.block_lt_of_cell? _ _ (hHeld.2.2.2.2.2.2.2.2.2.2.2.2.2.2.2))).trans (hHeld.2.2.2.2.2.2.2.2.2.2.2.2.2.2.2)
            refine ⟨_, rfl, ?_⟩
            replace HO_3 := Aside0.mk (Kd.S_below (by exact Kd.xS HO_3.out) hb)
            replace HO_4 := Aside0.mk (Kd.R_below (by exact Kd.xR HO_4.out) hb)
            replace HO_5 := Aside0.mk (Kd.S_below (by exact Kd.xS HO_5.out) hb)
            replace HL371_3 := Aside0.mk (Kd.R_below (by exact Kd.xR HL371_3.out) hb)
            replace HR371_3 := Aside0.mk (Kd.C_below (by repeat (first | (with_reducible exact HR371_3.out) | (with_reducible refine Kd.C_alloc ?_ _) | (with_reducible refine Kd.C_drewN ?_ _) | (with_reducible refine Kd.C_drew ?_) | exact HR371_3.out)) hb)
            replace HL373_3 := Aside0.mk (Kd.R_below (by exact Kd.xR HL373_3.out) hb)
            replace HL375_3 := Aside0.mk (Kd.R_below (by exact Kd.xR HL375_3.out) hb)
            replace HL376_3 := Aside0.mk (Kd.R_below (by exact Kd.xR HL376_3.out) hb)
            replace HR373_3 := Aside0.mk (Kd.C_below (by exact HR373_3.out) hb)
            replace HR375_3 := Aside0.mk (Kd.C_below (by exact HR375_3.out) hb)
            replace HR376_3 := Aside0.mk (Kd.C_below (by exact HR376_3.out) hb)
            replace HB := bS HB hb
            (try clear hb)
            (try clear hb2)
            (try clear hk)
            (try clear hi)
            refine hK.out _ _ ⟨HS0_, HS1_, HS2_, HS3_, HS4_, HS5_, HS6_, HS7_, HS8_, HS9_, HS10_, HS11_, HS12_, HS13_, HS14_, HS15_⟩ (fun hHeld => ?_)
            clear hK K
            refine nm (some 35) ?_
            refine pn 6 36 HT_.out ?_
            refine pn 7 37 HT_.out ?_
            refine pn 8 38 HT_.out ?_
            refine pn 9 39 HT_.out ?_
            refine pn 10 40 HT_.out ?_
            refine pn 11 41 HT_.out ?_
            refine pn 13 43 HT_.out ?_
            refine tk 12 42 HT_.out HW_.out hHeld ?_
            refine on 14 44 HT_.out (fun K hK => ?_)
            refine gs Try.func21 #[.slice A371_3 ((rd_T42 t362 x6_1).f3).length c371_3, .slice Ao10 t357.length co10] ?_
            with_reducible refine (laws_sameFields.calls k1 _ _ ((rd_T42 t362 x6_1).f3) _ _ t357 true _ ?side1 ?side2 ?side3 ?side4 A21.out).mono ?_
            (case side1 => repeat (first | exact (by repeat (first | (with_reducible exact HR373_3.out) | (with_reducible refine Kd.C_alloc ?_ _) | (with_reducible refine Kd.C_drewN ?_ _) | (with_reducible refine Kd.C_drew ?_) | exact HR373_3.out)) | (with_reducible refine Kd.C_alloc ?_ _) | (with_reducible refine Kd.C_drewN ?_ _) | (with_reducible refine Kd.C_drew ?_)))
            (case side2 => exact HC373_3.out)
            (case side3 => repeat (first | exact (Kd.R_reads' HO_4.out).2.2 | (with_reducible refine Kd.C_alloc ?_ _) | (with_reducible refine Kd.C_drewN ?_ _) | (with_reducible refine Kd.C_drew ?_)))
            (case side4 => exact (Kd.R_reads' HO_4.out).2.1)
            rintro e w' ⟨rfl, ⟨nd, rfl⟩⟩
            refine ⟨_, rfl, ?_⟩
            refine hK.out _ _ ⟨hHeld.1, hHeld.2.1, hHeld.2.2.1, hHeld.2.2.2.1, hHeld.2.2.2.2.1, hHeld.2.2.2.2.2.1, hHeld.2.2.2.2.2.2.1, hHeld.2.2.2.2.2.2.2.1, hHeld.2.2.2.2.2.2.2.2.1, hHeld.2.2.2.2.2.2.2.2.2.1, hHeld.2.2.2.2.2.2.2.2.2.2.1, hHeld.2.2.2.2.2.2.2.2.2.2.2.1, hHeld.2.2.2.2.2.2.2.2.2.2.2.2.1, hHeld.2.2.2.2.2.2.2.2.2.2.2.2.2.1, hHeld.2.2.2.2.2.2.2.2.2.2.2.2.2.2.1, hHeld.2.2.2.2.2.2.2.2.2.2.2.2.2.2.2⟩ (fun hHeld => ?_)
            clear hK K
            refine nm (some 44) ?_
            refine pn 15 45 HT_.out ?_
            refine pn 16 46 HT_.out ?_
            refine pn 17 47 HT_.out ?_
            refine pn 18 48 HT_.out ?_
            refine pn 19 49 HT_.out ?_
            refine pn 20 50 HT_.out ?_
            refine pn 21 51 HT_.out ?_
            refine pn 22 52 HT_.out ?_
            refine pn 23 53 HT_.out ?_
            refine pn 25 55 HT_.out ?_
            refine pn 26 56 HT_.out ?_
            refine pn 27 57 HT_.out ?_
            refine pn 28 58 HT_.out ?_
            refine tk 24 54 HT_.out HW_.out hHeld ?_
            refine tk 29 59 HT_.out HW_.out hHeld ?_
            refine on 30 60 HT_.out (fun K hK => ?_)
            refine goes_ Try.func22 (by kernel_rfl) rfl #[.agg #[.int .i64 ((rd_T42 t362 x6_1).f0), .int .i64 ((rd_T42 t362 x6_1).f1), .int .i64 ((rd_T42 t362 x6_1).f2), .slice A371_3 ((rd_T42 t362 x6_1).f3).length c371_3], .agg #[.int .i64 ((rd_T42 t362 (ji24)).f0), .int .i64 ((rd_T42 t362 (ji24)).f1), .int .i64 ((rd_T42 t362 (ji24)).f2), .slice A376_3 ((rd_T42 t362 (ji24)).f3).length c376_3]] (by rfl) rfl rfl (by (try simp only [List.map_toArray, List.map_cons, List.map_nil]); first | done | (simp only [hji24]; rfl) | rfl | (simp only [List.length_drop, List.length_take]; rfl)) ?_
            with_reducible refine (laws_sameRequest.calls k1 ((rd_T42 t362 x6_1).f0) ((rd_T42 t362 x6_1).f1) ((rd_T42 t362 x6_1).f2) _ _ ((rd_T42 t362 x6_1).f3) ((rd_T42 t362 (ji24)).f0) ((rd_T42 t362 (ji24)).f1) ((rd_T42 t362 (ji24)).f2) _ _ ((rd_T42 t362 (ji24)).f3) t377 _ ?side1 ?side2 ?side3 ?side4 A27.out).mono ?_
            (case side1 => repeat (first | exact (by repeat (first | (with_reducible exact HR375_3.out) | (with_reducible refine Kd.C_alloc ?_ _) | (with_reducible refine Kd.C_drewN ?_ _) | (with_reducible refine Kd.C_drew ?_) | exact HR375_3.out)) | (with_reducible refine Kd.C_alloc ?_ _) | (with_reducible refine Kd.C_drewN ?_ _) | (with_reducible refine Kd.C_drew ?_)))
            (case side2 => exact HC375_3.out)
            (case side3 => repeat (first | exact (by repeat (first | (with_reducible exact HR376_3.out) | (with_reducible refine Kd.C_alloc ?_ _) | (with_reducible refine Kd.C_drewN ?_ _) | (with_reducible refine Kd.C_drew ?_) | exact HR376_3.out)) | (with_reducible refine Kd.C_alloc ?_ _) | (with_reducible refine Kd.C_drewN ?_ _) | (with_reducible refine Kd.C_drew ?_)))
            (case side4 => exact HC376_3.out)
            rintro e w31 ⟨rfl, hb⟩
            have HS0_ := (hb.cell (World.block_lt_of_cell? _ _ (hHeld.1))).trans (hHeld.1)
            have HS1_ := (hb.cell (World.block_lt_of_cell? _ _ (hHeld.2.1))).trans (hHeld.2.1)
            have HS2_ := (hb.cell (World.block_lt_of_cell? _ _ (hHeld.2.2.1))).trans (hHeld.2.2.1)
            have HS3_ := (hb.cell (World.block_lt_of_cell? _ _ (hHeld.2.2.2.1))).trans (hHeld.2.2.2.1)
            have HS4_ := (hb.cell (World.block_lt_of_cell? _ _ (hHeld.2.2.2.2.1))).trans (hHeld.2.2.2.2.1)
            have HS5_ := (hb.cell (World.block_lt_of_cell? _ _ (hHeld.2.2.2.2.2.1))).trans (hHeld.2.2.2.2.2.1)
            have HS6_ := (hb.cell (World.block_lt_of_cell? _ _ (hHeld.2.2.2.2.2.2.1))).trans (hHeld.2.2.2.2.2.2.1)
            have HS7_ := (hb.cell (World.block_lt_of_cell? _ _ (hHeld.2.2.2.2.2.2.2.1))).trans (hHeld.2.2.2.2.2.2.2.1)
            have HS8_ := (hb.cell (World.block_lt_of_cell? _ _ (hHeld.2.2.2.2.2.2.2.2.1))).trans (hHeld.2.2.2.2.2.2.2.2.1)
            have HS9_ := (hb.cell (World.block_lt_of_cell? _ _ (hHeld.2.2.2.2.2.2.2.2.2.1))).trans (hHeld.2.2.2.2.2.2.2.2.2.1)
            have HS10_ := (hb.cell (World.block_lt_of_cell? _ _ (hHeld.2.2.2.2.2.2.2.2.2.2.1))).trans (hHeld.2.2.2.2.2.2.2.2.2.2.1)
            have HS11_ := (hb.cell (World.block_lt_of_cell? _ _ (hHeld.2.2.2.2.2.2.2.2.2.2.2.1))).trans (hHeld.2.2.2.2.2.2.2.2.2.2.2.1)
            have HS12_ := (hb.cell (World.block_lt_of_cell? _ _ (hHeld.2.2.2.2.2.2.2.2.2.2.2.2.1))).trans (hHeld.2.2.2.2.2.2.2.2.2.2.2.2.1)
            have HS13_ := (hb.cell (World.block_lt_of_cell? _ _ (hHeld.2.2.2.2.2.2.2.2.2.2.2.2.2.1))).trans (hHeld.2.2.2.2.2.2.2.2.2.2.2.2.2.1)
            have HS14_ := (hb.cell (World.block_lt_of_cell? _ _ (hHeld.2.2.2.2.2.2.2.2.2.2.2.2.2.2.1))).trans (hHeld.2.2.2.2.2.2.2.2.2.2.2.2.2.2.1)
            have HS15_ := (hb.cell (World.block_lt_of_cell? _ _ (hHeld.2.2.2.2.2.2.2.2.2.2.2.2.2.2.2))).trans (hHeld.2.2.2.2.2.2.2.2.2.2.2.2.2.2.2)
            refine ⟨_, rfl, ?_⟩
            replace HO_3 := Aside0.mk (Kd.S_below (by exact Kd.xS HO_3.out) hb)
            replace HO_4 := Aside0.mk (Kd.R_below (by exact Kd.xR HO_4.out) hb)
            replace HO_5 := Aside0.mk (Kd.S_below (by exact Kd.xS HO_5.out) hb)
            replace HL371_3 := Aside0.mk (Kd.R_below (by exact Kd.xR HL371_3.out) hb)
            replace HL373_3 := Aside0.mk (Kd.R_below (by exact Kd.xR HL373_3.out) hb)
            replace HL375_3 := Aside0.mk (Kd.R_below (by exact Kd.xR HL375_3.out) hb)
            replace HL376_3 := Aside0.mk (Kd.R_below (by exact Kd.xR HL376_3.out) hb)
            replace HR371_3 := Aside0.mk (Kd.C_below (by repeat (first | (with_reducible exact HR371_3.out) | (with_reducible refine Kd.C_alloc ?_ _) | (with_reducible refine Kd.C_drewN ?_ _) | (with_reducible refine Kd.C_drew ?_) | exact HR371_3.out)) hb)
            replace HR373_3 := Aside0.mk (Kd.C_below (by repeat (first | (with_reducible exact HR373_3.out) | (with_reducible refine Kd.C_alloc ?_ _) | (with_reducible refine Kd.C_drewN ?_ _) | (with_reducible refine Kd.C_drew ?_) | exact HR373_3.out)) hb)
            replace HR375_3 := Aside0.mk (Kd.C_below (by repeat (first | (with_reducible exact HR375_3.out) | (with_reducible refine Kd.C_alloc ?_ _) | (with_reducible refine Kd.C_drewN ?_ _) | (with_reducible refine Kd.C_drew ?_) | exact HR375_3.out)) hb)
            replace HR376_3 := Aside0.mk (Kd.C_below (by repeat (first | (with_reducible exact HR376_3.out) | (with_reducible refine Kd.C_alloc ?_ _) | (with_reducible refine Kd.C_drewN ?_ _) | (with_reducible refine Kd.C_drew ?_) | exact HR376_3.out)) hb)
            replace HB := bS HB hb
            (try clear hb)
            (try clear hb2)
            (try clear hk)
            (try clear hi)
            refine hK.out _ _ ⟨HS0_, HS1_, HS2_, HS3_, HS4_, HS5_, HS6_, HS7_, HS8_, HS9_, HS10_, HS11_, HS12_, HS13_, HS14_, HS15_⟩ (fun hHeld => ?_)
            clear hK K
            refine nm (some 60) ?_
            refine pn 31 61 HT_.out ?_
            refine pn 32 62 HT_.out ?_
            refine done_ (done_of HT_.out (by kernel_rfl)) ?_
            go_upto_if 62 with (fail)
            have H := HC28.out
            clear HC28
            by_cases c32 : t377 = true
            ·
             subst c32
             have H1 : (some false) = some r := by rw [if_pos rfl] at H; exact H
             clear H
             have H := H1
             clear H1
             obtain rfl := Option.some.inj H
             go_wp2
             go_ret
             exact ⟨by first | rfl | (simp [errW_none, errW_some] <;> rfl) | (simp only [← hji24]; first | rfl | (simp [errW_none, errW_some] <;> rfl)) | (simp [*, errW_none, errW_some] <;> rfl), by exact bw HB.out⟩
            ·
             replace c32 := Bool.eq_false_iff.mpr c32
             subst c32
             have H1 : (laws_FnAllRequests.l0 k1 t356 t357 t362 (wrap64 (x6_1 + 1))) = some r := by rw [if_neg (show ¬ (false = true) by decide)] at H; exact H
             clear H
             have H := H1
             clear H1
             have H' := Aside0.mk H
             clear H
             go_wp2
             go_roundg k1
             case measure => have := HK1.out; omega
             case rel => exact ⟨(wrap64 (x6_1 + 1)), (by first | rfl | (simp; done) | (simp [*]; done)), H', ⟨by have := HK1.out; omega⟩, ⟨by exact Kd.xS HO_3.out⟩, ⟨by exact Kd.xR HO_4.out⟩, ⟨by exact Kd.xS HO_5.out⟩, ⟨by exact bw HB.out⟩⟩
           ·
            rw [if_neg c26] at H; exact absurd H (by simp)
          ·
           rw [if_neg c25] at H; exact absurd H (by simp)
         ·
          rw [if_neg c23] at H; have c23b0 : decide (0 < x6_1) = false := decide_eq_false c23; clear c23
          have H' := Aside0.mk H
          clear H
          try go_wp2
          replace HO_3 := Aside0.mk (Kd.S_drew HO_3.out)
          replace HO_4 := Aside0.mk (Kd.R_drew HO_4.out)
          replace HO_5 := Aside0.mk (Kd.S_drew HO_5.out)
          replace HB := Aside0.mk (below_drew1 HB.out)
          have p371 : 0 ≤ (x6_1 : Int) := of_decide_eq_true (by first | (with_reducible assumption) | assumption)
          have q371 : x6_1 < (t362.length : Int) := of_decide_eq_true (by first | (with_reducible assumption) | assumption)
          obtain ⟨ad371, A371_3, c371_3, e371, hx371_0, hx371_1, hx371_2, hx371_3, hl371_3, hi371_3⟩ := at_T42 (Kd.S_reads' HO_5.out).2.2 x6_1 p371 q371
          cases e371
          obtain ⟨ce371, hce371, hMe371, hcc371⟩ := Kd.S_get HO_5.out z42 x6_1 p371 (by first | exact q371 | exact of_decide_eq_true (by first | (with_reducible assumption) | assumption) | (have e_ := (Kd.S_reads' HO_5.out).1; omega))
          obtain ⟨ve371_3, rfl, ge371_3⟩ := k42_openM hMe371
          have hv371_3 := hcc371 3 _ rfl
          rw [add_field _ _ 3 (by omega)] at hv371_3
          replace hv371_3 := Option.some.inj (hv371_3.symm.trans hx371_3)
          rw [hv371_3] at ge371_3
          have HL371_3 := Aside0.mk (show Kd.R k55 55 _ _ _ _ ((rd_T42 t362 x6_1).f3) from ge371_3)
          clear hv371_3 ge371_3
          clear hcc371 hce371
          have HR371_3 := Aside0.mk hi371_3
          have HC371_3 := Aside0.mk hl371_3
          clear hi371_3 hl371_3
          replace p371 := eq_true p371
          replace q371 := eq_true q371
          have p373 : 0 ≤ (x6_1 : Int) := of_decide_eq_true (by first | (with_reducible assumption) | assumption)
          have q373 : x6_1 < (t362.length : Int) := of_decide_eq_true (by first | (with_reducible assumption) | assumption)
          obtain ⟨ad373, A373_3, c373_3, e373, hx373_0, hx373_1, hx373_2, hx373_3, hl373_3, hi373_3⟩ := at_T42 (Kd.S_reads' HO_5.out).2.2 x6_1 p373 q373
          obtain rfl : ad371 = ad373 := (by injection e373)
          obtain ⟨ce373, hce373, hMe373, hcc373⟩ := Kd.S_get HO_5.out z42 x6_1 p373 (by first | exact q373 | exact of_decide_eq_true (by first | (with_reducible assumption) | assumption) | (have e_ := (Kd.S_reads' HO_5.out).1; omega))
          obtain ⟨ve373_3, rfl, ge373_3⟩ := k42_openM hMe373
          have hv373_3 := hcc373 3 _ rfl
          rw [add_field _ _ 3 (by omega)] at hv373_3
          replace hv373_3 := Option.some.inj (hv373_3.symm.trans hx373_3)
          rw [hv373_3] at ge373_3
          have HL373_3 := Aside0.mk (show Kd.R k55 55 _ _ _ _ ((rd_T42 t362 x6_1).f3) from ge373_3)
          clear hv373_3 ge373_3
          clear hcc373 hce373
          have HR373_3 := Aside0.mk hi373_3
          have HC373_3 := Aside0.mk hl373_3
          clear hi373_3 hl373_3
          replace p373 := eq_true p373
          replace q373 := eq_true q373
          have ea_ := Option.some.inj (hx371_3.symm.trans hx373_3)
          injection ea_ with ea_ en_ ec_
          subst ea_
          subst ec_
          clear en_
          refine start_ (n := 33) (S := fun w' => w'.cell? (ad371.add ((x6_1).toNat * 4)) = some (.int .i64 ((rd_T42 t362 x6_1).f0)) ∧ w'.cell? ⟨(ad371.add ((x6_1).toNat * 4)).block, (ad371.add ((x6_1).toNat * 4)).off + 1, none⟩ = some (.int .i64 ((rd_T42 t362 x6_1).f1)) ∧ w'.cell? ⟨(ad371.add ((x6_1).toNat * 4)).block, (ad371.add ((x6_1).toNat * 4)).off + 2, none⟩ = some (.int .i64 ((rd_T42 t362 x6_1).f2)) ∧ w'.cell? ⟨(ad371.add ((x6_1).toNat * 4)).block, (ad371.add ((x6_1).toNat * 4)).off + 3, none⟩ = some (.slice A371_3 ((rd_T42 t362 x6_1).f3).length c371_3) ∧ w'.cell? (ad371.add ((x6_1).toNat * 4)) = some (.int .i64 ((rd_T42 t362 x6_1).f0)) ∧ w'.cell? ⟨(ad371.add ((x6_1).toNat * 4)).block, (ad371.add ((x6_1).toNat * 4)).off + 1, none⟩ = some (.int .i64 ((rd_T42 t362 x6_1).f1)) ∧ w'.cell? ⟨(ad371.add ((x6_1).toNat * 4)).block, (ad371.add ((x6_1).toNat * 4)).off + 2, none⟩ = some (.int .i64 ((rd_T42 t362 x6_1).f2)) ∧ w'.cell? ⟨(ad371.add ((x6_1).toNat * 4)).block, (ad371.add ((x6_1).toNat * 4)).off + 3, none⟩ = some (.slice A371_3 ((rd_T42 t362 x6_1).f3).length c371_3)) (ds := []) (mB 33 0) (by kernel_rfl) rfl rfl ⟨hx371_0, hx371_1, hx371_2, hx371_3, hx373_0, hx373_1, hx373_2, hx373_3⟩ (fun hHeld => ?_); refine with_tabW laws_FnAllRequests.tab10 laws_FnAllRequests.bits10 (fun HT_ HW_ => ?_)
          generalize wr.drew = w33 at HO_3 HO_4 HO_5 HB HL371_3 HL373_3 HR371_3 HR373_3 hx371_0 hx371_1 hx371_2 hx371_3 hx373_0 hx373_1 hx373_2 hx373_3 hHeld ⊢
          refine pn 0 30 HT_.out ?_
          refine pn 1 31 HT_.out ?_
          refine pn 2 32 HT_.out ?_
          refine pn 3 33 HT_.out ?_
          refine tk 4 34 HT_.out HW_.out hHeld ?_
          refine on 5 35 HT_.out (fun K hK => ?_)
          refine gs Try.func20 #[.slice Ao9 t356.length co9, .agg #[.int .i64 ((rd_T42 t362 x6_1).f0), .int .i64 ((rd_T42 t362 x6_1).f1), .int .i64 ((rd_T42 t362 x6_1).f2), .slice A371_3 ((rd_T42 t362 x6_1).f3).length c371_3]] ?_
          with_reducible refine (impl_RequestValid.calls k1 _ _ t356 ((rd_T42 t362 x6_1).f0) ((rd_T42 t362 x6_1).f1) ((rd_T42 t362 x6_1).f2) _ _ ((rd_T42 t362 x6_1).f3) true _ ?side1 ?side2 ?side3 ?side4 A19.out).mono ?_
          (case side1 => repeat (first | exact (Kd.S_reads' HO_3.out).2.2 | (with_reducible refine Kd.C_alloc ?_ _) | (with_reducible refine Kd.C_drewN ?_ _) | (with_reducible refine Kd.C_drew ?_)))
          (case side2 => exact (Kd.S_reads' HO_3.out).2.1)
          (case side3 => repeat (first | exact (by repeat (first | (with_reducible exact HR371_3.out) | (with_reducible refine Kd.C_alloc ?_ _) | (with_reducible refine Kd.C_drewN ?_ _) | (with_reducible refine Kd.C_drew ?_) | exact HR371_3.out)) | (with_reducible refine Kd.C_alloc ?_ _) | (with_reducible refine Kd.C_drewN ?_ _) | (with_reducible refine Kd.C_drew ?_)))
          (case side4 => exact HC371_3.out)
          rintro e w34 ⟨rfl, hb⟩
          have HS0_ := (hb.cell (World.block_lt_of_cell? _ _ (hHeld.1))).trans (hHeld.1)
          have HS1_ := (hb.cell (World.block_lt_of_cell? _ _ (hHeld.2.1))).trans (hHeld.2.1)
          have HS2_ := (hb.cell (World.block_lt_of_cell? _ _ (hHeld.2.2.1))).trans (hHeld.2.2.1)
          have HS3_ := (hb.cell (World.block_lt_of_cell? _ _ (hHeld.2.2.2.1))).trans (hHeld.2.2.2.1)
          have HS4_ := (hb.cell (World.block_lt_of_cell? _ _ (hHeld.2.2.2.2.1))).trans (hHeld.2.2.2.2.1)
          have HS5_ := (hb.cell (World.block_lt_of_cell? _ _ (hHeld.2.2.2.2.2.1))).trans (hHeld.2.2.2.2.2.1)
          have HS6_ := (hb.cell (World.block_lt_of_cell? _ _ (hHeld.2.2.2.2.2.2.1))).trans (hHeld.2.2.2.2.2.2.1)
          have HS7_ := (hb.cell (World.block_lt_of_cell? _ _ (hHeld.2.2.2.2.2.2.2))).trans (hHeld.2.2.2.2.2.2.2)
          refine ⟨_, rfl, ?_⟩
          replace HO_3 := Aside0.mk (Kd.S_below (by exact Kd.xS HO_3.out) hb)
          replace HO_4 := Aside0.mk (Kd.R_below (by exact Kd.xR HO_4.out) hb)
          replace HO_5 := Aside0.mk (Kd.S_below (by exact Kd.xS HO_5.out) hb)
          replace HL371_3 := Aside0.mk (Kd.R_below (by exact Kd.xR HL371_3.out) hb)
          replace HR371_3 := Aside0.mk (Kd.C_below (by repeat (first | (with_reducible exact HR371_3.out) | (with_reducible refine Kd.C_alloc ?_ _) | (with_reducible refine Kd.C_drewN ?_ _) | (with_reducible refine Kd.C_drew ?_) | exact HR371_3.out)) hb)
          replace HL373_3 := Aside0.mk (Kd.R_below (by exact Kd.xR HL373_3.out) hb)
          replace HR373_3 := Aside0.mk (Kd.C_below (by exact HR373_3.out) hb)
          replace HB := bS HB hb
          (try clear hb)
          (try clear hb2)
          (try clear hk)
          (try clear hi)
          refine hK.out _ _ ⟨HS0_, HS1_, HS2_, HS3_, HS4_, HS5_, HS6_, HS7_⟩ (fun hHeld => ?_)
          clear hK K
          refine nm (some 35) ?_
          refine pn 6 36 HT_.out ?_
          refine pn 7 37 HT_.out ?_
          refine pn 8 38 HT_.out ?_
          refine pn 9 39 HT_.out ?_
          refine pn 10 40 HT_.out ?_
          refine pn 11 41 HT_.out ?_
          refine pn 13 43 HT_.out ?_
          refine tk 12 42 HT_.out HW_.out hHeld ?_
          refine on 14 44 HT_.out (fun K hK => ?_)
          refine gs Try.func21 #[.slice A371_3 ((rd_T42 t362 x6_1).f3).length c371_3, .slice Ao10 t357.length co10] ?_
          with_reducible refine (laws_sameFields.calls k1 _ _ ((rd_T42 t362 x6_1).f3) _ _ t357 true _ ?side1 ?side2 ?side3 ?side4 A21.out).mono ?_
          (case side1 => repeat (first | exact (by repeat (first | (with_reducible exact HR373_3.out) | (with_reducible refine Kd.C_alloc ?_ _) | (with_reducible refine Kd.C_drewN ?_ _) | (with_reducible refine Kd.C_drew ?_) | exact HR373_3.out)) | (with_reducible refine Kd.C_alloc ?_ _) | (with_reducible refine Kd.C_drewN ?_ _) | (with_reducible refine Kd.C_drew ?_)))
          (case side2 => exact HC373_3.out)
          (case side3 => repeat (first | exact (Kd.R_reads' HO_4.out).2.2 | (with_reducible refine Kd.C_alloc ?_ _) | (with_reducible refine Kd.C_drewN ?_ _) | (with_reducible refine Kd.C_drew ?_)))
          (case side4 => exact (Kd.R_reads' HO_4.out).2.1)
          rintro e w' ⟨rfl, ⟨nd, rfl⟩⟩
          refine ⟨_, rfl, ?_⟩
          refine hK.out _ _ ⟨hHeld.1, hHeld.2.1, hHeld.2.2.1, hHeld.2.2.2.1, hHeld.2.2.2.2.1, hHeld.2.2.2.2.2.1, hHeld.2.2.2.2.2.2.1, hHeld.2.2.2.2.2.2.2⟩ (fun hHeld => ?_)
          clear hK K
          refine nm (some 44) ?_
          refine pn 15 45 HT_.out ?_
          refine pn 16 46 HT_.out ?_
          refine pn 17 47 HT_.out ?_
          refine pn 18 48 HT_.out ?_
          refine pn 19 49 HT_.out ?_
          refine pn 20 50 HT_.out ?_
          refine pf 21 51 HT_.out ?_
          refine pf 22 52 HT_.out ?_
          refine pf 23 53 HT_.out ?_
          refine pf 24 54 HT_.out ?_
          refine pf 25 55 HT_.out ?_
          refine pf 26 56 HT_.out ?_
          refine pf 27 57 HT_.out ?_
          refine pf 28 58 HT_.out ?_
          refine pf 29 59 HT_.out ?_
          refine pf 30 60 HT_.out ?_
          refine pn 31 61 HT_.out ?_
          refine pn 32 62 HT_.out ?_
          refine done_ (done_of HT_.out (by kernel_rfl)) ?_
          try go_wp2
          go_roundg k1
          case measure => have := HK1.out; omega
          case rel => exact ⟨(wrap64 (x6_1 + 1)), (by first | rfl | (simp; done) | (simp [*]; done)), H', ⟨by have := HK1.out; omega⟩, ⟨by exact Kd.xS HO_3.out⟩, ⟨by exact Kd.xR HO_4.out⟩, ⟨by exact Kd.xS HO_5.out⟩, ⟨by exact bw HB.out⟩⟩
        ·
         replace c22 := Bool.eq_false_iff.mpr c22
         subst c22
         have H1 : (some false) = some r := by rw [if_neg (show ¬ (false = true) by decide)] at H; exact H
         clear H
         have H := H1
         clear H1
         obtain rfl := Option.some.inj H
         try go_wp2
         replace HO_3 := Aside0.mk (Kd.S_drew HO_3.out)
         replace HO_4 := Aside0.mk (Kd.R_drew HO_4.out)
         replace HO_5 := Aside0.mk (Kd.S_drew HO_5.out)
         replace HB := Aside0.mk (below_drew1 HB.out)
         have p371 : 0 ≤ (x6_1 : Int) := of_decide_eq_true (by first | (with_reducible assumption) | assumption)
         have q371 : x6_1 < (t362.length : Int) := of_decide_eq_true (by first | (with_reducible assumption) | assumption)
         obtain ⟨ad371, A371_3, c371_3, e371, hx371_0, hx371_1, hx371_2, hx371_3, hl371_3, hi371_3⟩ := at_T42 (Kd.S_reads' HO_5.out).2.2 x6_1 p371 q371
         cases e371
         obtain ⟨ce371, hce371, hMe371, hcc371⟩ := Kd.S_get HO_5.out z42 x6_1 p371 (by first | exact q371 | exact of_decide_eq_true (by first | (with_reducible assumption) | assumption) | (have e_ := (Kd.S_reads' HO_5.out).1; omega))
         obtain ⟨ve371_3, rfl, ge371_3⟩ := k42_openM hMe371
         have hv371_3 := hcc371 3 _ rfl
         rw [add_field _ _ 3 (by omega)] at hv371_3
         replace hv371_3 := Option.some.inj (hv371_3.symm.trans hx371_3)
         rw [hv371_3] at ge371_3
         have HL371_3 := Aside0.mk (show Kd.R k55 55 _ _ _ _ ((rd_T42 t362 x6_1).f3) from ge371_3)
         clear hv371_3 ge371_3
         clear hcc371 hce371
         have HR371_3 := Aside0.mk hi371_3
         have HC371_3 := Aside0.mk hl371_3
         clear hi371_3 hl371_3
         replace p371 := eq_true p371
         replace q371 := eq_true q371
         have p373 : 0 ≤ (x6_1 : Int) := of_decide_eq_true (by first | (with_reducible assumption) | assumption)
         have q373 : x6_1 < (t362.length : Int) := of_decide_eq_true (by first | (with_reducible assumption) | assumption)
         obtain ⟨ad373, A373_3, c373_3, e373, hx373_0, hx373_1, hx373_2, hx373_3, hl373_3, hi373_3⟩ := at_T42 (Kd.S_reads' HO_5.out).2.2 x6_1 p373 q373
         obtain rfl : ad371 = ad373 := (by injection e373)
         obtain ⟨ce373, hce373, hMe373, hcc373⟩ := Kd.S_get HO_5.out z42 x6_1 p373 (by first | exact q373 | exact of_decide_eq_true (by first | (with_reducible assumption) | assumption) | (have e_ := (Kd.S_reads' HO_5.out).1; omega))
         obtain ⟨ve373_3, rfl, ge373_3⟩ := k42_openM hMe373
         have hv373_3 := hcc373 3 _ rfl
         rw [add_field _ _ 3 (by omega)] at hv373_3
         replace hv373_3 := Option.some.inj (hv373_3.symm.trans hx373_3)
         rw [hv373_3] at ge373_3
         have HL373_3 := Aside0.mk (show Kd.R k55 55 _ _ _ _ ((rd_T42 t362 x6_1).f3) from ge373_3)
         clear hv373_3 ge373_3
         clear hcc373 hce373
         have HR373_3 := Aside0.mk hi373_3
         have HC373_3 := Aside0.mk hl373_3
         clear hi373_3 hl373_3
         replace p373 := eq_true p373
         replace q373 := eq_true q373
         have ea_ := Option.some.inj (hx371_3.symm.trans hx373_3)
         injection ea_ with ea_ en_ ec_
         subst ea_
         subst ec_
         clear en_
         refine start_ (n := 33) (S := fun w' => w'.cell? (ad371.add ((x6_1).toNat * 4)) = some (.int .i64 ((rd_T42 t362 x6_1).f0)) ∧ w'.cell? ⟨(ad371.add ((x6_1).toNat * 4)).block, (ad371.add ((x6_1).toNat * 4)).off + 1, none⟩ = some (.int .i64 ((rd_T42 t362 x6_1).f1)) ∧ w'.cell? ⟨(ad371.add ((x6_1).toNat * 4)).block, (ad371.add ((x6_1).toNat * 4)).off + 2, none⟩ = some (.int .i64 ((rd_T42 t362 x6_1).f2)) ∧ w'.cell? ⟨(ad371.add ((x6_1).toNat * 4)).block, (ad371.add ((x6_1).toNat * 4)).off + 3, none⟩ = some (.slice A371_3 ((rd_T42 t362 x6_1).f3).length c371_3) ∧ w'.cell? (ad371.add ((x6_1).toNat * 4)) = some (.int .i64 ((rd_T42 t362 x6_1).f0)) ∧ w'.cell? ⟨(ad371.add ((x6_1).toNat * 4)).block, (ad371.add ((x6_1).toNat * 4)).off + 1, none⟩ = some (.int .i64 ((rd_T42 t362 x6_1).f1)) ∧ w'.cell? ⟨(ad371.add ((x6_1).toNat * 4)).block, (ad371.add ((x6_1).toNat * 4)).off + 2, none⟩ = some (.int .i64 ((rd_T42 t362 x6_1).f2)) ∧ w'.cell? ⟨(ad371.add ((x6_1).toNat * 4)).block, (ad371.add ((x6_1).toNat * 4)).off + 3, none⟩ = some (.slice A371_3 ((rd_T42 t362 x6_1).f3).length c371_3)) (ds := []) (mB 33 0) (by kernel_rfl) rfl rfl ⟨hx371_0, hx371_1, hx371_2, hx371_3, hx373_0, hx373_1, hx373_2, hx373_3⟩ (fun hHeld => ?_); refine with_tabW laws_FnAllRequests.tab10 laws_FnAllRequests.bits10 (fun HT_ HW_ => ?_)
         generalize wr.drew = w35 at HO_3 HO_4 HO_5 HB HL371_3 HL373_3 HR371_3 HR373_3 hx371_0 hx371_1 hx371_2 hx371_3 hx373_0 hx373_1 hx373_2 hx373_3 hHeld ⊢
         refine pn 0 30 HT_.out ?_
         refine pn 1 31 HT_.out ?_
         refine pn 2 32 HT_.out ?_
         refine pn 3 33 HT_.out ?_
         refine tk 4 34 HT_.out HW_.out hHeld ?_
         refine on 5 35 HT_.out (fun K hK => ?_)
         refine gs Try.func20 #[.slice Ao9 t356.length co9, .agg #[.int .i64 ((rd_T42 t362 x6_1).f0), .int .i64 ((rd_T42 t362 x6_1).f1), .int .i64 ((rd_T42 t362 x6_1).f2), .slice A371_3 ((rd_T42 t362 x6_1).f3).length c371_3]] ?_
         with_reducible refine (impl_RequestValid.calls k1 _ _ t356 ((rd_T42 t362 x6_1).f0) ((rd_T42 t362 x6_1).f1) ((rd_T42 t362 x6_1).f2) _ _ ((rd_T42 t362 x6_1).f3) true _ ?side1 ?side2 ?side3 ?side4 A19.out).mono ?_
         (case side1 => repeat (first | exact (Kd.S_reads' HO_3.out).2.2 | (with_reducible refine Kd.C_alloc ?_ _) | (with_reducible refine Kd.C_drewN ?_ _) | (with_reducible refine Kd.C_drew ?_)))
         (case side2 => exact (Kd.S_reads' HO_3.out).2.1)
         (case side3 => repeat (first | exact (by repeat (first | (with_reducible exact HR371_3.out) | (with_reducible refine Kd.C_alloc ?_ _) | (with_reducible refine Kd.C_drewN ?_ _) | (with_reducible refine Kd.C_drew ?_) | exact HR371_3.out)) | (with_reducible refine Kd.C_alloc ?_ _) | (with_reducible refine Kd.C_drewN ?_ _) | (with_reducible refine Kd.C_drew ?_)))
         (case side4 => exact HC371_3.out)
         rintro e w36 ⟨rfl, hb⟩
         have HS0_ := (hb.cell (World.block_lt_of_cell? _ _ (hHeld.1))).trans (hHeld.1)
         have HS1_ := (hb.cell (World.block_lt_of_cell? _ _ (hHeld.2.1))).trans (hHeld.2.1)
         have HS2_ := (hb.cell (World.block_lt_of_cell? _ _ (hHeld.2.2.1))).trans (hHeld.2.2.1)
         have HS3_ := (hb.cell (World.block_lt_of_cell? _ _ (hHeld.2.2.2.1))).trans (hHeld.2.2.2.1)
         have HS4_ := (hb.cell (World.block_lt_of_cell? _ _ (hHeld.2.2.2.2.1))).trans (hHeld.2.2.2.2.1)
         have HS5_ := (hb.cell (World.block_lt_of_cell? _ _ (hHeld.2.2.2.2.2.1))).trans (hHeld.2.2.2.2.2.1)
         have HS6_ := (hb.cell (World.block_lt_of_cell? _ _ (hHeld.2.2.2.2.2.2.1))).trans (hHeld.2.2.2.2.2.2.1)
         have HS7_ := (hb.cell (World.block_lt_of_cell? _ _ (hHeld.2.2.2.2.2.2.2))).trans (hHeld.2.2.2.2.2.2.2)
         refine ⟨_, rfl, ?_⟩
         replace HO_3 := Aside0.mk (Kd.S_below (by exact Kd.xS HO_3.out) hb)
         replace HO_4 := Aside0.mk (Kd.R_below (by exact Kd.xR HO_4.out) hb)
         replace HO_5 := Aside0.mk (Kd.S_below (by exact Kd.xS HO_5.out) hb)
         replace HL371_3 := Aside0.mk (Kd.R_below (by exact Kd.xR HL371_3.out) hb)
         replace HR371_3 := Aside0.mk (Kd.C_below (by repeat (first | (with_reducible exact HR371_3.out) | (with_reducible refine Kd.C_alloc ?_ _) | (with_reducible refine Kd.C_drewN ?_ _) | (with_reducible refine Kd.C_drew ?_) | exact HR371_3.out)) hb)
         replace HL373_3 := Aside0.mk (Kd.R_below (by exact Kd.xR HL373_3.out) hb)
         replace HR373_3 := Aside0.mk (Kd.C_below (by exact HR373_3.out) hb)
         replace HB := bS HB hb
         (try clear hb)
         (try clear hb2)
         (try clear hk)
         (try clear hi)
         refine hK.out _ _ ⟨HS0_, HS1_, HS2_, HS3_, HS4_, HS5_, HS6_, HS7_⟩ (fun hHeld => ?_)
         clear hK K
         refine nm (some 35) ?_
         refine pn 6 36 HT_.out ?_
         refine pn 7 37 HT_.out ?_
         refine pn 8 38 HT_.out ?_
         refine pn 9 39 HT_.out ?_
         refine pn 10 40 HT_.out ?_
         refine pn 11 41 HT_.out ?_
         refine pn 13 43 HT_.out ?_
         refine tk 12 42 HT_.out HW_.out hHeld ?_
         refine on 14 44 HT_.out (fun K hK => ?_)
         refine gs Try.func21 #[.slice A371_3 ((rd_T42 t362 x6_1).f3).length c371_3, .slice Ao10 t357.length co10] ?_
         with_reducible refine (laws_sameFields.calls k1 _ _ ((rd_T42 t362 x6_1).f3) _ _ t357 false _ ?side1 ?side2 ?side3 ?side4 A21.out).mono ?_
         (case side1 => repeat (first | exact (by repeat (first | (with_reducible exact HR373_3.out) | (with_reducible refine Kd.C_alloc ?_ _) | (with_reducible refine Kd.C_drewN ?_ _) | (with_reducible refine Kd.C_drew ?_) | exact HR373_3.out)) | (with_reducible refine Kd.C_alloc ?_ _) | (with_reducible refine Kd.C_drewN ?_ _) | (with_reducible refine Kd.C_drew ?_)))
         (case side2 => exact HC373_3.out)
         (case side3 => repeat (first | exact (Kd.R_reads' HO_4.out).2.2 | (with_reducible refine Kd.C_alloc ?_ _) | (with_reducible refine Kd.C_drewN ?_ _) | (with_reducible refine Kd.C_drew ?_)))
         (case side4 => exact (Kd.R_reads' HO_4.out).2.1)
         rintro e w' ⟨rfl, ⟨nd, rfl⟩⟩
         refine ⟨_, rfl, ?_⟩
         refine hK.out _ _ ⟨hHeld.1, hHeld.2.1, hHeld.2.2.1, hHeld.2.2.2.1, hHeld.2.2.2.2.1, hHeld.2.2.2.2.2.1, hHeld.2.2.2.2.2.2.1, hHeld.2.2.2.2.2.2.2⟩ (fun hHeld => ?_)
         clear hK K
         refine nm (some 44) ?_
         refine pn 15 45 HT_.out ?_
         refine pn 16 46 HT_.out ?_
         refine pn 17 47 HT_.out ?_
         refine pf 18 48 HT_.out ?_
         refine pf 19 49 HT_.out ?_
         refine pf 20 50 HT_.out ?_
         refine pf 21 51 HT_.out ?_
         refine pf 22 52 HT_.out ?_
         refine pf 23 53 HT_.out ?_
         refine pf 24 54 HT_.out ?_
         refine pf 25 55 HT_.out ?_
         refine pf 26 56 HT_.out ?_
         refine pf 27 57 HT_.out ?_
         refine pf 28 58 HT_.out ?_
         refine pf 29 59 HT_.out ?_
         refine pf 30 60 HT_.out ?_
         refine pf 31 61 HT_.out ?_
         refine pn 32 62 HT_.out ?_
         refine done_ (done_of HT_.out (by kernel_rfl)) ?_
         try go_wp2
         go_ret
         exact ⟨by first | rfl | (simp [errW_none, errW_some] <;> rfl) | (simp [*, errW_none, errW_some] <;> rfl), by exact bw HB.out⟩
       ·
        replace c20 := Bool.eq_false_iff.mpr c20
        subst c20
        have H1 : (some false) = some r := by rw [if_neg (show ¬ (false = true) by decide)] at H; exact H
        clear H
        have H := H1
        clear H1
        obtain rfl := Option.some.inj H
        try go_wp2
        replace HO_3 := Aside0.mk (Kd.S_drew HO_3.out)
        replace HO_4 := Aside0.mk (Kd.R_drew HO_4.out)
        replace HO_5 := Aside0.mk (Kd.S_drew HO_5.out)
        replace HB := Aside0.mk (below_drew1 HB.out)
        have p371 : 0 ≤ (x6_1 : Int) := of_decide_eq_true (by first | (with_reducible assumption) | assumption)
        have q371 : x6_1 < (t362.length : Int) := of_decide_eq_true (by first | (with_reducible assumption) | assumption)
        obtain ⟨ad371, A371_3, c371_3, e371, hx371_0, hx371_1, hx371_2, hx371_3, hl371_3, hi371_3⟩ := at_T42 (Kd.S_reads' HO_5.out).2.2 x6_1 p371 q371
        cases e371
        obtain ⟨ce371, hce371, hMe371, hcc371⟩ := Kd.S_get HO_5.out z42 x6_1 p371 (by first | exact q371 | exact of_decide_eq_true (by first | (with_reducible assumption) | assumption) | (have e_ := (Kd.S_reads' HO_5.out).1; omega))
        obtain ⟨ve371_3, rfl, ge371_3⟩ := k42_openM hMe371
        have hv371_3 := hcc371 3 _ rfl
        rw [add_field _ _ 3 (by omega)] at hv371_3
        replace hv371_3 := Option.some.inj (hv371_3.symm.trans hx371_3)
        rw [hv371_3] at ge371_3
        have HL371_3 := Aside0.mk (show Kd.R k55 55 _ _ _ _ ((rd_T42 t362 x6_1).f3) from ge371_3)
        clear hv371_3 ge371_3
        clear hcc371 hce371
        have HR371_3 := Aside0.mk hi371_3
        have HC371_3 := Aside0.mk hl371_3
        clear hi371_3 hl371_3
        replace p371 := eq_true p371
        replace q371 := eq_true q371
        refine start_ (n := 33) (S := fun w' => w'.cell? (ad371.add ((x6_1).toNat * 4)) = some (.int .i64 ((rd_T42 t362 x6_1).f0)) ∧ w'.cell? ⟨(ad371.add ((x6_1).toNat * 4)).block, (ad371.add ((x6_1).toNat * 4)).off + 1, none⟩ = some (.int .i64 ((rd_T42 t362 x6_1).f1)) ∧ w'.cell? ⟨(ad371.add ((x6_1).toNat * 4)).block, (ad371.add ((x6_1).toNat * 4)).off + 2, none⟩ = some (.int .i64 ((rd_T42 t362 x6_1).f2)) ∧ w'.cell? ⟨(ad371.add ((x6_1).toNat * 4)).block, (ad371.add ((x6_1).toNat * 4)).off + 3, none⟩ = some (.slice A371_3 ((rd_T42 t362 x6_1).f3).length c371_3)) (ds := []) (mB 33 0) (by kernel_rfl) rfl rfl ⟨hx371_0, hx371_1, hx371_2, hx371_3⟩ (fun hHeld => ?_); refine with_tabW laws_FnAllRequests.tab10 laws_FnAllRequests.bits10 (fun HT_ HW_ => ?_)
        generalize wr.drew = w37 at HO_3 HO_4 HO_5 HB HL371_3 HR371_3 hx371_0 hx371_1 hx371_2 hx371_3 hHeld ⊢
        refine pn 0 30 HT_.out ?_
        refine pn 1 31 HT_.out ?_
        refine pn 2 32 HT_.out ?_
        refine pn 3 33 HT_.out ?_
        refine tk 4 34 HT_.out HW_.out hHeld ?_
        refine on 5 35 HT_.out (fun K hK => ?_)
        refine gs Try.func20 #[.slice Ao9 t356.length co9, .agg #[.int .i64 ((rd_T42 t362 x6_1).f0), .int .i64 ((rd_T42 t362 x6_1).f1), .int .i64 ((rd_T42 t362 x6_1).f2), .slice A371_3 ((rd_T42 t362 x6_1).f3).length c371_3]] ?_
        with_reducible refine (impl_RequestValid.calls k1 _ _ t356 ((rd_T42 t362 x6_1).f0) ((rd_T42 t362 x6_1).f1) ((rd_T42 t362 x6_1).f2) _ _ ((rd_T42 t362 x6_1).f3) false _ ?side1 ?side2 ?side3 ?side4 A19.out).mono ?_
        (case side1 => repeat (first | exact (Kd.S_reads' HO_3.out).2.2 | (with_reducible refine Kd.C_alloc ?_ _) | (with_reducible refine Kd.C_drewN ?_ _) | (with_reducible refine Kd.C_drew ?_)))
        (case side2 => exact (Kd.S_reads' HO_3.out).2.1)
        (case side3 => repeat (first | exact (by repeat (first | (with_reducible exact HR371_3.out) | (with_reducible refine Kd.C_alloc ?_ _) | (with_reducible refine Kd.C_drewN ?_ _) | (with_reducible refine Kd.C_drew ?_) | exact HR371_3.out)) | (with_reducible refine Kd.C_alloc ?_ _) | (with_reducible refine Kd.C_drewN ?_ _) | (with_reducible refine Kd.C_drew ?_)))
        (case side4 => exact HC371_3.out)
        rintro e w38 ⟨rfl, hb⟩
        have HS0_ := (hb.cell (World.block_lt_of_cell? _ _ (hHeld.1))).trans (hHeld.1)
        have HS1_ := (hb.cell (World.block_lt_of_cell? _ _ (hHeld.2.1))).trans (hHeld.2.1)
        have HS2_ := (hb.cell (World.block_lt_of_cell? _ _ (hHeld.2.2.1))).trans (hHeld.2.2.1)
        have HS3_ := (hb.cell (World.block_lt_of_cell? _ _ (hHeld.2.2.2))).trans (hHeld.2.2.2)
        refine ⟨_, rfl, ?_⟩
        replace HO_3 := Aside0.mk (Kd.S_below (by exact Kd.xS HO_3.out) hb)
        replace HO_4 := Aside0.mk (Kd.R_below (by exact Kd.xR HO_4.out) hb)
        replace HO_5 := Aside0.mk (Kd.S_below (by exact Kd.xS HO_5.out) hb)
        replace HL371_3 := Aside0.mk (Kd.R_below (by exact Kd.xR HL371_3.out) hb)
        replace HR371_3 := Aside0.mk (Kd.C_below (by repeat (first | (with_reducible exact HR371_3.out) | (with_reducible refine Kd.C_alloc ?_ _) | (with_reducible refine Kd.C_drewN ?_ _) | (with_reducible refine Kd.C_drew ?_) | exact HR371_3.out)) hb)
        replace HB := bS HB hb
        (try clear hb)
        (try clear hb2)
        (try clear hk)
        (try clear hi)
        refine hK.out _ _ ⟨HS0_, HS1_, HS2_, HS3_⟩ (fun hHeld => ?_)
        clear hK K
        refine nm (some 35) ?_
        refine pn 6 36 HT_.out ?_
        refine pn 7 37 HT_.out ?_
        refine pf 8 38 HT_.out ?_
        refine pf 9 39 HT_.out ?_
        refine pf 10 40 HT_.out ?_
        refine pf 11 41 HT_.out ?_
        refine pf 12 42 HT_.out ?_
        refine pf 13 43 HT_.out ?_
        refine pf 14 44 HT_.out ?_
        refine pf 15 45 HT_.out ?_
        refine pn 16 46 HT_.out ?_
        refine pn 17 47 HT_.out ?_
        refine pf 18 48 HT_.out ?_
        refine pf 19 49 HT_.out ?_
        refine pf 20 50 HT_.out ?_
        refine pf 21 51 HT_.out ?_
        refine pf 22 52 HT_.out ?_
        refine pf 23 53 HT_.out ?_
        refine pf 24 54 HT_.out ?_
        refine pf 25 55 HT_.out ?_
        refine pf 26 56 HT_.out ?_
        refine pf 27 57 HT_.out ?_
        refine pf 28 58 HT_.out ?_
        refine pf 29 59 HT_.out ?_
        refine pf 30 60 HT_.out ?_
        refine pf 31 61 HT_.out ?_
        refine pn 32 62 HT_.out ?_
        refine done_ (done_of HT_.out (by kernel_rfl)) ?_
        try go_wp2
        go_ret
        exact ⟨by first | rfl | (simp [errW_none, errW_some] <;> rfl) | (simp [*, errW_none, errW_some] <;> rfl), by exact bw HB.out⟩
      ·
       rw [if_neg c18] at H; exact absurd H (by simp)
     ·
      rw [if_neg c17] at H; have c17b0 : decide (x6_1 < (t362.length : Int)) = false := decide_eq_false c17; clear c17
      (first | rw [c17b0] | (simp only [i64_w, i32_w]; rw [c17b0]) | rw [c17b2] | rw [c17b1] | skip)
      by_cases c39 : (t362.length : Int) = 0
      ·
       rw [if_pos c39] at H; obtain ⟨c39b0, c39b1⟩ := eqY c39; clear c39
       replace H := Option.bind_eq_some_iff.mp H
       obtain ⟨t369, A400, H⟩ := H
       replace H : (some t369) = some r := H
       have A40 := Aside0.mk A400
       clear A400
       obtain rfl := Option.some.inj H
       go_wp2_with (first | (go_at_call 11; (with_reducible refine (laws_alive.calls k1  t369 _ A40.out).mono ?_); rintro e w' ⟨rfl, ⟨nd, rfl⟩⟩; (try (rw [drewN_self wr]; generalize hq_ : World.drewN wr _ = wr; have n0_ : Aside0 (Kd.S k74 74 wr w.heap.size (fun k_ => some k_ ≠ (.slice Ao10 t357.length co10 : Value).ownBlock) (.slice Ao9 t356.length co9) t356) := ⟨by rw [← hq_]; exact (by exact Kd.xS HO_3.out)⟩; have n1_ : Aside0 (Kd.R k55 55 wr w.heap.size (fun _ => True) (.slice Ao10 t357.length co10) t357) := ⟨by rw [← hq_]; exact (by exact Kd.xR HO_4.out)⟩; have n2_ : Aside0 (Kd.S k42 42 wr w.heap.size (fun k_ => some k_ ≠ (.slice Ao10 t357.length co10 : Value).ownBlock) (.slice Ao13 t362.length co13) t362) := ⟨by rw [← hq_]; exact (by exact Kd.xS HO_5.out)⟩; have n3_ : Aside0 (Below w.heap.size w wr) := ⟨by rw [← hq_]; exact (by exact bw HB.out)⟩; clear HO_3 HO_4 HO_5 HB hq_; have HO_3 := n0_; have HO_4 := n1_; have HO_5 := n2_; have HB := n3_; clear n0_ n1_ n2_ n3_))))
       go_ret
       exact ⟨by first | rfl | (simp [errW_none, errW_some] <;> rfl) | (simp [*, errW_none, errW_some] <;> rfl), by exact bw HB.out⟩
      ·
       rw [if_neg c39] at H; obtain ⟨c39b0, c39b1⟩ := eqN c39
       have c39b2 : ¬ (t362 = []) := fun h_ => c39 (by rw [h_]; rfl)
       by_cases c41 : (t362.length : Int) = (wrap64 ((wrap64 ((t356.length : Int) * (t356.length : Int))) * 4))
       ·
        rw [if_pos c41] at H; obtain ⟨c41b0, c41b1⟩ := eqY c41; clear c41
        replace H := Option.bind_eq_some_iff.mp H
        obtain ⟨t370, A420, H⟩ := H
        replace H : (some t370) = some r := H
        have A42 := Aside0.mk A420
        clear A420
        obtain rfl := Option.some.inj H
        go_wp2_with (first | (go_at_call 11; (with_reducible refine (laws_alive.calls k1  t370 _ A42.out).mono ?_); rintro e w' ⟨rfl, ⟨nd, rfl⟩⟩; (try (rw [drewN_self wr]; generalize hq_ : World.drewN wr _ = wr; have n0_ : Aside0 (Kd.S k74 74 wr w.heap.size (fun k_ => some k_ ≠ (.slice Ao10 t357.length co10 : Value).ownBlock) (.slice Ao9 t356.length co9) t356) := ⟨by rw [← hq_]; exact (by exact Kd.xS HO_3.out)⟩; have n1_ : Aside0 (Kd.R k55 55 wr w.heap.size (fun _ => True) (.slice Ao10 t357.length co10) t357) := ⟨by rw [← hq_]; exact (by exact Kd.xR HO_4.out)⟩; have n2_ : Aside0 (Kd.S k42 42 wr w.heap.size (fun k_ => some k_ ≠ (.slice Ao10 t357.length co10 : Value).ownBlock) (.slice Ao13 t362.length co13) t362) := ⟨by rw [← hq_]; exact (by exact Kd.xS HO_5.out)⟩; have n3_ : Aside0 (Below w.heap.size w wr) := ⟨by rw [← hq_]; exact (by exact bw HB.out)⟩; clear HO_3 HO_4 HO_5 HB hq_; have HO_3 := n0_; have HO_4 := n1_; have HO_5 := n2_; have HB := n3_; clear n0_ n1_ n2_ n3_))))
        go_ret
        exact ⟨by first | rfl | (simp [errW_none, errW_some] <;> rfl) | (simp [*, errW_none, errW_some] <;> rfl), by exact bw HB.out⟩
       ·
        rw [if_neg c41] at H; obtain ⟨c41b0, c41b1⟩ := eqN c41
        obtain rfl := Option.some.inj H
        go_wp2
        go_ret
        exact ⟨by first | rfl | (simp [errW_none, errW_some] <;> rfl) | (simp [*, errW_none, errW_some] <;> rfl), by exact bw HB.out⟩
  ·
   replace c16 := Bool.eq_false_iff.mpr c16
   subst c16
   have H1 : (some false) = some r := by rw [if_neg (show ¬ (false = true) by decide)] at H; exact H
   clear H
   have H := H1
   clear H1
   obtain rfl := Option.some.inj H
   go_wp2
   go_ret
   exact ⟨by first | rfl | (simp [errW_none, errW_some] <;> rfl) | (simp [*, errW_none, errW_some] <;> rfl), by exact bw HB.out⟩

/-- THE ONE PURE STATEMENT of laws_FnAllRequests: yours. -/
def laws_FnAllRequests.Pure : Prop := ∀ (l0 : List Int), l0.length ≤ maxLen → l0.length * 1 ≤ 140737488351232 → (∀ x ∈ l0, (Lit.int .u8 x).wf = true) → ∃ k, laws_FnAllRequests.f k l0 = some true
theorem laws_FnAllRequests.walk (P : laws_FnAllRequests.Pure) (a0 : Option Addr) (len0 cap0 : Nat) (z0 : List Int) (w : World) (w0 : (a0 = none ∧ len0 = 0 ∧ cap0 = 0 ∧ z0 = []) ∨ ∃ x, a0 = some x ∧ len0 ≤ cap0 ∧ cap0 ≤ maxLen ∧ z0.length = cap0 ∧ (∀ i, i < z0.length → w.cell? (x.add i) = some (.int .u8 (z0.getD i 0))) ∧ ∀ n ∈ z0, (Lit.int .u8 n).wf = true) (y0 : len0 * 1 ≤ 140737488351232) :
  Calls Try.prog 5 #[.slice a0 len0 cap0] w fun e w' => e = .returned (.bool true) ∧ Below w.heap.size w w' := by
 obtain ⟨l0, rfl, hr0, hm0, hw0, hc0⟩ := ReadsInt.ofRowC w0
 obtain ⟨k, h⟩ := P l0 hm0 y0 hw0
 refine (laws_FnAllRequests.calls k _ _ l0 true w (Kd.C_of_reads (d := (0 : Int)) (h1 := fun _ => rfl) hr0) hc0 h).mono ?_
 rintro e w' ⟨rfl, hd⟩
 exact ⟨rfl, hd⟩

end Go.Proofs.Ytoipfhdlgoaldaa.P
