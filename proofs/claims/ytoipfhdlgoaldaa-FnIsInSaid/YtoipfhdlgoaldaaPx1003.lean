-- Written by a program of this session (wip/tool).
import Derived.Test.YtoipfhdlgoaldaaPx0
import Derived.Test.YtoipfhdlgoaldaaPx1008
import Derived.Test.YtoipfhdlgoaldaaPx1039
import Derived.Test.YtoipfhdlgoaldaaPx1057
namespace Go.Proofs.Ytoipfhdlgoaldaa.P
open Go.RowKit Go.Proofs.YtoipfhdlgoaldaaW.PrintWords Go.Proofs.YtoipfhdlgoaldaaW.PrintLast Go.Proofs.YtoipfhdlgoaldaaW.PrintMore
attribute [local go_sem] max2_int min2_int max_two min_two max_three min_three max_four min_four   -- for this text's walks alone
set_option linter.unusedVariables false
set_option linter.unusedSimpArgs false

/-! ### laws_FnIsIn: function 3 -/
mutual
def laws_FnIsIn.l0 : Nat → List (S74) → Int → Int → Bool → Int → Option (Bool)
 | 0, _, _, _, _, _ => none
 | k + 1, x3, x4, x5, x6, x7 => if x7 < (x3.length : Int) then (laws_FnIsIn.j1 k x3 x4 x5 x6 x7 x6) else (laws_FnIsIn.j1 k x3 x4 x5 x6 x7 false)
def laws_FnIsIn.j1 : Nat → List (S74) → Int → Int → Bool → Int → Bool → Option (Bool)
 | 0, _, _, _, _, _, _ => none
 | k + 1, x3, x4, x5, x6, x7, x33 => if x33 = true then ((impl_IsIn.f k x3 x5 x7).bind fun t255 => (if t255 = true then ((impl_IsIn.f k x3 x4 x7).bind fun t256 => (if t256 = true then (laws_FnIsIn.l0 k x3 x4 x5 x6 (wrap64 (x7 + 1))) else (some false))) else (laws_FnIsIn.l0 k x3 x4 x5 x6 (wrap64 (x7 + 1))))) else (if x6 = true then (if x5 ≤ x4 then ((impl_IsIn.f k x3 x4 x4).bind fun t252 => (if t252 = true then ((laws_alive.f k).bind fun t253 => (some t253)) else (some false))) else (some false)) else ((laws_alive.f k).bind fun t254 => (some t254)))
end
def laws_FnIsIn.f (k : Nat) (l0 : List Int) : Option (Bool) := if (l0.length : Int) > 1048576 then (some true) else ((spec_DrawIsIn.f k l0).bind fun bt245 => ((impl_IsIn.f k bt245.1 bt245.2.1 bt245.2.2).bind fun t250 => ((spec_IsIn.f k bt245.1 bt245.2.1 bt245.2.2).bind fun t251 => (if (t250 != t251) = true then (some false) else (laws_FnIsIn.l0 k bt245.1 bt245.2.1 bt245.2.2 t250 0)))))
theorem laws_FnIsIn.mono_l : ∀ k, (∀ y0 y1 y2 y3 y4, LeO (laws_FnIsIn.l0 k y0 y1 y2 y3 y4) (laws_FnIsIn.l0 (k + 1) y0 y1 y2 y3 y4)) ∧ (∀ y0 y1 y2 y3 y4 y5, LeO (laws_FnIsIn.j1 k y0 y1 y2 y3 y4 y5) (laws_FnIsIn.j1 (k + 1) y0 y1 y2 y3 y4 y5))
 | 0 => ⟨fun _ _ _ _ _ r h => by simp [laws_FnIsIn.l0] at h, fun _ _ _ _ _ _ r h => by simp [laws_FnIsIn.j1] at h⟩
 | k + 1 => by
  obtain ⟨ih0, ih1⟩ := laws_FnIsIn.mono_l k
  refine ⟨?_, ?_⟩
  ·
   intro y0 y1 y2 y3 y4
   unfold laws_FnIsIn.l0
   repeat' first
   | (with_reducible exact ih0 _ _ _ _ _)
   | (with_reducible exact ih1 _ _ _ _ _ _)
   | (with_reducible exact impl_IsIn.mono _ _ _ _)
   | (with_reducible exact laws_alive.mono _)
   | (with_reducible exact spec_DrawIsIn.mono _ _)
   | (with_reducible exact spec_IsIn.mono _ _ _ _)
   | (with_reducible exact LeO.refl _)
   | (with_reducible exact LeO.none _)
   | (with_reducible refine LeO.ite ?_ ?_)
   | (with_reducible refine LeO.bind ?_ (fun _ => ?_))
   | exact ih0 _ _ _ _ _
   | exact ih1 _ _ _ _ _ _
   | exact impl_IsIn.mono _ _ _ _
   | exact laws_alive.mono _
   | exact spec_DrawIsIn.mono _ _
   | exact spec_IsIn.mono _ _ _ _
   | exact LeO.none _
   | refine LeO.ite ?_ ?_
   | refine LeO.bind ?_ (fun _ => ?_)
  ·
   intro y0 y1 y2 y3 y4 y5
   unfold laws_FnIsIn.j1
   repeat' first
   | (with_reducible exact ih0 _ _ _ _ _)
   | (with_reducible exact ih1 _ _ _ _ _ _)
   | (with_reducible exact impl_IsIn.mono _ _ _ _)
   | (with_reducible exact laws_alive.mono _)
   | (with_reducible exact spec_DrawIsIn.mono _ _)
   | (with_reducible exact spec_IsIn.mono _ _ _ _)
   | (with_reducible exact LeO.refl _)
   | (with_reducible exact LeO.none _)
   | (with_reducible refine LeO.ite ?_ ?_)
   | (with_reducible refine LeO.bind ?_ (fun _ => ?_))
   | exact ih0 _ _ _ _ _
   | exact ih1 _ _ _ _ _ _
   | exact impl_IsIn.mono _ _ _ _
   | exact laws_alive.mono _
   | exact spec_DrawIsIn.mono _ _
   | exact spec_IsIn.mono _ _ _ _
   | exact LeO.none _
   | refine LeO.ite ?_ ?_
   | refine LeO.bind ?_ (fun _ => ?_)
theorem laws_FnIsIn.mono : ∀ a0 k, LeO (laws_FnIsIn.f k a0) (laws_FnIsIn.f (k + 1) a0) := by
 intro a0 k
 obtain ⟨ih0, ih1⟩ := laws_FnIsIn.mono_l k
 unfold laws_FnIsIn.f
 repeat' first
   | (with_reducible exact ih0 _ _ _ _ _)
   | (with_reducible exact ih1 _ _ _ _ _ _)
   | (with_reducible exact impl_IsIn.mono _ _ _ _)
   | (with_reducible exact laws_alive.mono _)
   | (with_reducible exact spec_DrawIsIn.mono _ _)
   | (with_reducible exact spec_IsIn.mono _ _ _ _)
   | (with_reducible exact LeO.refl _)
   | (with_reducible exact LeO.none _)
   | (with_reducible refine LeO.ite ?_ ?_)
   | (with_reducible refine LeO.bind ?_ (fun _ => ?_))
   | exact ih0 _ _ _ _ _
   | exact ih1 _ _ _ _ _ _
   | exact impl_IsIn.mono _ _ _ _
   | exact laws_alive.mono _
   | exact spec_DrawIsIn.mono _ _
   | exact spec_IsIn.mono _ _ _ _
   | exact LeO.none _
   | refine LeO.ite ?_ ?_
   | refine LeO.bind ?_ (fun _ => ?_)
set_option maxHeartbeats 8000000 in
set_option maxRecDepth 100000 in
theorem laws_FnIsIn.calls (k : Nat) (A0 : Option Addr) (c0 : Nat) (l0 : List Int) (r : Bool) (w : World) (hr0 : Kd.C (Kd.int .u8) w A0 l0.length l0) (hc0 : l0.length ≤ c0) (h : laws_FnIsIn.f k l0 = some r) :
  Calls Try.prog 3 #[.slice A0 l0.length c0] w fun e w' => e = .returned (.bool r) ∧ Below w.heap.size w w' := by
 have HR0 := Aside0.mk hr0
 have HC0 := Aside0.mk hc0
 clear hr0 hc0
 have HB := Aside0.mk (Below.refl w.heap.size w)
 have H : (if (l0.length : Int) > 1048576 then (some true) else ((spec_DrawIsIn.f k l0).bind fun bt245 => ((impl_IsIn.f k bt245.1 bt245.2.1 bt245.2.2).bind fun t250 => ((spec_IsIn.f k bt245.1 bt245.2.1 bt245.2.2).bind fun t251 => (if (t250 != t251) = true then (some false) else (laws_FnIsIn.l0 k bt245.1 bt245.2.1 bt245.2.2 t250 0)))))) = some r := h
 clear h
 by_cases c2 : (l0.length : Int) > 1048576
 ·
  rw [if_pos c2] at H; have c2b0 : decide (1048576 < (l0.length : Int)) = true := decide_eq_true c2
  have c2b1 : decide (1048576 < l0.length) = true := decide_eq_true (by omega)
  clear c2
  obtain rfl := Option.some.inj H
  go_enter Try.func3, Try.ntmps3
  go_wp2
  go_ret
  exact ⟨by first | rfl | (simp [errW_none, errW_some] <;> rfl) | (simp [*, errW_none, errW_some] <;> rfl), by exact bw HB.out⟩
 ·
  rw [if_neg c2] at H; have c2b0 : decide (1048576 < (l0.length : Int)) = false := decide_eq_false c2
  have c2b1 : decide (1048576 < l0.length) = false := decide_eq_false (by omega)
  clear c2
  replace H := Option.bind_eq_some_iff.mp H
  obtain ⟨⟨t245, t246, t247⟩, A30, H⟩ := H
  replace H : ((impl_IsIn.f k t245 t246 t247).bind fun t250 => ((spec_IsIn.f k t245 t246 t247).bind fun t251 => (if (t250 != t251) = true then (some false) else (laws_FnIsIn.l0 k t245 t246 t247 t250 0)))) = some r := H
  have A3 := Aside0.mk A30
  clear A30
  replace H := Option.bind_eq_some_iff.mp H
  obtain ⟨t250, A40, H⟩ := H
  replace H : ((spec_IsIn.f k t245 t246 t247).bind fun t251 => (if (t250 != t251) = true then (some false) else (laws_FnIsIn.l0 k t245 t246 t247 t250 0))) = some r := H
  have A4 := Aside0.mk A40
  clear A40
  replace H := Option.bind_eq_some_iff.mp H
  obtain ⟨t251, A50, H⟩ := H
  replace H : (if (t250 != t251) = true then (some false) else (laws_FnIsIn.l0 k t245 t246 t247 t250 0)) = some r := H
  have A5 := Aside0.mk A50
  clear A50
  have HC6 := Aside0.mk H
  clear H
  go_enter Try.func3, Try.ntmps3
  go_upto_if 26 with (first | ((with_reducible refine gate_callee (f := 8) rfl ?_); refine gl (some 13) Try.func8 #[.slice A0 l0.length c0] ?_; (with_reducible refine (spec_DrawIsIn.calls k _ _ l0 t245 t246 t247 _ ?side1 ?side2 A3.out).mono ?_); (case side1 => repeat (first | exact HR0.out | (with_reducible refine Kd.C_alloc ?_ _) | (with_reducible refine Kd.C_drewN ?_ _) | (with_reducible refine Kd.C_drew ?_))); (case side2 => exact HC0.out); rintro e w7 ⟨v248, rfl, ho0, hb⟩; refine ⟨_, rfl, ?_⟩; have HO249 := Aside0.mk (Kd.S_lower ho0 (below_size (by exact bw HB.out))); replace HB := bS HB hb; (try clear hb); (try clear hb2); (try clear hk); (try clear hi); (try clear ho0); obtain ⟨Ao8, co8, eo8⟩ := Kd.S_slice HO249.out; subst eo8) | ((with_reducible refine gate_callee (f := 9) rfl ?_); refine gl (some 20) Try.func9 #[.slice Ao8 t245.length co8, .int .i64 t246, .int .i64 t247] ?_; (with_reducible refine (impl_IsIn.calls k _ _ t245 t246 t247 t250 _ ?side1 ?side2 A4.out).mono ?_); (case side1 => repeat (first | exact (Kd.S_reads' HO249.out).2.2 | (with_reducible refine Kd.C_alloc ?_ _) | (with_reducible refine Kd.C_drewN ?_ _) | (with_reducible refine Kd.C_drew ?_))); (case side2 => exact (Kd.S_reads' HO249.out).2.1); rintro e w9 ⟨rfl, hb⟩; refine ⟨_, rfl, ?_⟩; replace HO249 := Aside0.mk (Kd.S_below (by exact Kd.xS HO249.out) hb); replace HB := bS HB hb; (try clear hb); (try clear hb2); (try clear hk); (try clear hi)) | ((with_reducible refine gate_callee (f := 10) rfl ?_); refine gl (some 25) Try.func10 #[.slice Ao8 t245.length co8, .int .i64 t246, .int .i64 t247] ?_; (with_reducible refine (spec_IsIn.calls k _ _ t245 t246 t247 t251 _ ?side1 ?side2 A5.out).mono ?_); (case side1 => repeat (first | exact (Kd.S_reads' HO249.out).2.2 | (with_reducible refine Kd.C_alloc ?_ _) | (with_reducible refine Kd.C_drewN ?_ _) | (with_reducible refine Kd.C_drew ?_))); (case side2 => exact (Kd.S_reads' HO249.out).2.1); rintro e w10 ⟨rfl, hb⟩; refine ⟨_, rfl, ?_⟩; replace HO249 := Aside0.mk (Kd.S_below (by exact Kd.xS HO249.out) hb); replace HB := bS HB hb; (try clear hb); (try clear hb2); (try clear hk); (try clear hi)))
  (try simp only [Act.put, List.setIfInBounds_toArray, List.set_cons_zero, List.set_cons_succ])
  have H := HC6.out
  clear HC6
  by_cases c11 : (t250 != t251) = true
  ·
   rw [if_pos c11] at H; have c11b0 : (t250 != t251) = true := c11
   (try (have c11b1 : decide (t250 = t251) = false := by simpa using c11))
   (try (have c11b2 : (t250 == t251) = false := by simpa using c11))
   (try (have c11b3 : ¬ (t250 = t251) := by simpa using c11))
   clear c11
   (first | rw [c11b0] | (simp only [i64_w, i32_w]; rw [c11b0]) | rw [c11b2] | rw [c11b1] | skip)
   obtain rfl := Option.some.inj H
   go_wp2
   go_ret
   exact ⟨by first | rfl | (simp [errW_none, errW_some] <;> rfl) | (simp [*, errW_none, errW_some] <;> rfl), by exact bw HB.out⟩
  ·
   rw [if_neg c11] at H; have c11b0 : (t250 != t251) = false := by simpa using c11
   (try (have c11b1 : decide (t250 = t251) = true := by simpa using c11))
   (try (have c11b2 : (t250 == t251) = true := by simpa using c11))
   clear c11
   (first | rw [c11b0] | (simp only [i64_w, i32_w]; rw [c11b0]) | rw [c11b2] | rw [c11b1] | skip)
   have H' := Aside0.mk H
   clear H
   go_wp2
   go_loopg [7] k (fun kq v7 w' => ∃ (x7_1 : Int), v7 = .int .i64 x7_1 ∧ Aside0 (laws_FnIsIn.l0 kq t245 t246 t247 t250 x7_1 = some r) ∧ Aside0 (kq ≤ k) ∧ Aside0 (Kd.S k74 74 w' w.heap.size (fun _ => True) (.slice Ao8 t245.length co8) t245) ∧ Aside0 (Below w.heap.size w w'))
   case atStart => exact ⟨(0), (by first | rfl | (simp; done) | (simp [*]; done)), H', ⟨Nat.le_refl _⟩, ⟨by exact Kd.xS HO249.out⟩, ⟨by exact bw HB.out⟩⟩
   case round =>
    clear H'
    try clear c1
    try clear c2
    try clear c2b0
    try clear c2b1
    try clear p2
    try clear c3
    try clear c8
    try clear c9
    try clear c10
    try clear c11
    try clear c11b0
    try clear c11b1
    try clear c11b2
    obtain ⟨x7_1, rfl, HA, HK1, HO_3, HB⟩ := hrel
    cases gk with
    | zero => exact absurd HA.out (by simp [laws_FnIsIn.l0])
    | succ k1 =>
     have H := HA.out
     clear HA
     simp only [laws_FnIsIn.l0] at H
     have HC12 := Aside0.mk H
     clear H
     go_upto_region 8 with (fail)
     go_cut [33] (fun v33 wc => ∃ (kq : Nat) (x33_11 : Bool), v33 = .bool x33_11 ∧ Aside0 (laws_FnIsIn.j1 kq t245 t246 t247 t250 x7_1 x33_11 = some r) ∧ Aside0 (kq ≤ k1) ∧ Aside0 (Kd.S k74 74 wc w.heap.size (fun _ => True) (.slice Ao8 t245.length co8) t245) ∧ Aside0 (Below w.heap.size w wc))
     case first =>
      have H := HC12.out
      clear HC12
      by_cases c13 : x7_1 < (t245.length : Int)
      ·
       rw [if_pos c13] at H; have c13b0 : decide (x7_1 < (t245.length : Int)) = true := decide_eq_true c13; clear c13
       (first | rw [c13b0] | (simp only [i64_w, i32_w]; rw [c13b0]) | rw [c13b2] | rw [c13b1] | skip)
       have H' := Aside0.mk H
       clear H
       go_wp2
       go_meet
       case rel => exact ⟨_, (t250), (by first | rfl | (simp; done) | (simp [*]; done)), H', ⟨by have := HK1.out; first | omega | exact Nat.le_refl _⟩, ⟨by exact Kd.xS HO_3.out⟩, ⟨by exact bw HB.out⟩⟩
      ·
       rw [if_neg c13] at H; have c13b0 : decide (x7_1 < (t245.length : Int)) = false := decide_eq_false c13; clear c13
       (first | rw [c13b0] | (simp only [i64_w, i32_w]; rw [c13b0]) | rw [c13b2] | rw [c13b1] | skip)
       have H' := Aside0.mk H
       clear H
       go_wp2
       go_meet
       case rel => exact ⟨_, (false), (by first | rfl | (simp; done) | (simp [*]; done)), H', ⟨by have := HK1.out; first | omega | exact Nat.le_refl _⟩, ⟨by exact Kd.xS HO_3.out⟩, ⟨by exact bw HB.out⟩⟩
     case rest =>
      clear HC12
      try clear c1
      try clear c2
      try clear c2b0
      try clear c2b1
      try clear p2
      try clear c3
      try clear c8
      try clear c9
      try clear c10
      try clear c11
      try clear c11b0
      try clear c11b1
      try clear c11b2
      try clear c13
      try clear c13b0
      try clear c13b1
      try clear c13b2
      try clear p2
      obtain ⟨kq, x33_11, rfl, HA, HJ11, HO_3, HB⟩ := hcut
      cases kq with
      | zero => exact absurd HA.out (by simp [laws_FnIsIn.j1])
      | succ kj11 =>
       have H := HA.out
       clear HA
       simp only [laws_FnIsIn.j1] at H
       by_cases c14 : x33_11 = true
       ·
        subst c14
        have H1 : ((impl_IsIn.f kj11 t245 t247 x7_1).bind fun t255 => (if t255 = true then ((impl_IsIn.f kj11 t245 t246 x7_1).bind fun t256 => (if t256 = true then (laws_FnIsIn.l0 kj11 t245 t246 t247 t250 (wrap64 (x7_1 + 1))) else (some false))) else (laws_FnIsIn.l0 kj11 t245 t246 t247 t250 (wrap64 (x7_1 + 1))))) = some r := by rw [if_pos rfl] at H; exact H
        clear H
        have H := H1
        clear H1
        replace H := Option.bind_eq_some_iff.mp H
        obtain ⟨t255, A150, H⟩ := H
        replace H : (if t255 = true then ((impl_IsIn.f kj11 t245 t246 x7_1).bind fun t256 => (if t256 = true then (laws_FnIsIn.l0 kj11 t245 t246 t247 t250 (wrap64 (x7_1 + 1))) else (some false))) else (laws_FnIsIn.l0 kj11 t245 t246 t247 t250 (wrap64 (x7_1 + 1)))) = some r := H
        have A15 := Aside0.mk A150
        clear A150
        by_cases c16 : t255 = true
        ·
         subst c16
         have H1 : ((impl_IsIn.f kj11 t245 t246 x7_1).bind fun t256 => (if t256 = true then (laws_FnIsIn.l0 kj11 t245 t246 t247 t250 (wrap64 (x7_1 + 1))) else (some false))) = some r := by rw [if_pos rfl] at H; exact H
         clear H
         have H := H1
         clear H1
         replace H := Option.bind_eq_some_iff.mp H
         obtain ⟨t256, A170, H⟩ := H
         replace H : (if t256 = true then (laws_FnIsIn.l0 kj11 t245 t246 t247 t250 (wrap64 (x7_1 + 1))) else (some false)) = some r := H
         have A17 := Aside0.mk A170
         clear A170
         have HC18 := Aside0.mk H
         clear H
         go_upto_if 46 with (first | ((with_reducible refine gate_callee (f := 9) rfl ?_); refine gl (some 39) Try.func9 #[.slice Ao8 t245.length co8, .int .i64 t247, .int .i64 x7_1] ?_; (with_reducible refine (impl_IsIn.calls kj11 _ _ t245 t247 x7_1 true _ ?side1 ?side2 A15.out).mono ?_); (case side1 => repeat (first | exact (Kd.S_reads' HO_3.out).2.2 | (with_reducible refine Kd.C_alloc ?_ _) | (with_reducible refine Kd.C_drewN ?_ _) | (with_reducible refine Kd.C_drew ?_))); (case side2 => exact (Kd.S_reads' HO_3.out).2.1); rintro e w19 ⟨rfl, hb⟩; refine ⟨_, rfl, ?_⟩; replace HO_3 := Aside0.mk (Kd.S_below (by exact Kd.xS HO_3.out) hb); replace HB := bS HB hb; (try clear hb); (try clear hb2); (try clear hk); (try clear hi)) | (go_at_call 9; (with_reducible refine (impl_IsIn.calls kj11 _ _ t245 t246 x7_1 t256 _ ?side1 ?side2 A17.out).mono ?_); (case side1 => repeat (first | exact (Kd.S_reads' HO_3.out).2.2 | (with_reducible refine Kd.C_alloc ?_ _) | (with_reducible refine Kd.C_drewN ?_ _) | (with_reducible refine Kd.C_drew ?_))); (case side2 => exact (Kd.S_reads' HO_3.out).2.1); rintro e w20 ⟨rfl, hb⟩; have n0_ := Aside0.mk (Kd.S_below (by exact Kd.xS HO_3.out) hb); have n1_ := bS HB hb; clear HO_3; clear HB; have HO_3 := n0_; have HB := n1_; clear n0_ n1_; (try clear hb); (try clear hb2); (try clear hk); (try clear hi)))
         (try simp only [Act.put, List.setIfInBounds_toArray, List.set_cons_zero, List.set_cons_succ])
         have H := HC18.out
         clear HC18
         by_cases c21 : t256 = true
         ·
          subst c21
          have H1 : (laws_FnIsIn.l0 kj11 t245 t246 t247 t250 (wrap64 (x7_1 + 1))) = some r := by rw [if_pos rfl] at H; exact H
          clear H
          have H := H1
          clear H1
          have H' := Aside0.mk H
          clear H
          go_wp2
          go_roundg kj11
          case measure => have := HK1.out; have := HJ11.out; omega
          case rel => exact ⟨(wrap64 (x7_1 + 1)), (by first | rfl | (simp; done) | (simp [*]; done)), H', ⟨by have := HK1.out; have := HJ11.out; omega⟩, ⟨by exact Kd.xS HO_3.out⟩, ⟨by exact bw HB.out⟩⟩
         ·
          replace c21 := Bool.eq_false_iff.mpr c21
          subst c21
          have H1 : (some false) = some r := by rw [if_neg (show ¬ (false = true) by decide)] at H; exact H
          clear H
          have H := H1
          clear H1
          obtain rfl := Option.some.inj H
          go_wp2
          go_ret
          exact ⟨by first | rfl | (simp [errW_none, errW_some] <;> rfl) | (simp [*, errW_none, errW_some] <;> rfl), by exact bw HB.out⟩
        ·
         replace c16 := Bool.eq_false_iff.mpr c16
         subst c16
         have H1 : (laws_FnIsIn.l0 kj11 t245 t246 t247 t250 (wrap64 (x7_1 + 1))) = some r := by rw [if_neg (show ¬ (false = true) by decide)] at H; exact H
         clear H
         have H := H1
         clear H1
         have H' := Aside0.mk H
         clear H
         go_wp2_with (first | ((with_reducible refine gate_callee (f := 9) rfl ?_); refine gl (some 39) Try.func9 #[.slice Ao8 t245.length co8, .int .i64 t247, .int .i64 x7_1] ?_; (with_reducible refine (impl_IsIn.calls kj11 _ _ t245 t247 x7_1 false _ ?side1 ?side2 A15.out).mono ?_); (case side1 => repeat (first | exact (Kd.S_reads' HO_3.out).2.2 | (with_reducible refine Kd.C_alloc ?_ _) | (with_reducible refine Kd.C_drewN ?_ _) | (with_reducible refine Kd.C_drew ?_))); (case side2 => exact (Kd.S_reads' HO_3.out).2.1); rintro e w22 ⟨rfl, hb⟩; refine ⟨_, rfl, ?_⟩; replace HO_3 := Aside0.mk (Kd.S_below (by exact Kd.xS HO_3.out) hb); replace HB := bS HB hb; (try clear hb); (try clear hb2); (try clear hk); (try clear hi)))
         go_roundg kj11
         case measure => have := HK1.out; have := HJ11.out; omega
         case rel => exact ⟨(wrap64 (x7_1 + 1)), (by first | rfl | (simp; done) | (simp [*]; done)), H', ⟨by have := HK1.out; have := HJ11.out; omega⟩, ⟨by exact Kd.xS HO_3.out⟩, ⟨by exact bw HB.out⟩⟩
       ·
        replace c14 := Bool.eq_false_iff.mpr c14
        subst c14
        have H1 : (if t250 = true then (if t247 ≤ t246 then ((impl_IsIn.f kj11 t245 t246 t246).bind fun t252 => (if t252 = true then ((laws_alive.f kj11).bind fun t253 => (some t253)) else (some false))) else (some false)) else ((laws_alive.f kj11).bind fun t254 => (some t254))) = some r := by rw [if_neg (show ¬ (false = true) by decide)] at H; exact H
        clear H
        have H := H1
        clear H1
        by_cases c23 : t250 = true
        ·
         subst c23
         have H1 : (if t247 ≤ t246 then ((impl_IsIn.f kj11 t245 t246 t246).bind fun t252 => (if t252 = true then ((laws_alive.f kj11).bind fun t253 => (some t253)) else (some false))) else (some false)) = some r := by rw [if_pos rfl] at H; exact H
         clear H
         have H := H1
         clear H1
         by_cases c24 : t247 ≤ t246
         ·
          rw [if_pos c24] at H; have c24b0 : decide (t247 ≤ t246) = true := decide_eq_true c24; clear c24
          replace H := Option.bind_eq_some_iff.mp H
          obtain ⟨t252, A250, H⟩ := H
          replace H : (if t252 = true then ((laws_alive.f kj11).bind fun t253 => (some t253)) else (some false)) = some r := H
          have A25 := Aside0.mk A250
          clear A250
          by_cases c26 : t252 = true
          ·
           subst c26
           have H1 : ((laws_alive.f kj11).bind fun t253 => (some t253)) = some r := by rw [if_pos rfl] at H; exact H
           clear H
           have H := H1
           clear H1
           replace H := Option.bind_eq_some_iff.mp H
           obtain ⟨t253, A270, H⟩ := H
           replace H : (some t253) = some r := H
           have A27 := Aside0.mk A270
           clear A270
           obtain rfl := Option.some.inj H
           go_wp2_with (first | (go_at_call 9; (with_reducible refine (impl_IsIn.calls kj11 _ _ t245 t246 t246 true _ ?side1 ?side2 A25.out).mono ?_); (case side1 => repeat (first | exact (Kd.S_reads' HO_3.out).2.2 | (with_reducible refine Kd.C_alloc ?_ _) | (with_reducible refine Kd.C_drewN ?_ _) | (with_reducible refine Kd.C_drew ?_))); (case side2 => exact (Kd.S_reads' HO_3.out).2.1); rintro e w28 ⟨rfl, hb⟩; have n0_ := Aside0.mk (Kd.S_below (by exact Kd.xS HO_3.out) hb); have n1_ := bS HB hb; clear HO_3; clear HB; have HO_3 := n0_; have HB := n1_; clear n0_ n1_; (try clear hb); (try clear hb2); (try clear hk); (try clear hi)) | (go_at_call 11; (with_reducible refine (laws_alive.calls kj11  t253 _ A27.out).mono ?_); rintro e w' ⟨rfl, ⟨nd, rfl⟩⟩))
           go_ret
           exact ⟨by first | rfl | (simp [errW_none, errW_some] <;> rfl) | (simp [*, errW_none, errW_some] <;> rfl), by exact bw HB.out⟩
          ·
           replace c26 := Bool.eq_false_iff.mpr c26
           subst c26
           have H1 : (some false) = some r := by rw [if_neg (show ¬ (false = true) by decide)] at H; exact H
           clear H
           have H := H1
           clear H1
           obtain rfl := Option.some.inj H
           go_wp2_with (first | (go_at_call 9; (with_reducible refine (impl_IsIn.calls kj11 _ _ t245 t246 t246 false _ ?side1 ?side2 A25.out).mono ?_); (case side1 => repeat (first | exact (Kd.S_reads' HO_3.out).2.2 | (with_reducible refine Kd.C_alloc ?_ _) | (with_reducible refine Kd.C_drewN ?_ _) | (with_reducible refine Kd.C_drew ?_))); (case side2 => exact (Kd.S_reads' HO_3.out).2.1); rintro e w29 ⟨rfl, hb⟩; have n0_ := Aside0.mk (Kd.S_below (by exact Kd.xS HO_3.out) hb); have n1_ := bS HB hb; clear HO_3; clear HB; have HO_3 := n0_; have HB := n1_; clear n0_ n1_; (try clear hb); (try clear hb2); (try clear hk); (try clear hi)))
           go_ret
           exact ⟨by first | rfl | (simp [errW_none, errW_some] <;> rfl) | (simp [*, errW_none, errW_some] <;> rfl), by exact bw HB.out⟩
         ·
          rw [if_neg c24] at H; have c24b0 : decide (t247 ≤ t246) = false := decide_eq_false c24; clear c24
          obtain rfl := Option.some.inj H
          go_wp2
          go_ret
          exact ⟨by first | rfl | (simp [errW_none, errW_some] <;> rfl) | (simp [*, errW_none, errW_some] <;> rfl), by exact bw HB.out⟩
        ·
         replace c23 := Bool.eq_false_iff.mpr c23
         subst c23
         have H1 : ((laws_alive.f kj11).bind fun t254 => (some t254)) = some r := by rw [if_neg (show ¬ (false = true) by decide)] at H; exact H
         clear H
         have H := H1
         clear H1
         replace H := Option.bind_eq_some_iff.mp H
         obtain ⟨t254, A300, H⟩ := H
         replace H : (some t254) = some r := H
         have A30 := Aside0.mk A300
         clear A300
         obtain rfl := Option.some.inj H
         go_wp2_with (first | (go_at_call 11; (with_reducible refine (laws_alive.calls kj11  t254 _ A30.out).mono ?_); rintro e w' ⟨rfl, ⟨nd, rfl⟩⟩))
         go_ret
         exact ⟨by first | rfl | (simp [errW_none, errW_some] <;> rfl) | (simp [*, errW_none, errW_some] <;> rfl), by exact bw HB.out⟩

/-- THE ONE PURE STATEMENT of laws_FnIsIn: yours. -/
def laws_FnIsIn.Pure : Prop := ∀ (l0 : List Int), l0.length ≤ maxLen → l0.length * 1 ≤ 140737488351232 → (∀ x ∈ l0, (Lit.int .u8 x).wf = true) → ∃ k, laws_FnIsIn.f k l0 = some true
theorem laws_FnIsIn.walk (P : laws_FnIsIn.Pure) (a0 : Option Addr) (len0 cap0 : Nat) (z0 : List Int) (w : World) (w0 : (a0 = none ∧ len0 = 0 ∧ cap0 = 0 ∧ z0 = []) ∨ ∃ x, a0 = some x ∧ len0 ≤ cap0 ∧ cap0 ≤ maxLen ∧ z0.length = cap0 ∧ (∀ i, i < z0.length → w.cell? (x.add i) = some (.int .u8 (z0.getD i 0))) ∧ ∀ n ∈ z0, (Lit.int .u8 n).wf = true) (y0 : len0 * 1 ≤ 140737488351232) :
  Calls Try.prog 3 #[.slice a0 len0 cap0] w fun e w' => e = .returned (.bool true) ∧ Below w.heap.size w w' := by
 obtain ⟨l0, rfl, hr0, hm0, hw0, hc0⟩ := ReadsInt.ofRowC w0
 obtain ⟨k, h⟩ := P l0 hm0 y0 hw0
 refine (laws_FnIsIn.calls k _ _ l0 true w (Kd.C_of_reads (d := (0 : Int)) (h1 := fun _ => rfl) hr0) hc0 h).mono ?_
 rintro e w' ⟨rfl, hd⟩
 exact ⟨rfl, hd⟩

end Go.Proofs.Ytoipfhdlgoaldaa.P
