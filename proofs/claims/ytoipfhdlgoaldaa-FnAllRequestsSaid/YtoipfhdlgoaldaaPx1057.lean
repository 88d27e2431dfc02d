-- Written by a program of this session (wip/tool).
import Derived.Shelf.Abstract
import Derived.Test.YtoipfhdlgoaldaaPx0
import Derived.Test.YtoipfhdlgoaldaaPx1008
import Derived.Test.YtoipfhdlgoaldaaPx1047
namespace Go.Proofs.Ytoipfhdlgoaldaa.P
open Go.RowKit Go.Proofs.YtoipfhdlgoaldaaW.PrintWords Go.Proofs.YtoipfhdlgoaldaaW.PrintLast Go.Proofs.YtoipfhdlgoaldaaW.PrintMore
attribute [local go_sem] max2_int min2_int max_two min_two max_three min_three max_four min_four   -- for this text's walks alone
set_option linter.unusedVariables false
set_option linter.unusedSimpArgs false

/-! ### impl_ascends: function 57 -/
def impl_ascends.l0 : Nat → Int → Int → List Int → Int → Int → Option (Bool)
 | 0, _, _, _, _, _ => none
 | k + 1, x1, x2, x9, x10, x11 => if x11 < x10 then (if 0 ≤ x11 then (if x11 < (x9.length : Int) then ((impl_in.f (rd x9 x11) x1 x2).bind fun t206 => (if t206 = true then (impl_ascends.l0 k (wrap64 ((rd x9 x11) + 1)) x2 x9 x10 (wrap64 (x11 + 1))) else (some false))) else (none)) else (none)) else (some true)
def impl_ascends.f (k : Nat) (l0 : List Int) (a1 : Int) (a2 : Int) : Option (Bool) := impl_ascends.l0 k a1 a2 l0 (l0.length : Int) 0
theorem impl_ascends.mono_l : ∀ k, (∀ y0 y1 y2 y3 y4, LeO (impl_ascends.l0 k y0 y1 y2 y3 y4) (impl_ascends.l0 (k + 1) y0 y1 y2 y3 y4))
 | 0 => fun _ _ _ _ _ r h => by simp [impl_ascends.l0] at h
 | k + 1 => by
  have ih0 := impl_ascends.mono_l k
  ·
   intro y0 y1 y2 y3 y4
   unfold impl_ascends.l0
   repeat' first
   | (with_reducible exact ih0 _ _ _ _ _)
   | (with_reducible exact LeO.refl _)
   | (with_reducible exact LeO.none _)
   | (with_reducible refine LeO.ite ?_ ?_)
   | (with_reducible refine LeO.bind ?_ (fun _ => ?_))
   | exact ih0 _ _ _ _ _
   | exact LeO.none _
   | refine LeO.ite ?_ ?_
   | refine LeO.bind ?_ (fun _ => ?_)
theorem impl_ascends.mono : ∀ a0 a1 a2 k, LeO (impl_ascends.f k a0 a1 a2) (impl_ascends.f (k + 1) a0 a1 a2) := by
 intro a0 a1 a2 k
 have ih0 := impl_ascends.mono_l k
 unfold impl_ascends.f
 repeat' first
   | (with_reducible exact ih0 _ _ _ _ _)
   | (with_reducible exact LeO.refl _)
   | (with_reducible exact LeO.none _)
   | (with_reducible refine LeO.ite ?_ ?_)
   | (with_reducible refine LeO.bind ?_ (fun _ => ?_))
   | exact ih0 _ _ _ _ _
   | exact LeO.none _
   | refine LeO.ite ?_ ?_
   | refine LeO.bind ?_ (fun _ => ?_)
set_option maxHeartbeats 8000000 in
set_option maxRecDepth 100000 in
theorem impl_ascends.calls (k : Nat) (A0 : Option Addr) (c0 : Nat) (l0 : List Int) (a1 : Int) (a2 : Int) (r : Bool) (w : World) (hr0 : Kd.C (Kd.int .i64) w A0 l0.length l0) (hc0 : l0.length ≤ c0) (h : impl_ascends.f k l0 a1 a2 = some r) :
  Calls Try.prog 57 #[.slice A0 l0.length c0, .int .i64 a1, .int .i64 a2] w fun e w' => e = .returned (.bool r) ∧ Drawn0 w w' := by
 have HR0 := Aside0.mk hr0
 have HC0 := Aside0.mk hc0
 clear hr0 hc0
 have H : (impl_ascends.l0 k a1 a2 l0 (l0.length : Int) 0) = some r := h
 clear h
 have H' := Aside0.mk H
 clear H
 go_enter Try.func57, Try.ntmps57
 go_wp2
 go_loopg [1, 11] k (fun kq v1 v11 w' => ∃ (x1_1 : Int) (x11_1 : Int), v1 = .int .i64 x1_1 ∧ v11 = .int .i64 x11_1 ∧ Aside0 (impl_ascends.l0 kq x1_1 a2 l0 (l0.length : Int) x11_1 = some r) ∧ Aside0 (kq ≤ k) ∧ Drawn0 w w')
 case atStart => exact ⟨(a1), (0), (by first | rfl | (simp; done) | (simp [*]; done)), (by first | rfl | (simp; done) | (simp [*]; done)), H', ⟨Nat.le_refl _⟩, by repeat (first | exact Drawn0.refl _ | apply Drawn0.step)⟩
 case round =>
  clear H'
  try clear p2
  obtain ⟨x1_1, x11_1, rfl, rfl, HA, HK1, ⟨m1, rfl⟩⟩ := hrel
  cases gk with
  | zero => exact absurd HA.out (by simp [impl_ascends.l0])
  | succ k1 =>
   have H := HA.out
   clear HA
   simp only [impl_ascends.l0] at H
   by_cases c4 : x11_1 < (l0.length : Int)
   ·
    rw [if_pos c4] at H; have c4b0 : decide (x11_1 < (l0.length : Int)) = true := decide_eq_true c4; clear c4
    by_cases c5 : 0 ≤ x11_1
    ·
     rw [if_pos c5] at H; have c5b0 : decide (0 ≤ x11_1) = true := decide_eq_true c5; clear c5
     by_cases c6 : x11_1 < (l0.length : Int)
     ·
      rw [if_pos c6] at H; have c6b0 : decide (x11_1 < (l0.length : Int)) = true := decide_eq_true c6; clear c6
      replace H := Option.bind_eq_some_iff.mp H
      obtain ⟨t206, A70, H⟩ := H
      replace H : (if t206 = true then (impl_ascends.l0 k1 (wrap64 ((rd l0 x11_1) + 1)) a2 l0 (l0.length : Int) (wrap64 (x11_1 + 1))) else (some false)) = some r := H
      have A7 := Aside0.mk A70
      clear A70
      by_cases c8 : t206 = true
      ·
       subst c8
       have H1 : (impl_ascends.l0 k1 (wrap64 ((rd l0 x11_1) + 1)) a2 l0 (l0.length : Int) (wrap64 (x11_1 + 1))) = some r := by rw [if_pos rfl] at H; exact H
       clear H
       have H := H1
       clear H1
       have H' := Aside0.mk H
       clear H
       have p205 : 0 ≤ (x11_1 : Int) := of_decide_eq_true (by first | (with_reducible assumption) | assumption)
       have q205 : x11_1 < (l0.length : Int) := of_decide_eq_true (by first | (with_reducible assumption) | assumption)
       obtain ⟨ad205, e205, hx205_0⟩ := Kd.at_int HR0.out x11_1 p205 q205
       cases e205
       replace p205 := eq_true p205
       replace q205 := eq_true q205
       go_wp2_with (first | ((with_reducible refine gate_callee (f := 54) rfl ?_); refine gl (some 18) Try.func54 #[.int .i64 (rd l0 x11_1), .int .i64 x1_1, .int .i64 a2] ?_; (with_reducible refine (impl_in.calls (rd l0 x11_1) x1_1 a2 true _ A7.out).mono ?_); rintro e w' ⟨rfl, ⟨nd, rfl⟩⟩; refine ⟨_, rfl, ?_⟩))
       go_roundg k1
       case measure => have := HK1.out; omega
       case rel => exact ⟨(wrap64 ((rd l0 x11_1) + 1)), (wrap64 (x11_1 + 1)), (by first | rfl | (simp; done) | (simp [*]; done)), (by first | rfl | (simp; done) | (simp [*]; done)), H', ⟨by have := HK1.out; omega⟩, by repeat (first | exact Drawn0.refl _ | apply Drawn0.step)⟩
      ·
       replace c8 := Bool.eq_false_iff.mpr c8
       subst c8
       have H1 : (some false) = some r := by rw [if_neg (show ¬ (false = true) by decide)] at H; exact H
       clear H
       have H := H1
       clear H1
       obtain rfl := Option.some.inj H
       have p205 : 0 ≤ (x11_1 : Int) := of_decide_eq_true (by first | (with_reducible assumption) | assumption)
       have q205 : x11_1 < (l0.length : Int) := of_decide_eq_true (by first | (with_reducible assumption) | assumption)
       obtain ⟨ad205, e205, hx205_0⟩ := Kd.at_int HR0.out x11_1 p205 q205
       cases e205
       replace p205 := eq_true p205
       replace q205 := eq_true q205
       go_wp2_with (first | ((with_reducible refine gate_callee (f := 54) rfl ?_); refine gl (some 18) Try.func54 #[.int .i64 (rd l0 x11_1), .int .i64 x1_1, .int .i64 a2] ?_; (with_reducible refine (impl_in.calls (rd l0 x11_1) x1_1 a2 false _ A7.out).mono ?_); rintro e w' ⟨rfl, ⟨nd, rfl⟩⟩; refine ⟨_, rfl, ?_⟩))
       go_ret
       exact ⟨by first | rfl | (simp; done) | (simp [*]; done), by repeat (first | exact Drawn0.refl _ | apply Drawn0.step)⟩
     ·
      rw [if_neg c6] at H; exact absurd H (by simp)
    ·
     rw [if_neg c5] at H; exact absurd H (by simp)
   ·
    rw [if_neg c4] at H; have c4b0 : decide (x11_1 < (l0.length : Int)) = false := decide_eq_false c4; clear c4
    obtain rfl := Option.some.inj H
    go_wp2
    go_ret
    exact ⟨by first | rfl | (simp; done) | (simp [*]; done), by repeat (first | exact Drawn0.refl _ | apply Drawn0.step)⟩

/-! ### impl_WorldValid: function 34 -/
def impl_WorldValid.l0 : Nat → List (S74) → List (S74) → Int → Int → Option (Bool)
 | 0, _, _, _, _ => none
 | k + 1, x0, x8, x9, x10 => if x10 < x9 then (if 0 ≤ x10 then (if x10 < (x8.length : Int) then ((impl_ascends.f k ((rd_T74 x8 x10).f0) 0 (wrap64 (x10 - 1))).bind fun t209 => (if t209 = true then ((impl_fieldsValid.f k ((rd_T74 x8 x10).f1) (x0.length : Int)).bind fun t210 => (if t210 = true then (impl_WorldValid.l0 k x0 x8 x9 (wrap64 (x10 + 1))) else (some false))) else (some false))) else (none)) else (none)) else (some true)
def impl_WorldValid.f (k : Nat) (l0 : List (S74)) : Option (Bool) := if (l0.length : Int) > 7 then (some false) else (impl_WorldValid.l0 k l0 l0 (l0.length : Int) 0)
theorem impl_WorldValid.mono_l : ∀ k, (∀ y0 y1 y2 y3, LeO (impl_WorldValid.l0 k y0 y1 y2 y3) (impl_WorldValid.l0 (k + 1) y0 y1 y2 y3))
 | 0 => fun _ _ _ _ r h => by simp [impl_WorldValid.l0] at h
 | k + 1 => by
  have ih0 := impl_WorldValid.mono_l k
  ·
   intro y0 y1 y2 y3
   unfold impl_WorldValid.l0
   repeat' first
   | (with_reducible exact ih0 _ _ _ _)
   | (with_reducible exact impl_ascends.mono _ _ _ _)
   | (with_reducible exact impl_fieldsValid.mono _ _ _)
   | (with_reducible exact LeO.refl _)
   | (with_reducible exact LeO.none _)
   | (with_reducible refine LeO.ite ?_ ?_)
   | (with_reducible refine LeO.bind ?_ (fun _ => ?_))
   | exact ih0 _ _ _ _
   | exact impl_ascends.mono _ _ _ _
   | exact impl_fieldsValid.mono _ _ _
   | exact LeO.none _
   | refine LeO.ite ?_ ?_
   | refine LeO.bind ?_ (fun _ => ?_)
theorem impl_WorldValid.mono : ∀ a0 k, LeO (impl_WorldValid.f k a0) (impl_WorldValid.f (k + 1) a0) := by
 intro a0 k
 have ih0 := impl_WorldValid.mono_l k
 unfold impl_WorldValid.f
 repeat' first
   | (with_reducible exact ih0 _ _ _ _)
   | (with_reducible exact impl_ascends.mono _ _ _ _)
   | (with_reducible exact impl_fieldsValid.mono _ _ _)
   | (with_reducible exact LeO.refl _)
   | (with_reducible exact LeO.none _)
   | (with_reducible refine LeO.ite ?_ ?_)
   | (with_reducible refine LeO.bind ?_ (fun _ => ?_))
   | exact ih0 _ _ _ _
   | exact impl_ascends.mono _ _ _ _
   | exact impl_fieldsValid.mono _ _ _
   | exact LeO.none _
   | refine LeO.ite ?_ ?_
   | refine LeO.bind ?_ (fun _ => ?_)
set_option maxHeartbeats 8000000 in
set_option maxRecDepth 100000 in
theorem impl_WorldValid.calls (k : Nat) (A0 : Option Addr) (c0 : Nat) (l0 : List (S74)) (r : Bool) (w : World) (hr0 : Kd.C k74 w A0 l0.length l0) (hc0 : l0.length ≤ c0) (h : impl_WorldValid.f k l0 = some r) :
  Calls Try.prog 34 #[.slice A0 l0.length c0] w fun e w' => e = .returned (.bool r) ∧ Below w.heap.size w w' := by
 have hu74 := Try.underlying74
 have HR0 := Aside0.mk hr0
 have HC0 := Aside0.mk hc0
 clear hr0 hc0
 have HB := Aside0.mk (Below.refl w.heap.size w)
 have H : (if (l0.length : Int) > 7 then (some false) else (impl_WorldValid.l0 k l0 l0 (l0.length : Int) 0)) = some r := h
 clear h
 by_cases c2 : (l0.length : Int) > 7
 ·
  rw [if_pos c2] at H; have c2b0 : decide (7 < (l0.length : Int)) = true := decide_eq_true c2
  have c2b1 : decide (7 < l0.length) = true := decide_eq_true (by omega)
  clear c2
  obtain rfl := Option.some.inj H
  go_enter Try.func34, Try.ntmps34
  go_wp2
  go_ret
  exact ⟨by first | rfl | (simp [errW_none, errW_some] <;> rfl) | (simp [*, errW_none, errW_some] <;> rfl), by exact bw HB.out⟩
 ·
  rw [if_neg c2] at H; have c2b0 : decide (7 < (l0.length : Int)) = false := decide_eq_false c2
  have c2b1 : decide (7 < l0.length) = false := decide_eq_false (by omega)
  clear c2
  have H' := Aside0.mk H
  clear H
  go_enter Try.func34, Try.ntmps34
  go_wp2
  go_loopg [10] k (fun kq v10 w' => ∃ (x10_1 : Int), v10 = .int .i64 x10_1 ∧ Aside0 (impl_WorldValid.l0 kq l0 l0 (l0.length : Int) x10_1 = some r) ∧ Aside0 (kq ≤ k) ∧ Aside0 (Below w.heap.size w w'))
  case atStart => exact ⟨(0), (by first | rfl | (simp; done) | (simp [*]; done)), H', ⟨Nat.le_refl _⟩, ⟨by exact bw HB.out⟩⟩
  case round =>
   clear H'
   try clear c2
   try clear c2b0
   try clear c2b1
   try clear p2
   obtain ⟨x10_1, rfl, HA, HK1, HB⟩ := hrel
   cases gk with
   | zero => exact absurd HA.out (by simp [impl_WorldValid.l0])
   | succ k1 =>
    have H := HA.out
    clear HA
    simp only [impl_WorldValid.l0] at H
    by_cases c3 : x10_1 < (l0.length : Int)
    ·
     rw [if_pos c3] at H; have c3b0 : decide (x10_1 < (l0.length : Int)) = true := decide_eq_true c3; clear c3
     by_cases c4 : 0 ≤ x10_1
     ·
      rw [if_pos c4] at H; have c4b0 : decide (0 ≤ x10_1) = true := decide_eq_true c4; clear c4
      by_cases c5 : x10_1 < (l0.length : Int)
      ·
       rw [if_pos c5] at H; have c5b0 : decide (x10_1 < (l0.length : Int)) = true := decide_eq_true c5; clear c5
       replace H := Option.bind_eq_some_iff.mp H
       obtain ⟨t209, A60, H⟩ := H
       replace H : (if t209 = true then ((impl_fieldsValid.f k1 ((rd_T74 l0 x10_1).f1) (l0.length : Int)).bind fun t210 => (if t210 = true then (impl_WorldValid.l0 k1 l0 l0 (l0.length : Int) (wrap64 (x10_1 + 1))) else (some false))) else (some false)) = some r := H
       have A6 := Aside0.mk A60
       clear A60
       by_cases c7 : t209 = true
       ·
        subst c7
        have H1 : ((impl_fieldsValid.f k1 ((rd_T74 l0 x10_1).f1) (l0.length : Int)).bind fun t210 => (if t210 = true then (impl_WorldValid.l0 k1 l0 l0 (l0.length : Int) (wrap64 (x10_1 + 1))) else (some false))) = some r := by rw [if_pos rfl] at H; exact H
        clear H
        have H := H1
        clear H1
        replace H := Option.bind_eq_some_iff.mp H
        obtain ⟨t210, A80, H⟩ := H
        replace H : (if t210 = true then (impl_WorldValid.l0 k1 l0 l0 (l0.length : Int) (wrap64 (x10_1 + 1))) else (some false)) = some r := H
        have A8 := Aside0.mk A80
        clear A80
        by_cases c9 : t210 = true
        ·
         subst c9
         have H1 : (impl_WorldValid.l0 k1 l0 l0 (l0.length : Int) (wrap64 (x10_1 + 1))) = some r := by rw [if_pos rfl] at H; exact H
         clear H
         have H := H1
         clear H1
         have H' := Aside0.mk H
         clear H
         have p207 : 0 ≤ (x10_1 : Int) := of_decide_eq_true (by first | (with_reducible assumption) | assumption)
         have q207 : x10_1 < (l0.length : Int) := of_decide_eq_true (by first | (with_reducible assumption) | assumption)
         obtain ⟨ad207, A207_0, c207_0, A207_1, c207_1, e207, hx207_0, hx207_1, hl207_0, hi207_0, hl207_1, hi207_1⟩ := at_T74 HR0.out x10_1 p207 q207
         cases e207
         first | replace hx207_0 := (HB.out.cell (World.block_lt_of_cell? w _ hx207_0)).trans hx207_0 | skip
         first | replace hx207_1 := (HB.out.cell (World.block_lt_of_cell? w _ hx207_1)).trans hx207_1 | skip
         have HR207_0 := Aside0.mk hi207_0
         have HC207_0 := Aside0.mk hl207_0
         clear hi207_0 hl207_0
         have HR207_1 := Aside0.mk hi207_1
         have HC207_1 := Aside0.mk hl207_1
         clear hi207_1 hl207_1
         replace p207 := eq_true p207
         replace q207 := eq_true q207
         go_wp2_with (first | ((with_reducible refine gate_dst (N := 4) rfl ?_); (try (refine gate_guard (by rfl) ?_; dsimp only)); refine bx 4 #[.slice none 0 0, .slice none 0 0] 74 ?_; intro gb208 hg w10 hbox hb; have BK208 := Aside0.mk (hbox); have GW208 := gwB HB hg; have GE208 := gwB HB hg; replace HB := bS HB hb; clear hb hbox hg; obtain ⟨hcz11_0, hcz11_1⟩ := cs2 BK208.out; obtain ⟨hfz11_0, hfz11_1⟩ := fz2 BK208.out) | ((with_reducible refine gate_callee (f := 57) rfl ?_); refine gl (some 19) Try.func57 #[.slice A207_0 ((rd_T74 l0 x10_1).f0).length c207_0, .int .i64 0, .int .i64 (wrap64 (x10_1 - 1))] ?_; (with_reducible refine (impl_ascends.calls k1 _ _ ((rd_T74 l0 x10_1).f0) 0 (wrap64 (x10_1 - 1)) true _ ?side1 ?side2 A6.out).mono ?_); (case side1 => exact Kd.C_below HR207_0.out (by exact bw HB.out)); (case side2 => exact HC207_0.out); rintro e w' ⟨rfl, ⟨nd, rfl⟩⟩; refine ⟨_, rfl, ?_⟩) | (go_at_call 47; (with_reducible refine (impl_fieldsValid.calls k1 _ _ ((rd_T74 l0 x10_1).f1) (l0.length : Int) true _ ?side1 ?side2 A8.out).mono ?_); (case side1 => exact Kd.C_below HR207_1.out (by exact bw HB.out)); (case side2 => exact HC207_1.out); rintro e w12 ⟨rfl, hb⟩; have n0_ := Aside0.mk (blk_below (g := gb208) (o := .cells #[.slice A207_0 ((rd_T74 l0 x10_1).f0).length c207_0, .slice A207_1 ((rd_T74 l0 x10_1).f1).length c207_1] 74 (0, 0)) (bp BK208) hb); have n1_ := bS HB hb; clear BK208; clear HB; have BK208 := n0_; have HB := n1_; clear n0_ n1_; (try clear hb); (try clear hb2); (try clear hk); (try clear hi)))
         go_roundg k1
         case measure => have := HK1.out; omega
         case rel => exact ⟨(wrap64 (x10_1 + 1)), (by first | rfl | (simp; done) | (simp [*]; done)), H', ⟨by have := HK1.out; omega⟩, ⟨by exact bw HB.out⟩⟩
        ·
         replace c9 := Bool.eq_false_iff.mpr c9
         subst c9
         have H1 : (some false) = some r := by rw [if_neg (show ¬ (false = true) by decide)] at H; exact H
         clear H
         have H := H1
         clear H1
         obtain rfl := Option.some.inj H
         have p207 : 0 ≤ (x10_1 : Int) := of_decide_eq_true (by first | (with_reducible assumption) | assumption)
         have q207 : x10_1 < (l0.length : Int) := of_decide_eq_true (by first | (with_reducible assumption) | assumption)
         obtain ⟨ad207, A207_0, c207_0, A207_1, c207_1, e207, hx207_0, hx207_1, hl207_0, hi207_0, hl207_1, hi207_1⟩ := at_T74 HR0.out x10_1 p207 q207
         cases e207
         first | replace hx207_0 := (HB.out.cell (World.block_lt_of_cell? w _ hx207_0)).trans hx207_0 | skip
         first | replace hx207_1 := (HB.out.cell (World.block_lt_of_cell? w _ hx207_1)).trans hx207_1 | skip
         have HR207_0 := Aside0.mk hi207_0
         have HC207_0 := Aside0.mk hl207_0
         clear hi207_0 hl207_0
         have HR207_1 := Aside0.mk hi207_1
         have HC207_1 := Aside0.mk hl207_1
         clear hi207_1 hl207_1
         replace p207 := eq_true p207
         replace q207 := eq_true q207
         go_wp2_with (first | ((with_reducible refine gate_dst (N := 4) rfl ?_); (try (refine gate_guard (by rfl) ?_; dsimp only)); refine bx 4 #[.slice none 0 0, .slice none 0 0] 74 ?_; intro gb208 hg w13 hbox hb; have BK208 := Aside0.mk (hbox); have GW208 := gwB HB hg; have GE208 := gwB HB hg; replace HB := bS HB hb; clear hb hbox hg; obtain ⟨hcz14_0, hcz14_1⟩ := cs2 BK208.out; obtain ⟨hfz14_0, hfz14_1⟩ := fz2 BK208.out) | ((with_reducible refine gate_callee (f := 57) rfl ?_); refine gl (some 19) Try.func57 #[.slice A207_0 ((rd_T74 l0 x10_1).f0).length c207_0, .int .i64 0, .int .i64 (wrap64 (x10_1 - 1))] ?_; (with_reducible refine (impl_ascends.calls k1 _ _ ((rd_T74 l0 x10_1).f0) 0 (wrap64 (x10_1 - 1)) true _ ?side1 ?side2 A6.out).mono ?_); (case side1 => exact Kd.C_below HR207_0.out (by exact bw HB.out)); (case side2 => exact HC207_0.out); rintro e w' ⟨rfl, ⟨nd, rfl⟩⟩; refine ⟨_, rfl, ?_⟩) | (go_at_call 47; (with_reducible refine (impl_fieldsValid.calls k1 _ _ ((rd_T74 l0 x10_1).f1) (l0.length : Int) false _ ?side1 ?side2 A8.out).mono ?_); (case side1 => exact Kd.C_below HR207_1.out (by exact bw HB.out)); (case side2 => exact HC207_1.out); rintro e w15 ⟨rfl, hb⟩; have n0_ := Aside0.mk (blk_below (g := gb208) (o := .cells #[.slice A207_0 ((rd_T74 l0 x10_1).f0).length c207_0, .slice A207_1 ((rd_T74 l0 x10_1).f1).length c207_1] 74 (0, 0)) (bp BK208) hb); have n1_ := bS HB hb; clear BK208; clear HB; have BK208 := n0_; have HB := n1_; clear n0_ n1_; (try clear hb); (try clear hb2); (try clear hk); (try clear hi)))
         go_ret
         exact ⟨by first | rfl | (simp [errW_none, errW_some] <;> rfl) | (simp [*, errW_none, errW_some] <;> rfl), by exact bw HB.out⟩
       ·
        replace c7 := Bool.eq_false_iff.mpr c7
        subst c7
        have H1 : (some false) = some r := by rw [if_neg (show ¬ (false = true) by decide)] at H; exact H
        clear H
        have H := H1
        clear H1
        obtain rfl := Option.some.inj H
        have p207 : 0 ≤ (x10_1 : Int) := of_decide_eq_true (by first | (with_reducible assumption) | assumption)
        have q207 : x10_1 < (l0.length : Int) := of_decide_eq_true (by first | (with_reducible assumption) | assumption)
        obtain ⟨ad207, A207_0, c207_0, A207_1, c207_1, e207, hx207_0, hx207_1, hl207_0, hi207_0, hl207_1, hi207_1⟩ := at_T74 HR0.out x10_1 p207 q207
        cases e207
        first | replace hx207_0 := (HB.out.cell (World.block_lt_of_cell? w _ hx207_0)).trans hx207_0 | skip
        first | replace hx207_1 := (HB.out.cell (World.block_lt_of_cell? w _ hx207_1)).trans hx207_1 | skip
        have HR207_0 := Aside0.mk hi207_0
        have HC207_0 := Aside0.mk hl207_0
        clear hi207_0 hl207_0
        have HR207_1 := Aside0.mk hi207_1
        have HC207_1 := Aside0.mk hl207_1
        clear hi207_1 hl207_1
        replace p207 := eq_true p207
        replace q207 := eq_true q207
        go_wp2_with (first | ((with_reducible refine gate_dst (N := 4) rfl ?_); (try (refine gate_guard (by rfl) ?_; dsimp only)); refine bx 4 #[.slice none 0 0, .slice none 0 0] 74 ?_; intro gb208 hg w16 hbox hb; have BK208 := Aside0.mk (hbox); have GW208 := gwB HB hg; have GE208 := gwB HB hg; replace HB := bS HB hb; clear hb hbox hg; obtain ⟨hcz17_0, hcz17_1⟩ := cs2 BK208.out; obtain ⟨hfz17_0, hfz17_1⟩ := fz2 BK208.out) | ((with_reducible refine gate_callee (f := 57) rfl ?_); refine gl (some 19) Try.func57 #[.slice A207_0 ((rd_T74 l0 x10_1).f0).length c207_0, .int .i64 0, .int .i64 (wrap64 (x10_1 - 1))] ?_; (with_reducible refine (impl_ascends.calls k1 _ _ ((rd_T74 l0 x10_1).f0) 0 (wrap64 (x10_1 - 1)) false _ ?side1 ?side2 A6.out).mono ?_); (case side1 => exact Kd.C_below HR207_0.out (by exact bw HB.out)); (case side2 => exact HC207_0.out); rintro e w' ⟨rfl, ⟨nd, rfl⟩⟩; refine ⟨_, rfl, ?_⟩))
        go_ret
        exact ⟨by first | rfl | (simp [errW_none, errW_some] <;> rfl) | (simp [*, errW_none, errW_some] <;> rfl), by exact bw HB.out⟩
      ·
       rw [if_neg c5] at H; exact absurd H (by simp)
     ·
      rw [if_neg c4] at H; exact absurd H (by simp)
    ·
     rw [if_neg c3] at H; have c3b0 : decide (x10_1 < (l0.length : Int)) = false := decide_eq_false c3; clear c3
     obtain rfl := Option.some.inj H
     go_wp2
     go_ret
     exact ⟨by first | rfl | (simp [errW_none, errW_some] <;> rfl) | (simp [*, errW_none, errW_some] <;> rfl), by exact bw HB.out⟩

/-! ### impl_isThing: function 35 -/
def impl_isThing.f (l0 : List (S74)) (a1 : Int) : Option (Bool) := (impl_in.f a1 0 (wrap64 ((l0.length : Int) - 1))).bind fun t211 => (some t211)
set_option maxHeartbeats 8000000 in
set_option maxRecDepth 100000 in
theorem impl_isThing.calls (A0 : Option Addr) (c0 : Nat) (l0 : List (S74)) (a1 : Int) (r : Bool) (w : World) (hr0 : Kd.C k74 w A0 l0.length l0) (hc0 : l0.length ≤ c0) (h : impl_isThing.f l0 a1 = some r) :
  Calls Try.prog 35 #[.slice A0 l0.length c0, .int .i64 a1] w fun e w' => e = .returned (.bool r) ∧ Drawn0 w w' := by
 have HR0 := Aside0.mk hr0
 have HC0 := Aside0.mk hc0
 clear hr0 hc0
 have H : ((impl_in.f a1 0 (wrap64 ((l0.length : Int) - 1))).bind fun t211 => (some t211)) = some r := h
 clear h
 replace H := Option.bind_eq_some_iff.mp H
 obtain ⟨t211, A30, H⟩ := H
 replace H : (some t211) = some r := H
 have A3 := Aside0.mk A30
 clear A30
 obtain rfl := Option.some.inj H
 go_enter Try.func35, Try.ntmps35
 go_wp2_with (first | ((with_reducible refine gate_callee (f := 54) rfl ?_); refine gl (some 9) Try.func54 #[.int .i64 a1, .int .i64 0, .int .i64 (wrap64 ((l0.length : Int) - 1))] ?_; (with_reducible refine (impl_in.calls a1 0 (wrap64 ((l0.length : Int) - 1)) t211 _ A3.out).mono ?_); rintro e w' ⟨rfl, ⟨nd, rfl⟩⟩; refine ⟨_, rfl, ?_⟩))
 go_ret
 exact ⟨by first | rfl | (simp; done) | (simp [*]; done), by repeat (first | exact Drawn0.refl _ | apply Drawn0.step)⟩

/-! ### impl_isIn: function 36 -/
mutual
def impl_isIn.l0 : Nat → List (S74) → Int → List Int → Int → Option (Bool)
 | 0, _, _, _, _ => none
 | k + 1, x0, x2, x3, x4 => if x4 < (x3.length : Int) then (if 0 ≤ x4 then ((impl_isIn.f k x0 (rd x3 x4) x2).bind fun t1 => (if t1 = true then (some true) else (impl_isIn.l0 k x0 x2 x3 (wrap64 (x4 + 1))))) else (none)) else (some false)
def impl_isIn.f : Nat → List (S74) → Int → Int → Option (Bool)
 | 0, _, _, _ => none
 | k + 1, l0, a1, a2 => if a1 = a2 then (some true) else (if 0 ≤ a1 then (if a1 < (l0.length : Int) then (impl_isIn.l0 k l0 a2 ((rd_T74 l0 a1).f0) 0) else (none)) else (none))
end
theorem impl_isIn.mono_l : ∀ k, (∀ y0 y1 y2 y3, LeO (impl_isIn.l0 k y0 y1 y2 y3) (impl_isIn.l0 (k + 1) y0 y1 y2 y3)) ∧ (∀ y0 y1 y2, LeO (impl_isIn.f k y0 y1 y2) (impl_isIn.f (k + 1) y0 y1 y2))
 | 0 => ⟨fun _ _ _ _ r h => by simp [impl_isIn.l0] at h, fun _ _ _ r h => by simp [impl_isIn.f] at h⟩
 | k + 1 => by
  obtain ⟨ih0, ih1⟩ := impl_isIn.mono_l k
  refine ⟨?_, ?_⟩
  · intro y0 y1 y2 y3
    unfold impl_isIn.l0
    repeat' first
    | exact ih0 _ _ _ _
    | exact ih1 _ _ _
    | exact LeO.refl _
    | refine LeO.ite ?_ ?_
    | refine LeO.bind ?_ (fun _ => ?_)
  · intro y0 y1 y2
    unfold impl_isIn.f
    repeat' first
    | exact ih0 _ _ _ _
    | exact LeO.refl _
    | refine LeO.ite ?_ ?_
theorem impl_isIn.mono : ∀ a0 a1 a2 k, LeO (impl_isIn.f k a0 a1 a2) (impl_isIn.f (k + 1) a0 a1 a2) := fun a0 a1 a2 k => (impl_isIn.mono_l k).2 a0 a1 a2
/-- What the function answers, for fewer rounds than k. -/
def impl_isIn.Told (k : Nat) : Prop := ∀ m, m < k → ∀ (A0 : Option Addr) (c0 : Nat) (l0 : List (S74)) (a1 : Int) (a2 : Int) (r : Bool) (w : World), Kd.C k74 w A0 l0.length l0 → l0.length ≤ c0 → impl_isIn.f m l0 a1 a2 = some r →
  Calls Try.prog 36 #[.slice A0 l0.length c0, .int .i64 a1, .int .i64 a2] w fun e w' => e = .returned (.bool r) ∧ Below w.heap.size w w'
/-- The function literal. -/
theorem impl_isIn.lit {k : Nat} (ih : impl_isIn.Told k) {m : Nat} (hm : m < k) {A0 : Option Addr} {c0 : Nat} {l0 : List (S74)} {a2 x : Int} {r : Bool} {gw gg : Nat} {w : World} (hC : Kd.C k74 w A0 l0.length l0) (hc : l0.length ≤ c0)
    (hw : w.heap[gw]? = some (.cells #[.slice A0 l0.length c0] 23 (0, 0))) (hg : w.heap[gg]? = some (.cells #[.int .i64 a2] 3 (0, 0))) (h : impl_isIn.f m l0 x a2 = some r) :
    Calls Try.prog 59 #[.int .i64 x, .pointer (some ⟨gw, 0, none⟩), .pointer (some ⟨gg, 0, none⟩)] w fun e w' => e = .returned (.bool r) ∧ Below w.heap.size w w' := by
  have h1 : w.cell? ⟨gw, 0, none⟩ = some (.slice A0 l0.length c0) := (blk_cell hw 0).trans rfl
  have h2 : w.cell? ⟨gg, 0, none⟩ = some (.int .i64 a2) := (blk_cell hg 0).trans rfl
  have HC := Aside0.mk hC
  have H := Aside0.mk h
  have HL := Aside0.mk hc
  clear hC hw hg h hc
  go_enter Try.func59, Try.ntmps59
  go_wp2_with (go_at_call 36; refine (ih m hm _ _ _ _ _ _ _ HC.out HL.out H.out).mono ?_; rintro e w' ⟨rfl, hb⟩)
  go_ret
  exact ⟨rfl, hb⟩
theorem impl_isIn.index {k : Nat} (ih : impl_isIn.Told k) {A0 A3 : Option Addr} {c0 c3 : Nat} {l0 : List (S74)} {a2 : Int} {xs : List Int} {r : Bool} {gw gg : Nat} {w : World} (hC : Kd.C k74 w A0 l0.length l0) (hc : l0.length ≤ c0)
    (hw : w.heap[gw]? = some (.cells #[.slice A0 l0.length c0] 23 (0, 0))) (hg : w.heap[gg]? = some (.cells #[.int .i64 a2] 3 (0, 0))) (hX : Kd.C (Kd.int .i64) w A3 xs.length xs) (h : impl_isIn.l0 k l0 a2 xs 0 = some r) :
    Calls Try.prog 67 #[.slice A3 xs.length c3, .func (.func 59) #[] #[.pointer (some ⟨gw, 0, none⟩), .pointer (some ⟨gg, 0, none⟩)]] w fun e w' => (∃ i : Int, e = .returned (.int .i64 i) ∧ decide (0 ≤ i) = r) ∧ Below w.heap.size w w' := by
  have eg : ∀ (args : Array Value) (w : World), (callFunc 59 args).run Try.prog w = .ok (.enter 59 args) w := enters_ Try.func59 (by kernel_rfl) rfl
  have HC := Aside0.mk hC
  have HL := Aside0.mk hc
  have HW := Aside0.mk hw
  have HG := Aside0.mk hg
  have HX := Aside0.mk hX
  have H0 := Aside0.mk h
  have HN := Aside0.mk hX.2.1
  clear hC hc hw hg hX h
  go_enter Try.func67, Try.ntmps67
  go_wp2
  go_loopg [5, 8] k (fun gk _ v8 wr => ∃ (i : Int) (m : Nat), v8 = .int .i64 i ∧ Aside0 (impl_isIn.l0 m l0 a2 xs i = some r) ∧ Aside0 (m ≤ gk) ∧ Aside0 (gk ≤ k) ∧ Aside0 (0 ≤ i) ∧ Aside0 (Below w.heap.size w wr))
  case atStart => exact ⟨0, k, rfl, H0, ⟨Nat.le_refl _⟩, ⟨Nat.le_refl _⟩, ⟨Int.le_refl _⟩, ⟨Below.refl _ w⟩⟩
  case round =>
    obtain ⟨i, m, rfl, H, HM, HK, HI, HB⟩ := hrel
    cases m with
    | zero => exact absurd H.out (by simp [impl_isIn.l0])
    | succ m =>
      have h := H.out
      clear H
      simp only [impl_isIn.l0] at h
      have i0 := HI.out
      have hn := HN.out
      by_cases c1 : i < (xs.length : Int)
      · rw [if_pos c1, if_pos i0] at h
        obtain ⟨b, hb1, hb2⟩ := Option.bind_eq_some_iff.mp h
        clear h
        obtain ⟨ad, e3, hx⟩ := Kd.at_int (Kd.C_below HX.out HB.out) i i0 c1
        cases e3
        have c1b := decide_eq_true c1
        replace i0 := eq_true i0
        replace c1 := eq_true c1
        have hcall := impl_isIn.lit ih (m := m) (by have := HM.out; have := HK.out; omega) (x := rd xs i) (Kd.C_below HC.out HB.out) HL.out (HB.out.block gw (blk_lt HW.out) |>.trans HW.out) (HB.out.block gg (blk_lt HG.out) |>.trans HG.out) hb1
        have HQ := Aside0.mk hb2
        clear hb1 hb2
        cases b with
        | true =>
          go_wp2_with (go_at_fn 59; refine hcall.mono ?_; rintro e w' ⟨rfl, hb'⟩)
          go_ret
          have hr : true = r := by simpa using HQ.out
          subst hr
          exact ⟨⟨i, rfl, decide_eq_true HI.out⟩, below_step HB.out hb'⟩
        | false =>
          go_wp2_with (go_at_fn 59; refine hcall.mono ?_; rintro e w' ⟨rfl, hb'⟩)
          have hr : impl_isIn.l0 m l0 a2 xs (wrap64 (i + 1)) = some r := by simpa using HQ.out
          rw [show wrap64 (i + 1) = i + 1 by have := HI.out; have := of_eq_true c1; unfold wrap64; omega] at hr
          have HR := Aside0.mk hr
          clear hr
          go_roundg m
          case measure => have := HM.out; omega
          case rel => exact ⟨i + 1, m, by rw [show wrap64 (i + 1) = i + 1 by have := HI.out; have := of_eq_true c1; unfold wrap64; omega], HR, ⟨Nat.le_refl _⟩, ⟨by have := HM.out; have := HK.out; omega⟩, ⟨by have := HI.out; omega⟩, ⟨below_step HB.out hb'⟩⟩
      · rw [if_neg c1] at h
        have c1b := decide_eq_false c1
        obtain rfl := Option.some.inj h
        go_wp2
        go_ret
        exact ⟨⟨-1, rfl, by simp⟩, HB.out⟩
theorem impl_isIn.contains {k : Nat} (ih : impl_isIn.Told k) {A0 A3 : Option Addr} {c0 c3 : Nat} {l0 : List (S74)} {a2 : Int} {xs : List Int} {r : Bool} {gw gg : Nat} {w : World} (hC : Kd.C k74 w A0 l0.length l0) (hc : l0.length ≤ c0)
    (hw : w.heap[gw]? = some (.cells #[.slice A0 l0.length c0] 23 (0, 0))) (hg : w.heap[gg]? = some (.cells #[.int .i64 a2] 3 (0, 0))) (hX : Kd.C (Kd.int .i64) w A3 xs.length xs) (h : impl_isIn.l0 k l0 a2 xs 0 = some r) :
    Calls Try.prog 58 #[.slice A3 xs.length c3, .func (.func 59) #[] #[.pointer (some ⟨gw, 0, none⟩), .pointer (some ⟨gg, 0, none⟩)]] w fun e w' => e = .returned (.bool r) ∧ Below w.heap.size w w' := by
  have hi := impl_isIn.index (c3 := c3) ih hC hc hw hg hX h
  clear hC hc hw hg hX h
  go_enter Try.func58, Try.ntmps58
  go_wp2_with (go_at_call 67; refine hi.mono ?_; rintro e w' ⟨⟨i, rfl, rfl⟩, hb⟩)
  go_ret
  exact ⟨rfl, hb⟩
set_option maxHeartbeats 1000000 in
theorem impl_isIn.calls (k : Nat) : ∀ (A0 : Option Addr) (c0 : Nat) (l0 : List (S74)) (a1 : Int) (a2 : Int) (r : Bool) (w : World) (hr0 : Kd.C k74 w A0 l0.length l0) (hc0 : l0.length ≤ c0) (h : impl_isIn.f k l0 a1 a2 = some r),
  Calls Try.prog 36 #[.slice A0 l0.length c0, .int .i64 a1, .int .i64 a2] w fun e w' => e = .returned (.bool r) ∧ Below w.heap.size w w' := by
  induction k using Nat.strongRecOn with
  | _ k ih =>
  intro A0 c0 l0 a1 a2 r w hr0 hc0 h
  cases k with
  | zero => exact absurd h (by simp [impl_isIn.f])
  | succ k =>
  have told : impl_isIn.Told k := fun m hm A0 c0 l0 a1 a2 r w hC hc h => ih m (by omega) A0 c0 l0 a1 a2 r w hC hc h
  clear ih
  simp only [impl_isIn.f] at h
  have HC := Aside0.mk hr0
  have HL := Aside0.mk hc0
  have HN := Aside0.mk hr0.2.1
  by_cases c1 : a1 = a2
  · rw [if_pos c1] at h
    obtain rfl := Option.some.inj h
    subst c1
    clear hr0 hc0 told
    go_enter Try.func36, Try.ntmps36
    go_wp2
    go_ret
    exact ⟨rfl, ((Below.refl _ w).alloc (Nat.le_refl _) _).alloc (by simp) _⟩
  · rw [if_neg c1] at h
    obtain ⟨c1b, -⟩ := eqN c1
    clear c1
    by_cases c2 : 0 ≤ a1
    · rw [if_pos c2] at h
      by_cases c3 : a1 < (l0.length : Int)
      · rw [if_pos c3] at h
        have H := Aside0.mk h
        clear h
        obtain ⟨adR, A3, cc3, A4, cc4, e2, hx0, hx1, hl0, hC0, hl1, hC1⟩ := at_T74 HC.out a1 c2 c3
        cases e2
        have hn := HN.out
        clear hr0 hc0
        replace c2 := eq_true c2
        replace c3 := eq_true c3
        have HT := Aside0.mk told
        have HC0 := Aside0.mk hC0
        clear told hx1 hl0 hl1 hC1 hC0
        go_enter Try.func36, Try.ntmps36
        go_wp2_with (first
          | ((with_reducible refine gate_dst (N := 3) rfl ?_); refine bx 3 #[.slice (some adR) l0.length c0] 23 ?_; intro gw hgw w1 hbox hb; have BW := Aside0.mk hbox; have HB := Aside0.mk hb; clear hgw hbox hb)
          | ((with_reducible refine gate_dst (N := 5) rfl ?_); refine bx 5 #[.int .i64 a2] 3 ?_; intro gg hgg w2 hbox hb; have hg0 : w2.cell? ⟨gg, 0, none⟩ = some (.int .i64 a2) := (blk_cell hbox 0).trans rfl; have BG := Aside0.mk hbox; replace BW := bB BW hb; have hw0 : w2.cell? ⟨gw, 0, none⟩ = some (.slice (some adR) l0.length c0) := (blk_cell BW.out 0).trans rfl; replace HB := bS HB hb; replace hx0 := (HB.out.cell (World.block_lt_of_cell? w _ hx0)).trans hx0; clear hgg hbox hb)
          | (go_at_call 58; refine (impl_isIn.contains (c3 := cc3) HT.out (Kd.C_below HC.out HB.out) HL.out BW.out BG.out (Kd.C_below HC0.out HB.out) H.out).mono ?_; rintro e w' ⟨rfl, hb⟩))
        go_ret
        exact ⟨rfl, below_step HB.out hb⟩
      · rw [if_neg c3] at h
        cases h
    · rw [if_neg c2] at h
      cases h

/-! ### impl_IsIn: function 9 -/
def impl_IsIn.f (k : Nat) (l0 : List (S74)) (a1 : Int) (a2 : Int) : Option (Bool) := (impl_WorldValid.f k l0).bind fun t212 => (if t212 = true then ((impl_isThing.f l0 a1).bind fun t213 => (if t213 = true then ((impl_isThing.f l0 a2).bind fun t214 => (if t214 = true then ((impl_isIn.f k l0 a1 a2).bind fun t215 => (some t215)) else (some false))) else (some false))) else (some false))
theorem impl_IsIn.mono : ∀ a0 a1 a2 k, LeO (impl_IsIn.f k a0 a1 a2) (impl_IsIn.f (k + 1) a0 a1 a2) := by
 intro a0 a1 a2 k
 unfold impl_IsIn.f
 repeat' first
   | (with_reducible exact impl_WorldValid.mono _ _)
   | (with_reducible exact impl_isIn.mono _ _ _ _)
   | (with_reducible exact LeO.refl _)
   | (with_reducible exact LeO.none _)
   | (with_reducible refine LeO.ite ?_ ?_)
   | (with_reducible refine LeO.bind ?_ (fun _ => ?_))
   | exact impl_WorldValid.mono _ _
   | exact impl_isIn.mono _ _ _ _
   | exact LeO.none _
   | refine LeO.ite ?_ ?_
   | refine LeO.bind ?_ (fun _ => ?_)
set_option maxHeartbeats 8000000 in
set_option maxRecDepth 100000 in
theorem impl_IsIn.calls (k : Nat) (A0 : Option Addr) (c0 : Nat) (l0 : List (S74)) (a1 : Int) (a2 : Int) (r : Bool) (w : World) (hr0 : Kd.C k74 w A0 l0.length l0) (hc0 : l0.length ≤ c0) (h : impl_IsIn.f k l0 a1 a2 = some r) :
  Calls Try.prog 9 #[.slice A0 l0.length c0, .int .i64 a1, .int .i64 a2] w fun e w' => e = .returned (.bool r) ∧ Below w.heap.size w w' := by
 have HR0 := Aside0.mk hr0
 have HC0 := Aside0.mk hc0
 clear hr0 hc0
 have HB := Aside0.mk (Below.refl w.heap.size w)
 have H : ((impl_WorldValid.f k l0).bind fun t212 => (if t212 = true then ((impl_isThing.f l0 a1).bind fun t213 => (if t213 = true then ((impl_isThing.f l0 a2).bind fun t214 => (if t214 = true then ((impl_isIn.f k l0 a1 a2).bind fun t215 => (some t215)) else (some false))) else (some false))) else (some false))) = some r := h
 clear h
 replace H := Option.bind_eq_some_iff.mp H
 obtain ⟨t212, A40, H⟩ := H
 replace H : (if t212 = true then ((impl_isThing.f l0 a1).bind fun t213 => (if t213 = true then ((impl_isThing.f l0 a2).bind fun t214 => (if t214 = true then ((impl_isIn.f k l0 a1 a2).bind fun t215 => (some t215)) else (some false))) else (some false))) else (some false)) = some r := H
 have A4 := Aside0.mk A40
 clear A40
 by_cases c5 : t212 = true
 ·
  subst c5
  have H1 : ((impl_isThing.f l0 a1).bind fun t213 => (if t213 = true then ((impl_isThing.f l0 a2).bind fun t214 => (if t214 = true then ((impl_isIn.f k l0 a1 a2).bind fun t215 => (some t215)) else (some false))) else (some false))) = some r := by rw [if_pos rfl] at H; exact H
  clear H
  have H := H1
  clear H1
  replace H := Option.bind_eq_some_iff.mp H
  obtain ⟨t213, A60, H⟩ := H
  replace H : (if t213 = true then ((impl_isThing.f l0 a2).bind fun t214 => (if t214 = true then ((impl_isIn.f k l0 a1 a2).bind fun t215 => (some t215)) else (some false))) else (some false)) = some r := H
  have A6 := Aside0.mk A60
  clear A60
  by_cases c7 : t213 = true
  ·
   subst c7
   have H1 : ((impl_isThing.f l0 a2).bind fun t214 => (if t214 = true then ((impl_isIn.f k l0 a1 a2).bind fun t215 => (some t215)) else (some false))) = some r := by rw [if_pos rfl] at H; exact H
   clear H
   have H := H1
   clear H1
   replace H := Option.bind_eq_some_iff.mp H
   obtain ⟨t214, A80, H⟩ := H
   replace H : (if t214 = true then ((impl_isIn.f k l0 a1 a2).bind fun t215 => (some t215)) else (some false)) = some r := H
   have A8 := Aside0.mk A80
   clear A80
   by_cases c9 : t214 = true
   ·
    subst c9
    have H1 : ((impl_isIn.f k l0 a1 a2).bind fun t215 => (some t215)) = some r := by rw [if_pos rfl] at H; exact H
    clear H
    have H := H1
    clear H1
    replace H := Option.bind_eq_some_iff.mp H
    obtain ⟨t215, A100, H⟩ := H
    replace H : (some t215) = some r := H
    have A10 := Aside0.mk A100
    clear A100
    obtain rfl := Option.some.inj H
    go_enter Try.func9, Try.ntmps9
    go_wp2_with (first | ((with_reducible refine gate_callee (f := 34) rfl ?_); refine gl (some 8) Try.func34 #[.slice A0 l0.length c0] ?_; (with_reducible refine (impl_WorldValid.calls k _ _ l0 true _ ?side1 ?side2 A4.out).mono ?_); (case side1 => repeat (first | exact HR0.out | (with_reducible refine Kd.C_alloc ?_ _) | (with_reducible refine Kd.C_drewN ?_ _) | (with_reducible refine Kd.C_drew ?_))); (case side2 => exact HC0.out); rintro e w11 ⟨rfl, hb⟩; refine ⟨_, rfl, ?_⟩; replace HB := bS HB hb; (try clear hb); (try clear hb2); (try clear hk); (try clear hi)) | (go_at_call 35; (with_reducible refine (impl_isThing.calls _ _ l0 a1 true _ ?side1 ?side2 A6.out).mono ?_); (case side1 => repeat (first | exact (Kd.C_below HR0.out HB.out) | (with_reducible refine Kd.C_alloc ?_ _) | (with_reducible refine Kd.C_drewN ?_ _) | (with_reducible refine Kd.C_drew ?_))); (case side2 => exact HC0.out); rintro e w' ⟨rfl, ⟨nd, rfl⟩⟩) | (go_at_call 35; (with_reducible refine (impl_isThing.calls _ _ l0 a2 true _ ?side1 ?side2 A8.out).mono ?_); (case side1 => repeat (first | exact (Kd.C_below HR0.out (by exact bw HB.out)) | exact HR0.out | (with_reducible refine Kd.C_alloc ?_ _) | (with_reducible refine Kd.C_drewN ?_ _) | (with_reducible refine Kd.C_drew ?_))); (case side2 => exact HC0.out); rintro e w' ⟨rfl, ⟨nd, rfl⟩⟩) | (go_at_call 36; (with_reducible refine (impl_isIn.calls k _ _ l0 a1 a2 t215 _ ?side1 ?side2 A10.out).mono ?_); (case side1 => repeat (first | exact (Kd.C_below HR0.out (by exact bw HB.out)) | exact HR0.out | (with_reducible refine Kd.C_alloc ?_ _) | (with_reducible refine Kd.C_drewN ?_ _) | (with_reducible refine Kd.C_drew ?_))); (case side2 => exact HC0.out); rintro e w12 ⟨rfl, hb⟩; have n0_ := bS HB hb; clear HB; have HB := n0_; clear n0_; (try clear hb); (try clear hb2); (try clear hk); (try clear hi)))
    go_ret
    exact ⟨by first | rfl | (simp [errW_none, errW_some] <;> rfl) | (simp [*, errW_none, errW_some] <;> rfl), by exact bw HB.out⟩
   ·
    replace c9 := Bool.eq_false_iff.mpr c9
    subst c9
    have H1 : (some false) = some r := by rw [if_neg (show ¬ (false = true) by decide)] at H; exact H
    clear H
    have H := H1
    clear H1
    obtain rfl := Option.some.inj H
    go_enter Try.func9, Try.ntmps9
    go_wp2_with (first | ((with_reducible refine gate_callee (f := 34) rfl ?_); refine gl (some 8) Try.func34 #[.slice A0 l0.length c0] ?_; (with_reducible refine (impl_WorldValid.calls k _ _ l0 true _ ?side1 ?side2 A4.out).mono ?_); (case side1 => repeat (first | exact HR0.out | (with_reducible refine Kd.C_alloc ?_ _) | (with_reducible refine Kd.C_drewN ?_ _) | (with_reducible refine Kd.C_drew ?_))); (case side2 => exact HC0.out); rintro e w13 ⟨rfl, hb⟩; refine ⟨_, rfl, ?_⟩; replace HB := bS HB hb; (try clear hb); (try clear hb2); (try clear hk); (try clear hi)) | (go_at_call 35; (with_reducible refine (impl_isThing.calls _ _ l0 a1 true _ ?side1 ?side2 A6.out).mono ?_); (case side1 => repeat (first | exact (Kd.C_below HR0.out HB.out) | (with_reducible refine Kd.C_alloc ?_ _) | (with_reducible refine Kd.C_drewN ?_ _) | (with_reducible refine Kd.C_drew ?_))); (case side2 => exact HC0.out); rintro e w' ⟨rfl, ⟨nd, rfl⟩⟩) | (go_at_call 35; (with_reducible refine (impl_isThing.calls _ _ l0 a2 false _ ?side1 ?side2 A8.out).mono ?_); (case side1 => repeat (first | exact (Kd.C_below HR0.out (by exact bw HB.out)) | exact HR0.out | (with_reducible refine Kd.C_alloc ?_ _) | (with_reducible refine Kd.C_drewN ?_ _) | (with_reducible refine Kd.C_drew ?_))); (case side2 => exact HC0.out); rintro e w' ⟨rfl, ⟨nd, rfl⟩⟩))
    go_ret
    exact ⟨by first | rfl | (simp [errW_none, errW_some] <;> rfl) | (simp [*, errW_none, errW_some] <;> rfl), by exact bw HB.out⟩
  ·
   replace c7 := Bool.eq_false_iff.mpr c7
   subst c7
   have H1 : (some false) = some r := by rw [if_neg (show ¬ (false = true) by decide)] at H; exact H
   clear H
   have H := H1
   clear H1
   obtain rfl := Option.some.inj H
   go_enter Try.func9, Try.ntmps9
   go_wp2_with (first | ((with_reducible refine gate_callee (f := 34) rfl ?_); refine gl (some 8) Try.func34 #[.slice A0 l0.length c0] ?_; (with_reducible refine (impl_WorldValid.calls k _ _ l0 true _ ?side1 ?side2 A4.out).mono ?_); (case side1 => repeat (first | exact HR0.out | (with_reducible refine Kd.C_alloc ?_ _) | (with_reducible refine Kd.C_drewN ?_ _) | (with_reducible refine Kd.C_drew ?_))); (case side2 => exact HC0.out); rintro e w14 ⟨rfl, hb⟩; refine ⟨_, rfl, ?_⟩; replace HB := bS HB hb; (try clear hb); (try clear hb2); (try clear hk); (try clear hi)) | (go_at_call 35; (with_reducible refine (impl_isThing.calls _ _ l0 a1 false _ ?side1 ?side2 A6.out).mono ?_); (case side1 => repeat (first | exact (Kd.C_below HR0.out HB.out) | (with_reducible refine Kd.C_alloc ?_ _) | (with_reducible refine Kd.C_drewN ?_ _) | (with_reducible refine Kd.C_drew ?_))); (case side2 => exact HC0.out); rintro e w' ⟨rfl, ⟨nd, rfl⟩⟩))
   go_ret
   exact ⟨by first | rfl | (simp [errW_none, errW_some] <;> rfl) | (simp [*, errW_none, errW_some] <;> rfl), by exact bw HB.out⟩
 ·
  replace c5 := Bool.eq_false_iff.mpr c5
  subst c5
  have H1 : (some false) = some r := by rw [if_neg (show ¬ (false = true) by decide)] at H; exact H
  clear H
  have H := H1
  clear H1
  obtain rfl := Option.some.inj H
  go_enter Try.func9, Try.ntmps9
  go_wp2_with (first | ((with_reducible refine gate_callee (f := 34) rfl ?_); refine gl (some 8) Try.func34 #[.slice A0 l0.length c0] ?_; (with_reducible refine (impl_WorldValid.calls k _ _ l0 false _ ?side1 ?side2 A4.out).mono ?_); (case side1 => repeat (first | exact HR0.out | (with_reducible refine Kd.C_alloc ?_ _) | (with_reducible refine Kd.C_drewN ?_ _) | (with_reducible refine Kd.C_drew ?_))); (case side2 => exact HC0.out); rintro e w15 ⟨rfl, hb⟩; refine ⟨_, rfl, ?_⟩; replace HB := bS HB hb; (try clear hb); (try clear hb2); (try clear hk); (try clear hi)))
  go_ret
  exact ⟨by first | rfl | (simp [errW_none, errW_some] <;> rfl) | (simp [*, errW_none, errW_some] <;> rfl), by exact bw HB.out⟩

/-! ### spec_l1In: function 38 -/
def spec_l1In.f (a0 : Int) (a1 : Int) (a2 : Int) : Option (Bool) := if a0 ≥ a1 then (some (decide (a0 ≤ a2))) else (some false)
set_option maxHeartbeats 8000000 in
set_option maxRecDepth 100000 in
theorem spec_l1In.calls (a0 : Int) (a1 : Int) (a2 : Int) (r : Bool) (w : World) (h : spec_l1In.f a0 a1 a2 = some r) :
  Calls Try.prog 38 #[.int .i64 a0, .int .i64 a1, .int .i64 a2] w fun e w' => e = .returned (.bool r) ∧ Drawn0 w w' := by
 have H : (if a0 ≥ a1 then (some (decide (a0 ≤ a2))) else (some false)) = some r := h
 clear h
 by_cases c4 : a0 ≥ a1
 ·
  rw [if_pos c4] at H; have c4b0 : decide (a1 ≤ a0) = true := decide_eq_true c4; clear c4
  obtain rfl := Option.some.inj H
  go_enter Try.func38, Try.ntmps38
  go_wp2
  go_ret
  exact ⟨by first | rfl | (simp; done) | (simp [*]; done), by repeat (first | exact Drawn0.refl _ | apply Drawn0.step)⟩
 ·
  rw [if_neg c4] at H; have c4b0 : decide (a1 ≤ a0) = false := decide_eq_false c4; clear c4
  obtain rfl := Option.some.inj H
  go_enter Try.func38, Try.ntmps38
  go_wp2
  go_ret
  exact ⟨by first | rfl | (simp; done) | (simp [*]; done), by repeat (first | exact Drawn0.refl _ | apply Drawn0.step)⟩

/-! ### spec_NameValid: function 61 -/
def spec_NameValid.l0 : Nat → ByteArray → Int → Option (Bool)
 | 0, _, _ => none
 | k + 1, x0, x3 => if x3 < (x0.size : Int) then (if 0 ≤ x3 then (if (bt x0 x3) < 97 then (some false) else (if (bt x0 x3) > 122 then (some false) else (spec_NameValid.l0 k x0 (wrap64 (x3 + 1))))) else (none)) else ((spec_l1In.f (x0.size : Int) 1 8).bind fun t216 => (some t216))
def spec_NameValid.f (k : Nat) (a0 : ByteArray) : Option (Bool) := spec_NameValid.l0 k a0 0
theorem spec_NameValid.mono_l : ∀ k, (∀ y0 y1, LeO (spec_NameValid.l0 k y0 y1) (spec_NameValid.l0 (k + 1) y0 y1))
 | 0 => fun _ _ r h => by simp [spec_NameValid.l0] at h
 | k + 1 => by
  have ih0 := spec_NameValid.mono_l k
  ·
   intro y0 y1
   unfold spec_NameValid.l0
   repeat' first
   | (with_reducible exact ih0 _ _)
   | (with_reducible exact LeO.refl _)
   | (with_reducible exact LeO.none _)
   | (with_reducible refine LeO.ite ?_ ?_)
   | (with_reducible refine LeO.bind ?_ (fun _ => ?_))
   | exact ih0 _ _
   | exact LeO.none _
   | refine LeO.ite ?_ ?_
   | refine LeO.bind ?_ (fun _ => ?_)
theorem spec_NameValid.mono : ∀ a0 k, LeO (spec_NameValid.f k a0) (spec_NameValid.f (k + 1) a0) := by
 intro a0 k
 have ih0 := spec_NameValid.mono_l k
 unfold spec_NameValid.f
 repeat' first
   | (with_reducible exact ih0 _ _)
   | (with_reducible exact LeO.refl _)
   | (with_reducible exact LeO.none _)
   | (with_reducible refine LeO.ite ?_ ?_)
   | (with_reducible refine LeO.bind ?_ (fun _ => ?_))
   | exact ih0 _ _
   | exact LeO.none _
   | refine LeO.ite ?_ ?_
   | refine LeO.bind ?_ (fun _ => ?_)
set_option maxHeartbeats 8000000 in
set_option maxRecDepth 100000 in
theorem spec_NameValid.calls (k : Nat) (a0 : ByteArray) (r : Bool) (w : World) (h : spec_NameValid.f k a0 = some r) :
  Calls Try.prog 61 #[.string a0] w fun e w' => e = .returned (.bool r) ∧ Drawn0 w w' := by
 have H : (spec_NameValid.l0 k a0 0) = some r := h
 clear h
 have H' := Aside0.mk H
 clear H
 go_enter Try.func61, Try.ntmps61
 go_wp2
 go_loopg [3] k (fun kq v3 w' => ∃ (x3_1 : Int), v3 = .int .i64 x3_1 ∧ Aside0 (spec_NameValid.l0 kq a0 x3_1 = some r) ∧ Aside0 (kq ≤ k) ∧ Drawn0 w w')
 case atStart => exact ⟨(0), (by first | rfl | (simp; done) | (simp [*]; done)), H', ⟨Nat.le_refl _⟩, by repeat (first | exact Drawn0.refl _ | apply Drawn0.step)⟩
 case round =>
  clear H'
  obtain ⟨x3_1, rfl, HA, HK1, ⟨m1, rfl⟩⟩ := hrel
  cases gk with
  | zero => exact absurd HA.out (by simp [spec_NameValid.l0])
  | succ k1 =>
   have H := HA.out
   clear HA
   simp only [spec_NameValid.l0] at H
   by_cases c2 : x3_1 < (a0.size : Int)
   ·
    rw [if_pos c2] at H; have c2b0 : decide (x3_1 < (a0.size : Int)) = true := decide_eq_true c2; clear c2
    by_cases c3 : 0 ≤ x3_1
    ·
     rw [if_pos c3] at H; have c3b0 : decide (0 ≤ x3_1) = true := decide_eq_true c3; clear c3
     by_cases c5 : (bt a0 x3_1) < 97
     ·
      rw [if_pos c5] at H; have c5b0 : decide ((bt a0 x3_1) < 97) = true := decide_eq_true c5; clear c5
      obtain rfl := Option.some.inj H
      have p4 : 0 ≤ (x3_1 : Int) := of_decide_eq_true (by first | (with_reducible assumption) | assumption)
      have q4 : x3_1 < (a0.size : Int) := of_decide_eq_true (by first | (with_reducible assumption) | assumption)
      have hx4 := bt_at a0 x3_1
      replace p4 := eq_true p4
      replace q4 := eq_true q4
      go_wp2
      go_ret
      exact ⟨by first | rfl | (simp; done) | (simp [*]; done), by repeat (first | exact Drawn0.refl _ | apply Drawn0.step)⟩
     ·
      rw [if_neg c5] at H; have c5b0 : decide ((bt a0 x3_1) < 97) = false := decide_eq_false c5; clear c5
      by_cases c7 : (bt a0 x3_1) > 122
      ·
       rw [if_pos c7] at H; have c7b0 : decide (122 < (bt a0 x3_1)) = true := decide_eq_true c7; clear c7
       obtain rfl := Option.some.inj H
       have p4 : 0 ≤ (x3_1 : Int) := of_decide_eq_true (by first | (with_reducible assumption) | assumption)
       have q4 : x3_1 < (a0.size : Int) := of_decide_eq_true (by first | (with_reducible assumption) | assumption)
       have hx4 := bt_at a0 x3_1
       replace p4 := eq_true p4
       replace q4 := eq_true q4
       have p6 : 0 ≤ (x3_1 : Int) := of_decide_eq_true (by first | (with_reducible assumption) | assumption)
       have q6 : x3_1 < (a0.size : Int) := of_decide_eq_true (by first | (with_reducible assumption) | assumption)
       have hx6 := bt_at a0 x3_1
       replace p6 := eq_true p6
       replace q6 := eq_true q6
       go_wp2
       go_ret
       exact ⟨by first | rfl | (simp; done) | (simp [*]; done), by repeat (first | exact Drawn0.refl _ | apply Drawn0.step)⟩
      ·
       rw [if_neg c7] at H; have c7b0 : decide (122 < (bt a0 x3_1)) = false := decide_eq_false c7; clear c7
       have H' := Aside0.mk H
       clear H
       have p4 : 0 ≤ (x3_1 : Int) := of_decide_eq_true (by first | (with_reducible assumption) | assumption)
       have q4 : x3_1 < (a0.size : Int) := of_decide_eq_true (by first | (with_reducible assumption) | assumption)
       have hx4 := bt_at a0 x3_1
       replace p4 := eq_true p4
       replace q4 := eq_true q4
       have p6 : 0 ≤ (x3_1 : Int) := of_decide_eq_true (by first | (with_reducible assumption) | assumption)
       have q6 : x3_1 < (a0.size : Int) := of_decide_eq_true (by first | (with_reducible assumption) | assumption)
       have hx6 := bt_at a0 x3_1
       replace p6 := eq_true p6
       replace q6 := eq_true q6
       go_wp2
       go_roundg k1
       case measure => have := HK1.out; omega
       case rel => exact ⟨(wrap64 (x3_1 + 1)), (by first | rfl | (simp; done) | (simp [*]; done)), H', ⟨by have := HK1.out; omega⟩, by repeat (first | exact Drawn0.refl _ | apply Drawn0.step)⟩
    ·
     rw [if_neg c3] at H; exact absurd H (by simp)
   ·
    rw [if_neg c2] at H; have c2b0 : decide (x3_1 < (a0.size : Int)) = false := decide_eq_false c2; clear c2
    replace H := Option.bind_eq_some_iff.mp H
    obtain ⟨t216, A80, H⟩ := H
    replace H : (some t216) = some r := H
    have A8 := Aside0.mk A80
    clear A80
    obtain rfl := Option.some.inj H
    go_wp2_with (first | ((with_reducible refine gate_callee (f := 38) rfl ?_); refine gl (some 22) Try.func38 #[.int .i64 (a0.size : Int), .int .i64 1, .int .i64 8] ?_; (with_reducible refine (spec_l1In.calls (a0.size : Int) 1 8 t216 _ A8.out).mono ?_); rintro e w' ⟨rfl, ⟨nd, rfl⟩⟩; refine ⟨_, rfl, ?_⟩))
    go_ret
    exact ⟨by first | rfl | (simp; done) | (simp [*]; done), by repeat (first | exact Drawn0.refl _ | apply Drawn0.step)⟩

/-! ### spec_ValueValid: function 62 -/
def spec_ValueValid.f (a0_0 : Int) (a0_1 : Int) (a1 : Int) : Option (Bool) := if a0_0 = 1 then ((spec_l1In.f a0_1 0 1).bind fun t218 => (some t218)) else (if a0_0 = 2 then ((spec_l1In.f a0_1 0 99).bind fun t219 => (some t219)) else (if a0_0 = 3 then (if a0_1 ≥ 0 then (some (decide (a0_1 < a1))) else (some false)) else (some false)))
set_option maxHeartbeats 8000000 in
set_option maxRecDepth 100000 in
theorem spec_ValueValid.calls (a0_0 : Int) (a0_1 : Int) (a1 : Int) (r : Bool) (w : World) (h : spec_ValueValid.f a0_0 a0_1 a1 = some r) :
  Calls Try.prog 62 #[.agg #[.int .i64 a0_0, .int .i64 a0_1], .int .i64 a1] w fun e w' => e = .returned (.bool r) ∧ Below w.heap.size w w' := by
 have hu52 := Try.underlying52
 have HB := Aside0.mk (Below.refl w.heap.size w)
 have H : (if a0_0 = 1 then ((spec_l1In.f a0_1 0 1).bind fun t218 => (some t218)) else (if a0_0 = 2 then ((spec_l1In.f a0_1 0 99).bind fun t219 => (some t219)) else (if a0_0 = 3 then (if a0_1 ≥ 0 then (some (decide (a0_1 < a1))) else (some false)) else (some false)))) = some r := h
 clear h
 by_cases c3 : a0_0 = 1
 ·
  rw [if_pos c3] at H; obtain ⟨c3b0, c3b1⟩ := eqY c3; clear c3
  replace H := Option.bind_eq_some_iff.mp H
  obtain ⟨t218, A40, H⟩ := H
  replace H : (some t218) = some r := H
  have A4 := Aside0.mk A40
  clear A40
  obtain rfl := Option.some.inj H
  go_enter Try.func62, Try.ntmps62
  go_wp2_with (first | ((with_reducible refine gate_dst (N := 2) rfl ?_); refine bx 2 #[.int .i64 a0_0, .int .i64 a0_1] 52 ?_; intro gb217 hg w5 hbox hb; have BK217 := Aside0.mk (hbox); have GW217 := gwB HB hg; have GE217 := gwB HB hg; replace HB := bS HB hb; clear hb hbox hg; obtain ⟨hcz6_0, hcz6_1⟩ := cs2 BK217.out; obtain ⟨hfz6_0, hfz6_1⟩ := fz2 BK217.out) | ((with_reducible refine gate_callee (f := 38) rfl ?_); refine gl (some 11) Try.func38 #[.int .i64 a0_1, .int .i64 0, .int .i64 1] ?_; (with_reducible refine (spec_l1In.calls a0_1 0 1 t218 _ A4.out).mono ?_); rintro e w' ⟨rfl, ⟨nd, rfl⟩⟩; refine ⟨_, rfl, ?_⟩))
  go_ret
  exact ⟨by first | rfl | (simp [errW_none, errW_some] <;> rfl) | (simp [*, errW_none, errW_some] <;> rfl), by exact bw HB.out⟩
 ·
  rw [if_neg c3] at H; obtain ⟨c3b0, c3b1⟩ := eqN c3
  by_cases c7 : a0_0 = 2
  ·
   rw [if_pos c7] at H; obtain ⟨c7b0, c7b1⟩ := eqY c7; clear c7
   replace H := Option.bind_eq_some_iff.mp H
   obtain ⟨t219, A80, H⟩ := H
   replace H : (some t219) = some r := H
   have A8 := Aside0.mk A80
   clear A80
   obtain rfl := Option.some.inj H
   go_enter Try.func62, Try.ntmps62
   go_wp2_with (first | ((with_reducible refine gate_dst (N := 2) rfl ?_); refine bx 2 #[.int .i64 a0_0, .int .i64 a0_1] 52 ?_; intro gb217 hg w9 hbox hb; have BK217 := Aside0.mk (hbox); have GW217 := gwB HB hg; have GE217 := gwB HB hg; replace HB := bS HB hb; clear hb hbox hg; obtain ⟨hcz10_0, hcz10_1⟩ := cs2 BK217.out; obtain ⟨hfz10_0, hfz10_1⟩ := fz2 BK217.out) | ((with_reducible refine gate_callee (f := 38) rfl ?_); refine gl (some 16) Try.func38 #[.int .i64 a0_1, .int .i64 0, .int .i64 99] ?_; (with_reducible refine (spec_l1In.calls a0_1 0 99 t219 _ A8.out).mono ?_); rintro e w' ⟨rfl, ⟨nd, rfl⟩⟩; refine ⟨_, rfl, ?_⟩))
   go_ret
   exact ⟨by first | rfl | (simp [errW_none, errW_some] <;> rfl) | (simp [*, errW_none, errW_some] <;> rfl), by exact bw HB.out⟩
  ·
   rw [if_neg c7] at H; obtain ⟨c7b0, c7b1⟩ := eqN c7
   by_cases c11 : a0_0 = 3
   ·
    rw [if_pos c11] at H; obtain ⟨c11b0, c11b1⟩ := eqY c11; clear c11
    by_cases c12 : a0_1 ≥ 0
    ·
     rw [if_pos c12] at H; have c12b0 : decide (0 ≤ a0_1) = true := decide_eq_true c12; clear c12
     obtain rfl := Option.some.inj H
     go_enter Try.func62, Try.ntmps62
     go_wp2_with (first | ((with_reducible refine gate_dst (N := 2) rfl ?_); refine bx 2 #[.int .i64 a0_0, .int .i64 a0_1] 52 ?_; intro gb217 hg w13 hbox hb; have BK217 := Aside0.mk (hbox); have GW217 := gwB HB hg; have GE217 := gwB HB hg; replace HB := bS HB hb; clear hb hbox hg; obtain ⟨hcz14_0, hcz14_1⟩ := cs2 BK217.out; obtain ⟨hfz14_0, hfz14_1⟩ := fz2 BK217.out))
     go_ret
     exact ⟨by first | rfl | (simp [errW_none, errW_some] <;> rfl) | (simp [*, errW_none, errW_some] <;> rfl), by exact bw HB.out⟩
    ·
     rw [if_neg c12] at H; have c12b0 : decide (0 ≤ a0_1) = false := decide_eq_false c12; clear c12
     obtain rfl := Option.some.inj H
     go_enter Try.func62, Try.ntmps62
     go_wp2_with (first | ((with_reducible refine gate_dst (N := 2) rfl ?_); refine bx 2 #[.int .i64 a0_0, .int .i64 a0_1] 52 ?_; intro gb217 hg w15 hbox hb; have BK217 := Aside0.mk (hbox); have GW217 := gwB HB hg; have GE217 := gwB HB hg; replace HB := bS HB hb; clear hb hbox hg; obtain ⟨hcz16_0, hcz16_1⟩ := cs2 BK217.out; obtain ⟨hfz16_0, hfz16_1⟩ := fz2 BK217.out))
     go_ret
     exact ⟨by first | rfl | (simp [errW_none, errW_some] <;> rfl) | (simp [*, errW_none, errW_some] <;> rfl), by exact bw HB.out⟩
   ·
    rw [if_neg c11] at H; obtain ⟨c11b0, c11b1⟩ := eqN c11
    obtain rfl := Option.some.inj H
    go_enter Try.func62, Try.ntmps62
    go_wp2_with (first | ((with_reducible refine gate_dst (N := 2) rfl ?_); refine bx 2 #[.int .i64 a0_0, .int .i64 a0_1] 52 ?_; intro gb217 hg w17 hbox hb; have BK217 := Aside0.mk (hbox); have GW217 := gwB HB hg; have GE217 := gwB HB hg; replace HB := bS HB hb; clear hb hbox hg; obtain ⟨hcz18_0, hcz18_1⟩ := cs2 BK217.out; obtain ⟨hfz18_0, hfz18_1⟩ := fz2 BK217.out))
    go_ret
    exact ⟨by first | rfl | (simp [errW_none, errW_some] <;> rfl) | (simp [*, errW_none, errW_some] <;> rfl), by exact bw HB.out⟩

end Go.Proofs.Ytoipfhdlgoaldaa.P
