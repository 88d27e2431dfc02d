-- Written by a program of this session (wip/tool).
import Derived.Test.YtipoeghieeafjaaPx0
import Derived.Test.YtipoeghieeafjaaPx1014
import Derived.Test.YtipoeghieeafjaaPx1067
namespace Go.Proofs.Ytipoeghieeafjaa.P
open Go.RowKit Go.Proofs.YtipoeghieeafjaaW.PrintWords Go.Proofs.YtipoeghieeafjaaW.PrintLast Go.Proofs.YtipoeghieeafjaaW.PrintMore
attribute [local go_sem] max2_int min2_int max_two min_two max_three min_three max_four min_four   -- for this text's walks alone
set_option linter.unusedVariables false
set_option linter.unusedSimpArgs false

/-! ### impl_ascends: function 85 -/
def impl_ascends.l0 : Nat → Int → Int → List Int → Int → Int → Option (Bool)
 | 0, _, _, _, _, _ => none
 | k + 1, x1, x2, x9, x10, x11 => if x11 < x10 then (if 0 ≤ x11 then (if x11 < (x9.length : Int) then ((impl_in.f (rd x9 x11) x1 x2).bind fun t287 => (if t287 = true then (impl_ascends.l0 k (wrap64 ((rd x9 x11) + 1)) x2 x9 x10 (wrap64 (x11 + 1))) else (some false))) else (none)) else (none)) else (some true)
def impl_ascends.f (k : Nat) (l0 : List Int) (a1 : Int) (a2 : Int) : Option (Bool) := impl_ascends.l0 k a1 a2 l0 (l0.length : Int) 0
theorem impl_ascends.mono_l : ∀ k, (∀ y0 y1 y2 y3 y4, LeO (impl_ascends.l0 k y0 y1 y2 y3 y4) (impl_ascends.l0 (k + 1) y0 y1 y2 y3 y4))
 | 0 => fun _ _ _ _ _ r h => by simp [impl_ascends.l0] at h
 | k + 1 => by
  have ih0 := impl_ascends.mono_l k
  ·
   intro y0 y1 y2 y3 y4
   unfold impl_ascends.l0
   repeat' first
   | (with_reducible exact ih0 _ _ _ _ _)
   | (with_reducible exact LeO.refl _)
   | (with_reducible exact LeO.none _)
   | (with_reducible refine LeO.ite ?_ ?_)
   | (with_reducible refine LeO.bind ?_ (fun _ => ?_))
   | exact ih0 _ _ _ _ _
   | exact LeO.none _
   | refine LeO.ite ?_ ?_
   | refine LeO.bind ?_ (fun _ => ?_)
theorem impl_ascends.mono : ∀ a0 a1 a2 k, LeO (impl_ascends.f k a0 a1 a2) (impl_ascends.f (k + 1) a0 a1 a2) := by
 intro a0 a1 a2 k
 have ih0 := impl_ascends.mono_l k
 unfold impl_ascends.f
 repeat' first
   | (with_reducible exact ih0 _ _ _ _ _)
   | (with_reducible exact LeO.refl _)
   | (with_reducible exact LeO.none _)
   | (with_reducible refine LeO.ite ?_ ?_)
   | (with_reducible refine LeO.bind ?_ (fun _ => ?_))
   | exact ih0 _ _ _ _ _
   | exact LeO.none _
   | refine LeO.ite ?_ ?_
   | refine LeO.bind ?_ (fun _ => ?_)
set_option maxHeartbeats 8000000 in
set_option maxRecDepth 100000 in
theorem impl_ascends.calls (k : Nat) (A0 : Option Addr) (c0 : Nat) (l0 : List Int) (a1 : Int) (a2 : Int) (r : Bool) (w : World) (hr0 : Kd.C (Kd.int .i64) w A0 l0.length l0) (hc0 : l0.length ≤ c0) (h : impl_ascends.f k l0 a1 a2 = some r) :
  Calls Try.prog 85 #[.slice A0 l0.length c0, .int .i64 a1, .int .i64 a2] w fun e w' => e = .returned (.bool r) ∧ Drawn0 w w' := by
 have HR0 := Aside0.mk hr0
 have HC0 := Aside0.mk hc0
 clear hr0 hc0
 have H : (impl_ascends.l0 k a1 a2 l0 (l0.length : Int) 0) = some r := h
 clear h
 have H' := Aside0.mk H
 clear H
 go_enter Try.func85, Try.ntmps85
 go_wp2
 go_loopg [1, 11] k (fun kq v1 v11 w' => ∃ (x1_1 : Int) (x11_1 : Int), v1 = .int .i64 x1_1 ∧ v11 = .int .i64 x11_1 ∧ Aside0 (impl_ascends.l0 kq x1_1 a2 l0 (l0.length : Int) x11_1 = some r) ∧ Aside0 (kq ≤ k) ∧ Drawn0 w w')
 case atStart => exact ⟨(a1), (0), (by first | rfl | (simp; done) | (simp [*]; done)), (by first | rfl | (simp; done) | (simp [*]; done)), H', ⟨Nat.le_refl _⟩, by repeat (first | exact Drawn0.refl _ | apply Drawn0.step)⟩
 case round =>
  clear H'
  try clear p2
  obtain ⟨x1_1, x11_1, rfl, rfl, HA, HK1, ⟨m1, rfl⟩⟩ := hrel
  cases gk with
  | zero => exact absurd HA.out (by simp [impl_ascends.l0])
  | succ k1 =>
   have H := HA.out
   clear HA
   simp only [impl_ascends.l0] at H
   by_cases c4 : x11_1 < (l0.length : Int)
   ·
    rw [if_pos c4] at H; have c4b0 : decide (x11_1 < (l0.length : Int)) = true := decide_eq_true c4; clear c4
    by_cases c5 : 0 ≤ x11_1
    ·
     rw [if_pos c5] at H; have c5b0 : decide (0 ≤ x11_1) = true := decide_eq_true c5; clear c5
     by_cases c6 : x11_1 < (l0.length : Int)
     ·
      rw [if_pos c6] at H; have c6b0 : decide (x11_1 < (l0.length : Int)) = true := decide_eq_true c6; clear c6
      replace H := Option.bind_eq_some_iff.mp H
      obtain ⟨t287, A70, H⟩ := H
      replace H : (if t287 = true then (impl_ascends.l0 k1 (wrap64 ((rd l0 x11_1) + 1)) a2 l0 (l0.length : Int) (wrap64 (x11_1 + 1))) else (some false)) = some r := H
      have A7 := Aside0.mk A70
      clear A70
      by_cases c8 : t287 = true
      ·
       subst c8
       have H1 : (impl_ascends.l0 k1 (wrap64 ((rd l0 x11_1) + 1)) a2 l0 (l0.length : Int) (wrap64 (x11_1 + 1))) = some r := by rw [if_pos rfl] at H; exact H
       clear H
       have H := H1
       clear H1
       have H' := Aside0.mk H
       clear H
       have p286 : 0 ≤ (x11_1 : Int) := of_decide_eq_true (by first | (with_reducible assumption) | assumption)
       have q286 : x11_1 < (l0.length : Int) := of_decide_eq_true (by first | (with_reducible assumption) | assumption)
       obtain ⟨ad286, e286, hx286_0⟩ := Kd.at_int HR0.out x11_1 p286 q286
       cases e286
       replace p286 := eq_true p286
       replace q286 := eq_true q286
       go_wp2_with (first | ((with_reducible refine gate_callee (f := 69) rfl ?_); refine gl (some 18) Try.func69 #[.int .i64 (rd l0 x11_1), .int .i64 x1_1, .int .i64 a2] ?_; (with_reducible refine (impl_in.calls (rd l0 x11_1) x1_1 a2 true _ A7.out).mono ?_); rintro e w' ⟨rfl, ⟨nd, rfl⟩⟩; refine ⟨_, rfl, ?_⟩))
       go_roundg k1
       case measure => have := HK1.out; omega
       case rel => exact ⟨(wrap64 ((rd l0 x11_1) + 1)), (wrap64 (x11_1 + 1)), (by first | rfl | (simp; done) | (simp [*]; done)), (by first | rfl | (simp; done) | (simp [*]; done)), H', ⟨by have := HK1.out; omega⟩, by repeat (first | exact Drawn0.refl _ | apply Drawn0.step)⟩
      ·
       replace c8 := Bool.eq_false_iff.mpr c8
       subst c8
       have H1 : (some false) = some r := by rw [if_neg (show ¬ (false = true) by decide)] at H; exact H
       clear H
       have H := H1
       clear H1
       obtain rfl := Option.some.inj H
       have p286 : 0 ≤ (x11_1 : Int) := of_decide_eq_true (by first | (with_reducible assumption) | assumption)
       have q286 : x11_1 < (l0.length : Int) := of_decide_eq_true (by first | (with_reducible assumption) | assumption)
       obtain ⟨ad286, e286, hx286_0⟩ := Kd.at_int HR0.out x11_1 p286 q286
       cases e286
       replace p286 := eq_true p286
       replace q286 := eq_true q286
       go_wp2_with (first | ((with_reducible refine gate_callee (f := 69) rfl ?_); refine gl (some 18) Try.func69 #[.int .i64 (rd l0 x11_1), .int .i64 x1_1, .int .i64 a2] ?_; (with_reducible refine (impl_in.calls (rd l0 x11_1) x1_1 a2 false _ A7.out).mono ?_); rintro e w' ⟨rfl, ⟨nd, rfl⟩⟩; refine ⟨_, rfl, ?_⟩))
       go_ret
       exact ⟨by first | rfl | (simp; done) | (simp [*]; done), by repeat (first | exact Drawn0.refl _ | apply Drawn0.step)⟩
     ·
      rw [if_neg c6] at H; exact absurd H (by simp)
    ·
     rw [if_neg c5] at H; exact absurd H (by simp)
   ·
    rw [if_neg c4] at H; have c4b0 : decide (x11_1 < (l0.length : Int)) = false := decide_eq_false c4; clear c4
    obtain rfl := Option.some.inj H
    go_wp2
    go_ret
    exact ⟨by first | rfl | (simp; done) | (simp [*]; done), by repeat (first | exact Drawn0.refl _ | apply Drawn0.step)⟩

/-! ### impl_WorldValid: function 56 -/
def impl_WorldValid.l0 : Nat → List (S79) → List (S79) → Int → Int → Option (Bool)
 | 0, _, _, _, _ => none
 | k + 1, x0, x8, x9, x10 => if x10 < x9 then (if 0 ≤ x10 then (if x10 < (x8.length : Int) then ((impl_ascends.f k ((rd_T79 x8 x10).f0) 0 (wrap64 (x10 - 1))).bind fun t290 => (if t290 = true then ((impl_fieldsValid.f k ((rd_T79 x8 x10).f1) (x0.length : Int)).bind fun t291 => (if t291 = true then (impl_WorldValid.l0 k x0 x8 x9 (wrap64 (x10 + 1))) else (some false))) else (some false))) else (none)) else (none)) else (some true)
def impl_WorldValid.f (k : Nat) (l0 : List (S79)) : Option (Bool) := if (l0.length : Int) > 7 then (some false) else (impl_WorldValid.l0 k l0 l0 (l0.length : Int) 0)
theorem impl_WorldValid.mono_l : ∀ k, (∀ y0 y1 y2 y3, LeO (impl_WorldValid.l0 k y0 y1 y2 y3) (impl_WorldValid.l0 (k + 1) y0 y1 y2 y3))
 | 0 => fun _ _ _ _ r h => by simp [impl_WorldValid.l0] at h
 | k + 1 => by
  have ih0 := impl_WorldValid.mono_l k
  ·
   intro y0 y1 y2 y3
   unfold impl_WorldValid.l0
   repeat' first
   | (with_reducible exact ih0 _ _ _ _)
   | (with_reducible exact impl_ascends.mono _ _ _ _)
   | (with_reducible exact impl_fieldsValid.mono _ _ _)
   | (with_reducible exact LeO.refl _)
   | (with_reducible exact LeO.none _)
   | (with_reducible refine LeO.ite ?_ ?_)
   | (with_reducible refine LeO.bind ?_ (fun _ => ?_))
   | exact ih0 _ _ _ _
   | exact impl_ascends.mono _ _ _ _
   | exact impl_fieldsValid.mono _ _ _
   | exact LeO.none _
   | refine LeO.ite ?_ ?_
   | refine LeO.bind ?_ (fun _ => ?_)
theorem impl_WorldValid.mono : ∀ a0 k, LeO (impl_WorldValid.f k a0) (impl_WorldValid.f (k + 1) a0) := by
 intro a0 k
 have ih0 := impl_WorldValid.mono_l k
 unfold impl_WorldValid.f
 repeat' first
   | (with_reducible exact ih0 _ _ _ _)
   | (with_reducible exact impl_ascends.mono _ _ _ _)
   | (with_reducible exact impl_fieldsValid.mono _ _ _)
   | (with_reducible exact LeO.refl _)
   | (with_reducible exact LeO.none _)
   | (with_reducible refine LeO.ite ?_ ?_)
   | (with_reducible refine LeO.bind ?_ (fun _ => ?_))
   | exact ih0 _ _ _ _
   | exact impl_ascends.mono _ _ _ _
   | exact impl_fieldsValid.mono _ _ _
   | exact LeO.none _
   | refine LeO.ite ?_ ?_
   | refine LeO.bind ?_ (fun _ => ?_)
set_option maxHeartbeats 8000000 in
set_option maxRecDepth 100000 in
theorem impl_WorldValid.calls (k : Nat) (A0 : Option Addr) (c0 : Nat) (l0 : List (S79)) (r : Bool) (w : World) (hr0 : Kd.C k79 w A0 l0.length l0) (hc0 : l0.length ≤ c0) (h : impl_WorldValid.f k l0 = some r) :
  Calls Try.prog 56 #[.slice A0 l0.length c0] w fun e w' => e = .returned (.bool r) ∧ Below w.heap.size w w' := by
 have hu79 := Try.underlying79
 have HR0 := Aside0.mk hr0
 have HC0 := Aside0.mk hc0
 clear hr0 hc0
 have HB := Aside0.mk (Below.refl w.heap.size w)
 have H : (if (l0.length : Int) > 7 then (some false) else (impl_WorldValid.l0 k l0 l0 (l0.length : Int) 0)) = some r := h
 clear h
 by_cases c2 : (l0.length : Int) > 7
 ·
  rw [if_pos c2] at H; have c2b0 : decide (7 < (l0.length : Int)) = true := decide_eq_true c2
  have c2b1 : decide (7 < l0.length) = true := decide_eq_true (by omega)
  clear c2
  obtain rfl := Option.some.inj H
  go_enter Try.func56, Try.ntmps56
  go_wp2
  go_ret
  exact ⟨by first | rfl | (simp [errW_none, errW_some] <;> rfl) | (simp [*, errW_none, errW_some] <;> rfl), by exact bw HB.out⟩
 ·
  rw [if_neg c2] at H; have c2b0 : decide (7 < (l0.length : Int)) = false := decide_eq_false c2
  have c2b1 : decide (7 < l0.length) = false := decide_eq_false (by omega)
  clear c2
  have H' := Aside0.mk H
  clear H
  go_enter Try.func56, Try.ntmps56
  go_wp2
  go_loopg [10] k (fun kq v10 w' => ∃ (x10_1 : Int), v10 = .int .i64 x10_1 ∧ Aside0 (impl_WorldValid.l0 kq l0 l0 (l0.length : Int) x10_1 = some r) ∧ Aside0 (kq ≤ k) ∧ Aside0 (Below w.heap.size w w'))
  case atStart => exact ⟨(0), (by first | rfl | (simp; done) | (simp [*]; done)), H', ⟨Nat.le_refl _⟩, ⟨by exact bw HB.out⟩⟩
  case round =>
   clear H'
   try clear c2
   try clear c2b0
   try clear c2b1
   try clear p2
   obtain ⟨x10_1, rfl, HA, HK1, HB⟩ := hrel
   cases gk with
   | zero => exact absurd HA.out (by simp [impl_WorldValid.l0])
   | succ k1 =>
    have H := HA.out
    clear HA
    simp only [impl_WorldValid.l0] at H
    by_cases c3 : x10_1 < (l0.length : Int)
    ·
     rw [if_pos c3] at H; have c3b0 : decide (x10_1 < (l0.length : Int)) = true := decide_eq_true c3; clear c3
     by_cases c4 : 0 ≤ x10_1
     ·
      rw [if_pos c4] at H; have c4b0 : decide (0 ≤ x10_1) = true := decide_eq_true c4; clear c4
      by_cases c5 : x10_1 < (l0.length : Int)
      ·
       rw [if_pos c5] at H; have c5b0 : decide (x10_1 < (l0.length : Int)) = true := decide_eq_true c5; clear c5
       replace H := Option.bind_eq_some_iff.mp H
       obtain ⟨t290, A60, H⟩ := H
       replace H : (if t290 = true then ((impl_fieldsValid.f k1 ((rd_T79 l0 x10_1).f1) (l0.length : Int)).bind fun t291 => (if t291 = true then (impl_WorldValid.l0 k1 l0 l0 (l0.length : Int) (wrap64 (x10_1 + 1))) else (some false))) else (some false)) = some r := H
       have A6 := Aside0.mk A60
       clear A60
       by_cases c7 : t290 = true
       ·
        subst c7
        have H1 : ((impl_fieldsValid.f k1 ((rd_T79 l0 x10_1).f1) (l0.length : Int)).bind fun t291 => (if t291 = true then (impl_WorldValid.l0 k1 l0 l0 (l0.length : Int) (wrap64 (x10_1 + 1))) else (some false))) = some r := by rw [if_pos rfl] at H; exact H
        clear H
        have H := H1
        clear H1
        replace H := Option.bind_eq_some_iff.mp H
        obtain ⟨t291, A80, H⟩ := H
        replace H : (if t291 = true then (impl_WorldValid.l0 k1 l0 l0 (l0.length : Int) (wrap64 (x10_1 + 1))) else (some false)) = some r := H
        have A8 := Aside0.mk A80
        clear A80
        by_cases c9 : t291 = true
        ·
         subst c9
         have H1 : (impl_WorldValid.l0 k1 l0 l0 (l0.length : Int) (wrap64 (x10_1 + 1))) = some r := by rw [if_pos rfl] at H; exact H
         clear H
         have H := H1
         clear H1
         have H' := Aside0.mk H
         clear H
         have p288 : 0 ≤ (x10_1 : Int) := of_decide_eq_true (by first | (with_reducible assumption) | assumption)
         have q288 : x10_1 < (l0.length : Int) := of_decide_eq_true (by first | (with_reducible assumption) | assumption)
         obtain ⟨ad288, A288_0, c288_0, A288_1, c288_1, e288, hx288_0, hx288_1, hl288_0, hi288_0, hl288_1, hi288_1⟩ := at_T79 HR0.out x10_1 p288 q288
         cases e288
         first | replace hx288_0 := (HB.out.cell (World.block_lt_of_cell? w _ hx288_0)).trans hx288_0 | skip
         first | replace hx288_1 := (HB.out.cell (World.block_lt_of_cell? w _ hx288_1)).trans hx288_1 | skip
         have HR288_0 := Aside0.mk hi288_0
         have HC288_0 := Aside0.mk hl288_0
         clear hi288_0 hl288_0
         have HR288_1 := Aside0.mk hi288_1
         have HC288_1 := Aside0.mk hl288_1
         clear hi288_1 hl288_1
         replace p288 := eq_true p288
         replace q288 := eq_true q288
         go_wp2_with (first | ((with_reducible refine gate_dst (N := 4) rfl ?_); (try (refine gate_guard (by rfl) ?_; dsimp only)); refine bx 4 #[.slice none 0 0, .slice none 0 0] 79 ?_; intro gb289 hg w10 hbox hb; have BK289 := Aside0.mk (hbox); have GW289 := gwB HB hg; have GE289 := gwB HB hg; replace HB := bS HB hb; clear hb hbox hg; obtain ⟨hcz11_0, hcz11_1⟩ := cs2 BK289.out; obtain ⟨hfz11_0, hfz11_1⟩ := fz2 BK289.out) | ((with_reducible refine gate_callee (f := 85) rfl ?_); refine gl (some 19) Try.func85 #[.slice A288_0 ((rd_T79 l0 x10_1).f0).length c288_0, .int .i64 0, .int .i64 (wrap64 (x10_1 - 1))] ?_; (with_reducible refine (impl_ascends.calls k1 _ _ ((rd_T79 l0 x10_1).f0) 0 (wrap64 (x10_1 - 1)) true _ ?side1 ?side2 A6.out).mono ?_); (case side1 => exact Kd.C_below HR288_0.out (by exact bw HB.out)); (case side2 => exact HC288_0.out); rintro e w' ⟨rfl, ⟨nd, rfl⟩⟩; refine ⟨_, rfl, ?_⟩) | (go_at_call 67; (with_reducible refine (impl_fieldsValid.calls k1 _ _ ((rd_T79 l0 x10_1).f1) (l0.length : Int) true _ ?side1 ?side2 A8.out).mono ?_); (case side1 => exact Kd.C_below HR288_1.out (by exact bw HB.out)); (case side2 => exact HC288_1.out); rintro e w12 ⟨rfl, hb⟩; have n0_ := Aside0.mk (blk_below (g := gb289) (o := .cells #[.slice A288_0 ((rd_T79 l0 x10_1).f0).length c288_0, .slice A288_1 ((rd_T79 l0 x10_1).f1).length c288_1] 79 (0, 0)) (bp BK289) hb); have n1_ := bS HB hb; clear BK289; clear HB; have BK289 := n0_; have HB := n1_; clear n0_ n1_; (try clear hb); (try clear hb2); (try clear hk); (try clear hi)))
         go_roundg k1
         case measure => have := HK1.out; omega
         case rel => exact ⟨(wrap64 (x10_1 + 1)), (by first | rfl | (simp; done) | (simp [*]; done)), H', ⟨by have := HK1.out; omega⟩, ⟨by exact bw HB.out⟩⟩
        ·
         replace c9 := Bool.eq_false_iff.mpr c9
         subst c9
         have H1 : (some false) = some r := by rw [if_neg (show ¬ (false = true) by decide)] at H; exact H
         clear H
         have H := H1
         clear H1
         obtain rfl := Option.some.inj H
         have p288 : 0 ≤ (x10_1 : Int) := of_decide_eq_true (by first | (with_reducible assumption) | assumption)
         have q288 : x10_1 < (l0.length : Int) := of_decide_eq_true (by first | (with_reducible assumption) | assumption)
         obtain ⟨ad288, A288_0, c288_0, A288_1, c288_1, e288, hx288_0, hx288_1, hl288_0, hi288_0, hl288_1, hi288_1⟩ := at_T79 HR0.out x10_1 p288 q288
         cases e288
         first | replace hx288_0 := (HB.out.cell (World.block_lt_of_cell? w _ hx288_0)).trans hx288_0 | skip
         first | replace hx288_1 := (HB.out.cell (World.block_lt_of_cell? w _ hx288_1)).trans hx288_1 | skip
         have HR288_0 := Aside0.mk hi288_0
         have HC288_0 := Aside0.mk hl288_0
         clear hi288_0 hl288_0
         have HR288_1 := Aside0.mk hi288_1
         have HC288_1 := Aside0.mk hl288_1
         clear hi288_1 hl288_1
         replace p288 := eq_true p288
         replace q288 := eq_true q288
         go_wp2_with (first | ((with_reducible refine gate_dst (N := 4) rfl ?_); (try (refine gate_guard (by rfl) ?_; dsimp only)); refine bx 4 #[.slice none 0 0, .slice none 0 0] 79 ?_; intro gb289 hg w13 hbox hb; have BK289 := Aside0.mk (hbox); have GW289 := gwB HB hg; have GE289 := gwB HB hg; replace HB := bS HB hb; clear hb hbox hg; obtain ⟨hcz14_0, hcz14_1⟩ := cs2 BK289.out; obtain ⟨hfz14_0, hfz14_1⟩ := fz2 BK289.out) | ((with_reducible refine gate_callee (f := 85) rfl ?_); refine gl (some 19) Try.func85 #[.slice A288_0 ((rd_T79 l0 x10_1).f0).length c288_0, .int .i64 0, .int .i64 (wrap64 (x10_1 - 1))] ?_; (with_reducible refine (impl_ascends.calls k1 _ _ ((rd_T79 l0 x10_1).f0) 0 (wrap64 (x10_1 - 1)) true _ ?side1 ?side2 A6.out).mono ?_); (case side1 => exact Kd.C_below HR288_0.out (by exact bw HB.out)); (case side2 => exact HC288_0.out); rintro e w' ⟨rfl, ⟨nd, rfl⟩⟩; refine ⟨_, rfl, ?_⟩) | (go_at_call 67; (with_reducible refine (impl_fieldsValid.calls k1 _ _ ((rd_T79 l0 x10_1).f1) (l0.length : Int) false _ ?side1 ?side2 A8.out).mono ?_); (case side1 => exact Kd.C_below HR288_1.out (by exact bw HB.out)); (case side2 => exact HC288_1.out); rintro e w15 ⟨rfl, hb⟩; have n0_ := Aside0.mk (blk_below (g := gb289) (o := .cells #[.slice A288_0 ((rd_T79 l0 x10_1).f0).length c288_0, .slice A288_1 ((rd_T79 l0 x10_1).f1).length c288_1] 79 (0, 0)) (bp BK289) hb); have n1_ := bS HB hb; clear BK289; clear HB; have BK289 := n0_; have HB := n1_; clear n0_ n1_; (try clear hb); (try clear hb2); (try clear hk); (try clear hi)))
         go_ret
         exact ⟨by first | rfl | (simp [errW_none, errW_some] <;> rfl) | (simp [*, errW_none, errW_some] <;> rfl), by exact bw HB.out⟩
       ·
        replace c7 := Bool.eq_false_iff.mpr c7
        subst c7
        have H1 : (some false) = some r := by rw [if_neg (show ¬ (false = true) by decide)] at H; exact H
        clear H
        have H := H1
        clear H1
        obtain rfl := Option.some.inj H
        have p288 : 0 ≤ (x10_1 : Int) := of_decide_eq_true (by first | (with_reducible assumption) | assumption)
        have q288 : x10_1 < (l0.length : Int) := of_decide_eq_true (by first | (with_reducible assumption) | assumption)
        obtain ⟨ad288, A288_0, c288_0, A288_1, c288_1, e288, hx288_0, hx288_1, hl288_0, hi288_0, hl288_1, hi288_1⟩ := at_T79 HR0.out x10_1 p288 q288
        cases e288
        first | replace hx288_0 := (HB.out.cell (World.block_lt_of_cell? w _ hx288_0)).trans hx288_0 | skip
        first | replace hx288_1 := (HB.out.cell (World.block_lt_of_cell? w _ hx288_1)).trans hx288_1 | skip
        have HR288_0 := Aside0.mk hi288_0
        have HC288_0 := Aside0.mk hl288_0
        clear hi288_0 hl288_0
        have HR288_1 := Aside0.mk hi288_1
        have HC288_1 := Aside0.mk hl288_1
        clear hi288_1 hl288_1
        replace p288 := eq_true p288
        replace q288 := eq_true q288
        go_wp2_with (first | ((with_reducible refine gate_dst (N := 4) rfl ?_); (try (refine gate_guard (by rfl) ?_; dsimp only)); refine bx 4 #[.slice none 0 0, .slice none 0 0] 79 ?_; intro gb289 hg w16 hbox hb; have BK289 := Aside0.mk (hbox); have GW289 := gwB HB hg; have GE289 := gwB HB hg; replace HB := bS HB hb; clear hb hbox hg; obtain ⟨hcz17_0, hcz17_1⟩ := cs2 BK289.out; obtain ⟨hfz17_0, hfz17_1⟩ := fz2 BK289.out) | ((with_reducible refine gate_callee (f := 85) rfl ?_); refine gl (some 19) Try.func85 #[.slice A288_0 ((rd_T79 l0 x10_1).f0).length c288_0, .int .i64 0, .int .i64 (wrap64 (x10_1 - 1))] ?_; (with_reducible refine (impl_ascends.calls k1 _ _ ((rd_T79 l0 x10_1).f0) 0 (wrap64 (x10_1 - 1)) false _ ?side1 ?side2 A6.out).mono ?_); (case side1 => exact Kd.C_below HR288_0.out (by exact bw HB.out)); (case side2 => exact HC288_0.out); rintro e w' ⟨rfl, ⟨nd, rfl⟩⟩; refine ⟨_, rfl, ?_⟩))
        go_ret
        exact ⟨by first | rfl | (simp [errW_none, errW_some] <;> rfl) | (simp [*, errW_none, errW_some] <;> rfl), by exact bw HB.out⟩
      ·
       rw [if_neg c5] at H; exact absurd H (by simp)
     ·
      rw [if_neg c4] at H; exact absurd H (by simp)
    ·
     rw [if_neg c3] at H; have c3b0 : decide (x10_1 < (l0.length : Int)) = false := decide_eq_false c3; clear c3
     obtain rfl := Option.some.inj H
     go_wp2
     go_ret
     exact ⟨by first | rfl | (simp [errW_none, errW_some] <;> rfl) | (simp [*, errW_none, errW_some] <;> rfl), by exact bw HB.out⟩

/-! ### impl_isThing: function 65 -/
def impl_isThing.f (l0 : List (S79)) (a1 : Int) : Option (Bool) := (impl_in.f a1 0 (wrap64 ((l0.length : Int) - 1))).bind fun t292 => (some t292)
set_option maxHeartbeats 8000000 in
set_option maxRecDepth 100000 in
theorem impl_isThing.calls (A0 : Option Addr) (c0 : Nat) (l0 : List (S79)) (a1 : Int) (r : Bool) (w : World) (hr0 : Kd.C k79 w A0 l0.length l0) (hc0 : l0.length ≤ c0) (h : impl_isThing.f l0 a1 = some r) :
  Calls Try.prog 65 #[.slice A0 l0.length c0, .int .i64 a1] w fun e w' => e = .returned (.bool r) ∧ Drawn0 w w' := by
 have HR0 := Aside0.mk hr0
 have HC0 := Aside0.mk hc0
 clear hr0 hc0
 have H : ((impl_in.f a1 0 (wrap64 ((l0.length : Int) - 1))).bind fun t292 => (some t292)) = some r := h
 clear h
 replace H := Option.bind_eq_some_iff.mp H
 obtain ⟨t292, A30, H⟩ := H
 replace H : (some t292) = some r := H
 have A3 := Aside0.mk A30
 clear A30
 obtain rfl := Option.some.inj H
 go_enter Try.func65, Try.ntmps65
 go_wp2_with (first | ((with_reducible refine gate_callee (f := 69) rfl ?_); refine gl (some 9) Try.func69 #[.int .i64 a1, .int .i64 0, .int .i64 (wrap64 ((l0.length : Int) - 1))] ?_; (with_reducible refine (impl_in.calls a1 0 (wrap64 ((l0.length : Int) - 1)) t292 _ A3.out).mono ?_); rintro e w' ⟨rfl, ⟨nd, rfl⟩⟩; refine ⟨_, rfl, ?_⟩))
 go_ret
 exact ⟨by first | rfl | (simp; done) | (simp [*]; done), by repeat (first | exact Drawn0.refl _ | apply Drawn0.step)⟩

/-! ### impl_isAct: function 66 -/
def impl_isAct.f (a0 : Int) : Option (Bool) := (impl_in.f a0 0 3).bind fun t293 => (some t293)
set_option maxHeartbeats 8000000 in
set_option maxRecDepth 100000 in
theorem impl_isAct.calls (a0 : Int) (r : Bool) (w : World) (h : impl_isAct.f a0 = some r) :
  Calls Try.prog 66 #[.int .i64 a0] w fun e w' => e = .returned (.bool r) ∧ Drawn0 w w' := by
 have H : ((impl_in.f a0 0 3).bind fun t293 => (some t293)) = some r := h
 clear h
 replace H := Option.bind_eq_some_iff.mp H
 obtain ⟨t293, A20, H⟩ := H
 replace H : (some t293) = some r := H
 have A2 := Aside0.mk A20
 clear A20
 obtain rfl := Option.some.inj H
 go_enter Try.func66, Try.ntmps66
 go_wp2_with (first | ((with_reducible refine gate_callee (f := 69) rfl ?_); refine gl (some 4) Try.func69 #[.int .i64 a0, .int .i64 0, .int .i64 3] ?_; (with_reducible refine (impl_in.calls a0 0 3 t293 _ A2.out).mono ?_); rintro e w' ⟨rfl, ⟨nd, rfl⟩⟩; refine ⟨_, rfl, ?_⟩))
 go_ret
 exact ⟨by first | rfl | (simp; done) | (simp [*]; done), by repeat (first | exact Drawn0.refl _ | apply Drawn0.step)⟩

/-! ### impl_RequestValid: function 42 -/
def impl_RequestValid.f (k : Nat) (l0 : List (S79)) (a1_0 : Int) (a1_1 : Int) (a1_2 : Int) (l1_3 : List (S103)) : Option (Bool) := (impl_WorldValid.f k l0).bind fun t295 => (if t295 = true then ((impl_isThing.f l0 a1_0).bind fun t296 => (if t296 = true then ((impl_isThing.f l0 a1_2).bind fun t297 => (if t297 = true then ((impl_isAct.f a1_1).bind fun t298 => (if t298 = true then ((impl_fieldsValid.f k l1_3 (l0.length : Int)).bind fun t299 => (some t299)) else (some false))) else (some false))) else (some false))) else (some false))
theorem impl_RequestValid.mono : ∀ a0 a1 a2 a3 a4 k, LeO (impl_RequestValid.f k a0 a1 a2 a3 a4) (impl_RequestValid.f (k + 1) a0 a1 a2 a3 a4) := by
 intro a0 a1 a2 a3 a4 k
 unfold impl_RequestValid.f
 repeat' first
   | (with_reducible exact impl_WorldValid.mono _ _)
   | (with_reducible exact impl_fieldsValid.mono _ _ _)
   | (with_reducible exact LeO.refl _)
   | (with_reducible exact LeO.none _)
   | (with_reducible refine LeO.ite ?_ ?_)
   | (with_reducible refine LeO.bind ?_ (fun _ => ?_))
   | exact impl_WorldValid.mono _ _
   | exact impl_fieldsValid.mono _ _ _
   | exact LeO.none _
   | refine LeO.ite ?_ ?_
   | refine LeO.bind ?_ (fun _ => ?_)
set_option maxHeartbeats 8000000 in
set_option maxRecDepth 100000 in
theorem impl_RequestValid.calls (k : Nat) (A0 : Option Addr) (c0 : Nat) (l0 : List (S79)) (a1_0 : Int) (a1_1 : Int) (a1_2 : Int) (A1_3 : Option Addr) (c1_3 : Nat) (l1_3 : List (S103)) (r : Bool) (w : World) (hr0 : Kd.C k79 w A0 l0.length l0) (hc0 : l0.length ≤ c0) (hr1_3 : Kd.C k103 w A1_3 l1_3.length l1_3) (hc1_3 : l1_3.length ≤ c1_3) (h : impl_RequestValid.f k l0 a1_0 a1_1 a1_2 l1_3 = some r) :
  Calls Try.prog 42 #[.slice A0 l0.length c0, .agg #[.int .i64 a1_0, .int .i64 a1_1, .int .i64 a1_2, .slice A1_3 l1_3.length c1_3]] w fun e w' => e = .returned (.bool r) ∧ Below w.heap.size w w' := by
 have hu39 := Try.underlying39
 have HR0 := Aside0.mk hr0
 have HC0 := Aside0.mk hc0
 clear hr0 hc0
 have HR1_3 := Aside0.mk hr1_3
 have HC1_3 := Aside0.mk hc1_3
 clear hr1_3 hc1_3
 have HB := Aside0.mk (Below.refl w.heap.size w)
 have H : ((impl_WorldValid.f k l0).bind fun t295 => (if t295 = true then ((impl_isThing.f l0 a1_0).bind fun t296 => (if t296 = true then ((impl_isThing.f l0 a1_2).bind fun t297 => (if t297 = true then ((impl_isAct.f a1_1).bind fun t298 => (if t298 = true then ((impl_fieldsValid.f k l1_3 (l0.length : Int)).bind fun t299 => (some t299)) else (some false))) else (some false))) else (some false))) else (some false))) = some r := h
 clear h
 replace H := Option.bind_eq_some_iff.mp H
 obtain ⟨t295, A30, H⟩ := H
 replace H : (if t295 = true then ((impl_isThing.f l0 a1_0).bind fun t296 => (if t296 = true then ((impl_isThing.f l0 a1_2).bind fun t297 => (if t297 = true then ((impl_isAct.f a1_1).bind fun t298 => (if t298 = true then ((impl_fieldsValid.f k l1_3 (l0.length : Int)).bind fun t299 => (some t299)) else (some false))) else (some false))) else (some false))) else (some false)) = some r := H
 have A3 := Aside0.mk A30
 clear A30
 by_cases c4 : t295 = true
 ·
  subst c4
  have H1 : ((impl_isThing.f l0 a1_0).bind fun t296 => (if t296 = true then ((impl_isThing.f l0 a1_2).bind fun t297 => (if t297 = true then ((impl_isAct.f a1_1).bind fun t298 => (if t298 = true then ((impl_fieldsValid.f k l1_3 (l0.length : Int)).bind fun t299 => (some t299)) else (some false))) else (some false))) else (some false))) = some r := by rw [if_pos rfl] at H; exact H
  clear H
  have H := H1
  clear H1
  replace H := Option.bind_eq_some_iff.mp H
  obtain ⟨t296, A50, H⟩ := H
  replace H : (if t296 = true then ((impl_isThing.f l0 a1_2).bind fun t297 => (if t297 = true then ((impl_isAct.f a1_1).bind fun t298 => (if t298 = true then ((impl_fieldsValid.f k l1_3 (l0.length : Int)).bind fun t299 => (some t299)) else (some false))) else (some false))) else (some false)) = some r := H
  have A5 := Aside0.mk A50
  clear A50
  by_cases c6 : t296 = true
  ·
   subst c6
   have H1 : ((impl_isThing.f l0 a1_2).bind fun t297 => (if t297 = true then ((impl_isAct.f a1_1).bind fun t298 => (if t298 = true then ((impl_fieldsValid.f k l1_3 (l0.length : Int)).bind fun t299 => (some t299)) else (some false))) else (some false))) = some r := by rw [if_pos rfl] at H; exact H
   clear H
   have H := H1
   clear H1
   replace H := Option.bind_eq_some_iff.mp H
   obtain ⟨t297, A70, H⟩ := H
   replace H : (if t297 = true then ((impl_isAct.f a1_1).bind fun t298 => (if t298 = true then ((impl_fieldsValid.f k l1_3 (l0.length : Int)).bind fun t299 => (some t299)) else (some false))) else (some false)) = some r := H
   have A7 := Aside0.mk A70
   clear A70
   by_cases c8 : t297 = true
   ·
    subst c8
    have H1 : ((impl_isAct.f a1_1).bind fun t298 => (if t298 = true then ((impl_fieldsValid.f k l1_3 (l0.length : Int)).bind fun t299 => (some t299)) else (some false))) = some r := by rw [if_pos rfl] at H; exact H
    clear H
    have H := H1
    clear H1
    replace H := Option.bind_eq_some_iff.mp H
    obtain ⟨t298, A90, H⟩ := H
    replace H : (if t298 = true then ((impl_fieldsValid.f k l1_3 (l0.length : Int)).bind fun t299 => (some t299)) else (some false)) = some r := H
    have A9 := Aside0.mk A90
    clear A90
    by_cases c10 : t298 = true
    ·
     subst c10
     have H1 : ((impl_fieldsValid.f k l1_3 (l0.length : Int)).bind fun t299 => (some t299)) = some r := by rw [if_pos rfl] at H; exact H
     clear H
     have H := H1
     clear H1
     replace H := Option.bind_eq_some_iff.mp H
     obtain ⟨t299, A110, H⟩ := H
     replace H : (some t299) = some r := H
     have A11 := Aside0.mk A110
     clear A110
     obtain rfl := Option.some.inj H
     go_enter Try.func42, Try.ntmps42
     go_wp2_with (first | ((with_reducible refine gate_dst (N := 3) rfl ?_); (try (refine gate_guard (by rfl) ?_; dsimp only)); refine bx 3 #[.int .i64 a1_0, .int .i64 a1_1, .int .i64 a1_2, .slice A1_3 l1_3.length c1_3] 39 ?_; intro gb294 hg w12 hbox hb; have BK294 := Aside0.mk (hbox); have GW294 := gwB HB hg; have GE294 := gwB HB hg; replace HB := bS HB hb; clear hb hbox hg) | ((with_reducible refine gate_callee (f := 56) rfl ?_); refine gl (some 6) Try.func56 #[.slice A0 l0.length c0] ?_; (with_reducible refine (impl_WorldValid.calls k _ _ l0 true _ ?side1 ?side2 A3.out).mono ?_); (case side1 => repeat (first | exact (Kd.C_below HR0.out HB.out) | (with_reducible refine Kd.C_alloc ?_ _) | (with_reducible refine Kd.C_drewN ?_ _) | (with_reducible refine Kd.C_drew ?_))); (case side2 => exact HC0.out); rintro e w13 ⟨rfl, hb⟩; refine ⟨_, rfl, ?_⟩; replace BK294 := bB BK294 hb; replace HB := bS HB hb; (try clear hb); (try clear hb2); (try clear hk); (try clear hi); obtain ⟨hcz14_0, hcz14_1, hcz14_2, hcz14_3⟩ := cs4 BK294.out; obtain ⟨hfz14_0, hfz14_1, hfz14_2, hfz14_3⟩ := fz4 BK294.out) | (go_at_call 65; (with_reducible refine (impl_isThing.calls _ _ l0 a1_0 true _ ?side1 ?side2 A5.out).mono ?_); (case side1 => repeat (first | exact (Kd.C_below HR0.out HB.out) | (with_reducible refine Kd.C_alloc ?_ _) | (with_reducible refine Kd.C_drewN ?_ _) | (with_reducible refine Kd.C_drew ?_))); (case side2 => exact HC0.out); rintro e w' ⟨rfl, ⟨nd, rfl⟩⟩) | (go_at_call 65; (with_reducible refine (impl_isThing.calls _ _ l0 a1_2 true _ ?side1 ?side2 A7.out).mono ?_); (case side1 => repeat (first | exact (Kd.C_below HR0.out (by exact bw HB.out)) | exact HR0.out | (with_reducible refine Kd.C_alloc ?_ _) | (with_reducible refine Kd.C_drewN ?_ _) | (with_reducible refine Kd.C_drew ?_))); (case side2 => exact HC0.out); rintro e w' ⟨rfl, ⟨nd, rfl⟩⟩) | (go_at_call 66; (with_reducible refine (impl_isAct.calls a1_1 true _ A9.out).mono ?_); rintro e w' ⟨rfl, ⟨nd, rfl⟩⟩) | (go_at_call 67; (with_reducible refine (impl_fieldsValid.calls k _ _ l1_3 (l0.length : Int) t299 _ ?side1 ?side2 A11.out).mono ?_); (case side1 => repeat (first | exact (Kd.C_below HR1_3.out (by exact bw HB.out)) | exact HR1_3.out | (with_reducible refine Kd.C_alloc ?_ _) | (with_reducible refine Kd.C_drewN ?_ _) | (with_reducible refine Kd.C_drew ?_))); (case side2 => exact HC1_3.out); rintro e w15 ⟨rfl, hb⟩; have n0_ := bB BK294 hb; have n1_ := bS HB hb; clear BK294; clear HB; have BK294 := n0_; have HB := n1_; clear n0_ n1_; (try clear hb); (try clear hb2); (try clear hk); (try clear hi)))
     go_ret
     exact ⟨by first | rfl | (simp [errW_none, errW_some] <;> rfl) | (simp [*, errW_none, errW_some] <;> rfl), by exact bw HB.out⟩
    ·
     replace c10 := Bool.eq_false_iff.mpr c10
     subst c10
     have H1 : (some false) = some r := by rw [if_neg (show ¬ (false = true) by decide)] at H; exact H
     clear H
     have H := H1
     clear H1
     obtain rfl := Option.some.inj H
     go_enter Try.func42, Try.ntmps42
     go_wp2_with (first | ((with_reducible refine gate_dst (N := 3) rfl ?_); (try (refine gate_guard (by rfl) ?_; dsimp only)); refine bx 3 #[.int .i64 a1_0, .int .i64 a1_1, .int .i64 a1_2, .slice A1_3 l1_3.length c1_3] 39 ?_; intro gb294 hg w16 hbox hb; have BK294 := Aside0.mk (hbox); have GW294 := gwB HB hg; have GE294 := gwB HB hg; replace HB := bS HB hb; clear hb hbox hg) | ((with_reducible refine gate_callee (f := 56) rfl ?_); refine gl (some 6) Try.func56 #[.slice A0 l0.length c0] ?_; (with_reducible refine (impl_WorldValid.calls k _ _ l0 true _ ?side1 ?side2 A3.out).mono ?_); (case side1 => repeat (first | exact (Kd.C_below HR0.out HB.out) | (with_reducible refine Kd.C_alloc ?_ _) | (with_reducible refine Kd.C_drewN ?_ _) | (with_reducible refine Kd.C_drew ?_))); (case side2 => exact HC0.out); rintro e w17 ⟨rfl, hb⟩; refine ⟨_, rfl, ?_⟩; replace BK294 := bB BK294 hb; replace HB := bS HB hb; (try clear hb); (try clear hb2); (try clear hk); (try clear hi); obtain ⟨hcz18_0, hcz18_1, hcz18_2, hcz18_3⟩ := cs4 BK294.out; obtain ⟨hfz18_0, hfz18_1, hfz18_2, hfz18_3⟩ := fz4 BK294.out) | (go_at_call 65; (with_reducible refine (impl_isThing.calls _ _ l0 a1_0 true _ ?side1 ?side2 A5.out).mono ?_); (case side1 => repeat (first | exact (Kd.C_below HR0.out HB.out) | (with_reducible refine Kd.C_alloc ?_ _) | (with_reducible refine Kd.C_drewN ?_ _) | (with_reducible refine Kd.C_drew ?_))); (case side2 => exact HC0.out); rintro e w' ⟨rfl, ⟨nd, rfl⟩⟩) | (go_at_call 65; (with_reducible refine (impl_isThing.calls _ _ l0 a1_2 true _ ?side1 ?side2 A7.out).mono ?_); (case side1 => repeat (first | exact (Kd.C_below HR0.out (by exact bw HB.out)) | exact HR0.out | (with_reducible refine Kd.C_alloc ?_ _) | (with_reducible refine Kd.C_drewN ?_ _) | (with_reducible refine Kd.C_drew ?_))); (case side2 => exact HC0.out); rintro e w' ⟨rfl, ⟨nd, rfl⟩⟩) | (go_at_call 66; (with_reducible refine (impl_isAct.calls a1_1 false _ A9.out).mono ?_); rintro e w' ⟨rfl, ⟨nd, rfl⟩⟩))
     go_ret
     exact ⟨by first | rfl | (simp [errW_none, errW_some] <;> rfl) | (simp [*, errW_none, errW_some] <;> rfl), by exact bw HB.out⟩
   ·
    replace c8 := Bool.eq_false_iff.mpr c8
    subst c8
    have H1 : (some false) = some r := by rw [if_neg (show ¬ (false = true) by decide)] at H; exact H
    clear H
    have H := H1
    clear H1
    obtain rfl := Option.some.inj H
    go_enter Try.func42, Try.ntmps42
    go_wp2_with (first | ((with_reducible refine gate_dst (N := 3) rfl ?_); (try (refine gate_guard (by rfl) ?_; dsimp only)); refine bx 3 #[.int .i64 a1_0, .int .i64 a1_1, .int .i64 a1_2, .slice A1_3 l1_3.length c1_3] 39 ?_; intro gb294 hg w19 hbox hb; have BK294 := Aside0.mk (hbox); have GW294 := gwB HB hg; have GE294 := gwB HB hg; replace HB := bS HB hb; clear hb hbox hg) | ((with_reducible refine gate_callee (f := 56) rfl ?_); refine gl (some 6) Try.func56 #[.slice A0 l0.length c0] ?_; (with_reducible refine (impl_WorldValid.calls k _ _ l0 true _ ?side1 ?side2 A3.out).mono ?_); (case side1 => repeat (first | exact (Kd.C_below HR0.out HB.out) | (with_reducible refine Kd.C_alloc ?_ _) | (with_reducible refine Kd.C_drewN ?_ _) | (with_reducible refine Kd.C_drew ?_))); (case side2 => exact HC0.out); rintro e w20 ⟨rfl, hb⟩; refine ⟨_, rfl, ?_⟩; replace BK294 := bB BK294 hb; replace HB := bS HB hb; (try clear hb); (try clear hb2); (try clear hk); (try clear hi); obtain ⟨hcz21_0, hcz21_1, hcz21_2, hcz21_3⟩ := cs4 BK294.out; obtain ⟨hfz21_0, hfz21_1, hfz21_2, hfz21_3⟩ := fz4 BK294.out) | (go_at_call 65; (with_reducible refine (impl_isThing.calls _ _ l0 a1_0 true _ ?side1 ?side2 A5.out).mono ?_); (case side1 => repeat (first | exact (Kd.C_below HR0.out HB.out) | (with_reducible refine Kd.C_alloc ?_ _) | (with_reducible refine Kd.C_drewN ?_ _) | (with_reducible refine Kd.C_drew ?_))); (case side2 => exact HC0.out); rintro e w' ⟨rfl, ⟨nd, rfl⟩⟩) | (go_at_call 65; (with_reducible refine (impl_isThing.calls _ _ l0 a1_2 false _ ?side1 ?side2 A7.out).mono ?_); (case side1 => repeat (first | exact (Kd.C_below HR0.out (by exact bw HB.out)) | exact HR0.out | (with_reducible refine Kd.C_alloc ?_ _) | (with_reducible refine Kd.C_drewN ?_ _) | (with_reducible refine Kd.C_drew ?_))); (case side2 => exact HC0.out); rintro e w' ⟨rfl, ⟨nd, rfl⟩⟩))
    go_ret
    exact ⟨by first | rfl | (simp [errW_none, errW_some] <;> rfl) | (simp [*, errW_none, errW_some] <;> rfl), by exact bw HB.out⟩
  ·
   replace c6 := Bool.eq_false_iff.mpr c6
   subst c6
   have H1 : (some false) = some r := by rw [if_neg (show ¬ (false = true) by decide)] at H; exact H
   clear H
   have H := H1
   clear H1
   obtain rfl := Option.some.inj H
   go_enter Try.func42, Try.ntmps42
   go_wp2_with (first | ((with_reducible refine gate_dst (N := 3) rfl ?_); (try (refine gate_guard (by rfl) ?_; dsimp only)); refine bx 3 #[.int .i64 a1_0, .int .i64 a1_1, .int .i64 a1_2, .slice A1_3 l1_3.length c1_3] 39 ?_; intro gb294 hg w22 hbox hb; have BK294 := Aside0.mk (hbox); have GW294 := gwB HB hg; have GE294 := gwB HB hg; replace HB := bS HB hb; clear hb hbox hg) | ((with_reducible refine gate_callee (f := 56) rfl ?_); refine gl (some 6) Try.func56 #[.slice A0 l0.length c0] ?_; (with_reducible refine (impl_WorldValid.calls k _ _ l0 true _ ?side1 ?side2 A3.out).mono ?_); (case side1 => repeat (first | exact (Kd.C_below HR0.out HB.out) | (with_reducible refine Kd.C_alloc ?_ _) | (with_reducible refine Kd.C_drewN ?_ _) | (with_reducible refine Kd.C_drew ?_))); (case side2 => exact HC0.out); rintro e w23 ⟨rfl, hb⟩; refine ⟨_, rfl, ?_⟩; replace BK294 := bB BK294 hb; replace HB := bS HB hb; (try clear hb); (try clear hb2); (try clear hk); (try clear hi); obtain ⟨hcz24_0, hcz24_1, hcz24_2, hcz24_3⟩ := cs4 BK294.out; obtain ⟨hfz24_0, hfz24_1, hfz24_2, hfz24_3⟩ := fz4 BK294.out) | (go_at_call 65; (with_reducible refine (impl_isThing.calls _ _ l0 a1_0 false _ ?side1 ?side2 A5.out).mono ?_); (case side1 => repeat (first | exact (Kd.C_below HR0.out HB.out) | (with_reducible refine Kd.C_alloc ?_ _) | (with_reducible refine Kd.C_drewN ?_ _) | (with_reducible refine Kd.C_drew ?_))); (case side2 => exact HC0.out); rintro e w' ⟨rfl, ⟨nd, rfl⟩⟩))
   go_ret
   exact ⟨by first | rfl | (simp [errW_none, errW_some] <;> rfl) | (simp [*, errW_none, errW_some] <;> rfl), by exact bw HB.out⟩
 ·
  replace c4 := Bool.eq_false_iff.mpr c4
  subst c4
  have H1 : (some false) = some r := by rw [if_neg (show ¬ (false = true) by decide)] at H; exact H
  clear H
  have H := H1
  clear H1
  obtain rfl := Option.some.inj H
  go_enter Try.func42, Try.ntmps42
  go_wp2_with (first | ((with_reducible refine gate_dst (N := 3) rfl ?_); (try (refine gate_guard (by rfl) ?_; dsimp only)); refine bx 3 #[.int .i64 a1_0, .int .i64 a1_1, .int .i64 a1_2, .slice A1_3 l1_3.length c1_3] 39 ?_; intro gb294 hg w25 hbox hb; have BK294 := Aside0.mk (hbox); have GW294 := gwB HB hg; have GE294 := gwB HB hg; replace HB := bS HB hb; clear hb hbox hg) | ((with_reducible refine gate_callee (f := 56) rfl ?_); refine gl (some 6) Try.func56 #[.slice A0 l0.length c0] ?_; (with_reducible refine (impl_WorldValid.calls k _ _ l0 false _ ?side1 ?side2 A3.out).mono ?_); (case side1 => repeat (first | exact (Kd.C_below HR0.out HB.out) | (with_reducible refine Kd.C_alloc ?_ _) | (with_reducible refine Kd.C_drewN ?_ _) | (with_reducible refine Kd.C_drew ?_))); (case side2 => exact HC0.out); rintro e w26 ⟨rfl, hb⟩; refine ⟨_, rfl, ?_⟩; replace BK294 := bB BK294 hb; replace HB := bS HB hb; (try clear hb); (try clear hb2); (try clear hk); (try clear hi)))
  go_ret
  exact ⟨by first | rfl | (simp [errW_none, errW_some] <;> rfl) | (simp [*, errW_none, errW_some] <;> rfl), by exact bw HB.out⟩

/-! ### impl_partsOf: function 91 -/
def impl_partsOf.j0 : Nat → Int → Bool → Option (Int × Bool)
 | 0, _, _ => none
 | k + 1, x4, x7 => if x7 = true then (some (1, true)) else (if x4 = 13 then (some (1, false)) else (if x4 = 10 then (some (2, false)) else (if x4 = 11 then (some (2, false)) else (if x4 = 12 then (some (2, false)) else (if x4 = 14 then (some (2, false)) else (if x4 = 15 then (some (2, false)) else (some (0, false))))))))
def impl_partsOf.f (k : Nat) (a0 : Int) : Option (Int × Bool) := if a0 = 7 then (some (0, true)) else (if a0 = 8 then (impl_partsOf.j0 k a0 (a0 == 8)) else (impl_partsOf.j0 k a0 (a0 == 9)))
theorem impl_partsOf.mono_l : ∀ k, (∀ y0 y1, LeO (impl_partsOf.j0 k y0 y1) (impl_partsOf.j0 (k + 1) y0 y1))
 | 0 => fun _ _ r h => by simp [impl_partsOf.j0] at h
 | k + 1 => by
  have ih0 := impl_partsOf.mono_l k
  ·
   intro y0 y1
   unfold impl_partsOf.j0
   repeat' first
   | (with_reducible exact ih0 _ _)
   | (with_reducible exact LeO.refl _)
   | (with_reducible exact LeO.none _)
   | (with_reducible refine LeO.ite ?_ ?_)
   | (with_reducible refine LeO.bind ?_ (fun _ => ?_))
   | exact ih0 _ _
   | exact LeO.none _
   | refine LeO.ite ?_ ?_
   | refine LeO.bind ?_ (fun _ => ?_)
theorem impl_partsOf.mono : ∀ a0 k, LeO (impl_partsOf.f k a0) (impl_partsOf.f (k + 1) a0) := by
 intro a0 k
 have ih0 := impl_partsOf.mono_l k
 unfold impl_partsOf.f
 repeat' first
   | (with_reducible exact ih0 _ _)
   | (with_reducible exact LeO.refl _)
   | (with_reducible exact LeO.none _)
   | (with_reducible refine LeO.ite ?_ ?_)
   | (with_reducible refine LeO.bind ?_ (fun _ => ?_))
   | exact ih0 _ _
   | exact LeO.none _
   | refine LeO.ite ?_ ?_
   | refine LeO.bind ?_ (fun _ => ?_)
set_option maxHeartbeats 8000000 in
set_option maxRecDepth 100000 in
theorem impl_partsOf.calls (k : Nat) (a0 : Int) (r1 : Int) (r2 : Bool) (w : World) (h : impl_partsOf.f k a0 = some (r1, r2)) :
  Calls Try.prog 91 #[.int .i64 a0] w fun e w' => e = .returned (.tuple #[.int .i64 r1, .bool r2]) ∧ Drawn0 w w' := by
 have H : (if a0 = 7 then (some (0, true)) else (if a0 = 8 then (impl_partsOf.j0 k a0 (a0 == 8)) else (impl_partsOf.j0 k a0 (a0 == 9)))) = some (r1, r2) := h
 clear h
 by_cases c2 : a0 = 7
 ·
  rw [if_pos c2] at H; obtain ⟨c2b0, c2b1⟩ := eqY c2; clear c2
  simp only [Option.some.injEq, Prod.mk.injEq] at H
  obtain ⟨rfl, rfl⟩ := H
  go_enter Try.func91, Try.ntmps91
  go_wp2
  go_ret2
  exact ⟨by first | rfl | (simp; done) | (simp [*]; done), by repeat (first | exact Drawn0.refl _ | apply Drawn0.step)⟩
 ·
  rw [if_neg c2] at H; obtain ⟨c2b0, c2b1⟩ := eqN c2
  have HC3 := Aside0.mk H
  clear H
  go_enter Try.func91, Try.ntmps91
  go_upto_if 7 with (fail)
  go_cut [7] (fun v7 wc => ∃ (kq : Nat) (x7_2 : Bool), v7 = .bool x7_2 ∧ Aside0 (impl_partsOf.j0 kq a0 x7_2 = some (r1, r2)) ∧ Aside0 (kq ≤ k) ∧ Drawn0 w wc)
  case first =>
   have H := HC3.out
   clear HC3
   by_cases c4 : a0 = 8
   ·
    rw [if_pos c4] at H; obtain ⟨c4b0, c4b1⟩ := eqY c4; clear c4
    (first | rw [c4b0] | (simp only [i64_w, i32_w]; rw [c4b0]) | rw [c4b2] | rw [c4b1] | skip)
    have H' := Aside0.mk H
    clear H
    go_wp2
    go_meet
    case rel => exact ⟨_, ((a0 == 8)), (by first | rfl | (simp; done) | (simp [*]; done)), H', ⟨by first | omega | exact Nat.le_refl _⟩, by repeat (first | exact Drawn0.refl _ | apply Drawn0.step)⟩
   ·
    rw [if_neg c4] at H; obtain ⟨c4b0, c4b1⟩ := eqN c4
    (first | rw [c4b0] | (simp only [i64_w, i32_w]; rw [c4b0]) | rw [c4b2] | rw [c4b1] | skip)
    have H' := Aside0.mk H
    clear H
    go_wp2
    go_meet
    case rel => exact ⟨_, ((a0 == 9)), (by first | rfl | (simp; done) | (simp [*]; done)), H', ⟨by first | omega | exact Nat.le_refl _⟩, by repeat (first | exact Drawn0.refl _ | apply Drawn0.step)⟩
  case rest =>
   clear HC3
   try clear c2
   try clear c2b0
   try clear c2b1
   try clear p2
   try clear c4
   try clear c4b0
   try clear c4b1
   try clear c4b2
   obtain ⟨kq, x7_2, rfl, HA, HJ2, ⟨mc2, rfl⟩⟩ := hcut
   cases kq with
   | zero => exact absurd HA.out (by simp [impl_partsOf.j0])
   | succ kj2 =>
    have H := HA.out
    clear HA
    simp only [impl_partsOf.j0] at H
    by_cases c5 : x7_2 = true
    ·
     subst c5
     have H1 : (some (1, true)) = some (r1, r2) := by rw [if_pos rfl] at H; exact H
     clear H
     have H := H1
     clear H1
     simp only [Option.some.injEq, Prod.mk.injEq] at H
     obtain ⟨rfl, rfl⟩ := H
     go_wp2
     go_ret2
     exact ⟨by first | rfl | (simp; done) | (simp [*]; done), by repeat (first | exact Drawn0.refl _ | apply Drawn0.step)⟩
    ·
     replace c5 := Bool.eq_false_iff.mpr c5
     subst c5
     have H1 : (if a0 = 13 then (some (1, false)) else (if a0 = 10 then (some (2, false)) else (if a0 = 11 then (some (2, false)) else (if a0 = 12 then (some (2, false)) else (if a0 = 14 then (some (2, false)) else (if a0 = 15 then (some (2, false)) else (some (0, false)))))))) = some (r1, r2) := by rw [if_neg (show ¬ (false = true) by decide)] at H; exact H
     clear H
     have H := H1
     clear H1
     by_cases c6 : a0 = 13
     ·
      rw [if_pos c6] at H; obtain ⟨c6b0, c6b1⟩ := eqY c6; clear c6
      simp only [Option.some.injEq, Prod.mk.injEq] at H
      obtain ⟨rfl, rfl⟩ := H
      go_wp2
      go_ret2
      exact ⟨by first | rfl | (simp; done) | (simp [*]; done), by repeat (first | exact Drawn0.refl _ | apply Drawn0.step)⟩
     ·
      rw [if_neg c6] at H; obtain ⟨c6b0, c6b1⟩ := eqN c6
      by_cases c7 : a0 = 10
      ·
       rw [if_pos c7] at H; obtain ⟨c7b0, c7b1⟩ := eqY c7; clear c7
       simp only [Option.some.injEq, Prod.mk.injEq] at H
       obtain ⟨rfl, rfl⟩ := H
       go_wp2
       go_ret2
       exact ⟨by first | rfl | (simp; done) | (simp [*]; done), by repeat (first | exact Drawn0.refl _ | apply Drawn0.step)⟩
      ·
       rw [if_neg c7] at H; obtain ⟨c7b0, c7b1⟩ := eqN c7
       by_cases c8 : a0 = 11
       ·
        rw [if_pos c8] at H; obtain ⟨c8b0, c8b1⟩ := eqY c8; clear c8
        simp only [Option.some.injEq, Prod.mk.injEq] at H
        obtain ⟨rfl, rfl⟩ := H
        go_wp2
        go_ret2
        exact ⟨by first | rfl | (simp; done) | (simp [*]; done), by repeat (first | exact Drawn0.refl _ | apply Drawn0.step)⟩
       ·
        rw [if_neg c8] at H; obtain ⟨c8b0, c8b1⟩ := eqN c8
        by_cases c9 : a0 = 12
        ·
         rw [if_pos c9] at H; obtain ⟨c9b0, c9b1⟩ := eqY c9; clear c9
         simp only [Option.some.injEq, Prod.mk.injEq] at H
         obtain ⟨rfl, rfl⟩ := H
         go_wp2
         go_ret2
         exact ⟨by first | rfl | (simp; done) | (simp [*]; done), by repeat (first | exact Drawn0.refl _ | apply Drawn0.step)⟩
        ·
         rw [if_neg c9] at H; obtain ⟨c9b0, c9b1⟩ := eqN c9
         by_cases c10 : a0 = 14
         ·
          rw [if_pos c10] at H; obtain ⟨c10b0, c10b1⟩ := eqY c10; clear c10
          simp only [Option.some.injEq, Prod.mk.injEq] at H
          obtain ⟨rfl, rfl⟩ := H
          go_wp2
          go_ret2
          exact ⟨by first | rfl | (simp; done) | (simp [*]; done), by repeat (first | exact Drawn0.refl _ | apply Drawn0.step)⟩
         ·
          rw [if_neg c10] at H; obtain ⟨c10b0, c10b1⟩ := eqN c10
          by_cases c11 : a0 = 15
          ·
           rw [if_pos c11] at H; obtain ⟨c11b0, c11b1⟩ := eqY c11; clear c11
           simp only [Option.some.injEq, Prod.mk.injEq] at H
           obtain ⟨rfl, rfl⟩ := H
           go_wp2
           go_ret2
           exact ⟨by first | rfl | (simp; done) | (simp [*]; done), by repeat (first | exact Drawn0.refl _ | apply Drawn0.step)⟩
          ·
           rw [if_neg c11] at H; obtain ⟨c11b0, c11b1⟩ := eqN c11
           simp only [Option.some.injEq, Prod.mk.injEq] at H
           obtain ⟨rfl, rfl⟩ := H
           go_wp2
           go_ret2
           exact ⟨by first | rfl | (simp; done) | (simp [*]; done), by repeat (first | exact Drawn0.refl _ | apply Drawn0.step)⟩

/-! ### impl_greatestNumber: function 92 -/
def impl_greatestNumber.f (a0 : Int) : Option (Int) := if a0 = 1 then (some 1) else (if a0 = 2 then (some 99) else (if a0 = 3 then (some 6) else (some 0)))
set_option maxHeartbeats 8000000 in
set_option maxRecDepth 100000 in
theorem impl_greatestNumber.calls (a0 : Int) (r : Int) (w : World) (h : impl_greatestNumber.f a0 = some r) :
  Calls Try.prog 92 #[.int .i64 a0] w fun e w' => e = .returned (.int .i64 r) ∧ Drawn0 w w' := by
 have H : (if a0 = 1 then (some 1) else (if a0 = 2 then (some 99) else (if a0 = 3 then (some 6) else (some 0)))) = some r := h
 clear h
 by_cases c2 : a0 = 1
 ·
  rw [if_pos c2] at H; obtain ⟨c2b0, c2b1⟩ := eqY c2; clear c2
  obtain rfl := Option.some.inj H
  go_enter Try.func92, Try.ntmps92
  go_wp2
  go_ret
  exact ⟨by first | rfl | (simp; done) | (simp [*]; done), by repeat (first | exact Drawn0.refl _ | apply Drawn0.step)⟩
 ·
  rw [if_neg c2] at H; obtain ⟨c2b0, c2b1⟩ := eqN c2
  by_cases c3 : a0 = 2
  ·
   rw [if_pos c3] at H; obtain ⟨c3b0, c3b1⟩ := eqY c3; clear c3
   obtain rfl := Option.some.inj H
   go_enter Try.func92, Try.ntmps92
   go_wp2
   go_ret
   exact ⟨by first | rfl | (simp; done) | (simp [*]; done), by repeat (first | exact Drawn0.refl _ | apply Drawn0.step)⟩
  ·
   rw [if_neg c3] at H; obtain ⟨c3b0, c3b1⟩ := eqN c3
   by_cases c4 : a0 = 3
   ·
    rw [if_pos c4] at H; obtain ⟨c4b0, c4b1⟩ := eqY c4; clear c4
    obtain rfl := Option.some.inj H
    go_enter Try.func92, Try.ntmps92
    go_wp2
    go_ret
    exact ⟨by first | rfl | (simp; done) | (simp [*]; done), by repeat (first | exact Drawn0.refl _ | apply Drawn0.step)⟩
   ·
    rw [if_neg c4] at H; obtain ⟨c4b0, c4b1⟩ := eqN c4
    obtain rfl := Option.some.inj H
    go_enter Try.func92, Try.ntmps92
    go_wp2
    go_ret
    exact ⟨by first | rfl | (simp; done) | (simp [*]; done), by repeat (first | exact Drawn0.refl _ | apply Drawn0.step)⟩

end Go.Proofs.Ytipoeghieeafjaa.P
