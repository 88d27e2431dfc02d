-- Written by a program of this session (wip/tool).
import Derived.Test.YtoipfhdlgoaldaaPx0
import Derived.Test.YtoipfhdlgoaldaaPx1031
import Derived.Test.YtoipfhdlgoaldaaPx1032
namespace Go.Proofs.Ytoipfhdlgoaldaa.P
open Go.RowKit Go.Proofs.YtoipfhdlgoaldaaW.PrintWords Go.Proofs.YtoipfhdlgoaldaaW.PrintLast Go.Proofs.YtoipfhdlgoaldaaW.PrintMore
attribute [local go_sem] max2_int min2_int max_two min_two max_three min_three max_four min_four   -- for this text's walks alone
set_option linter.unusedVariables false
set_option linter.unusedSimpArgs false

/-! ### spec_DrawIsIn: function 8 -/
def spec_DrawIsIn.f (k : Nat) (l0 : List Int) : Option ((List (S74)) × Int × Int) := (spec_l20Open.f l0).bind fun bt183 => ((spec_l20Things.f k bt183.1 bt183.2 9).bind fun bt186 => ((spec_l20Rd_pick.f k bt183.1 bt186.2 7).bind fun bt190 => ((spec_l20Rd_pick.f k bt183.1 bt190.2 9).bind fun bt192 => ((spec_l20Rd_pick.f k bt183.1 bt192.2 6).bind fun bt194 => (some (bt186.1, wrap64 (bt190.1 - (wrap64 (Int.tdiv bt192.1 8))), bt194.1))))))
theorem spec_DrawIsIn.mono : ∀ a0 k, LeO (spec_DrawIsIn.f k a0) (spec_DrawIsIn.f (k + 1) a0) := by
 intro a0 k
 unfold spec_DrawIsIn.f
 repeat' first
   | (with_reducible exact spec_l20Rd_pick.mono _ _ _ _)
   | (with_reducible exact spec_l20Things.mono _ _ _ _)
   | (with_reducible exact LeO.refl _)
   | (with_reducible exact LeO.none _)
   | (with_reducible refine LeO.ite ?_ ?_)
   | (with_reducible refine LeO.bind ?_ (fun _ => ?_))
   | exact spec_l20Rd_pick.mono _ _ _ _
   | exact spec_l20Things.mono _ _ _ _
   | exact LeO.none _
   | refine LeO.ite ?_ ?_
   | refine LeO.bind ?_ (fun _ => ?_)
set_option maxHeartbeats 8000000 in
set_option maxRecDepth 100000 in
theorem spec_DrawIsIn.calls (k : Nat) (A0 : Option Addr) (c0 : Nat) (l0 : List Int) (r1 : List (S74)) (r2 : Int) (r3 : Int) (w : World) (hr0 : Kd.C (Kd.int .u8) w A0 l0.length l0) (hc0 : l0.length ≤ c0) (h : spec_DrawIsIn.f k l0 = some (r1, r2, r3)) :
  Calls Try.prog 8 #[.slice A0 l0.length c0] w fun e w' => ∃ v0_ : Value, e = .returned (.tuple #[v0_, .int .i64 r2, .int .i64 r3]) ∧ Kd.S k74 74 w' w.heap.size (fun _ => True) v0_ r1 ∧ Below w.heap.size w w' := by
 have HR0 := Aside0.mk hr0
 have HC0 := Aside0.mk hc0
 clear hr0 hc0
 have HB := Aside0.mk (Below.refl w.heap.size w)
 have H : ((spec_l20Open.f l0).bind fun bt183 => ((spec_l20Things.f k bt183.1 bt183.2 9).bind fun bt186 => ((spec_l20Rd_pick.f k bt183.1 bt186.2 7).bind fun bt190 => ((spec_l20Rd_pick.f k bt183.1 bt190.2 9).bind fun bt192 => ((spec_l20Rd_pick.f k bt183.1 bt192.2 6).bind fun bt194 => (some (bt186.1, wrap64 (bt190.1 - (wrap64 (Int.tdiv bt192.1 8))), bt194.1))))))) = some (r1, r2, r3) := h
 clear h
 replace H := Option.bind_eq_some_iff.mp H
 obtain ⟨⟨t183, t184⟩, A20, H⟩ := H
 replace H : ((spec_l20Things.f k t183 t184 9).bind fun bt186 => ((spec_l20Rd_pick.f k t183 bt186.2 7).bind fun bt190 => ((spec_l20Rd_pick.f k t183 bt190.2 9).bind fun bt192 => ((spec_l20Rd_pick.f k t183 bt192.2 6).bind fun bt194 => (some (bt186.1, wrap64 (bt190.1 - (wrap64 (Int.tdiv bt192.1 8))), bt194.1)))))) = some (r1, r2, r3) := H
 have A2 := Aside0.mk A20
 clear A20
 replace H := Option.bind_eq_some_iff.mp H
 obtain ⟨⟨t186, t189⟩, A30, H⟩ := H
 replace H : ((spec_l20Rd_pick.f k t183 t189 7).bind fun bt190 => ((spec_l20Rd_pick.f k t183 bt190.2 9).bind fun bt192 => ((spec_l20Rd_pick.f k t183 bt192.2 6).bind fun bt194 => (some (t186, wrap64 (bt190.1 - (wrap64 (Int.tdiv bt192.1 8))), bt194.1))))) = some (r1, r2, r3) := H
 have A3 := Aside0.mk A30
 clear A30
 replace H := Option.bind_eq_some_iff.mp H
 obtain ⟨⟨t190, t191⟩, A40, H⟩ := H
 replace H : ((spec_l20Rd_pick.f k t183 t191 9).bind fun bt192 => ((spec_l20Rd_pick.f k t183 bt192.2 6).bind fun bt194 => (some (t186, wrap64 (t190 - (wrap64 (Int.tdiv bt192.1 8))), bt194.1)))) = some (r1, r2, r3) := H
 have A4 := Aside0.mk A40
 clear A40
 replace H := Option.bind_eq_some_iff.mp H
 obtain ⟨⟨t192, t193⟩, A50, H⟩ := H
 replace H : ((spec_l20Rd_pick.f k t183 t193 6).bind fun bt194 => (some (t186, wrap64 (t190 - (wrap64 (Int.tdiv t192 8))), bt194.1))) = some (r1, r2, r3) := H
 have A5 := Aside0.mk A50
 clear A50
 replace H := Option.bind_eq_some_iff.mp H
 obtain ⟨⟨t194, t195⟩, A60, H⟩ := H
 replace H : (some (t186, wrap64 (t190 - (wrap64 (Int.tdiv t192 8))), t194)) = some (r1, r2, r3) := H
 have A6 := Aside0.mk A60
 clear A60
 simp only [Option.some.injEq, Prod.mk.injEq] at H
 obtain ⟨rfl, rfl, rfl⟩ := H
 go_enter Try.func8, Try.ntmps8
 go_wp2_with (first | ((with_reducible refine gate_callee (f := 31) rfl ?_); refine gl (some 8) Try.func31 #[.slice A0 l0.length c0] ?_; (with_reducible refine (spec_l20Open.calls _ _ l0 t183 t184 w _ ?side1 ?side2 ?side3 A2.out).mono ?_); (case side1 => exact bw HB.out); (case side2 => exact HR0.out); (case side3 => exact HC0.out); rintro e w7 ⟨g185, rfl, hi, hb, hb2⟩; refine ⟨_, rfl, ?_⟩; replace HB := Aside0.mk (hb); have HI185 := Aside0.mk (hi); (try clear hb); (try clear hb2); (try clear hk); (try clear hi)) | ((with_reducible refine gate_callee (f := 32) rfl ?_); refine gl (some 10) Try.func32 #[.pointer (some ⟨g185, 0, none⟩), .int .i64 9] ?_; (with_reducible refine (spec_l20Things.calls k g185 t183 t184 9 t186 t189 w _ ?side1 ?side2 A3.out).mono ?_); (case side1 => exact sw80 HI185.out); (case side2 => exact bw HB.out); rintro e w8 ⟨v187, rfl, ho0, hi, hb, hk⟩; refine ⟨_, rfl, ?_⟩; have HO188 := Aside0.mk (Kd.S_lower ho0 (below_size (by exact bw HB.out))); replace HB := Aside0.mk (hb); replace HI185 := Aside0.mk (hi); (try clear hb); (try clear hb2); (try clear hk); (try clear hi); (try clear ho0)) | ((with_reducible refine gate_callee (f := 33) rfl ?_); refine gl (some 13) Try.func33 #[.pointer (some ⟨g185, 0, none⟩), .int .i64 7] ?_; (with_reducible refine (spec_l20Rd_pick.calls k g185 t183 t189 7 t190 t191 w _ ?side1 ?side2 A4.out).mono ?_); (case side1 => exact sw80 HI185.out); (case side2 => exact bw HB.out); rintro e w9 ⟨rfl, hi, hb, hk⟩; refine ⟨_, rfl, ?_⟩; replace HO188 := Aside0.mk (Kd.S_mono (Kd.S_keep (IsS80.apartS (show IsS80 w _ g185 t183 t189 from by exact sw80 HI185.out) (by exact Kd.xS HO188.out) (by decide)) hk (fun _ h => h.2)) (fun _ h => h.1)); replace HB := Aside0.mk (hb); replace HI185 := Aside0.mk (hi); (try clear hb); (try clear hb2); (try clear hk); (try clear hi)) | ((with_reducible refine gate_callee (f := 33) rfl ?_); refine gl (some 15) Try.func33 #[.pointer (some ⟨g185, 0, none⟩), .int .i64 9] ?_; (with_reducible refine (spec_l20Rd_pick.calls k g185 t183 t191 9 t192 t193 w _ ?side1 ?side2 A5.out).mono ?_); (case side1 => exact sw80 HI185.out); (case side2 => exact bw HB.out); rintro e w10 ⟨rfl, hi, hb, hk⟩; refine ⟨_, rfl, ?_⟩; replace HO188 := Aside0.mk (Kd.S_mono (Kd.S_keep (IsS80.apartS (show IsS80 w _ g185 t183 t191 from by exact sw80 HI185.out) (by exact Kd.xS HO188.out) (by decide)) hk (fun _ h => h.2)) (fun _ h => h.1)); replace HB := Aside0.mk (hb); replace HI185 := Aside0.mk (hi); (try clear hb); (try clear hb2); (try clear hk); (try clear hi)) | ((with_reducible refine gate_callee (f := 33) rfl ?_); refine gl (some 19) Try.func33 #[.pointer (some ⟨g185, 0, none⟩), .int .i64 6] ?_; (with_reducible refine (spec_l20Rd_pick.calls k g185 t183 t193 6 t194 t195 w _ ?side1 ?side2 A6.out).mono ?_); (case side1 => exact sw80 HI185.out); (case side2 => exact bw HB.out); rintro e w11 ⟨rfl, hi, hb, hk⟩; refine ⟨_, rfl, ?_⟩; replace HO188 := Aside0.mk (Kd.S_mono (Kd.S_keep (IsS80.apartS (show IsS80 w _ g185 t183 t193 from by exact sw80 HI185.out) (by exact Kd.xS HO188.out) (by decide)) hk (fun _ h => h.2)) (fun _ h => h.1)); replace HB := Aside0.mk (hb); replace HI185 := Aside0.mk (hi); (try clear hb); (try clear hb2); (try clear hk); (try clear hi)))
 go_ret3
 exact ⟨_, by first | rfl | (simp [errW_none, errW_some] <;> rfl) | (simp [*, errW_none, errW_some] <;> rfl), by exact Kd.xS HO188.out, by exact bw HB.out⟩

/-! ### impl_in: function 54 -/
def impl_in.f (a0 : Int) (a1 : Int) (a2 : Int) : Option (Bool) := if a1 ≤ a0 then (some (decide (a0 ≤ a2))) else (some false)
set_option maxHeartbeats 8000000 in
set_option maxRecDepth 100000 in
theorem impl_in.calls (a0 : Int) (a1 : Int) (a2 : Int) (r : Bool) (w : World) (h : impl_in.f a0 a1 a2 = some r) :
  Calls Try.prog 54 #[.int .i64 a0, .int .i64 a1, .int .i64 a2] w fun e w' => e = .returned (.bool r) ∧ Drawn0 w w' := by
 have H : (if a1 ≤ a0 then (some (decide (a0 ≤ a2))) else (some false)) = some r := h
 clear h
 by_cases c4 : a1 ≤ a0
 ·
  rw [if_pos c4] at H; have c4b0 : decide (a1 ≤ a0) = true := decide_eq_true c4; clear c4
  obtain rfl := Option.some.inj H
  go_enter Try.func54, Try.ntmps54
  go_wp2
  go_ret
  exact ⟨by first | rfl | (simp; done) | (simp [*]; done), by repeat (first | exact Drawn0.refl _ | apply Drawn0.step)⟩
 ·
  rw [if_neg c4] at H; have c4b0 : decide (a1 ≤ a0) = false := decide_eq_false c4; clear c4
  obtain rfl := Option.some.inj H
  go_enter Try.func54, Try.ntmps54
  go_wp2
  go_ret
  exact ⟨by first | rfl | (simp; done) | (simp [*]; done), by repeat (first | exact Drawn0.refl _ | apply Drawn0.step)⟩

/-! ### impl_NameValid: function 40 -/
def impl_NameValid.l0 : Nat → ByteArray → Int → Int → Option (Bool)
 | 0, _, _, _ => none
 | k + 1, x0, x5, x6 => if x6 < x5 then (if 0 ≤ x6 then (if x6 < (x0.size : Int) then (if (bt x0 x6) < 97 then (some false) else (if (bt x0 x6) > 122 then (some false) else (impl_NameValid.l0 k x0 x5 (wrap64 (x6 + 1))))) else (none)) else (none)) else ((impl_in.f (x0.size : Int) 1 8).bind fun t196 => (some t196))
def impl_NameValid.f (k : Nat) (a0 : ByteArray) : Option (Bool) := impl_NameValid.l0 k a0 (a0.size : Int) 0
theorem impl_NameValid.mono_l : ∀ k, (∀ y0 y1 y2, LeO (impl_NameValid.l0 k y0 y1 y2) (impl_NameValid.l0 (k + 1) y0 y1 y2))
 | 0 => fun _ _ _ r h => by simp [impl_NameValid.l0] at h
 | k + 1 => by
  have ih0 := impl_NameValid.mono_l k
  ·
   intro y0 y1 y2
   unfold impl_NameValid.l0
   repeat' first
   | (with_reducible exact ih0 _ _ _)
   | (with_reducible exact LeO.refl _)
   | (with_reducible exact LeO.none _)
   | (with_reducible refine LeO.ite ?_ ?_)
   | (with_reducible refine LeO.bind ?_ (fun _ => ?_))
   | exact ih0 _ _ _
   | exact LeO.none _
   | refine LeO.ite ?_ ?_
   | refine LeO.bind ?_ (fun _ => ?_)
theorem impl_NameValid.mono : ∀ a0 k, LeO (impl_NameValid.f k a0) (impl_NameValid.f (k + 1) a0) := by
 intro a0 k
 have ih0 := impl_NameValid.mono_l k
 unfold impl_NameValid.f
 repeat' first
   | (with_reducible exact ih0 _ _ _)
   | (with_reducible exact LeO.refl _)
   | (with_reducible exact LeO.none _)
   | (with_reducible refine LeO.ite ?_ ?_)
   | (with_reducible refine LeO.bind ?_ (fun _ => ?_))
   | exact ih0 _ _ _
   | exact LeO.none _
   | refine LeO.ite ?_ ?_
   | refine LeO.bind ?_ (fun _ => ?_)
set_option maxHeartbeats 8000000 in
set_option maxRecDepth 100000 in
theorem impl_NameValid.calls (k : Nat) (a0 : ByteArray) (r : Bool) (w : World) (h : impl_NameValid.f k a0 = some r) :
  Calls Try.prog 40 #[.string a0] w fun e w' => e = .returned (.bool r) ∧ Drawn0 w w' := by
 have H : (impl_NameValid.l0 k a0 (a0.size : Int) 0) = some r := h
 clear h
 have H' := Aside0.mk H
 clear H
 go_enter Try.func40, Try.ntmps40
 go_wp2
 go_loopg [6] k (fun kq v6 w' => ∃ (x6_1 : Int), v6 = .int .i64 x6_1 ∧ Aside0 (impl_NameValid.l0 kq a0 (a0.size : Int) x6_1 = some r) ∧ Aside0 (kq ≤ k) ∧ Drawn0 w w')
 case atStart => exact ⟨(0), (by first | rfl | (simp; done) | (simp [*]; done)), H', ⟨Nat.le_refl _⟩, by repeat (first | exact Drawn0.refl _ | apply Drawn0.step)⟩
 case round =>
  clear H'
  obtain ⟨x6_1, rfl, HA, HK1, ⟨m1, rfl⟩⟩ := hrel
  cases gk with
  | zero => exact absurd HA.out (by simp [impl_NameValid.l0])
  | succ k1 =>
   have H := HA.out
   clear HA
   simp only [impl_NameValid.l0] at H
   by_cases c2 : x6_1 < (a0.size : Int)
   ·
    rw [if_pos c2] at H; have c2b0 : decide (x6_1 < (a0.size : Int)) = true := decide_eq_true c2; clear c2
    by_cases c3 : 0 ≤ x6_1
    ·
     rw [if_pos c3] at H; have c3b0 : decide (0 ≤ x6_1) = true := decide_eq_true c3; clear c3
     by_cases c4 : x6_1 < (a0.size : Int)
     ·
      rw [if_pos c4] at H; have c4b0 : decide (x6_1 < (a0.size : Int)) = true := decide_eq_true c4; clear c4
      by_cases c6 : (bt a0 x6_1) < 97
      ·
       rw [if_pos c6] at H; have c6b0 : decide ((bt a0 x6_1) < 97) = true := decide_eq_true c6; clear c6
       obtain rfl := Option.some.inj H
       have p5 : 0 ≤ (x6_1 : Int) := of_decide_eq_true (by first | (with_reducible assumption) | assumption)
       have q5 : x6_1 < (a0.size : Int) := of_decide_eq_true (by first | (with_reducible assumption) | assumption)
       have hx5 := bt_at a0 x6_1
       replace p5 := eq_true p5
       replace q5 := eq_true q5
       go_wp2
       go_ret
       exact ⟨by first | rfl | (simp; done) | (simp [*]; done), by repeat (first | exact Drawn0.refl _ | apply Drawn0.step)⟩
      ·
       rw [if_neg c6] at H; have c6b0 : decide ((bt a0 x6_1) < 97) = false := decide_eq_false c6; clear c6
       by_cases c8 : (bt a0 x6_1) > 122
       ·
        rw [if_pos c8] at H; have c8b0 : decide (122 < (bt a0 x6_1)) = true := decide_eq_true c8; clear c8
        obtain rfl := Option.some.inj H
        have p5 : 0 ≤ (x6_1 : Int) := of_decide_eq_true (by first | (with_reducible assumption) | assumption)
        have q5 : x6_1 < (a0.size : Int) := of_decide_eq_true (by first | (with_reducible assumption) | assumption)
        have hx5 := bt_at a0 x6_1
        replace p5 := eq_true p5
        replace q5 := eq_true q5
        have p7 : 0 ≤ (x6_1 : Int) := of_decide_eq_true (by first | (with_reducible assumption) | assumption)
        have q7 : x6_1 < (a0.size : Int) := of_decide_eq_true (by first | (with_reducible assumption) | assumption)
        have hx7 := bt_at a0 x6_1
        replace p7 := eq_true p7
        replace q7 := eq_true q7
        go_wp2
        go_ret
        exact ⟨by first | rfl | (simp; done) | (simp [*]; done), by repeat (first | exact Drawn0.refl _ | apply Drawn0.step)⟩
       ·
        rw [if_neg c8] at H; have c8b0 : decide (122 < (bt a0 x6_1)) = false := decide_eq_false c8; clear c8
        have H' := Aside0.mk H
        clear H
        have p5 : 0 ≤ (x6_1 : Int) := of_decide_eq_true (by first | (with_reducible assumption) | assumption)
        have q5 : x6_1 < (a0.size : Int) := of_decide_eq_true (by first | (with_reducible assumption) | assumption)
        have hx5 := bt_at a0 x6_1
        replace p5 := eq_true p5
        replace q5 := eq_true q5
        have p7 : 0 ≤ (x6_1 : Int) := of_decide_eq_true (by first | (with_reducible assumption) | assumption)
        have q7 : x6_1 < (a0.size : Int) := of_decide_eq_true (by first | (with_reducible assumption) | assumption)
        have hx7 := bt_at a0 x6_1
        replace p7 := eq_true p7
        replace q7 := eq_true q7
        go_wp2
        go_roundg k1
        case measure => have := HK1.out; omega
        case rel => exact ⟨(wrap64 (x6_1 + 1)), (by first | rfl | (simp; done) | (simp [*]; done)), H', ⟨by have := HK1.out; omega⟩, by repeat (first | exact Drawn0.refl _ | apply Drawn0.step)⟩
     ·
      rw [if_neg c4] at H; exact absurd H (by simp)
    ·
     rw [if_neg c3] at H; exact absurd H (by simp)
   ·
    rw [if_neg c2] at H; have c2b0 : decide (x6_1 < (a0.size : Int)) = false := decide_eq_false c2; clear c2
    replace H := Option.bind_eq_some_iff.mp H
    obtain ⟨t196, A90, H⟩ := H
    replace H : (some t196) = some r := H
    have A9 := Aside0.mk A90
    clear A90
    obtain rfl := Option.some.inj H
    go_wp2_with (first | ((with_reducible refine gate_callee (f := 54) rfl ?_); refine gl (some 22) Try.func54 #[.int .i64 (a0.size : Int), .int .i64 1, .int .i64 8] ?_; (with_reducible refine (impl_in.calls (a0.size : Int) 1 8 t196 _ A9.out).mono ?_); rintro e w' ⟨rfl, ⟨nd, rfl⟩⟩; refine ⟨_, rfl, ?_⟩))
    go_ret
    exact ⟨by first | rfl | (simp; done) | (simp [*]; done), by repeat (first | exact Drawn0.refl _ | apply Drawn0.step)⟩

/-! ### impl_ValueValid: function 63 -/
def impl_ValueValid.f (a0_0 : Int) (a0_1 : Int) (a1 : Int) : Option (Bool) := if a0_0 = 1 then ((impl_in.f a0_1 0 1).bind fun t198 => (some t198)) else (if a0_0 = 2 then ((impl_in.f a0_1 0 99).bind fun t199 => (some t199)) else (if a0_0 = 3 then (if a0_1 ≥ 0 then (some (decide (a0_1 < a1))) else (some false)) else (some false)))
set_option maxHeartbeats 8000000 in
set_option maxRecDepth 100000 in
theorem impl_ValueValid.calls (a0_0 : Int) (a0_1 : Int) (a1 : Int) (r : Bool) (w : World) (h : impl_ValueValid.f a0_0 a0_1 a1 = some r) :
  Calls Try.prog 63 #[.agg #[.int .i64 a0_0, .int .i64 a0_1], .int .i64 a1] w fun e w' => e = .returned (.bool r) ∧ Below w.heap.size w w' := by
 have hu52 := Try.underlying52
 have HB := Aside0.mk (Below.refl w.heap.size w)
 have H : (if a0_0 = 1 then ((impl_in.f a0_1 0 1).bind fun t198 => (some t198)) else (if a0_0 = 2 then ((impl_in.f a0_1 0 99).bind fun t199 => (some t199)) else (if a0_0 = 3 then (if a0_1 ≥ 0 then (some (decide (a0_1 < a1))) else (some false)) else (some false)))) = some r := h
 clear h
 by_cases c3 : a0_0 = 1
 ·
  rw [if_pos c3] at H; obtain ⟨c3b0, c3b1⟩ := eqY c3; clear c3
  replace H := Option.bind_eq_some_iff.mp H
  obtain ⟨t198, A40, H⟩ := H
  replace H : (some t198) = some r := H
  have A4 := Aside0.mk A40
  clear A40
  obtain rfl := Option.some.inj H
  go_enter Try.func63, Try.ntmps63
  go_wp2_with (first | ((with_reducible refine gate_dst (N := 2) rfl ?_); refine bx 2 #[.int .i64 a0_0, .int .i64 a0_1] 52 ?_; intro gb197 hg w5 hbox hb; have BK197 := Aside0.mk (hbox); have GW197 := gwB HB hg; have GE197 := gwB HB hg; replace HB := bS HB hb; clear hb hbox hg; obtain ⟨hcz6_0, hcz6_1⟩ := cs2 BK197.out; obtain ⟨hfz6_0, hfz6_1⟩ := fz2 BK197.out) | ((with_reducible refine gate_callee (f := 54) rfl ?_); refine gl (some 11) Try.func54 #[.int .i64 a0_1, .int .i64 0, .int .i64 1] ?_; (with_reducible refine (impl_in.calls a0_1 0 1 t198 _ A4.out).mono ?_); rintro e w' ⟨rfl, ⟨nd, rfl⟩⟩; refine ⟨_, rfl, ?_⟩))
  go_ret
  exact ⟨by first | rfl | (simp [errW_none, errW_some] <;> rfl) | (simp [*, errW_none, errW_some] <;> rfl), by exact bw HB.out⟩
 ·
  rw [if_neg c3] at H; obtain ⟨c3b0, c3b1⟩ := eqN c3
  by_cases c7 : a0_0 = 2
  ·
   rw [if_pos c7] at H; obtain ⟨c7b0, c7b1⟩ := eqY c7; clear c7
   replace H := Option.bind_eq_some_iff.mp H
   obtain ⟨t199, A80, H⟩ := H
   replace H : (some t199) = some r := H
   have A8 := Aside0.mk A80
   clear A80
   obtain rfl := Option.some.inj H
   go_enter Try.func63, Try.ntmps63
   go_wp2_with (first | ((with_reducible refine gate_dst (N := 2) rfl ?_); refine bx 2 #[.int .i64 a0_0, .int .i64 a0_1] 52 ?_; intro gb197 hg w9 hbox hb; have BK197 := Aside0.mk (hbox); have GW197 := gwB HB hg; have GE197 := gwB HB hg; replace HB := bS HB hb; clear hb hbox hg; obtain ⟨hcz10_0, hcz10_1⟩ := cs2 BK197.out; obtain ⟨hfz10_0, hfz10_1⟩ := fz2 BK197.out) | ((with_reducible refine gate_callee (f := 54) rfl ?_); refine gl (some 16) Try.func54 #[.int .i64 a0_1, .int .i64 0, .int .i64 99] ?_; (with_reducible refine (impl_in.calls a0_1 0 99 t199 _ A8.out).mono ?_); rintro e w' ⟨rfl, ⟨nd, rfl⟩⟩; refine ⟨_, rfl, ?_⟩))
   go_ret
   exact ⟨by first | rfl | (simp [errW_none, errW_some] <;> rfl) | (simp [*, errW_none, errW_some] <;> rfl), by exact bw HB.out⟩
  ·
   rw [if_neg c7] at H; obtain ⟨c7b0, c7b1⟩ := eqN c7
   by_cases c11 : a0_0 = 3
   ·
    rw [if_pos c11] at H; obtain ⟨c11b0, c11b1⟩ := eqY c11; clear c11
    by_cases c12 : a0_1 ≥ 0
    ·
     rw [if_pos c12] at H; have c12b0 : decide (0 ≤ a0_1) = true := decide_eq_true c12; clear c12
     obtain rfl := Option.some.inj H
     go_enter Try.func63, Try.ntmps63
     go_wp2_with (first | ((with_reducible refine gate_dst (N := 2) rfl ?_); refine bx 2 #[.int .i64 a0_0, .int .i64 a0_1] 52 ?_; intro gb197 hg w13 hbox hb; have BK197 := Aside0.mk (hbox); have GW197 := gwB HB hg; have GE197 := gwB HB hg; replace HB := bS HB hb; clear hb hbox hg; obtain ⟨hcz14_0, hcz14_1⟩ := cs2 BK197.out; obtain ⟨hfz14_0, hfz14_1⟩ := fz2 BK197.out))
     go_ret
     exact ⟨by first | rfl | (simp [errW_none, errW_some] <;> rfl) | (simp [*, errW_none, errW_some] <;> rfl), by exact bw HB.out⟩
    ·
     rw [if_neg c12] at H; have c12b0 : decide (0 ≤ a0_1) = false := decide_eq_false c12; clear c12
     obtain rfl := Option.some.inj H
     go_enter Try.func63, Try.ntmps63
     go_wp2_with (first | ((with_reducible refine gate_dst (N := 2) rfl ?_); refine bx 2 #[.int .i64 a0_0, .int .i64 a0_1] 52 ?_; intro gb197 hg w15 hbox hb; have BK197 := Aside0.mk (hbox); have GW197 := gwB HB hg; have GE197 := gwB HB hg; replace HB := bS HB hb; clear hb hbox hg; obtain ⟨hcz16_0, hcz16_1⟩ := cs2 BK197.out; obtain ⟨hfz16_0, hfz16_1⟩ := fz2 BK197.out))
     go_ret
     exact ⟨by first | rfl | (simp [errW_none, errW_some] <;> rfl) | (simp [*, errW_none, errW_some] <;> rfl), by exact bw HB.out⟩
   ·
    rw [if_neg c11] at H; obtain ⟨c11b0, c11b1⟩ := eqN c11
    obtain rfl := Option.some.inj H
    go_enter Try.func63, Try.ntmps63
    go_wp2_with (first | ((with_reducible refine gate_dst (N := 2) rfl ?_); refine bx 2 #[.int .i64 a0_0, .int .i64 a0_1] 52 ?_; intro gb197 hg w17 hbox hb; have BK197 := Aside0.mk (hbox); have GW197 := gwB HB hg; have GE197 := gwB HB hg; replace HB := bS HB hb; clear hb hbox hg; obtain ⟨hcz18_0, hcz18_1⟩ := cs2 BK197.out; obtain ⟨hfz18_0, hfz18_1⟩ := fz2 BK197.out))
    go_ret
    exact ⟨by first | rfl | (simp [errW_none, errW_some] <;> rfl) | (simp [*, errW_none, errW_some] <;> rfl), by exact bw HB.out⟩

end Go.Proofs.Ytoipfhdlgoaldaa.P
