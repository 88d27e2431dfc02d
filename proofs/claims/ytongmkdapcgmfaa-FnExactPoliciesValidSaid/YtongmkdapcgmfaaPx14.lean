-- Written by a program of this session (wip/tool).
import Derived.Test.YtongmkdapcgmfaaPx0
namespace Go.Proofs.Ytongmkdapcgmfaa.P
open Go.RowKit Go.Proofs.YtongmkdapcgmfaaW.PrintWords Go.Proofs.YtongmkdapcgmfaaW.PrintLast Go.Proofs.YtongmkdapcgmfaaW.PrintMore
attribute [local go_sem] max2_int min2_int max_two min_two max_three min_three max_four min_four   -- for this text's walks alone
set_option linter.unusedVariables false
set_option linter.unusedSimpArgs false

/-! ### impl_partsOf: function 89 -/
def impl_partsOf.j0 : Nat → Int → Bool → Option (Int × Bool)
 | 0, _, _ => none
 | k + 1, x4, x7 => if x7 = true then (some (1, true)) else (if x4 = 13 then (some (1, false)) else (if x4 = 10 then (some (2, false)) else (if x4 = 11 then (some (2, false)) else (if x4 = 12 then (some (2, false)) else (if x4 = 14 then (some (2, false)) else (if x4 = 15 then (some (2, false)) else (some (0, false))))))))
def impl_partsOf.f (k : Nat) (a0 : Int) : Option (Int × Bool) := if a0 = 7 then (some (0, true)) else (if a0 = 8 then (impl_partsOf.j0 k a0 (a0 == 8)) else (impl_partsOf.j0 k a0 (a0 == 9)))
theorem impl_partsOf.mono_l : ∀ k, (∀ y0 y1, LeO (impl_partsOf.j0 k y0 y1) (impl_partsOf.j0 (k + 1) y0 y1))
 | 0 => fun _ _ r h => by simp [impl_partsOf.j0] at h
 | k + 1 => by
  have ih0 := impl_partsOf.mono_l k
  ·
   intro y0 y1
   unfold impl_partsOf.j0
   repeat' first
   | (with_reducible exact ih0 _ _)
   | (with_reducible exact LeO.refl _)
   | (with_reducible exact LeO.none _)
   | (with_reducible refine LeO.ite ?_ ?_)
   | (with_reducible refine LeO.bind ?_ (fun _ => ?_))
   | exact ih0 _ _
   | exact LeO.none _
   | refine LeO.ite ?_ ?_
   | refine LeO.bind ?_ (fun _ => ?_)
theorem impl_partsOf.mono : ∀ a0 k, LeO (impl_partsOf.f k a0) (impl_partsOf.f (k + 1) a0) := by
 intro a0 k
 have ih0 := impl_partsOf.mono_l k
 unfold impl_partsOf.f
 repeat' first
   | (with_reducible exact ih0 _ _)
   | (with_reducible exact LeO.refl _)
   | (with_reducible exact LeO.none _)
   | (with_reducible refine LeO.ite ?_ ?_)
   | (with_reducible refine LeO.bind ?_ (fun _ => ?_))
   | exact ih0 _ _
   | exact LeO.none _
   | refine LeO.ite ?_ ?_
   | refine LeO.bind ?_ (fun _ => ?_)
set_option maxHeartbeats 8000000 in
set_option maxRecDepth 100000 in
theorem impl_partsOf.calls (k : Nat) (a0 : Int) (r1 : Int) (r2 : Bool) (w : World) (h : impl_partsOf.f k a0 = some (r1, r2)) :
  Calls Try.prog 89 #[.int .i64 a0] w fun e w' => e = .returned (.tuple #[.int .i64 r1, .bool r2]) ∧ Drawn0 w w' := by
 have H : (if a0 = 7 then (some (0, true)) else (if a0 = 8 then (impl_partsOf.j0 k a0 (a0 == 8)) else (impl_partsOf.j0 k a0 (a0 == 9)))) = some (r1, r2) := h
 clear h
 by_cases c2 : a0 = 7
 ·
  rw [if_pos c2] at H
  have c2b0 : (a0 == 7) = true := beq_iff_eq.mpr c2
  have c2b1 : (a0 != 7) = false := bne_eq_false_iff_eq.mpr c2
  clear c2
  simp only [Option.some.injEq, Prod.mk.injEq] at H
  obtain ⟨rfl, rfl⟩ := H
  go_enter Try.func89, Try.ntmps89
  go_wp2
  go_ret2
  exact ⟨by first | rfl | (simp; done) | (simp [*]; done), by repeat (first | exact Drawn0.refl _ | apply Drawn0.step)⟩
 ·
  rw [if_neg c2] at H
  have c2b0 : (a0 == 7) = false := beq_eq_false_iff_ne.mpr c2
  have c2b1 : (a0 != 7) = true := bne_iff_ne.mpr c2
  have HC3 := Aside0.mk H
  clear H
  go_enter Try.func89, Try.ntmps89
  go_upto_if 7 with (fail)
  go_cut [7] (fun v7 wc => ∃ (kq : Nat) (x7_2 : Bool), v7 = .bool x7_2 ∧ Aside0 (impl_partsOf.j0 kq a0 x7_2 = some (r1, r2)) ∧ Aside0 (kq ≤ k) ∧ Drawn0 w wc)
  case first =>
   have H := HC3.out
   clear HC3
   by_cases c4 : a0 = 8
   ·
    rw [if_pos c4] at H
    have c4b0 : (a0 == 8) = true := beq_iff_eq.mpr c4
    have c4b1 : (a0 != 8) = false := bne_eq_false_iff_eq.mpr c4
    clear c4
    (first | rw [c4b0] | (simp only [i64_w, i32_w]; rw [c4b0]) | rw [c4b2] | rw [c4b1] | skip)
    have H' := Aside0.mk H
    clear H
    go_wp2
    go_meet
    case rel => exact ⟨_, ((a0 == 8)), (by first | rfl | (simp; done) | (simp [*]; done)), H', ⟨by first | omega | exact Nat.le_refl _⟩, by repeat (first | exact Drawn0.refl _ | apply Drawn0.step)⟩
   ·
    rw [if_neg c4] at H
    have c4b0 : (a0 == 8) = false := beq_eq_false_iff_ne.mpr c4
    have c4b1 : (a0 != 8) = true := bne_iff_ne.mpr c4
    (first | rw [c4b0] | (simp only [i64_w, i32_w]; rw [c4b0]) | rw [c4b2] | rw [c4b1] | skip)
    have H' := Aside0.mk H
    clear H
    go_wp2
    go_meet
    case rel => exact ⟨_, ((a0 == 9)), (by first | rfl | (simp; done) | (simp [*]; done)), H', ⟨by first | omega | exact Nat.le_refl _⟩, by repeat (first | exact Drawn0.refl _ | apply Drawn0.step)⟩
  case rest =>
   clear HC3
   try clear c2
   try clear c2b0
   try clear c2b1
   try clear p2
   try clear c4
   try clear c4b0
   try clear c4b1
   try clear c4b2
   obtain ⟨kq, x7_2, rfl, HA, HJ2, ⟨mc2, rfl⟩⟩ := hcut
   cases kq with
   | zero => exact absurd HA.out (by simp [impl_partsOf.j0])
   | succ kj2 =>
    have H := HA.out
    clear HA
    simp only [impl_partsOf.j0] at H
    by_cases c5 : x7_2 = true
    ·
     subst c5
     have H1 : (some (1, true)) = some (r1, r2) := by rw [if_pos rfl] at H; exact H
     clear H
     have H := H1
     clear H1
     simp only [Option.some.injEq, Prod.mk.injEq] at H
     obtain ⟨rfl, rfl⟩ := H
     go_wp2
     go_ret2
     exact ⟨by first | rfl | (simp; done) | (simp [*]; done), by repeat (first | exact Drawn0.refl _ | apply Drawn0.step)⟩
    ·
     replace c5 := Bool.eq_false_iff.mpr c5
     subst c5
     have H1 : (if a0 = 13 then (some (1, false)) else (if a0 = 10 then (some (2, false)) else (if a0 = 11 then (some (2, false)) else (if a0 = 12 then (some (2, false)) else (if a0 = 14 then (some (2, false)) else (if a0 = 15 then (some (2, false)) else (some (0, false)))))))) = some (r1, r2) := by rw [if_neg (show ¬ (false = true) by decide)] at H; exact H
     clear H
     have H := H1
     clear H1
     by_cases c6 : a0 = 13
     ·
      rw [if_pos c6] at H
      have c6b0 : (a0 == 13) = true := beq_iff_eq.mpr c6
      have c6b1 : (a0 != 13) = false := bne_eq_false_iff_eq.mpr c6
      clear c6
      simp only [Option.some.injEq, Prod.mk.injEq] at H
      obtain ⟨rfl, rfl⟩ := H
      go_wp2
      go_ret2
      exact ⟨by first | rfl | (simp; done) | (simp [*]; done), by repeat (first | exact Drawn0.refl _ | apply Drawn0.step)⟩
     ·
      rw [if_neg c6] at H
      have c6b0 : (a0 == 13) = false := beq_eq_false_iff_ne.mpr c6
      have c6b1 : (a0 != 13) = true := bne_iff_ne.mpr c6
      by_cases c7 : a0 = 10
      ·
       rw [if_pos c7] at H
       have c7b0 : (a0 == 10) = true := beq_iff_eq.mpr c7
       have c7b1 : (a0 != 10) = false := bne_eq_false_iff_eq.mpr c7
       clear c7
       simp only [Option.some.injEq, Prod.mk.injEq] at H
       obtain ⟨rfl, rfl⟩ := H
       go_wp2
       go_ret2
       exact ⟨by first | rfl | (simp; done) | (simp [*]; done), by repeat (first | exact Drawn0.refl _ | apply Drawn0.step)⟩
      ·
       rw [if_neg c7] at H
       have c7b0 : (a0 == 10) = false := beq_eq_false_iff_ne.mpr c7
       have c7b1 : (a0 != 10) = true := bne_iff_ne.mpr c7
       by_cases c8 : a0 = 11
       ·
        rw [if_pos c8] at H
        have c8b0 : (a0 == 11) = true := beq_iff_eq.mpr c8
        have c8b1 : (a0 != 11) = false := bne_eq_false_iff_eq.mpr c8
        clear c8
        simp only [Option.some.injEq, Prod.mk.injEq] at H
        obtain ⟨rfl, rfl⟩ := H
        go_wp2
        go_ret2
        exact ⟨by first | rfl | (simp; done) | (simp [*]; done), by repeat (first | exact Drawn0.refl _ | apply Drawn0.step)⟩
       ·
        rw [if_neg c8] at H
        have c8b0 : (a0 == 11) = false := beq_eq_false_iff_ne.mpr c8
        have c8b1 : (a0 != 11) = true := bne_iff_ne.mpr c8
        by_cases c9 : a0 = 12
        ·
         rw [if_pos c9] at H
         have c9b0 : (a0 == 12) = true := beq_iff_eq.mpr c9
         have c9b1 : (a0 != 12) = false := bne_eq_false_iff_eq.mpr c9
         clear c9
         simp only [Option.some.injEq, Prod.mk.injEq] at H
         obtain ⟨rfl, rfl⟩ := H
         go_wp2
         go_ret2
         exact ⟨by first | rfl | (simp; done) | (simp [*]; done), by repeat (first | exact Drawn0.refl _ | apply Drawn0.step)⟩
        ·
         rw [if_neg c9] at H
         have c9b0 : (a0 == 12) = false := beq_eq_false_iff_ne.mpr c9
         have c9b1 : (a0 != 12) = true := bne_iff_ne.mpr c9
         by_cases c10 : a0 = 14
         ·
          rw [if_pos c10] at H
          have c10b0 : (a0 == 14) = true := beq_iff_eq.mpr c10
          have c10b1 : (a0 != 14) = false := bne_eq_false_iff_eq.mpr c10
          clear c10
          simp only [Option.some.injEq, Prod.mk.injEq] at H
          obtain ⟨rfl, rfl⟩ := H
          go_wp2
          go_ret2
          exact ⟨by first | rfl | (simp; done) | (simp [*]; done), by repeat (first | exact Drawn0.refl _ | apply Drawn0.step)⟩
         ·
          rw [if_neg c10] at H
          have c10b0 : (a0 == 14) = false := beq_eq_false_iff_ne.mpr c10
          have c10b1 : (a0 != 14) = true := bne_iff_ne.mpr c10
          by_cases c11 : a0 = 15
          ·
           rw [if_pos c11] at H
           have c11b0 : (a0 == 15) = true := beq_iff_eq.mpr c11
           have c11b1 : (a0 != 15) = false := bne_eq_false_iff_eq.mpr c11
           clear c11
           simp only [Option.some.injEq, Prod.mk.injEq] at H
           obtain ⟨rfl, rfl⟩ := H
           go_wp2
           go_ret2
           exact ⟨by first | rfl | (simp; done) | (simp [*]; done), by repeat (first | exact Drawn0.refl _ | apply Drawn0.step)⟩
          ·
           rw [if_neg c11] at H
           have c11b0 : (a0 == 15) = false := beq_eq_false_iff_ne.mpr c11
           have c11b1 : (a0 != 15) = true := bne_iff_ne.mpr c11
           simp only [Option.some.injEq, Prod.mk.injEq] at H
           obtain ⟨rfl, rfl⟩ := H
           go_wp2
           go_ret2
           exact ⟨by first | rfl | (simp; done) | (simp [*]; done), by repeat (first | exact Drawn0.refl _ | apply Drawn0.step)⟩

end Go.Proofs.Ytongmkdapcgmfaa.P
