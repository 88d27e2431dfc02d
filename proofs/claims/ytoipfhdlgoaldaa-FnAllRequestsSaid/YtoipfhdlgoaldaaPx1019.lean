-- Written by a program of this session (wip/tool).
import Derived.Test.YtoipfhdlgoaldaaPx0
import Derived.Test.YtoipfhdlgoaldaaPx1037
import Derived.Test.YtoipfhdlgoaldaaPx1045
namespace Go.Proofs.Ytoipfhdlgoaldaa.P
open Go.RowKit Go.Proofs.YtoipfhdlgoaldaaW.PrintWords Go.Proofs.YtoipfhdlgoaldaaW.PrintLast Go.Proofs.YtoipfhdlgoaldaaW.PrintMore
attribute [local go_sem] max2_int min2_int max_two min_two max_three min_three max_four min_four   -- for this text's walks alone
set_option linter.unusedVariables false
set_option linter.unusedSimpArgs false

/-! ### spec_AllRequests: function 19 -/
mutual
def spec_AllRequests.j0 : Nat → List (S74) → List (S55) → List (S42) → Bool → Option ((List (S42)))
 | 0, _, _, _, _ => none
 | k + 1, x0, x1, x5, x19 => if x19 = true then (some x5) else (spec_AllRequests.l0 k x0 x1 x5 0)
def spec_AllRequests.l0 : Nat → List (S74) → List (S55) → List (S42) → Int → Option ((List (S42)))
 | 0, _, _, _, _ => none
 | k + 1, x0, x1, x5, x6 => if x6 < (x0.length : Int) then (spec_AllRequests.l1 k x0 x1 x5 x6 0) else (some x5)
def spec_AllRequests.l1 : Nat → List (S74) → List (S55) → List (S42) → Int → Int → Option ((List (S42)))
 | 0, _, _, _, _, _ => none
 | k + 1, x0, x1, x5, x6, x7 => if x7 ≤ 3 then (spec_AllRequests.l2 k x0 x1 x5 x6 x7 0) else (spec_AllRequests.l0 k x0 x1 x5 (wrap64 (x6 + 1)))
def spec_AllRequests.l2 : Nat → List (S74) → List (S55) → List (S42) → Int → Int → Int → Option ((List (S42)))
 | 0, _, _, _, _, _, _ => none
 | k + 1, x0, x1, x5, x6, x7, x8 => if x8 < (x0.length : Int) then ((some (([] : List (S55)) : List (S55))).bind fun y340 => (if y340.length + x1.length < 4398046511104 then (if x5.length < 2932031007402 then (spec_AllRequests.l2 k x0 x1 (x5 ++ [(⟨x6, x7, x8, (y340 ++ x1)⟩ : S42)]) x6 x7 (wrap64 (x8 + 1))) else (none)) else (none))) else (spec_AllRequests.l1 k x0 x1 x5 x6 (wrap64 (x7 + 1)))
end
def spec_AllRequests.f (k : Nat) (l0 : List (S74)) (l1 : List (S55)) : Option ((List (S42))) := (some (([] : List (S42)) : List (S42))).bind fun y335 => ((spec_WorldValid.f k l0).bind fun t338 => (if t338 = true then ((spec_l2Fields.f k l1 (l0.length : Int)).bind fun t339 => (spec_AllRequests.j0 k l0 l1 y335 (!t339))) else (spec_AllRequests.j0 k l0 l1 y335 true)))
theorem spec_AllRequests.mono_l : ∀ k, (∀ y0 y1 y2 y3, LeO (spec_AllRequests.j0 k y0 y1 y2 y3) (spec_AllRequests.j0 (k + 1) y0 y1 y2 y3)) ∧ (∀ y0 y1 y2 y3, LeO (spec_AllRequests.l0 k y0 y1 y2 y3) (spec_AllRequests.l0 (k + 1) y0 y1 y2 y3)) ∧ (∀ y0 y1 y2 y3 y4, LeO (spec_AllRequests.l1 k y0 y1 y2 y3 y4) (spec_AllRequests.l1 (k + 1) y0 y1 y2 y3 y4)) ∧ (∀ y0 y1 y2 y3 y4 y5, LeO (spec_AllRequests.l2 k y0 y1 y2 y3 y4 y5) (spec_AllRequests.l2 (k + 1) y0 y1 y2 y3 y4 y5))
 | 0 => ⟨fun _ _ _ _ r h => by simp [spec_AllRequests.j0] at h, fun _ _ _ _ r h => by simp [spec_AllRequests.l0] at h, fun _ _ _ _ _ r h => by simp [spec_AllRequests.l1] at h, fun _ _ _ _ _ _ r h => by simp [spec_AllRequests.l2] at h⟩
 | k + 1 => by
  obtain ⟨ih0, ih1, ih2, ih3⟩ := spec_AllRequests.mono_l k
  refine ⟨?_, ?_, ?_, ?_⟩
  ·
   intro y0 y1 y2 y3
   unfold spec_AllRequests.j0
   repeat' first
   | (with_reducible exact ih0 _ _ _ _)
   | (with_reducible exact ih1 _ _ _ _)
   | (with_reducible exact ih2 _ _ _ _ _)
   | (with_reducible exact ih3 _ _ _ _ _ _)
   | (with_reducible exact spec_WorldValid.mono _ _)
   | (with_reducible exact spec_l2Fields.mono _ _ _)
   | (with_reducible exact LeO.refl _)
   | (with_reducible exact LeO.none _)
   | (with_reducible refine LeO.ite ?_ ?_)
   | (with_reducible refine LeO.bind ?_ (fun _ => ?_))
   | exact ih0 _ _ _ _
   | exact ih1 _ _ _ _
   | exact ih2 _ _ _ _ _
   | exact ih3 _ _ _ _ _ _
   | exact spec_WorldValid.mono _ _
   | exact spec_l2Fields.mono _ _ _
   | exact LeO.none _
   | refine LeO.ite ?_ ?_
   | refine LeO.bind ?_ (fun _ => ?_)
  ·
   intro y0 y1 y2 y3
   unfold spec_AllRequests.l0
   repeat' first
   | (with_reducible exact ih0 _ _ _ _)
   | (with_reducible exact ih1 _ _ _ _)
   | (with_reducible exact ih2 _ _ _ _ _)
   | (with_reducible exact ih3 _ _ _ _ _ _)
   | (with_reducible exact spec_WorldValid.mono _ _)
   | (with_reducible exact spec_l2Fields.mono _ _ _)
   | (with_reducible exact LeO.refl _)
   | (with_reducible exact LeO.none _)
   | (with_reducible refine LeO.ite ?_ ?_)
   | (with_reducible refine LeO.bind ?_ (fun _ => ?_))
   | exact ih0 _ _ _ _
   | exact ih1 _ _ _ _
   | exact ih2 _ _ _ _ _
   | exact ih3 _ _ _ _ _ _
   | exact spec_WorldValid.mono _ _
   | exact spec_l2Fields.mono _ _ _
   | exact LeO.none _
   | refine LeO.ite ?_ ?_
   | refine LeO.bind ?_ (fun _ => ?_)
  ·
   intro y0 y1 y2 y3 y4
   unfold spec_AllRequests.l1
   repeat' first
   | (with_reducible exact ih0 _ _ _ _)
   | (with_reducible exact ih1 _ _ _ _)
   | (with_reducible exact ih2 _ _ _ _ _)
   | (with_reducible exact ih3 _ _ _ _ _ _)
   | (with_reducible exact spec_WorldValid.mono _ _)
   | (with_reducible exact spec_l2Fields.mono _ _ _)
   | (with_reducible exact LeO.refl _)
   | (with_reducible exact LeO.none _)
   | (with_reducible refine LeO.ite ?_ ?_)
   | (with_reducible refine LeO.bind ?_ (fun _ => ?_))
   | exact ih0 _ _ _ _
   | exact ih1 _ _ _ _
   | exact ih2 _ _ _ _ _
   | exact ih3 _ _ _ _ _ _
   | exact spec_WorldValid.mono _ _
   | exact spec_l2Fields.mono _ _ _
   | exact LeO.none _
   | refine LeO.ite ?_ ?_
   | refine LeO.bind ?_ (fun _ => ?_)
  ·
   intro y0 y1 y2 y3 y4 y5
   unfold spec_AllRequests.l2
   repeat' first
   | (with_reducible exact ih0 _ _ _ _)
   | (with_reducible exact ih1 _ _ _ _)
   | (with_reducible exact ih2 _ _ _ _ _)
   | (with_reducible exact ih3 _ _ _ _ _ _)
   | (with_reducible exact spec_WorldValid.mono _ _)
   | (with_reducible exact spec_l2Fields.mono _ _ _)
   | (with_reducible exact LeO.refl _)
   | (with_reducible exact LeO.none _)
   | (with_reducible refine LeO.ite ?_ ?_)
   | (with_reducible refine LeO.bind ?_ (fun _ => ?_))
   | exact ih0 _ _ _ _
   | exact ih1 _ _ _ _
   | exact ih2 _ _ _ _ _
   | exact ih3 _ _ _ _ _ _
   | exact spec_WorldValid.mono _ _
   | exact spec_l2Fields.mono _ _ _
   | exact LeO.none _
   | refine LeO.ite ?_ ?_
   | refine LeO.bind ?_ (fun _ => ?_)
theorem spec_AllRequests.mono : ∀ a0 a1 k, LeO (spec_AllRequests.f k a0 a1) (spec_AllRequests.f (k + 1) a0 a1) := by
 intro a0 a1 k
 obtain ⟨ih0, ih1, ih2, ih3⟩ := spec_AllRequests.mono_l k
 unfold spec_AllRequests.f
 repeat' first
   | (with_reducible exact ih0 _ _ _ _)
   | (with_reducible exact ih1 _ _ _ _)
   | (with_reducible exact ih2 _ _ _ _ _)
   | (with_reducible exact ih3 _ _ _ _ _ _)
   | (with_reducible exact spec_WorldValid.mono _ _)
   | (with_reducible exact spec_l2Fields.mono _ _ _)
   | (with_reducible exact LeO.refl _)
   | (with_reducible exact LeO.none _)
   | (with_reducible refine LeO.ite ?_ ?_)
   | (with_reducible refine LeO.bind ?_ (fun _ => ?_))
   | exact ih0 _ _ _ _
   | exact ih1 _ _ _ _
   | exact ih2 _ _ _ _ _
   | exact ih3 _ _ _ _ _ _
   | exact spec_WorldValid.mono _ _
   | exact spec_l2Fields.mono _ _ _
   | exact LeO.none _
   | refine LeO.ite ?_ ?_
   | refine LeO.bind ?_ (fun _ => ?_)
set_option maxHeartbeats 8000000 in
set_option maxRecDepth 100000 in
theorem spec_AllRequests.calls (k : Nat) (A0 : Option Addr) (c0 : Nat) (l0 : List (S74)) (A1 : Option Addr) (c1 : Nat) (l1 : List (S55)) (r : List (S42)) (w : World) (hr0 : Kd.C k74 w A0 l0.length l0) (hc0 : l0.length ≤ c0) (hr1 : Kd.C k55 w A1 l1.length l1) (hc1 : l1.length ≤ c1) (h : spec_AllRequests.f k l0 l1 = some r) :
  Calls Try.prog 19 #[.slice A0 l0.length c0, .slice A1 l1.length c1] w fun e w' => ∃ v0_ : Value, e = .returned (v0_) ∧ Kd.S k42 42 w' w.heap.size (fun _ => True) v0_ r ∧ Below w.heap.size w w' := by
 have hu42 := Try.underlying42
 have HR0 := Aside0.mk hr0
 have HC0 := Aside0.mk hc0
 clear hr0 hc0
 have HR1 := Aside0.mk hr1
 have HC1 := Aside0.mk hc1
 clear hr1 hc1
 have HB := Aside0.mk (Below.refl w.heap.size w)
 have H : ((some (([] : List (S42)) : List (S42))).bind fun y335 => ((spec_WorldValid.f k l0).bind fun t338 => (if t338 = true then ((spec_l2Fields.f k l1 (l0.length : Int)).bind fun t339 => (spec_AllRequests.j0 k l0 l1 y335 (!t339))) else (spec_AllRequests.j0 k l0 l1 y335 true)))) = some r := h
 clear h
 obtain ⟨y335, hy335⟩ : ∃ y_ : List (S42), y_ = (([] : List (S42))) := ⟨_, rfl⟩
 replace H : ((spec_WorldValid.f k l0).bind fun t338 => (if t338 = true then ((spec_l2Fields.f k l1 (l0.length : Int)).bind fun t339 => (spec_AllRequests.j0 k l0 l1 y335 (!t339))) else (spec_AllRequests.j0 k l0 l1 y335 true))) = some r := by first | (rw [hy335]; with_reducible exact H) | (have H2_ := (Option.bind_some _ _).symm.trans H; rw [hy335]; with_reducible exact H2_) | (have H2_ := (Option.bind_some _ _).symm.trans H; with_reducible exact H2_) | with_reducible exact H | (rw [hy335]; exact H) | exact H
 have Ny335 := Aside0.mk hy335
 clear hy335
 have HC3 := Aside0.mk H
 clear H
 go_enter Try.func19, Try.ntmps19
 go_upto_region 2 with (first | ((with_reducible refine gate_dst (N := 9) rfl ?_); (try (refine gate_guard (by rfl) ?_; dsimp only)); refine Kd.S_lit k42 _ 42 ?hg (N := 9) ?hd (xs := ([] : List (S42))) (inner := []) (ok := fun _ => True) (okp := fun _ => True) ?hr ?hp (fun _ hk => hk) trivial (Below.refl _ _) (Nat.le_refl _) (by simp) ?_; (case hd => rfl); (case hg => rfl); (case hr => first | (go_simp; done) | (go_simp; rfl)); (case hp => exact (Reps.none _ _)); intro v336 w4 ho5 hb hg_ hnew_; clear hg_ hnew_; (first | rw [← Ny335.out] at ho5 | (simp only [Int.reduceToNat] at ho5; rw [← Ny335.out] at ho5)); have HO337 := Aside0.mk (Kd.S_lower ho5 (below_size (by exact bw HB.out))); replace HB := bS HB hb; clear hb ho5))
 (try simp only [Act.put, List.setIfInBounds_toArray, List.set_cons_zero, List.set_cons_succ])
 go_cut [19] (fun v19 wc => ∃ (kq : Nat) (x19_2 : Bool), v19 = .bool x19_2 ∧ Aside0 (spec_AllRequests.j0 kq l0 l1 y335 x19_2 = some r) ∧ Aside0 (kq ≤ k) ∧ Aside0 (Kd.S k42 42 wc w.heap.size (fun _ => True) v336 y335) ∧ Aside0 (Below w.heap.size w wc))
 case first =>
  have H := HC3.out
  clear HC3
  replace H := Option.bind_eq_some_iff.mp H
  obtain ⟨t338, A60, H⟩ := H
  replace H : (if t338 = true then ((spec_l2Fields.f k l1 (l0.length : Int)).bind fun t339 => (spec_AllRequests.j0 k l0 l1 y335 (!t339))) else (spec_AllRequests.j0 k l0 l1 y335 true)) = some r := H
  have A6 := Aside0.mk A60
  clear A60
  by_cases c7 : t338 = true
  ·
   subst c7
   have H1 : ((spec_l2Fields.f k l1 (l0.length : Int)).bind fun t339 => (spec_AllRequests.j0 k l0 l1 y335 (!t339))) = some r := by rw [if_pos rfl] at H; exact H
   clear H
   have H := H1
   clear H1
   replace H := Option.bind_eq_some_iff.mp H
   obtain ⟨t339, A80, H⟩ := H
   replace H : (spec_AllRequests.j0 k l0 l1 y335 (!t339)) = some r := H
   have A8 := Aside0.mk A80
   clear A80
   have H' := Aside0.mk H
   clear H
   go_wp2_with (first | ((with_reducible refine gate_callee (f := 37) rfl ?_); refine gl (some 11) Try.func37 #[.slice A0 l0.length c0] ?_; (with_reducible refine (spec_WorldValid.calls k _ _ l0 true _ ?side1 ?side2 A6.out).mono ?_); (case side1 => repeat (first | exact (Kd.C_below HR0.out HB.out) | (with_reducible refine Kd.C_alloc ?_ _) | (with_reducible refine Kd.C_drewN ?_ _) | (with_reducible refine Kd.C_drew ?_))); (case side2 => exact HC0.out); rintro e w9 ⟨rfl, hb⟩; refine ⟨_, rfl, ?_⟩; replace HO337 := Aside0.mk (Kd.S_below (by exact Kd.xS HO337.out) hb); replace HB := bS HB hb; (try clear hb); (try clear hb2); (try clear hk); (try clear hi)) | (go_at_call 45; (with_reducible refine (spec_l2Fields.calls k _ _ l1 (l0.length : Int) t339 _ ?side1 ?side2 A8.out).mono ?_); (case side1 => repeat (first | exact (Kd.C_below HR1.out HB.out) | (with_reducible refine Kd.C_alloc ?_ _) | (with_reducible refine Kd.C_drewN ?_ _) | (with_reducible refine Kd.C_drew ?_))); (case side2 => exact HC1.out); rintro e w10 ⟨rfl, hb⟩; have n0_ := Aside0.mk (Kd.S_below (by exact Kd.xS HO337.out) hb); have n1_ := bS HB hb; clear HO337; clear HB; have HO337 := n0_; have HB := n1_; clear n0_ n1_; (try clear hb); (try clear hb2); (try clear hk); (try clear hi)))
   go_meet
   case rel => exact ⟨_, (!t339), (by first | rfl | (simp; done) | (simp [*]; done)), H', ⟨by first | omega | exact Nat.le_refl _⟩, ⟨by exact Kd.xS HO337.out⟩, ⟨by exact bw HB.out⟩⟩
  ·
   replace c7 := Bool.eq_false_iff.mpr c7
   subst c7
   have H1 : (spec_AllRequests.j0 k l0 l1 y335 true) = some r := by rw [if_neg (show ¬ (false = true) by decide)] at H; exact H
   clear H
   have H := H1
   clear H1
   have H' := Aside0.mk H
   clear H
   go_wp2_with (first | ((with_reducible refine gate_callee (f := 37) rfl ?_); refine gl (some 11) Try.func37 #[.slice A0 l0.length c0] ?_; (with_reducible refine (spec_WorldValid.calls k _ _ l0 false _ ?side1 ?side2 A6.out).mono ?_); (case side1 => repeat (first | exact (Kd.C_below HR0.out HB.out) | (with_reducible refine Kd.C_alloc ?_ _) | (with_reducible refine Kd.C_drewN ?_ _) | (with_reducible refine Kd.C_drew ?_))); (case side2 => exact HC0.out); rintro e w11 ⟨rfl, hb⟩; refine ⟨_, rfl, ?_⟩; replace HO337 := Aside0.mk (Kd.S_below (by exact Kd.xS HO337.out) hb); replace HB := bS HB hb; (try clear hb); (try clear hb2); (try clear hk); (try clear hi)))
   go_meet
   case rel => exact ⟨_, (true), (by first | rfl | (simp; done) | (simp [*]; done)), H', ⟨by first | omega | exact Nat.le_refl _⟩, ⟨by exact Kd.xS HO337.out⟩, ⟨by exact bw HB.out⟩⟩
 case rest =>
  clear HC3
  try clear c1
  try clear p2
  try clear c3
  try clear c7
  obtain ⟨kq, x19_2, rfl, HA, HJ2, HO_5, HB⟩ := hcut
  cases kq with
  | zero => exact absurd HA.out (by simp [spec_AllRequests.j0])
  | succ kj2 =>
   have H := HA.out
   clear HA
   simp only [spec_AllRequests.j0] at H
   by_cases c12 : x19_2 = true
   ·
    subst c12
    have H1 : (some y335) = some r := by rw [if_pos rfl] at H; exact H
    clear H
    have H := H1
    clear H1
    obtain rfl := Option.some.inj H
    go_wp2
    go_ret
    exact ⟨_, by first | rfl | (simp [errW_none, errW_some] <;> rfl) | (simp [*, errW_none, errW_some] <;> rfl), by exact Kd.xS HO_5.out, by exact bw HB.out⟩
   ·
    replace c12 := Bool.eq_false_iff.mpr c12
    subst c12
    have H1 : (spec_AllRequests.l0 kj2 l0 l1 y335 0) = some r := by rw [if_neg (show ¬ (false = true) by decide)] at H; exact H
    clear H
    have H := H1
    clear H1
    have H' := Aside0.mk H
    clear H
    go_wp2
    go_loopg [5, 6] kj2 (fun kq v5 v6 w' => ∃ (x5_2 : List (S42)) (x6_2 : Int), v6 = .int .i64 x6_2 ∧ Aside0 (spec_AllRequests.l0 kq l0 l1 x5_2 x6_2 = some r) ∧ Aside0 (kq ≤ kj2) ∧ Aside0 (Kd.S k42 42 w' w.heap.size (fun _ => True) v5 x5_2) ∧ Aside0 (Below w.heap.size w w'))
    case atStart => exact ⟨(y335), (0), (by first | rfl | (simp; done) | (simp [*]; done)), H', ⟨Nat.le_refl _⟩, ⟨by exact Kd.xS HO_5.out⟩, ⟨by exact bw HB.out⟩⟩
    case round =>
     clear H'
     try clear c1
     try clear p2
     try clear c3
     try clear c7
     try clear c12
     try clear p2
     obtain ⟨x5_2, x6_2, rfl, HA, HK2, HO_5, HB⟩ := hrel
     cases gk with
     | zero => exact absurd HA.out (by simp [spec_AllRequests.l0])
     | succ k2 =>
      have H := HA.out
      clear HA
      simp only [spec_AllRequests.l0] at H
      by_cases c13 : x6_2 < (l0.length : Int)
      ·
       rw [if_pos c13] at H; have c13b0 : decide (x6_2 < (l0.length : Int)) = true := decide_eq_true c13; clear c13
       have H' := Aside0.mk H
       clear H
       go_wp2
       go_loopg [5, 7] k2 (fun kq v5 v7 w' => ∃ (x5_3 : List (S42)) (x7_3 : Int), v7 = .int .i64 x7_3 ∧ Aside0 (spec_AllRequests.l1 kq l0 l1 x5_3 x6_2 x7_3 = some r) ∧ Aside0 (kq ≤ k2) ∧ Aside0 (Kd.S k42 42 w' w.heap.size (fun _ => True) v5 x5_3) ∧ Aside0 (Below w.heap.size w w'))
       case atStart => exact ⟨(x5_2), (0), (by first | rfl | (simp; done) | (simp [*]; done)), H', ⟨Nat.le_refl _⟩, ⟨by exact Kd.xS HO_5.out⟩, ⟨by exact bw HB.out⟩⟩
       case round =>
        clear H'
        try clear c1
        try clear p2
        try clear c3
        try clear c7
        try clear c12
        try clear c13
        try clear c13b0
        try clear p2
        obtain ⟨x5_3, x7_3, rfl, HA, HK3, HO_5, HB⟩ := hrel
        cases gk with
        | zero => exact absurd HA.out (by simp [spec_AllRequests.l1])
        | succ k3 =>
         have H := HA.out
         clear HA
         simp only [spec_AllRequests.l1] at H
         by_cases c14 : x7_3 ≤ 3
         ·
          rw [if_pos c14] at H; have c14b0 : decide (x7_3 ≤ 3) = true := decide_eq_true c14; clear c14
          have H' := Aside0.mk H
          clear H
          go_wp2
          go_loopg [5, 8] k3 (fun kq v5 v8 w' => ∃ (x5_4 : List (S42)) (x8_4 : Int), v8 = .int .i64 x8_4 ∧ Aside0 (spec_AllRequests.l2 kq l0 l1 x5_4 x6_2 x7_3 x8_4 = some r) ∧ Aside0 (kq ≤ k3) ∧ Aside0 (Kd.S k42 42 w' w.heap.size (fun _ => True) v5 x5_4) ∧ Aside0 (Below w.heap.size w w'))
          case atStart => exact ⟨(x5_3), (0), (by first | rfl | (simp; done) | (simp [*]; done)), H', ⟨Nat.le_refl _⟩, ⟨by exact Kd.xS HO_5.out⟩, ⟨by exact bw HB.out⟩⟩
          case round =>
           clear H'
           try clear c1
           try clear p2
           try clear c3
           try clear c7
           try clear c12
           try clear c13
           try clear c13b0
           try clear c14
           try clear c14b0
           try clear p2
           obtain ⟨x5_4, x8_4, rfl, HA, HK4, HO_5, HB⟩ := hrel
           cases gk with
           | zero => exact absurd HA.out (by simp [spec_AllRequests.l2])
           | succ k4 =>
            have H := HA.out
            clear HA
            simp only [spec_AllRequests.l2] at H
            by_cases c15 : x8_4 < (l0.length : Int)
            ·
             rw [if_pos c15] at H; have c15b0 : decide (x8_4 < (l0.length : Int)) = true := decide_eq_true c15; clear c15
             obtain ⟨y340, hy340⟩ : ∃ y_ : List (S55), y_ = (([] : List (S55))) := ⟨_, rfl⟩
             replace H : (if y340.length + l1.length < 4398046511104 then (if x5_4.length < 2932031007402 then (spec_AllRequests.l2 k4 l0 l1 (x5_4 ++ [(⟨x6_2, x7_3, x8_4, (y340 ++ l1)⟩ : S42)]) x6_2 x7_3 (wrap64 (x8_4 + 1))) else (none)) else (none)) = some r := by first | (rw [hy340]; with_reducible exact H) | (have H2_ := (Option.bind_some _ _).symm.trans H; rw [hy340]; with_reducible exact H2_) | (have H2_ := (Option.bind_some _ _).symm.trans H; with_reducible exact H2_) | with_reducible exact H | (rw [hy340]; exact H) | exact H
             have Ny340 := Aside0.mk hy340
             clear hy340
             by_cases c16 : y340.length + l1.length < 4398046511104
             ·
              rw [if_pos c16] at H; have LMc16 := Aside0.mk c16; clear c16
              obtain ⟨y343, hy343⟩ : ∃ y_ : List (S55), y_ = (y340 ++ l1) := ⟨_, rfl⟩
              replace H : (if x5_4.length < 2932031007402 then (spec_AllRequests.l2 k4 l0 l1 (x5_4 ++ [(⟨x6_2, x7_3, x8_4, y343⟩ : S42)]) x6_2 x7_3 (wrap64 (x8_4 + 1))) else (none)) = some r := by first | (rw [hy343]; with_reducible exact H) | (have H2_ := (Option.bind_some _ _).symm.trans H; rw [hy343]; with_reducible exact H2_) | (have H2_ := (Option.bind_some _ _).symm.trans H; with_reducible exact H2_) | with_reducible exact H | (rw [hy343]; exact H) | exact H
              have Ny343 := Aside0.mk hy343
              clear hy343
              by_cases c17 : x5_4.length < 2932031007402
              ·
               rw [if_pos c17] at H; have LMc17 := Aside0.mk c17; clear c17
               obtain ⟨y346, hy346⟩ : ∃ y_ : List (S42), y_ = (x5_4 ++ [(⟨x6_2, x7_3, x8_4, y343⟩ : S42)]) := ⟨_, rfl⟩
               replace H : (spec_AllRequests.l2 k4 l0 l1 y346 x6_2 x7_3 (wrap64 (x8_4 + 1))) = some r := by first | (rw [hy346]; with_reducible exact H) | (have H2_ := (Option.bind_some _ _).symm.trans H; rw [hy346]; with_reducible exact H2_) | (have H2_ := (Option.bind_some _ _).symm.trans H; with_reducible exact H2_) | with_reducible exact H | (rw [hy346]; exact H) | exact H
               have Ny346 := Aside0.mk hy346
               clear hy346
               have H' := Aside0.mk H
               clear H
               go_wp2_with (first | ((with_reducible refine gate_dst (N := 41) rfl ?_); (try (refine gate_guard (by rfl) ?_; dsimp only)); refine Kd.R_lit k55 _ 55 ?hg (N := 41) ?hd (xs := ([] : List (S55))) (inner := []) (ok := fun _ => True) (okp := fun _ => True) ?hr ?hp (fun _ hk => hk) trivial (Below.refl _ _) (Nat.le_refl _) (by simp) ?_; (case hd => rfl); (case hg => rfl); (case hr => first | (go_simp; done) | (go_simp; rfl)); (case hp => exact (Reps.none _ _)); intro v341 w18 ho19 hb hg_ hnew_; clear hg_ hnew_; (first | rw [← Ny340.out] at ho19 | (simp only [Int.reduceToNat] at ho19; rw [← Ny340.out] at ho19)); replace HO_5 := Aside0.mk (Kd.S_elder' (by exact Kd.xS HO_5.out) (Kd.R_base ho19) hb); have HO342 := Aside0.mk (Kd.R_lower ho19 (below_size (by exact bw HB.out))); replace HB := bS HB hb; clear hb ho19) | ((with_reducible refine gate_builtin (b := .append) (xs := #[.tmp 41, .tmp 42]) rfl ?_); (try (refine gate_guard (by rfl) ?_; dsimp only)); at_builtin; refine Kd.R_append_rows k55 (w0 := w) w.heap.size rfl (.tmp 41) (.tmp 42) 34 55 (.agg #[(.string ⟨#[]⟩), (.int .i64 0), (.int .i64 0)]) 32 rfl Try.underlying34 info55 rfl (by decide) (by omega) v341 y340 l1 _ _ _ (fun _ => True) (fun _ => False) rfl rfl ?aO ?aR (fun _ _ h => h) (fun _ h => h.elim) ?aF ?aB ?aS ?aL ?_; (case aR => repeat (first | exact (Kd.C_below HR1.out HB.out) | (with_reducible refine Kd.C_alloc ?_ _) | (with_reducible refine Kd.C_drewN ?_ _) | (with_reducible refine Kd.C_drew ?_))); (case aB => exact (by exact bw HB.out)); (case aF => exact (fun _ _ => trivial)); (case aO => exact (by exact Kd.xR HO342.out)); (case aS => exact (below_size (by exact bw HB.out))); (case aL => have := LMc16.out; omega); intro v344 w20 ho hb hg hat; rw [← Ny343.out] at ho; replace HO_5 := Aside0.mk (Kd.S_after (ok := (fun _ => True)) (by exact Kd.xS HO_5.out) hg hat); replace HB := Aside0.mk (hb); have HO345 := Aside0.mk (ho); clear HO342; clear ho hb hg hat; obtain ⟨Ao21, co21, eo21⟩ := Kd.R_slice HO345.out; subst eo21) | ((with_reducible refine gate_builtin (b := .append) (xs := #[.tmp 37, .tmp 45]) rfl ?_); (try (refine gate_guard (by rfl) ?_; dsimp only)); at_builtin; refine Kd.S_append k42 (w0 := w) w.heap.size rfl (.tmp 37) (.tmp 45) 37 42 (.agg #[(.int .i64 0), (.int .i64 0), (.int .i64 0), (.slice none 0 0)]) 48 rfl Try.underlying37 info42 rfl (by decide) (by omega) u5 x5_4 (⟨x6_2, x7_3, x8_4, y343⟩ : S42) [.int .i64 x6_2, .int .i64 x7_3, .int .i64 x8_4, .slice Ao21 y343.length co21] (fun _ => True) (fun k_ => some k_ = (.slice Ao21 y343.length co21 : Value).ownBlock) rfl rfl ?aP (fun k_ hk_ => ((Kd.R_mono (ok' := fun k_ => ((fun _ => True)) k_ ∧ some k_ ≠ (u5 : Value).ownBlock) (Kd.R_apart' (HO345.out) (Kd.S_typed HO_5.out) (by decide)) (fun k_ hk => ⟨trivial, hk.2⟩))).1 k_ hk_.symm) ?aF ?aO ?aB ?aS ?aL ?_; (case aP => exact k42_mkM _ _ _ (⟨x6_2, x7_3, x8_4, y343⟩ : S42) (Kd.R_mono (Kd.R_tight rfl (Kd.R_mono (ok' := fun k_ => ((fun _ => True)) k_ ∧ some k_ ≠ (u5 : Value).ownBlock) (Kd.R_apart' (HO345.out) (Kd.S_typed HO_5.out) (by decide)) (fun k_ hk => ⟨trivial, hk.2⟩))) (fun _ h_ => h_))); (case aB => exact (by exact bw HB.out)); (case aF => exact (fun _ _ => trivial)); (case aO => exact (by (with_reducible repeat (first | apply Kd.S_alloc | apply Kd.S_drewN | apply Kd.S_drew)); exact Kd.S_mono HO_5.out (fun k_ hk => ⟨trivial, fun e_ => hk.2 e_⟩))); (case aS => exact (below_size (by exact bw HB.out))); (case aL => have := LMc17.out; omega); intro v347 w22 ho hb hg hat; rw [← Ny346.out] at ho; replace HB := Aside0.mk (hb); have HO348 := Aside0.mk (ho); clear HO_5; clear HO345; clear ho hb hg hat))
               go_roundg k4
               case measure => have := HJ2.out; have := HK2.out; have := HK3.out; have := HK4.out; omega
               case rel => exact ⟨(y346), (wrap64 (x8_4 + 1)), (by first | rfl | (simp; done) | (simp [*]; done)), H', ⟨by have := HJ2.out; have := HK2.out; have := HK3.out; have := HK4.out; omega⟩, ⟨by exact Kd.xS HO348.out⟩, ⟨by exact bw HB.out⟩⟩
              ·
               rw [if_neg c17] at H; exact absurd H (by simp)
             ·
              rw [if_neg c16] at H; exact absurd H (by simp)
            ·
             rw [if_neg c15] at H; have c15b0 : decide (x8_4 < (l0.length : Int)) = false := decide_eq_false c15; clear c15
             have H' := Aside0.mk H
             clear H
             go_wp2
             go_roundg k4
             case measure => have := HJ2.out; have := HK2.out; have := HK3.out; have := HK4.out; omega
             case rel => exact ⟨(x5_4), (wrap64 (x7_3 + 1)), (by first | rfl | (simp; done) | (simp [*]; done)), H', ⟨by have := HJ2.out; have := HK2.out; have := HK3.out; have := HK4.out; omega⟩, ⟨by exact Kd.xS HO_5.out⟩, ⟨by exact bw HB.out⟩⟩
         ·
          rw [if_neg c14] at H; have c14b0 : decide (x7_3 ≤ 3) = false := decide_eq_false c14; clear c14
          have H' := Aside0.mk H
          clear H
          go_wp2
          go_roundg k3
          case measure => have := HJ2.out; have := HK2.out; have := HK3.out; omega
          case rel => exact ⟨(x5_3), (wrap64 (x6_2 + 1)), (by first | rfl | (simp; done) | (simp [*]; done)), H', ⟨by have := HJ2.out; have := HK2.out; have := HK3.out; omega⟩, ⟨by exact Kd.xS HO_5.out⟩, ⟨by exact bw HB.out⟩⟩
      ·
       rw [if_neg c13] at H; have c13b0 : decide (x6_2 < (l0.length : Int)) = false := decide_eq_false c13; clear c13
       obtain rfl := Option.some.inj H
       go_wp2
       go_ret
       exact ⟨_, by first | rfl | (simp [errW_none, errW_some] <;> rfl) | (simp [*, errW_none, errW_some] <;> rfl), by exact Kd.xS HO_5.out, by exact bw HB.out⟩

end Go.Proofs.Ytoipfhdlgoaldaa.P
