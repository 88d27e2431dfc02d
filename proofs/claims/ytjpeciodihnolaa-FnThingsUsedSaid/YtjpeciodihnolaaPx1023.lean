-- Written by a program of this session (wip/tool).
import Derived.Test.YtjpeciodihnolaaPx0
import Derived.Test.YtjpeciodihnolaaPx1022
import Derived.Test.YtjpeciodihnolaaPx1036
namespace Go.Proofs.Ytjpeciodihnolaa.P
open Go.RowKit Go.Proofs.YtjpeciodihnolaaW.PrintWords Go.Proofs.YtjpeciodihnolaaW.PrintLast Go.Proofs.YtjpeciodihnolaaW.PrintMore
attribute [local go_sem] max2_int min2_int max_two min_two max_three min_three max_four min_four   -- for this text's walks alone
set_option linter.unusedVariables false
set_option linter.unusedSimpArgs false

/-! ### spec_l20Open: function 23 -/
def spec_l20Open.f (l0 : List Int) : Option (List Int × Int) := if (l0.length : Int) > 2000 then (if 2000 ≤ (l0.length : Int) then (some (l0.take 2000, 0)) else (none)) else (some (l0, 0))
set_option maxHeartbeats 8000000 in
set_option maxRecDepth 100000 in
theorem spec_l20Open.calls (A0 : Option Addr) (c0 : Nat) (l0 : List Int) (r1 : List Int) (r2 : Int) (w0 w : World) (hB : Below w0.heap.size w0 w) (hr0 : Kd.C (Kd.int .u8) w0 A0 l0.length l0) (hc0 : l0.length ≤ c0) (h : spec_l20Open.f l0 = some (r1, r2)) :
  Calls Try.prog 23 #[.slice A0 l0.length c0] w fun e w' => ∃ g_ : Nat, e = .returned (.pointer (some ⟨g_, 0, none⟩)) ∧ IsS75 w0 w' g_ r1 r2 ∧ Below w0.heap.size w0 w' ∧ Below w.heap.size w w' := by
 have hu75 := Try.underlying75
 have HR0 := Aside0.mk hr0
 have HC0 := Aside0.mk hc0
 clear hr0 hc0
 have HBW := Aside0.mk (Below.refl w.heap.size w)
 have HW0 := Aside0.mk hB.size
 have HB := Aside0.mk hB
 clear hB
 have H : (if (l0.length : Int) > 2000 then (if 2000 ≤ (l0.length : Int) then (some (l0.take 2000, 0)) else (none)) else (some (l0, 0))) = some (r1, r2) := h
 clear h
 by_cases c2 : (l0.length : Int) > 2000
 ·
  rw [if_pos c2] at H; have c2b0 : decide (2000 < (l0.length : Int)) = true := decide_eq_true c2
  have c2b1 : decide (2000 < l0.length) = true := decide_eq_true (by omega)
  clear c2
  by_cases c3 : 2000 ≤ (l0.length : Int)
  ·
   rw [if_pos c3] at H; have c3b0 := eq_true c3
   have c3b1 : decide (2000 ≤ (l0.length : Int)) = true := decide_eq_true c3
   clear c3
   simp only [Option.some.injEq, Prod.mk.injEq] at H
   obtain ⟨rfl, rfl⟩ := H
   obtain ⟨i04, hi04, _, hsz4, _⟩ := info_parts info5
   obtain ⟨hcut4, hA4, hC4⟩ := print_take_of (P := Try.prog) (Value.int .u8) 0 22 5 .i64 Try.underlying22 hi04 hsz4 A0 c0 l0 2000 (by omega) (of_decide_eq_true (by first | (with_reducible assumption) | assumption)) HC0.out
   have HR377 := Aside0.mk (Kd.C_of_reads (h1 := fun _ => rfl) (hA4 _ (Kd.reads_of_C HR0.out)))
   have HC377 := Aside0.mk hC4
   clear hA4 hC4 hi04 hsz4
   go_enter Try.func23, Try.ntmps23
   go_wp2_with (first | ((with_reducible refine gate_dst (N := 10) rfl ?_); refine bx 10 #[.slice A0 (l0.take 2000).length c0, .int .i64 0] 75 ?_; intro gb378 hg w5 hbox hb; replace HB := bS HB hb; have BK378 := Aside0.mk (hbox); have GW378 := Aside0.mk ((by rw [hg]; exact (below_size (by exact bw HBW.out)) : w.heap.size ≤ gb378)); have GE378 := Aside0.mk ((Nat.le_trans HW0.out (by rw [hg]; exact (below_size (by exact bw HBW.out)) : w.heap.size ≤ gb378) : w0.heap.size ≤ gb378)); replace HBW := Aside0.mk (below_step HBW.out hb); clear hb hbox hg))
   go_ret
   exact ⟨_, rfl, (show IsS75 w0 _ gb378 (l0.take 2000) 0 from ⟨_, _, by exact bk BK378.out, GE378.out, HR377.out⟩), by exact bw HB.out, by exact bw HBW.out⟩
  ·
   rw [if_neg c3] at H; exact absurd H (by simp)
 ·
  rw [if_neg c2] at H; have c2b0 : decide (2000 < (l0.length : Int)) = false := decide_eq_false c2
  have c2b1 : decide (2000 < l0.length) = false := decide_eq_false (by omega)
  clear c2
  simp only [Option.some.injEq, Prod.mk.injEq] at H
  obtain ⟨rfl, rfl⟩ := H
  go_enter Try.func23, Try.ntmps23
  go_wp2_with (first | ((with_reducible refine gate_dst (N := 10) rfl ?_); refine bx 10 #[.slice A0 l0.length c0, .int .i64 0] 75 ?_; intro gb379 hg w6 hbox hb; replace HB := bS HB hb; have BK379 := Aside0.mk (hbox); have GW379 := Aside0.mk ((by rw [hg]; exact (below_size (by exact bw HBW.out)) : w.heap.size ≤ gb379)); have GE379 := Aside0.mk ((Nat.le_trans HW0.out (by rw [hg]; exact (below_size (by exact bw HBW.out)) : w.heap.size ≤ gb379) : w0.heap.size ≤ gb379)); replace HBW := Aside0.mk (below_step HBW.out hb); clear hb hbox hg))
  go_ret
  exact ⟨_, rfl, (show IsS75 w0 _ gb379 l0 0 from ⟨_, _, by exact bk BK379.out, GE379.out, HR0.out⟩), by exact bw HB.out, by exact bw HBW.out⟩

/-! ### spec_DrawThingsUsed: function 6 -/
def spec_DrawThingsUsed.f (k : Nat) (l0 : List Int) : Option (Int × Int × ByteArray × (List (S25))) := (spec_l20Open.f l0).bind fun bt381 => ((spec_l20Expr.f k bt381.1 bt381.2 6).bind fun bt384 => (some (bt384.1, bt384.2.1, bt384.2.2.1, bt384.2.2.2.1)))
theorem spec_DrawThingsUsed.mono : ∀ a0 k, LeO (spec_DrawThingsUsed.f k a0) (spec_DrawThingsUsed.f (k + 1) a0) := by
 intro a0 k
 unfold spec_DrawThingsUsed.f
 repeat' first
   | (with_reducible exact spec_l20Expr.mono _ _ _ _)
   | (with_reducible exact LeO.refl _)
   | (with_reducible exact LeO.none _)
   | (with_reducible refine LeO.ite ?_ ?_)
   | (with_reducible refine LeO.bind ?_ (fun _ => ?_))
   | exact spec_l20Expr.mono _ _ _ _
   | exact LeO.none _
   | refine LeO.ite ?_ ?_
   | refine LeO.bind ?_ (fun _ => ?_)
set_option maxHeartbeats 8000000 in
set_option maxRecDepth 100000 in
theorem spec_DrawThingsUsed.calls (k : Nat) (A0 : Option Addr) (c0 : Nat) (l0 : List Int) (r1 : Int) (r2 : Int) (r3 : ByteArray) (r4 : List (S25)) (w : World) (hr0 : Kd.C (Kd.int .u8) w A0 l0.length l0) (hc0 : l0.length ≤ c0) (h : spec_DrawThingsUsed.f k l0 = some (r1, r2, r3, r4)) :
  Calls Try.prog 6 #[.slice A0 l0.length c0] w fun e w' => ∃ v3_ : Value, e = .returned (.agg #[.int .i64 r1, .int .i64 r2, .string r3, v3_]) ∧ Kd.V k25 25 w' w.heap.size (fun k_ => (w.heap.size ≤ k_)) v3_ r4 ∧ Below w.heap.size w w' := by
 have hu25 := Try.underlying25
 have HR0 := Aside0.mk hr0
 have HC0 := Aside0.mk hc0
 clear hr0 hc0
 have HB := Aside0.mk (Below.refl w.heap.size w)
 have H : ((spec_l20Open.f l0).bind fun bt381 => ((spec_l20Expr.f k bt381.1 bt381.2 6).bind fun bt384 => (some (bt384.1, bt384.2.1, bt384.2.2.1, bt384.2.2.2.1)))) = some (r1, r2, r3, r4) := h
 clear h
 replace H := Option.bind_eq_some_iff.mp H
 obtain ⟨⟨t381, t382⟩, A20, H⟩ := H
 replace H : ((spec_l20Expr.f k t381 t382 6).bind fun bt384 => (some (bt384.1, bt384.2.1, bt384.2.2.1, bt384.2.2.2.1))) = some (r1, r2, r3, r4) := H
 have A2 := Aside0.mk A20
 clear A20
 replace H := Option.bind_eq_some_iff.mp H
 obtain ⟨⟨t384, t385, t386, t387, t390⟩, A30, H⟩ := H
 replace H : (some (t384, t385, t386, t387)) = some (r1, r2, r3, r4) := H
 have A3 := Aside0.mk A30
 clear A30
 simp only [Option.some.injEq, Prod.mk.injEq] at H
 obtain ⟨rfl, rfl, rfl, rfl⟩ := H
 go_enter Try.func6, Try.ntmps6
 go_wp2_with (first | ((with_reducible refine gate_dst (N := 2) rfl ?_); refine bx 2 #[.int .i64 0, .int .i64 0, .string (⟨#[]⟩ : ByteArray), .slice none 0 0] 25 ?_; intro gb380 hg w4 hbox hb; have BK380 := Aside0.mk (hbox); have GW380 := gwB HB hg; have GE380 := gwB HB hg; replace HB := bS HB hb; clear hb hbox hg) | ((with_reducible refine gate_callee (f := 23) rfl ?_); refine gl (some 4) Try.func23 #[.slice A0 l0.length c0] ?_; (with_reducible refine (spec_l20Open.calls _ _ l0 t381 t382 w _ ?side1 ?side2 ?side3 A2.out).mono ?_); (case side1 => exact bw HB.out); (case side2 => exact HR0.out); (case side3 => exact HC0.out); rintro e w5 ⟨g383, rfl, hi, hb, hb2⟩; refine ⟨_, rfl, ?_⟩; replace HB := Aside0.mk (hb); have HI383 := Aside0.mk (hi); have NB383_380 := Aside0.mk (IsS75.ne_blk hi (blk_below (g := gb380) (o := .cells #[.int .i64 0, .int .i64 0, .string (⟨#[]⟩ : ByteArray), .slice none 0 0] 25 (0, 0)) (by exact bk BK380.out) hb2) (by decide)); have NB380_383 := Aside0.mk (Ne.symm (IsS75.ne_blk hi (blk_below (g := gb380) (o := .cells #[.int .i64 0, .int .i64 0, .string (⟨#[]⟩ : ByteArray), .slice none 0 0] 25 (0, 0)) (by exact bk BK380.out) hb2) (by decide))); replace BK380 := Aside0.mk (blk_below (g := gb380) (o := .cells #[.int .i64 0, .int .i64 0, .string (⟨#[]⟩ : ByteArray), .slice none 0 0] 25 (0, 0)) (by exact bk BK380.out) hb2); (try clear hb); (try clear hb2); (try clear hk); (try clear hi)) | ((with_reducible refine gate_callee (f := 22) rfl ?_); refine gl (some 5) Try.func22 #[.pointer (some ⟨g383, 0, none⟩), .int .i64 6] ?_; (with_reducible refine (spec_l20Expr.calls k g383 t381 t382 6 t384 t385 t386 t387 t390 w _ ?side1 ?side2 A3.out).mono ?_); (case side1 => exact sw75 HI383.out); (case side2 => exact bw HB.out); rintro e w6 ⟨v388, rfl, ho0, hi, hb, hk⟩; refine ⟨_, rfl, ?_⟩; have HO389 := Aside0.mk (Kd.V_lower (Kd.V_mono (ok' := fun k_ => (w.heap.size ≤ k_) ∧ k_ ≠ gb380 ∧ k_ ≠ g383) ho0 (fun k_ hk_ => ⟨(Nat.le_trans (below_size (by exact bw HB.out)) hk_), (Kd.freshB (by exact bk BK380.out) k_ hk_), (IsS75.fresh (by exact sw75 HI383.out) k_ hk_)⟩)) (below_size (by exact bw HB.out))); replace BK380 := kB hk BK380 NB380_383; replace HB := Aside0.mk (hb); replace HI383 := Aside0.mk (hi); (try clear hb); (try clear hb2); (try clear hk); (try clear hi); (try clear ho0); have hnb7 := NB380_383.out; have hnc7 := NB383_380.out; obtain ⟨hcz8_0, hcz8_1, hcz8_2, hcz8_3⟩ := cs4 BK380.out; obtain ⟨hfz8_0, hfz8_1, hfz8_2, hfz8_3⟩ := fz4 BK380.out; obtain ⟨Ao9, co9, eo9⟩ := Kd.V_slice HO389.out; subst eo9))
 refine bodyPost_ret (results_cell_row rfl _ _ gb380 25 #[.int .i64 t384, .int .i64 t385, .string t386, .slice Ao9 t387.length co9] (0, 0) _ rfl (bp BK380) Try.underlying25 rfl (by kernel_rfl)) rfl ?_
 exact ⟨_, by first | rfl | (simp [errW_none, errW_some] <;> rfl) | (simp [*, errW_none, errW_some] <;> rfl), by (with_reducible repeat (first | apply Kd.V_alloc | apply Kd.V_drewN | apply Kd.V_drew)); exact Kd.V_mono (Kd.V_far (p := ⟨gb380, 3, none⟩) (Kd.V_far (p := ⟨gb380, 2, none⟩) (Kd.V_far (p := ⟨gb380, 1, none⟩) (Kd.V_far (p := ⟨gb380, 0, none⟩) (Kd.V_mono HO389.out (fun k_ hk => (⟨hk, okp hk⟩ : _ ∧ k_ ≠ gb380))) (fun _ hk => hk.2) (.int .i64 t384)) (fun _ hk => hk.2) (.int .i64 t385)) (fun _ hk => hk.2) (.string t386)) (fun _ hk => hk.2) (.slice Ao9 t387.length co9)) (fun _ hk => hk.1.1), by exact bw HB.out⟩

/-! ### impl_in: function 28 -/
def impl_in.f (a0 : Int) (a1 : Int) (a2 : Int) : Option (Bool) := if a1 ≤ a0 then (some (decide (a0 ≤ a2))) else (some false)
set_option maxHeartbeats 8000000 in
set_option maxRecDepth 100000 in
theorem impl_in.calls (a0 : Int) (a1 : Int) (a2 : Int) (r : Bool) (w : World) (h : impl_in.f a0 a1 a2 = some r) :
  Calls Try.prog 28 #[.int .i64 a0, .int .i64 a1, .int .i64 a2] w fun e w' => e = .returned (.bool r) ∧ Drawn0 w w' := by
 have H : (if a1 ≤ a0 then (some (decide (a0 ≤ a2))) else (some false)) = some r := h
 clear h
 by_cases c4 : a1 ≤ a0
 ·
  rw [if_pos c4] at H; have c4b0 : decide (a1 ≤ a0) = true := decide_eq_true c4; clear c4
  obtain rfl := Option.some.inj H
  go_enter Try.func28, Try.ntmps28
  go_wp2
  go_ret
  exact ⟨by first | rfl | (simp; done) | (simp [*]; done), by repeat (first | exact Drawn0.refl _ | apply Drawn0.step)⟩
 ·
  rw [if_neg c4] at H; have c4b0 : decide (a1 ≤ a0) = false := decide_eq_false c4; clear c4
  obtain rfl := Option.some.inj H
  go_enter Try.func28, Try.ntmps28
  go_wp2
  go_ret
  exact ⟨by first | rfl | (simp; done) | (simp [*]; done), by repeat (first | exact Drawn0.refl _ | apply Drawn0.step)⟩

/-! ### impl_NameValid: function 30 -/
def impl_NameValid.l0 : Nat → ByteArray → Int → Int → Option (Bool)
 | 0, _, _, _ => none
 | k + 1, x0, x5, x6 => if x6 < x5 then (if 0 ≤ x6 then (if x6 < (x0.size : Int) then (if (bt x0 x6) < 97 then (some false) else (if (bt x0 x6) > 122 then (some false) else (impl_NameValid.l0 k x0 x5 (wrap64 (x6 + 1))))) else (none)) else (none)) else ((impl_in.f (x0.size : Int) 1 8).bind fun t391 => (some t391))
def impl_NameValid.f (k : Nat) (a0 : ByteArray) : Option (Bool) := impl_NameValid.l0 k a0 (a0.size : Int) 0
theorem impl_NameValid.mono_l : ∀ k, (∀ y0 y1 y2, LeO (impl_NameValid.l0 k y0 y1 y2) (impl_NameValid.l0 (k + 1) y0 y1 y2))
 | 0 => fun _ _ _ r h => by simp [impl_NameValid.l0] at h
 | k + 1 => by
  have ih0 := impl_NameValid.mono_l k
  ·
   intro y0 y1 y2
   unfold impl_NameValid.l0
   repeat' first
   | (with_reducible exact ih0 _ _ _)
   | (with_reducible exact LeO.refl _)
   | (with_reducible exact LeO.none _)
   | (with_reducible refine LeO.ite ?_ ?_)
   | (with_reducible refine LeO.bind ?_ (fun _ => ?_))
   | exact ih0 _ _ _
   | exact LeO.none _
   | refine LeO.ite ?_ ?_
   | refine LeO.bind ?_ (fun _ => ?_)
theorem impl_NameValid.mono : ∀ a0 k, LeO (impl_NameValid.f k a0) (impl_NameValid.f (k + 1) a0) := by
 intro a0 k
 have ih0 := impl_NameValid.mono_l k
 unfold impl_NameValid.f
 repeat' first
   | (with_reducible exact ih0 _ _ _)
   | (with_reducible exact LeO.refl _)
   | (with_reducible exact LeO.none _)
   | (with_reducible refine LeO.ite ?_ ?_)
   | (with_reducible refine LeO.bind ?_ (fun _ => ?_))
   | exact ih0 _ _ _
   | exact LeO.none _
   | refine LeO.ite ?_ ?_
   | refine LeO.bind ?_ (fun _ => ?_)
set_option maxHeartbeats 8000000 in
set_option maxRecDepth 100000 in
theorem impl_NameValid.calls (k : Nat) (a0 : ByteArray) (r : Bool) (w : World) (h : impl_NameValid.f k a0 = some r) :
  Calls Try.prog 30 #[.string a0] w fun e w' => e = .returned (.bool r) ∧ Drawn0 w w' := by
 have H : (impl_NameValid.l0 k a0 (a0.size : Int) 0) = some r := h
 clear h
 have H' := Aside0.mk H
 clear H
 go_enter Try.func30, Try.ntmps30
 go_wp2
 go_loopg [6] k (fun kq v6 w' => ∃ (x6_1 : Int), v6 = .int .i64 x6_1 ∧ Aside0 (impl_NameValid.l0 kq a0 (a0.size : Int) x6_1 = some r) ∧ Aside0 (kq ≤ k) ∧ Drawn0 w w')
 case atStart => exact ⟨(0), (by first | rfl | (simp; done) | (simp [*]; done)), H', ⟨Nat.le_refl _⟩, by repeat (first | exact Drawn0.refl _ | apply Drawn0.step)⟩
 case round =>
  clear H'
  obtain ⟨x6_1, rfl, HA, HK1, ⟨m1, rfl⟩⟩ := hrel
  cases gk with
  | zero => exact absurd HA.out (by simp [impl_NameValid.l0])
  | succ k1 =>
   have H := HA.out
   clear HA
   simp only [impl_NameValid.l0] at H
   by_cases c2 : x6_1 < (a0.size : Int)
   ·
    rw [if_pos c2] at H; have c2b0 : decide (x6_1 < (a0.size : Int)) = true := decide_eq_true c2; clear c2
    by_cases c3 : 0 ≤ x6_1
    ·
     rw [if_pos c3] at H; have c3b0 : decide (0 ≤ x6_1) = true := decide_eq_true c3; clear c3
     by_cases c4 : x6_1 < (a0.size : Int)
     ·
      rw [if_pos c4] at H; have c4b0 : decide (x6_1 < (a0.size : Int)) = true := decide_eq_true c4; clear c4
      by_cases c6 : (bt a0 x6_1) < 97
      ·
       rw [if_pos c6] at H; have c6b0 : decide ((bt a0 x6_1) < 97) = true := decide_eq_true c6; clear c6
       obtain rfl := Option.some.inj H
       have p5 : 0 ≤ (x6_1 : Int) := of_decide_eq_true (by first | (with_reducible assumption) | assumption)
       have q5 : x6_1 < (a0.size : Int) := of_decide_eq_true (by first | (with_reducible assumption) | assumption)
       have hx5 := bt_at a0 x6_1
       replace p5 := eq_true p5
       replace q5 := eq_true q5
       go_wp2
       go_ret
       exact ⟨by first | rfl | (simp; done) | (simp [*]; done), by repeat (first | exact Drawn0.refl _ | apply Drawn0.step)⟩
      ·
       rw [if_neg c6] at H; have c6b0 : decide ((bt a0 x6_1) < 97) = false := decide_eq_false c6; clear c6
       by_cases c8 : (bt a0 x6_1) > 122
       ·
        rw [if_pos c8] at H; have c8b0 : decide (122 < (bt a0 x6_1)) = true := decide_eq_true c8; clear c8
        obtain rfl := Option.some.inj H
        have p5 : 0 ≤ (x6_1 : Int) := of_decide_eq_true (by first | (with_reducible assumption) | assumption)
        have q5 : x6_1 < (a0.size : Int) := of_decide_eq_true (by first | (with_reducible assumption) | assumption)
        have hx5 := bt_at a0 x6_1
        replace p5 := eq_true p5
        replace q5 := eq_true q5
        have p7 : 0 ≤ (x6_1 : Int) := of_decide_eq_true (by first | (with_reducible assumption) | assumption)
        have q7 : x6_1 < (a0.size : Int) := of_decide_eq_true (by first | (with_reducible assumption) | assumption)
        have hx7 := bt_at a0 x6_1
        replace p7 := eq_true p7
        replace q7 := eq_true q7
        go_wp2
        go_ret
        exact ⟨by first | rfl | (simp; done) | (simp [*]; done), by repeat (first | exact Drawn0.refl _ | apply Drawn0.step)⟩
       ·
        rw [if_neg c8] at H; have c8b0 : decide (122 < (bt a0 x6_1)) = false := decide_eq_false c8; clear c8
        have H' := Aside0.mk H
        clear H
        have p5 : 0 ≤ (x6_1 : Int) := of_decide_eq_true (by first | (with_reducible assumption) | assumption)
        have q5 : x6_1 < (a0.size : Int) := of_decide_eq_true (by first | (with_reducible assumption) | assumption)
        have hx5 := bt_at a0 x6_1
        replace p5 := eq_true p5
        replace q5 := eq_true q5
        have p7 : 0 ≤ (x6_1 : Int) := of_decide_eq_true (by first | (with_reducible assumption) | assumption)
        have q7 : x6_1 < (a0.size : Int) := of_decide_eq_true (by first | (with_reducible assumption) | assumption)
        have hx7 := bt_at a0 x6_1
        replace p7 := eq_true p7
        replace q7 := eq_true q7
        go_wp2
        go_roundg k1
        case measure => have := HK1.out; omega
        case rel => exact ⟨(wrap64 (x6_1 + 1)), (by first | rfl | (simp; done) | (simp [*]; done)), H', ⟨by have := HK1.out; omega⟩, by repeat (first | exact Drawn0.refl _ | apply Drawn0.step)⟩
     ·
      rw [if_neg c4] at H; exact absurd H (by simp)
    ·
     rw [if_neg c3] at H; exact absurd H (by simp)
   ·
    rw [if_neg c2] at H; have c2b0 : decide (x6_1 < (a0.size : Int)) = false := decide_eq_false c2; clear c2
    replace H := Option.bind_eq_some_iff.mp H
    obtain ⟨t391, A90, H⟩ := H
    replace H : (some t391) = some r := H
    have A9 := Aside0.mk A90
    clear A90
    obtain rfl := Option.some.inj H
    go_wp2_with (first | ((with_reducible refine gate_callee (f := 28) rfl ?_); refine gl (some 22) Try.func28 #[.int .i64 (a0.size : Int), .int .i64 1, .int .i64 8] ?_; (with_reducible refine (impl_in.calls (a0.size : Int) 1 8 t391 _ A9.out).mono ?_); rintro e w' ⟨rfl, ⟨nd, rfl⟩⟩; refine ⟨_, rfl, ?_⟩))
    go_ret
    exact ⟨by first | rfl | (simp; done) | (simp [*]; done), by repeat (first | exact Drawn0.refl _ | apply Drawn0.step)⟩

/-! ### impl_partsOf: function 53 -/
def impl_partsOf.j0 : Nat → Int → Bool → Option (Int × Bool)
 | 0, _, _ => none
 | k + 1, x4, x7 => if x7 = true then (some (1, true)) else (if x4 = 13 then (some (1, false)) else (if x4 = 10 then (some (2, false)) else (if x4 = 11 then (some (2, false)) else (if x4 = 12 then (some (2, false)) else (if x4 = 14 then (some (2, false)) else (if x4 = 15 then (some (2, false)) else (some (0, false))))))))
def impl_partsOf.f (k : Nat) (a0 : Int) : Option (Int × Bool) := if a0 = 7 then (some (0, true)) else (if a0 = 8 then (impl_partsOf.j0 k a0 (a0 == 8)) else (impl_partsOf.j0 k a0 (a0 == 9)))
theorem impl_partsOf.mono_l : ∀ k, (∀ y0 y1, LeO (impl_partsOf.j0 k y0 y1) (impl_partsOf.j0 (k + 1) y0 y1))
 | 0 => fun _ _ r h => by simp [impl_partsOf.j0] at h
 | k + 1 => by
  have ih0 := impl_partsOf.mono_l k
  ·
   intro y0 y1
   unfold impl_partsOf.j0
   repeat' first
   | (with_reducible exact ih0 _ _)
   | (with_reducible exact LeO.refl _)
   | (with_reducible exact LeO.none _)
   | (with_reducible refine LeO.ite ?_ ?_)
   | (with_reducible refine LeO.bind ?_ (fun _ => ?_))
   | exact ih0 _ _
   | exact LeO.none _
   | refine LeO.ite ?_ ?_
   | refine LeO.bind ?_ (fun _ => ?_)
theorem impl_partsOf.mono : ∀ a0 k, LeO (impl_partsOf.f k a0) (impl_partsOf.f (k + 1) a0) := by
 intro a0 k
 have ih0 := impl_partsOf.mono_l k
 unfold impl_partsOf.f
 repeat' first
   | (with_reducible exact ih0 _ _)
   | (with_reducible exact LeO.refl _)
   | (with_reducible exact LeO.none _)
   | (with_reducible refine LeO.ite ?_ ?_)
   | (with_reducible refine LeO.bind ?_ (fun _ => ?_))
   | exact ih0 _ _
   | exact LeO.none _
   | refine LeO.ite ?_ ?_
   | refine LeO.bind ?_ (fun _ => ?_)
set_option maxHeartbeats 8000000 in
set_option maxRecDepth 100000 in
theorem impl_partsOf.calls (k : Nat) (a0 : Int) (r1 : Int) (r2 : Bool) (w : World) (h : impl_partsOf.f k a0 = some (r1, r2)) :
  Calls Try.prog 53 #[.int .i64 a0] w fun e w' => e = .returned (.tuple #[.int .i64 r1, .bool r2]) ∧ Drawn0 w w' := by
 have H : (if a0 = 7 then (some (0, true)) else (if a0 = 8 then (impl_partsOf.j0 k a0 (a0 == 8)) else (impl_partsOf.j0 k a0 (a0 == 9)))) = some (r1, r2) := h
 clear h
 by_cases c2 : a0 = 7
 ·
  rw [if_pos c2] at H; obtain ⟨c2b0, c2b1⟩ := eqY c2; clear c2
  simp only [Option.some.injEq, Prod.mk.injEq] at H
  obtain ⟨rfl, rfl⟩ := H
  go_enter Try.func53, Try.ntmps53
  go_wp2
  go_ret2
  exact ⟨by first | rfl | (simp; done) | (simp [*]; done), by repeat (first | exact Drawn0.refl _ | apply Drawn0.step)⟩
 ·
  rw [if_neg c2] at H; obtain ⟨c2b0, c2b1⟩ := eqN c2
  have HC3 := Aside0.mk H
  clear H
  go_enter Try.func53, Try.ntmps53
  go_upto_if 7 with (fail)
  go_cut [7] (fun v7 wc => ∃ (kq : Nat) (x7_2 : Bool), v7 = .bool x7_2 ∧ Aside0 (impl_partsOf.j0 kq a0 x7_2 = some (r1, r2)) ∧ Aside0 (kq ≤ k) ∧ Drawn0 w wc)
  case first =>
   have H := HC3.out
   clear HC3
   by_cases c4 : a0 = 8
   ·
    rw [if_pos c4] at H; obtain ⟨c4b0, c4b1⟩ := eqY c4; clear c4
    (first | rw [c4b0] | (simp only [i64_w, i32_w]; rw [c4b0]) | rw [c4b2] | rw [c4b1] | skip)
    have H' := Aside0.mk H
    clear H
    go_wp2
    go_meet
    case rel => exact ⟨_, ((a0 == 8)), (by first | rfl | (simp; done) | (simp [*]; done)), H', ⟨by first | omega | exact Nat.le_refl _⟩, by repeat (first | exact Drawn0.refl _ | apply Drawn0.step)⟩
   ·
    rw [if_neg c4] at H; obtain ⟨c4b0, c4b1⟩ := eqN c4
    (first | rw [c4b0] | (simp only [i64_w, i32_w]; rw [c4b0]) | rw [c4b2] | rw [c4b1] | skip)
    have H' := Aside0.mk H
    clear H
    go_wp2
    go_meet
    case rel => exact ⟨_, ((a0 == 9)), (by first | rfl | (simp; done) | (simp [*]; done)), H', ⟨by first | omega | exact Nat.le_refl _⟩, by repeat (first | exact Drawn0.refl _ | apply Drawn0.step)⟩
  case rest =>
   clear HC3
   try clear c2
   try clear c2b0
   try clear c2b1
   try clear p2
   try clear c4
   try clear c4b0
   try clear c4b1
   try clear c4b2
   obtain ⟨kq, x7_2, rfl, HA, HJ2, ⟨mc2, rfl⟩⟩ := hcut
   cases kq with
   | zero => exact absurd HA.out (by simp [impl_partsOf.j0])
   | succ kj2 =>
    have H := HA.out
    clear HA
    simp only [impl_partsOf.j0] at H
    by_cases c5 : x7_2 = true
    ·
     subst c5
     have H1 : (some (1, true)) = some (r1, r2) := by rw [if_pos rfl] at H; exact H
     clear H
     have H := H1
     clear H1
     simp only [Option.some.injEq, Prod.mk.injEq] at H
     obtain ⟨rfl, rfl⟩ := H
     go_wp2
     go_ret2
     exact ⟨by first | rfl | (simp; done) | (simp [*]; done), by repeat (first | exact Drawn0.refl _ | apply Drawn0.step)⟩
    ·
     replace c5 := Bool.eq_false_iff.mpr c5
     subst c5
     have H1 : (if a0 = 13 then (some (1, false)) else (if a0 = 10 then (some (2, false)) else (if a0 = 11 then (some (2, false)) else (if a0 = 12 then (some (2, false)) else (if a0 = 14 then (some (2, false)) else (if a0 = 15 then (some (2, false)) else (some (0, false)))))))) = some (r1, r2) := by rw [if_neg (show ¬ (false = true) by decide)] at H; exact H
     clear H
     have H := H1
     clear H1
     by_cases c6 : a0 = 13
     ·
      rw [if_pos c6] at H; obtain ⟨c6b0, c6b1⟩ := eqY c6; clear c6
      simp only [Option.some.injEq, Prod.mk.injEq] at H
      obtain ⟨rfl, rfl⟩ := H
      go_wp2
      go_ret2
      exact ⟨by first | rfl | (simp; done) | (simp [*]; done), by repeat (first | exact Drawn0.refl _ | apply Drawn0.step)⟩
     ·
      rw [if_neg c6] at H; obtain ⟨c6b0, c6b1⟩ := eqN c6
      by_cases c7 : a0 = 10
      ·
       rw [if_pos c7] at H; obtain ⟨c7b0, c7b1⟩ := eqY c7; clear c7
       simp only [Option.some.injEq, Prod.mk.injEq] at H
       obtain ⟨rfl, rfl⟩ := H
       go_wp2
       go_ret2
       exact ⟨by first | rfl | (simp; done) | (simp [*]; done), by repeat (first | exact Drawn0.refl _ | apply Drawn0.step)⟩
      ·
       rw [if_neg c7] at H; obtain ⟨c7b0, c7b1⟩ := eqN c7
       by_cases c8 : a0 = 11
       ·
        rw [if_pos c8] at H; obtain ⟨c8b0, c8b1⟩ := eqY c8; clear c8
        simp only [Option.some.injEq, Prod.mk.injEq] at H
        obtain ⟨rfl, rfl⟩ := H
        go_wp2
        go_ret2
        exact ⟨by first | rfl | (simp; done) | (simp [*]; done), by repeat (first | exact Drawn0.refl _ | apply Drawn0.step)⟩
       ·
        rw [if_neg c8] at H; obtain ⟨c8b0, c8b1⟩ := eqN c8
        by_cases c9 : a0 = 12
        ·
         rw [if_pos c9] at H; obtain ⟨c9b0, c9b1⟩ := eqY c9; clear c9
         simp only [Option.some.injEq, Prod.mk.injEq] at H
         obtain ⟨rfl, rfl⟩ := H
         go_wp2
         go_ret2
         exact ⟨by first | rfl | (simp; done) | (simp [*]; done), by repeat (first | exact Drawn0.refl _ | apply Drawn0.step)⟩
        ·
         rw [if_neg c9] at H; obtain ⟨c9b0, c9b1⟩ := eqN c9
         by_cases c10 : a0 = 14
         ·
          rw [if_pos c10] at H; obtain ⟨c10b0, c10b1⟩ := eqY c10; clear c10
          simp only [Option.some.injEq, Prod.mk.injEq] at H
          obtain ⟨rfl, rfl⟩ := H
          go_wp2
          go_ret2
          exact ⟨by first | rfl | (simp; done) | (simp [*]; done), by repeat (first | exact Drawn0.refl _ | apply Drawn0.step)⟩
         ·
          rw [if_neg c10] at H; obtain ⟨c10b0, c10b1⟩ := eqN c10
          by_cases c11 : a0 = 15
          ·
           rw [if_pos c11] at H; obtain ⟨c11b0, c11b1⟩ := eqY c11; clear c11
           simp only [Option.some.injEq, Prod.mk.injEq] at H
           obtain ⟨rfl, rfl⟩ := H
           go_wp2
           go_ret2
           exact ⟨by first | rfl | (simp; done) | (simp [*]; done), by repeat (first | exact Drawn0.refl _ | apply Drawn0.step)⟩
          ·
           rw [if_neg c11] at H; obtain ⟨c11b0, c11b1⟩ := eqN c11
           simp only [Option.some.injEq, Prod.mk.injEq] at H
           obtain ⟨rfl, rfl⟩ := H
           go_wp2
           go_ret2
           exact ⟨by first | rfl | (simp; done) | (simp [*]; done), by repeat (first | exact Drawn0.refl _ | apply Drawn0.step)⟩

/-! ### impl_greatestNumber: function 54 -/
def impl_greatestNumber.f (a0 : Int) : Option (Int) := if a0 = 1 then (some 1) else (if a0 = 2 then (some 99) else (if a0 = 3 then (some 6) else (some 0)))
set_option maxHeartbeats 8000000 in
set_option maxRecDepth 100000 in
theorem impl_greatestNumber.calls (a0 : Int) (r : Int) (w : World) (h : impl_greatestNumber.f a0 = some r) :
  Calls Try.prog 54 #[.int .i64 a0] w fun e w' => e = .returned (.int .i64 r) ∧ Drawn0 w w' := by
 have H : (if a0 = 1 then (some 1) else (if a0 = 2 then (some 99) else (if a0 = 3 then (some 6) else (some 0)))) = some r := h
 clear h
 by_cases c2 : a0 = 1
 ·
  rw [if_pos c2] at H; obtain ⟨c2b0, c2b1⟩ := eqY c2; clear c2
  obtain rfl := Option.some.inj H
  go_enter Try.func54, Try.ntmps54
  go_wp2
  go_ret
  exact ⟨by first | rfl | (simp; done) | (simp [*]; done), by repeat (first | exact Drawn0.refl _ | apply Drawn0.step)⟩
 ·
  rw [if_neg c2] at H; obtain ⟨c2b0, c2b1⟩ := eqN c2
  by_cases c3 : a0 = 2
  ·
   rw [if_pos c3] at H; obtain ⟨c3b0, c3b1⟩ := eqY c3; clear c3
   obtain rfl := Option.some.inj H
   go_enter Try.func54, Try.ntmps54
   go_wp2
   go_ret
   exact ⟨by first | rfl | (simp; done) | (simp [*]; done), by repeat (first | exact Drawn0.refl _ | apply Drawn0.step)⟩
  ·
   rw [if_neg c3] at H; obtain ⟨c3b0, c3b1⟩ := eqN c3
   by_cases c4 : a0 = 3
   ·
    rw [if_pos c4] at H; obtain ⟨c4b0, c4b1⟩ := eqY c4; clear c4
    obtain rfl := Option.some.inj H
    go_enter Try.func54, Try.ntmps54
    go_wp2
    go_ret
    exact ⟨by first | rfl | (simp; done) | (simp [*]; done), by repeat (first | exact Drawn0.refl _ | apply Drawn0.step)⟩
   ·
    rw [if_neg c4] at H; obtain ⟨c4b0, c4b1⟩ := eqN c4
    obtain rfl := Option.some.inj H
    go_enter Try.func54, Try.ntmps54
    go_wp2
    go_ret
    exact ⟨by first | rfl | (simp; done) | (simp [*]; done), by repeat (first | exact Drawn0.refl _ | apply Drawn0.step)⟩

end Go.Proofs.Ytjpeciodihnolaa.P
