-- Written by a program of this session (wip/tool).
import Derived.Test.YtejfaenmgdkaoaaPx0
import Derived.Test.YtejfaenmgdkaoaaPx2
import Derived.Test.YtejfaenmgdkaoaaPx3
import Derived.Test.YtejfaenmgdkaoaaPx28
import Derived.Test.YtejfaenmgdkaoaaPx29
namespace Go.Proofs.Ytejfaenmgdkaoaa.P
open Go.RowKit Go.Proofs.YtejfaenmgdkaoaaW.PrintWords Go.Proofs.YtejfaenmgdkaoaaW.PrintLast Go.Proofs.YtejfaenmgdkaoaaW.PrintMore
attribute [local go_sem] max2_int min2_int max_two min_two max_three min_three max_four min_four   -- for this text's walks alone
set_option linter.unusedVariables false
set_option linter.unusedSimpArgs false

/-! ### spec_l20Things: function 50 -/
mutual
def spec_l20Things.l0 : Nat → Int → List (S43) → Int → Int → List Int → Int → Option ((List (S43)) × Int)
 | 0, _, _, _, _, _, _ => none
 | k + 1, x1, x5, x6, x7, x1000, x1001 => if x7 < x6 then ((spec_l20Fields.f k x1000 x1001 x6).bind fun bt300 => (spec_l20Things.l1 k x1 x5 x6 x7 0 x1000 bt300.2 (([] : List Int)) bt300.1)) else ((spec_l20Rd_odd.f k x1000 x1001 x1).bind fun bt313 => (if bt313.1 = true then ((spec_l20Rd_pick.f k x1000 bt313.2 4).bind fun bt315 => (if bt315.1 = 0 then (if x5.length < 2932031007402 then (some ((x5 ++ [(⟨(([(x5.length : Int)] : List Int)), ([] : List (S47))⟩ : S43)]), bt315.2)) else (none)) else (if bt315.1 = 1 then (if x5.length < 2932031007402 then (some ((x5 ++ [(⟨([] : List Int), (([(⟨(⟨#[65]⟩ : ByteArray), (⟨0, 0⟩ : S45)⟩ : S47)] : List (S47)))⟩ : S43)]), bt315.2)) else (none)) else (if bt315.1 = 2 then ((spec_TruthOf.f true).bind fun bt329 => ((spec_TruthOf.f true).bind fun bt331 => (if x5.length < 2932031007402 then (some ((x5 ++ [(⟨([] : List Int), (([(⟨(⟨#[97]⟩ : ByteArray), (⟨bt329.1, bt329.2⟩ : S45)⟩ : S47), (⟨(⟨#[97]⟩ : ByteArray), (⟨bt331.1, bt331.2⟩ : S45)⟩ : S47)] : List (S47)))⟩ : S43)]), bt315.2)) else (none)))) else (if 8 ≤ 5864062014805 then (some ((List.replicate 8 z43), bt315.2)) else (none)))))) else (some (x5, bt313.2))))
def spec_l20Things.l1 : Nat → Int → List (S43) → Int → Int → Int → List Int → Int → List Int → List (S47) → Option ((List (S43)) × Int)
 | 0, _, _, _, _, _, _, _, _, _ => none
 | k + 1, x1, x5, x6, x7, x9, x1000, x1001, x305000, x305001 => if x9 < x7 then ((spec_l20Rd_pick.f k x1000 x1001 4).bind fun bt305 => (if bt305.1 = 0 then (if x305000.length < 17592186044416 then (spec_l20Things.l1 k x1 x5 x6 x7 (wrap64 (x9 + 1)) x1000 bt305.2 (x305000 ++ [x9]) x305001) else (none)) else (spec_l20Things.l1 k x1 x5 x6 x7 (wrap64 (x9 + 1)) x1000 bt305.2 x305000 x305001))) else (if x5.length < 2932031007402 then (spec_l20Things.l0 k x1 (x5 ++ [(⟨x305000, x305001⟩ : S43)]) x6 (wrap64 (x7 + 1)) x1000 x1001) else (none))
end
def spec_l20Things.f (k : Nat) (s0_0 : List Int) (s0_1 : Int) (a1 : Int) : Option ((List (S43)) × Int) := (spec_l20Rd_pick.f k s0_0 s0_1 6).bind fun bt295 => (spec_l20Things.l0 k a1 (([] : List (S43))) bt295.1 0 s0_0 bt295.2)
theorem spec_l20Things.mono_l : ∀ k, (∀ y0 y1 y2 y3 y4 y5, LeO (spec_l20Things.l0 k y0 y1 y2 y3 y4 y5) (spec_l20Things.l0 (k + 1) y0 y1 y2 y3 y4 y5)) ∧ (∀ y0 y1 y2 y3 y4 y5 y6 y7 y8, LeO (spec_l20Things.l1 k y0 y1 y2 y3 y4 y5 y6 y7 y8) (spec_l20Things.l1 (k + 1) y0 y1 y2 y3 y4 y5 y6 y7 y8))
 | 0 => ⟨fun _ _ _ _ _ _ r h => by simp [spec_l20Things.l0] at h, fun _ _ _ _ _ _ _ _ _ r h => by simp [spec_l20Things.l1] at h⟩
 | k + 1 => by
  obtain ⟨ih0, ih1⟩ := spec_l20Things.mono_l k
  refine ⟨?_, ?_⟩
  ·
   intro y0 y1 y2 y3 y4 y5
   unfold spec_l20Things.l0
   repeat' first
   | (with_reducible exact ih0 _ _ _ _ _ _)
   | (with_reducible exact ih1 _ _ _ _ _ _ _ _ _)
   | (with_reducible exact spec_l20Fields.mono _ _ _ _)
   | (with_reducible exact spec_l20Rd_odd.mono _ _ _ _)
   | (with_reducible exact spec_l20Rd_pick.mono _ _ _ _)
   | (with_reducible exact LeO.refl _)
   | (with_reducible exact LeO.none _)
   | (with_reducible refine LeO.ite ?_ ?_)
   | (with_reducible refine LeO.bind ?_ (fun _ => ?_))
   | exact ih0 _ _ _ _ _ _
   | exact ih1 _ _ _ _ _ _ _ _ _
   | exact spec_l20Fields.mono _ _ _ _
   | exact spec_l20Rd_odd.mono _ _ _ _
   | exact spec_l20Rd_pick.mono _ _ _ _
   | exact LeO.none _
   | refine LeO.ite ?_ ?_
   | refine LeO.bind ?_ (fun _ => ?_)
  ·
   intro y0 y1 y2 y3 y4 y5 y6 y7 y8
   unfold spec_l20Things.l1
   repeat' first
   | (with_reducible exact ih0 _ _ _ _ _ _)
   | (with_reducible exact ih1 _ _ _ _ _ _ _ _ _)
   | (with_reducible exact spec_l20Fields.mono _ _ _ _)
   | (with_reducible exact spec_l20Rd_odd.mono _ _ _ _)
   | (with_reducible exact spec_l20Rd_pick.mono _ _ _ _)
   | (with_reducible exact LeO.refl _)
   | (with_reducible exact LeO.none _)
   | (with_reducible refine LeO.ite ?_ ?_)
   | (with_reducible refine LeO.bind ?_ (fun _ => ?_))
   | exact ih0 _ _ _ _ _ _
   | exact ih1 _ _ _ _ _ _ _ _ _
   | exact spec_l20Fields.mono _ _ _ _
   | exact spec_l20Rd_odd.mono _ _ _ _
   | exact spec_l20Rd_pick.mono _ _ _ _
   | exact LeO.none _
   | refine LeO.ite ?_ ?_
   | refine LeO.bind ?_ (fun _ => ?_)
theorem spec_l20Things.mono : ∀ a0 a1 a2 k, LeO (spec_l20Things.f k a0 a1 a2) (spec_l20Things.f (k + 1) a0 a1 a2) := by
 intro a0 a1 a2 k
 obtain ⟨ih0, ih1⟩ := spec_l20Things.mono_l k
 unfold spec_l20Things.f
 repeat' first
   | (with_reducible exact ih0 _ _ _ _ _ _)
   | (with_reducible exact ih1 _ _ _ _ _ _ _ _ _)
   | (with_reducible exact spec_l20Fields.mono _ _ _ _)
   | (with_reducible exact spec_l20Rd_odd.mono _ _ _ _)
   | (with_reducible exact spec_l20Rd_pick.mono _ _ _ _)
   | (with_reducible exact LeO.refl _)
   | (with_reducible exact LeO.none _)
   | (with_reducible refine LeO.ite ?_ ?_)
   | (with_reducible refine LeO.bind ?_ (fun _ => ?_))
   | exact ih0 _ _ _ _ _ _
   | exact ih1 _ _ _ _ _ _ _ _ _
   | exact spec_l20Fields.mono _ _ _ _
   | exact spec_l20Rd_odd.mono _ _ _ _
   | exact spec_l20Rd_pick.mono _ _ _ _
   | exact LeO.none _
   | refine LeO.ite ?_ ?_
   | refine LeO.bind ?_ (fun _ => ?_)
set_option maxHeartbeats 8000000 in
set_option maxRecDepth 100000 in
theorem spec_l20Things.calls (k : Nat) (g : Nat) (s0_0 : List Int) (s0_1 : Int) (a1 : Int) (r1 : List (S43)) (r2 : Int) (w0 w : World) (hI : IsS105 w0 w g s0_0 s0_1) (hB : Below w0.heap.size w0 w) (h : spec_l20Things.f k s0_0 s0_1 a1 = some (r1, r2)) :
  Calls Try.prog 50 #[.pointer (some ⟨g, 0, none⟩), .int .i64 a1] w fun e w' => ∃ v0_ : Value, e = .returned (v0_) ∧ Kd.S k43 43 w' w.heap.size (fun _ => True) v0_ r1 ∧ IsS105 w0 w' g s0_0 r2 ∧ Below w0.heap.size w0 w' ∧ KeepBut w w' g none := by
 have hu43 := Try.underlying43
 have hu47 := Try.underlying47
 have HI0 := Aside0.mk hI
 have HK := Aside0.mk (KeepBut.refl w g none)
 have HL := Aside0.mk hB.size
 have HG0 := Aside0.mk (IsS105.ge hI)
 clear hI
 have HW0 := Aside0.mk hB.size
 have HB := Aside0.mk hB
 clear hB
 have H : ((spec_l20Rd_pick.f k s0_0 s0_1 6).bind fun bt295 => (spec_l20Things.l0 k a1 (([] : List (S43))) bt295.1 0 s0_0 bt295.2)) = some (r1, r2) := h
 clear h
 obtain ⟨y292, hy292⟩ : ∃ y_ : List (S43), y_ = (([] : List (S43))) := ⟨_, rfl⟩
 replace H : ((spec_l20Rd_pick.f k s0_0 s0_1 6).bind fun bt295 => (spec_l20Things.l0 k a1 y292 bt295.1 0 s0_0 bt295.2)) = some (r1, r2) := by first | (rw [hy292]; with_reducible exact H) | (have H2_ := (Option.bind_some _ _).symm.trans H; rw [hy292]; with_reducible exact H2_) | (have H2_ := (Option.bind_some _ _).symm.trans H; with_reducible exact H2_) | with_reducible exact H | (rw [hy292]; exact H) | exact H
 have Ny292 := Aside0.mk hy292
 clear hy292
 replace H := Option.bind_eq_some_iff.mp H
 obtain ⟨⟨t295, t296⟩, A30, H⟩ := H
 replace H : (spec_l20Things.l0 k a1 y292 t295 0 s0_0 t296) = some (r1, r2) := H
 have A3 := Aside0.mk A30
 clear A30
 have H' := Aside0.mk H
 clear H
 go_enter Try.func50, Try.ntmps50
 go_wp2_with (first | ((with_reducible refine gate_dst (N := 10) rfl ?_); refine Kd.S_lit k43 _ 43 ?hg (N := 10) ?hd (xs := ([] : List (S43))) (inner := []) (ok := fun _ => True) (okp := fun _ => True) ?hr ?hp (fun _ hk => hk) trivial (Below.refl _ _) (Nat.le_refl _) (by simp) ?_; (case hd => rfl); (case hg => rfl); (case hr => first | (go_simp; done) | (go_simp; rfl)); (case hp => exact (Reps.none _ _)); intro v293 w4 ho5 hb hg_ hnew_; clear hg_ hnew_; (first | rw [← Ny292.out] at ho5 | (simp only [Int.reduceToNat] at ho5; rw [← Ny292.out] at ho5)); have n0_ := Aside0.mk (Kd.S_lower ho5 (keep_size (w := w) (g := g) (row := none) (by exact kw HK.out))); have n1_ := Aside0.mk (IsS105.below (by exact sw105 HI0.out) hb); have n2_ := Aside0.mk (KeepBut.trans (by exact kw HK.out) (KeepBut.of_below hb g none) (.inl rfl)); have n3_ := Aside0.mk (below_step (by exact bw HB.out) hb); clear HI0; clear HK; clear HB; have HO294 := n0_; have HI0 := n1_; have HK := n2_; have HB := n3_; clear n0_ n1_ n2_ n3_; clear hb ho5) | ((with_reducible refine gate_callee (f := 62) rfl ?_); refine gl (some 12) Try.func62 #[.pointer (some ⟨g, 0, none⟩), .int .i64 6] ?_; (with_reducible refine (spec_l20Rd_pick.calls k g s0_0 s0_1 6 t295 t296 w0 _ ?side1 ?side2 A3.out).mono ?_); (case side1 => exact sw105 HI0.out); (case side2 => exact bw HB.out); rintro e w6 ⟨rfl, hi, hb, hk⟩; refine ⟨_, rfl, ?_⟩; have n0_ := Aside0.mk (Kd.S_mono (Kd.S_keep (IsS105.apartS (show IsS105 w0 _ g s0_0 s0_1 from by exact sw105 HI0.out) (by exact Kd.xS HO294.out) (by decide)) hk (fun _ h => h.2)) (fun _ h => h.1)); have n1_ := Aside0.mk (KeepBut.trans (by exact kw HK.out) hk (.inl rfl)); have n2_ := Aside0.mk (hb); have n3_ := Aside0.mk (hi); clear HO294; clear HK; clear HB; clear HI0; have HO294 := n0_; have HK := n1_; have HB := n2_; have HI0 := n3_; clear n0_ n1_ n2_ n3_; (try clear hb); (try clear hb2); (try clear hk); (try clear hi)))
 go_loopg [5, 7] k (fun kq v5 v7 w' => ∃ (x5_1 : List (S43)) (x7_1 : Int) (x1001_1 : Int), v7 = .int .i64 x7_1 ∧ Aside0 (spec_l20Things.l0 kq a1 x5_1 t295 x7_1 s0_0 x1001_1 = some (r1, r2)) ∧ Aside0 (kq ≤ k) ∧ Aside0 (Kd.S k43 43 w' w.heap.size (fun _ => True) v5 x5_1) ∧ Aside0 (IsS105 w0 w' g s0_0 x1001_1) ∧ Aside0 (KeepBut w w' g none) ∧ Aside0 (Below w0.heap.size w0 w'))
 case atStart => exact ⟨(y292), (0), (t296), (by first | rfl | (simp; done) | (simp [*]; done)), H', ⟨Nat.le_refl _⟩, ⟨by exact Kd.xS HO294.out⟩, ⟨by exact sw105 HI0.out⟩, ⟨by exact kw HK.out⟩, ⟨by exact bw HB.out⟩⟩
 case round =>
  clear H'
  try clear p2
  try clear c5
  try clear c6
  obtain ⟨x5_1, x7_1, x1001_1, rfl, HA, HK1, HO_5, HI0, HK, HB⟩ := hrel
  cases gk with
  | zero => exact absurd HA.out (by simp [spec_l20Things.l0])
  | succ k1 =>
   have H := HA.out
   clear HA
   simp only [spec_l20Things.l0] at H
   by_cases c7 : x7_1 < t295
   ·
    rw [if_pos c7] at H
    have c7b0 : decide (x7_1 < t295) = true := decide_eq_true c7
    clear c7
    obtain ⟨y297, hy297⟩ : ∃ y_ : List Int, y_ = (([] : List Int)) := ⟨_, rfl⟩
    replace H : ((spec_l20Fields.f k1 s0_0 x1001_1 t295).bind fun bt300 => (spec_l20Things.l1 k1 a1 x5_1 t295 x7_1 0 s0_0 bt300.2 y297 bt300.1)) = some (r1, r2) := by first | (rw [hy297]; with_reducible exact H) | (have H2_ := (Option.bind_some _ _).symm.trans H; rw [hy297]; with_reducible exact H2_) | (have H2_ := (Option.bind_some _ _).symm.trans H; with_reducible exact H2_) | with_reducible exact H | (rw [hy297]; exact H) | exact H
    have Ny297 := Aside0.mk hy297
    clear hy297
    replace H := Option.bind_eq_some_iff.mp H
    obtain ⟨⟨t300, t303⟩, A80, H⟩ := H
    replace H : (spec_l20Things.l1 k1 a1 x5_1 t295 x7_1 0 s0_0 t303 y297 t300) = some (r1, r2) := H
    have A8 := Aside0.mk A80
    clear A80
    have H' := Aside0.mk H
    clear H
    go_wp2_with (first | ((with_reducible refine gate_dst (N := 18) rfl ?_); refine Kd.R_lit (Kd.int .i64) _ 3 ?hg (N := 18) ?hd (xs := ([] : List Int)) (inner := []) (ok := fun _ => True) (okp := fun _ => True) ?hr ?hp (fun _ hk => hk) trivial (Below.refl _ _) (Nat.le_refl _) (by simp) ?_; (case hd => rfl); (case hg => rfl); (case hr => first | (go_simp; done) | (go_simp; rfl)); (case hp => exact (Reps.none _ _)); intro v298 w9 ho10 hb hg_ hnew_; clear hg_ hnew_; (first | rw [← Ny297.out] at ho10 | (simp only [Int.reduceToNat] at ho10; rw [← Ny297.out] at ho10)); have n0_ := Aside0.mk (Kd.S_elder' (by exact Kd.xS HO_5.out) (Kd.R_base ho10) hb); have n1_ := Aside0.mk (Kd.R_lower ho10 (keep_size (w := w) (g := g) (row := none) (by exact kw HK.out))); have n2_ := Aside0.mk (IsS105.below (by exact sw105 HI0.out) hb); have n3_ := Aside0.mk (KeepBut.trans (by exact kw HK.out) (KeepBut.of_below hb g none) (.inl rfl)); have n4_ := Aside0.mk (below_step (by exact bw HB.out) hb); clear HO_5; clear HI0; clear HK; clear HB; have HO_5 := n0_; have HO299 := n1_; have HI0 := n2_; have HK := n3_; have HB := n4_; clear n0_ n1_ n2_ n3_ n4_; clear hb ho10) | ((with_reducible refine gate_callee (f := 76) rfl ?_); refine gl (some 21) Try.func76 #[.pointer (some ⟨g, 0, none⟩), .int .i64 t295] ?_; (with_reducible refine (spec_l20Fields.calls k1 g s0_0 x1001_1 t295 t300 t303 w0 _ ?side1 ?side2 A8.out).mono ?_); (case side1 => exact sw105 HI0.out); (case side2 => exact bw HB.out); rintro e w11 ⟨v301, rfl, ho0, hi, hb, hk⟩; refine ⟨_, rfl, ?_⟩; have n0_ := Aside0.mk (Kd.S_mono (Kd.S_told (Kd.S_oldK (IsS105.apartS (show IsS105 w0 _ g s0_0 x1001_1 from by exact sw105 HI0.out) (by exact Kd.xS HO_5.out) (by decide)) hk) (Kd.R_base ho0)) (fun _ h_ => h_.1)); have n1_ := Aside0.mk (Kd.R_mono (Kd.R_keep (IsS105.apart (show IsS105 w0 _ g s0_0 x1001_1 from by exact sw105 HI0.out) (by exact Kd.xR HO299.out) (by decide)) hk (fun _ h => h.2)) (fun _ h => h.1)); have n2_ := Aside0.mk (Kd.R_lower ho0 (keep_size (w := w) (g := g) (row := none) (by exact kw HK.out))); have n3_ := Aside0.mk (KeepBut.trans (by exact kw HK.out) hk (.inl rfl)); have n4_ := Aside0.mk (hb); have n5_ := Aside0.mk (hi); clear HO_5; clear HO299; clear HK; clear HB; clear HI0; have HO_5 := n0_; have HO299 := n1_; have HO302 := n2_; have HK := n3_; have HB := n4_; have HI0 := n5_; clear n0_ n1_ n2_ n3_ n4_ n5_; (try clear hb); (try clear hb2); (try clear hk); (try clear hi); (try clear ho0); obtain ⟨Ao12, co12, eo12⟩ := Kd.R_slice HO302.out; subst eo12; obtain ⟨Ao13, co13, eo13⟩ := Kd.R_slice HO299.out; subst eo13) | ((with_reducible refine gate_dst (N := 8) rfl ?_); refine box_event ?hg (N := 8) ?hd (cs := #[.slice none 0 0, .slice none 0 0]) (t := 43) ?hr ?_; (case hd => rfl); (case hg => rfl); (case hr => first | (go_simp; done) | (go_simp; rfl)); intro gb304 hg w14 hbox hb; have n0_ := Aside0.mk (Kd.S_below (Kd.S_elderB (by exact Kd.xS HO_5.out) gb304 (Nat.le_of_eq hg.symm)) hb); have n1_ := Aside0.mk (Kd.R_below (by exact Kd.xR HO299.out) hb); have n2_ := Aside0.mk (Kd.R_below (by exact Kd.xR HO302.out) hb); have n3_ := Aside0.mk (IsS105.below (by exact sw105 HI0.out) hb); have n4_ := Aside0.mk (KeepBut.trans (by exact kw HK.out) (KeepBut.of_below hb g none) (.inl rfl)); have n5_ := Aside0.mk (below_step (by exact bw HB.out) hb); have n6_ := Aside0.mk (hbox); have n7_ := Aside0.mk ((by rw [hg]; exact (keep_size (w := w) (g := g) (row := none) (by exact kw HK.out)) : w.heap.size ≤ gb304)); have n8_ := Aside0.mk ((Nat.le_trans HW0.out (by rw [hg]; exact (keep_size (w := w) (g := g) (row := none) (by exact kw HK.out)) : w.heap.size ≤ gb304) : w0.heap.size ≤ gb304)); have n9_ := Aside0.mk ((by rw [hg]; exact Nat.ne_of_lt (IsS105.lt (show IsS105 w0 _ g s0_0 t303 from by exact sw105 HI0.out)) : g ≠ gb304)); have n10_ := Aside0.mk ((by rw [hg]; exact Nat.ne_of_gt (IsS105.lt (show IsS105 w0 _ g s0_0 t303 from by exact sw105 HI0.out)) : gb304 ≠ g)); clear HO_5; clear HO299; clear HO302; clear HI0; clear HK; clear HB; have HO_5 := n0_; have HO299 := n1_; have HO302 := n2_; have HI0 := n3_; have HK := n4_; have HB := n5_; have BK304 := n6_; have GW304 := n7_; have GE304 := n8_; have NB0_304 := n9_; have NB304_0 := n10_; clear n0_ n1_ n2_ n3_ n4_ n5_ n6_ n7_ n8_ n9_ n10_; clear hb hbox hg; have hnb15 := NB304_0.out; have hnc15 := NB0_304.out; have hcz16_0 : w14.cell? ⟨gb304, 0, none⟩ = some (.slice none 0 0) := (blk_cell BK304.out 0).trans rfl; have hcz16_1 : w14.cell? ⟨gb304, 1, none⟩ = some (.slice none 0 0) := (blk_cell BK304.out 1).trans rfl; have hfz16_0 := blk_frozen BK304.out 0; have hfz16_1 := blk_frozen BK304.out 1))
    go_loopg [9] k1 (fun kq v9 w' => ∃ (x9_2 : Int) (x1001_2 : Int) (x305000_2 : List Int) (u305000 : Value), v9 = .int .i64 x9_2 ∧ Aside0 (spec_l20Things.l1 kq a1 x5_1 t295 x7_1 x9_2 s0_0 x1001_2 x305000_2 t300 = some (r1, r2)) ∧ Aside0 (kq ≤ k1) ∧ Aside0 (Kd.S k43 43 w' w.heap.size (fun k_ => some k_ ≠ (u305000 : Value).ownBlock ∧ some k_ ≠ ((.slice Ao12 t300.length co12) : Value).ownBlock ∧ k_ ≠ gb304) u5 x5_1) ∧ Aside0 (Kd.R (Kd.int .i64) 3 w' w.heap.size (fun _ => True) u305000 x305000_2) ∧ Aside0 (Kd.R k47 47 w' w.heap.size (fun _ => True) (.slice Ao12 t300.length co12) t300) ∧ Aside0 (w'.heap[gb304]? = some (.cells #[u305000, (.slice Ao12 t300.length co12)] 43 (0, 0))) ∧ Aside0 (IsS105 w0 w' g s0_0 x1001_2) ∧ Aside0 (KeepBut w w' g none) ∧ Aside0 (Below w0.heap.size w0 w'))
    case atStart => exact ⟨(0), (t303), (y297), (.slice Ao13 y297.length co13), (by first | rfl | (simp; done) | (simp [*]; done)), H', ⟨Nat.le_refl _⟩, ⟨by (with_reducible repeat (first | apply Kd.S_alloc | apply Kd.S_drewN | apply Kd.S_drew)); exact Kd.S_mono (Kd.S_far (p := ⟨gb304, 1, none⟩) (Kd.S_far (p := ⟨gb304, 0, none⟩) (Kd.S_mono HO_5.out (fun k_ hk => (⟨hk, okp hk⟩ : _ ∧ k_ ≠ gb304))) (fun _ hk => hk.2) (.slice Ao13 y297.length co13)) (fun _ hk => hk.2) (.slice Ao12 t300.length co12)) (fun _ hk => okp hk)⟩, ⟨by (with_reducible repeat (first | apply Kd.R_alloc | apply Kd.R_drewN | apply Kd.R_drew)); exact Kd.R_mono (Kd.R_far (p := ⟨gb304, 1, none⟩) (Kd.R_far (p := ⟨gb304, 0, none⟩) (Kd.R_types HO299.out BK304.out (by decide)) (fun _ hk => hk.2) (.slice Ao13 y297.length co13)) (fun _ hk => hk.2) (.slice Ao12 t300.length co12)) (fun _ hk => trivial)⟩, ⟨by (with_reducible repeat (first | apply Kd.R_alloc | apply Kd.R_drewN | apply Kd.R_drew)); exact Kd.R_mono (Kd.R_far (p := ⟨gb304, 1, none⟩) (Kd.R_far (p := ⟨gb304, 0, none⟩) (Kd.R_types HO302.out BK304.out (by decide)) (fun _ hk => hk.2) (.slice Ao13 y297.length co13)) (fun _ hk => hk.2) (.slice Ao12 t300.length co12)) (fun _ hk => trivial)⟩, ⟨by (with_reducible repeat (first | refine blk_drewN ?_ _ | refine blk_drew ?_ | refine blk_alloc ?_ _)); refine blk_put (cs := #[.slice Ao13 y297.length co13, .slice none 0 0]) ?_ 1 _ rfl; (with_reducible repeat (first | refine blk_drewN ?_ _ | refine blk_drew ?_ | refine blk_alloc ?_ _)); refine blk_put (cs := #[.slice none 0 0, .slice none 0 0]) ?_ 0 _ rfl; exact bk BK304.out⟩, ⟨by exact sw105 HI0.out⟩, ⟨by exact kw HK.out⟩, ⟨by exact bw HB.out⟩⟩
    case round =>
     clear H'
     try clear c1
     try clear p2
     try clear c5
     try clear c6
     try clear c7
     try clear c7b0
     try clear c15
     try clear hcz16_0
     try clear hcz16_1
     try clear hfz16_0
     try clear hfz16_1
     try clear p2
     obtain ⟨x9_2, x1001_2, x305000_2, u305000, rfl, HA, HK2, HO_5, HO_305000, HO_305001, BK304, HI0, HK, HB⟩ := hrel
     cases gk with
     | zero => exact absurd HA.out (by simp [spec_l20Things.l1])
     | succ k2 =>
      have H := HA.out
      clear HA
      simp only [spec_l20Things.l1] at H
      by_cases c17 : x9_2 < x7_1
      ·
       rw [if_pos c17] at H
       have c17b0 : decide (x9_2 < x7_1) = true := decide_eq_true c17
       clear c17
       replace H := Option.bind_eq_some_iff.mp H
       obtain ⟨⟨t305, t306⟩, A180, H⟩ := H
       replace H : (if t305 = 0 then (if x305000_2.length < 17592186044416 then (spec_l20Things.l1 k2 a1 x5_1 t295 x7_1 (wrap64 (x9_2 + 1)) s0_0 t306 (x305000_2 ++ [x9_2]) t300) else (none)) else (spec_l20Things.l1 k2 a1 x5_1 t295 x7_1 (wrap64 (x9_2 + 1)) s0_0 t306 x305000_2 t300)) = some (r1, r2) := H
       have A18 := Aside0.mk A180
       clear A180
       by_cases c19 : t305 = 0
       ·
        rw [if_pos c19] at H
        have c19b0 : (t305 == 0) = true := beq_iff_eq.mpr c19
        have c19b1 : (t305 != 0) = false := bne_eq_false_iff_eq.mpr c19
        clear c19
        by_cases c20 : x305000_2.length < 17592186044416
        ·
         rw [if_pos c20] at H
         have LMc20 := Aside0.mk c20
         clear c20
         obtain ⟨y307, hy307⟩ : ∃ y_ : List Int, y_ = (x305000_2 ++ [x9_2]) := ⟨_, rfl⟩
         replace H : (spec_l20Things.l1 k2 a1 x5_1 t295 x7_1 (wrap64 (x9_2 + 1)) s0_0 t306 y307 t300) = some (r1, r2) := by first | (rw [hy307]; with_reducible exact H) | (have H2_ := (Option.bind_some _ _).symm.trans H; rw [hy307]; with_reducible exact H2_) | (have H2_ := (Option.bind_some _ _).symm.trans H; with_reducible exact H2_) | with_reducible exact H | (rw [hy307]; exact H) | exact H
         have Ny307 := Aside0.mk hy307
         clear hy307
         have H' := Aside0.mk H
         clear H
         go_wp2_with (first | ((with_reducible refine gate_callee (f := 62) rfl ?_); refine gl (some 29) Try.func62 #[.pointer (some ⟨g, 0, none⟩), .int .i64 4] ?_; (with_reducible refine (spec_l20Rd_pick.calls k2 g s0_0 x1001_2 4 t305 t306 w0 _ ?side1 ?side2 A18.out).mono ?_); (case side1 => exact sw105 HI0.out); (case side2 => exact bw HB.out); rintro e w21 ⟨rfl, hi, hb, hk⟩; refine ⟨_, rfl, ?_⟩; have n0_ := Aside0.mk (Kd.S_mono (Kd.S_keep (IsS105.apartS (show IsS105 w0 _ g s0_0 x1001_2 from by exact sw105 HI0.out) (by exact Kd.xS HO_5.out) (by decide)) hk (fun _ h => h.2)) (fun _ h => h.1)); have n1_ := Aside0.mk (Kd.R_mono (Kd.R_keep (IsS105.apart (show IsS105 w0 _ g s0_0 x1001_2 from by exact sw105 HI0.out) (by exact Kd.xR HO_305000.out) (by decide)) hk (fun _ h => h.2)) (fun _ h => h.1)); have n2_ := Aside0.mk (Kd.R_mono (Kd.R_keep (IsS105.apart (show IsS105 w0 _ g s0_0 x1001_2 from by exact sw105 HI0.out) (by exact Kd.xR HO_305001.out) (by decide)) hk (fun _ h => h.2)) (fun _ h => h.1)); have n3_ := Aside0.mk (KeepBut.blk hk (g' := gb304) (o := .cells #[u305000, .slice Ao12 t300.length co12] 43 (0, 0)) (by exact bk BK304.out) NB304_0.out (by simp)); have n4_ := Aside0.mk (KeepBut.trans (by exact kw HK.out) hk (.inl rfl)); have n5_ := Aside0.mk (hb); have n6_ := Aside0.mk (hi); clear HO_5; clear HO_305000; clear HO_305001; clear BK304; clear HK; clear HB; clear HI0; have HO_5 := n0_; have HO_305000 := n1_; have HO_305001 := n2_; have BK304 := n3_; have HK := n4_; have HB := n5_; have HI0 := n6_; clear n0_ n1_ n2_ n3_ n4_ n5_ n6_; (try clear hb); (try clear hb2); (try clear hk); (try clear hi); have hnb22 := NB304_0.out; have hnc22 := NB0_304.out; have hcz23_0 : w21.cell? ⟨gb304, 0, none⟩ = some (u305000) := (blk_cell BK304.out 0).trans rfl; have hcz23_1 : w21.cell? ⟨gb304, 1, none⟩ = some (.slice Ao12 t300.length co12) := (blk_cell BK304.out 1).trans rfl; have hfz23_0 := blk_frozen BK304.out 0; have hfz23_1 := blk_frozen BK304.out 1) | ((with_reducible refine gate_builtin (b := .append) (xs := #[.tmp 32, .tmp 34]) rfl ?_); at_builtin; refine Kd.R_append (Kd.int .i64) w.heap.size rfl (.tmp 32) (.tmp 34) 40 3 (.int .i64 0) 8 rfl Try.underlying40 info3 rfl (by decide) (by omega) u305000 x305000_2 x9_2 [.int .i64 x9_2] (fun _ => True) (fun _ => False) rfl rfl ?aP (fun _ hk => hk.elim) ?aF ?aO (Below.refl _ _) ?aS ?aL ?_; (case aP => exact rfl); (case aF => exact (fun _ _ => trivial)); (case aO => exact (by exact Kd.xR HO_305000.out)); (case aS => exact (keep_size (w := w) (g := g) (row := none) (by exact kw HK.out))); (case aL => have := LMc20.out; omega); intro v308 w24 ho hb hg hat; rw [← Ny307.out] at ho; have n0_ := Aside0.mk (Kd.S_after (ok := (fun k_ => some k_ ≠ (.slice Ao12 t300.length co12 : Value).ownBlock ∧ k_ ≠ gb304)) (by (with_reducible repeat (first | apply Kd.S_alloc | apply Kd.S_drewN | apply Kd.S_drew)); exact Kd.S_mono HO_5.out (fun _ hk => okp hk)) hg hat); have n1_ := Aside0.mk (Kd.R_over' (by exact Kd.xR HO_305001.out) (Kd.R_typed (by exact Kd.xR HO_305000.out)) (by decide) hg); have n2_ := Aside0.mk (blk_grown (g := gb304) (o := .cells #[u305000, .slice Ao12 t300.length co12] 43 (0, 0)) (by exact bk BK304.out) hg (Kd.R_ne HO_305000.out BK304.out (by decide))); have n3_ := Aside0.mk (IsS105.grown (by exact sw105 HI0.out) hg (IsS105.own_ne HI0.out HO_305000.out (by decide))); have n4_ := Aside0.mk (below_weaken (by exact bw HB.out) HL.out hb); have n5_ := Aside0.mk (KeepBut.trans (by exact kw HK.out) (KeepBut.of_grown hg g) (Kd.R_base2 HO_305000.out)); have n6_ := Aside0.mk (ho); clear HO_5; clear HO_305001; clear BK304; clear HI0; clear HB; clear HK; clear HO_305000; have HO_5 := n0_; have HO_305001 := n1_; have BK304 := n2_; have HI0 := n3_; have HB := n4_; have HK := n5_; have HO309 := n6_; clear n0_ n1_ n2_ n3_ n4_ n5_ n6_; clear ho hb hg hat; obtain ⟨Ao25, co25, eo25⟩ := Kd.R_slice HO309.out; subst eo25; have hcz26_0 : w24.cell? ⟨gb304, 0, none⟩ = some (u305000) := (blk_cell BK304.out 0).trans rfl; have hcz26_1 : w24.cell? ⟨gb304, 1, none⟩ = some (.slice Ao12 t300.length co12) := (blk_cell BK304.out 1).trans rfl; have hfz26_0 := blk_frozen BK304.out 0; have hfz26_1 := blk_frozen BK304.out 1))
         go_roundg k2
         case measure => have := HK1.out; have := HK2.out; omega
         case rel => exact ⟨(wrap64 (x9_2 + 1)), (t306), (y307), (.slice Ao25 y307.length co25), (by first | rfl | (simp; done) | (simp [*]; done)), H', ⟨by have := HK1.out; have := HK2.out; omega⟩, ⟨by (with_reducible repeat (first | apply Kd.S_alloc | apply Kd.S_drewN | apply Kd.S_drew)); exact Kd.S_mono (Kd.S_far (p := ⟨gb304, 0, none⟩) (Kd.S_mono HO_5.out (fun k_ hk => (⟨hk, okp hk⟩ : _ ∧ k_ ≠ gb304))) (fun _ hk => hk.2) (.slice Ao25 y307.length co25)) (fun _ hk => okp hk)⟩, ⟨by (with_reducible repeat (first | apply Kd.R_alloc | apply Kd.R_drewN | apply Kd.R_drew)); exact Kd.R_mono (Kd.R_far (p := ⟨gb304, 0, none⟩) (Kd.R_types HO309.out BK304.out (by decide)) (fun _ hk => hk.2) (.slice Ao25 y307.length co25)) (fun _ hk => trivial)⟩, ⟨by (with_reducible repeat (first | apply Kd.R_alloc | apply Kd.R_drewN | apply Kd.R_drew)); exact Kd.R_mono (Kd.R_far (p := ⟨gb304, 0, none⟩) (Kd.R_types HO_305001.out BK304.out (by decide)) (fun _ hk => hk.2) (.slice Ao25 y307.length co25)) (fun _ hk => trivial)⟩, ⟨by (with_reducible repeat (first | refine blk_drewN ?_ _ | refine blk_drew ?_ | refine blk_alloc ?_ _)); refine blk_put (cs := #[u305000, .slice Ao12 t300.length co12]) ?_ 0 _ rfl; exact bk BK304.out⟩, ⟨by exact sw105 HI0.out⟩, ⟨by exact kw HK.out⟩, ⟨by exact bw HB.out⟩⟩
        ·
         rw [if_neg c20] at H
         exact absurd H (by simp)
       ·
        rw [if_neg c19] at H
        have c19b0 : (t305 == 0) = false := beq_eq_false_iff_ne.mpr c19
        have c19b1 : (t305 != 0) = true := bne_iff_ne.mpr c19
        have H' := Aside0.mk H
        clear H
        go_wp2_with (first | ((with_reducible refine gate_callee (f := 62) rfl ?_); refine gl (some 29) Try.func62 #[.pointer (some ⟨g, 0, none⟩), .int .i64 4] ?_; (with_reducible refine (spec_l20Rd_pick.calls k2 g s0_0 x1001_2 4 t305 t306 w0 _ ?side1 ?side2 A18.out).mono ?_); (case side1 => exact sw105 HI0.out); (case side2 => exact bw HB.out); rintro e w27 ⟨rfl, hi, hb, hk⟩; refine ⟨_, rfl, ?_⟩; have n0_ := Aside0.mk (Kd.S_mono (Kd.S_keep (IsS105.apartS (show IsS105 w0 _ g s0_0 x1001_2 from by exact sw105 HI0.out) (by exact Kd.xS HO_5.out) (by decide)) hk (fun _ h => h.2)) (fun _ h => h.1)); have n1_ := Aside0.mk (Kd.R_mono (Kd.R_keep (IsS105.apart (show IsS105 w0 _ g s0_0 x1001_2 from by exact sw105 HI0.out) (by exact Kd.xR HO_305000.out) (by decide)) hk (fun _ h => h.2)) (fun _ h => h.1)); have n2_ := Aside0.mk (Kd.R_mono (Kd.R_keep (IsS105.apart (show IsS105 w0 _ g s0_0 x1001_2 from by exact sw105 HI0.out) (by exact Kd.xR HO_305001.out) (by decide)) hk (fun _ h => h.2)) (fun _ h => h.1)); have n3_ := Aside0.mk (KeepBut.blk hk (g' := gb304) (o := .cells #[u305000, .slice Ao12 t300.length co12] 43 (0, 0)) (by exact bk BK304.out) NB304_0.out (by simp)); have n4_ := Aside0.mk (KeepBut.trans (by exact kw HK.out) hk (.inl rfl)); have n5_ := Aside0.mk (hb); have n6_ := Aside0.mk (hi); clear HO_5; clear HO_305000; clear HO_305001; clear BK304; clear HK; clear HB; clear HI0; have HO_5 := n0_; have HO_305000 := n1_; have HO_305001 := n2_; have BK304 := n3_; have HK := n4_; have HB := n5_; have HI0 := n6_; clear n0_ n1_ n2_ n3_ n4_ n5_ n6_; (try clear hb); (try clear hb2); (try clear hk); (try clear hi)))
        go_roundg k2
        case measure => have := HK1.out; have := HK2.out; omega
        case rel => exact ⟨(wrap64 (x9_2 + 1)), (t306), (x305000_2), (u305000), (by first | rfl | (simp; done) | (simp [*]; done)), H', ⟨by have := HK1.out; have := HK2.out; omega⟩, ⟨by exact Kd.xS HO_5.out⟩, ⟨by exact Kd.xR HO_305000.out⟩, ⟨by exact Kd.xR HO_305001.out⟩, ⟨by exact bk BK304.out⟩, ⟨by exact sw105 HI0.out⟩, ⟨by exact kw HK.out⟩, ⟨by exact bw HB.out⟩⟩
      ·
       rw [if_neg c17] at H
       have c17b0 : decide (x9_2 < x7_1) = false := decide_eq_false c17
       clear c17
       by_cases c28 : x5_1.length < 2932031007402
       ·
        rw [if_pos c28] at H
        have LMc28 := Aside0.mk c28
        clear c28
        obtain ⟨y310, hy310⟩ : ∃ y_ : List (S43), y_ = (x5_1 ++ [(⟨x305000_2, t300⟩ : S43)]) := ⟨_, rfl⟩
        replace H : (spec_l20Things.l0 k2 a1 y310 t295 (wrap64 (x7_1 + 1)) s0_0 x1001_2) = some (r1, r2) := by first | (rw [hy310]; with_reducible exact H) | (have H2_ := (Option.bind_some _ _).symm.trans H; rw [hy310]; with_reducible exact H2_) | (have H2_ := (Option.bind_some _ _).symm.trans H; with_reducible exact H2_) | with_reducible exact H | (rw [hy310]; exact H) | exact H
        have Ny310 := Aside0.mk hy310
        clear hy310
        have H' := Aside0.mk H
        clear H
        have hnb29 := NB304_0.out
        have hnc29 := NB0_304.out
        have hcz30_0 : wr.cell? ⟨gb304, 0, none⟩ = some (u305000) := (blk_cell BK304.out 0).trans rfl
        have hcz30_1 : wr.cell? ⟨gb304, 1, none⟩ = some (.slice Ao12 t300.length co12) := (blk_cell BK304.out 1).trans rfl
        have hfz30_0 := blk_frozen BK304.out 0
        have hfz30_1 := blk_frozen BK304.out 1
        obtain ⟨Ao32, co32, eo32⟩ := Kd.R_slice HO_305000.out
        subst eo32
        go_wp2_with (first | ((with_reducible refine gate_builtin (b := .append) (xs := #[.tmp 37, .tmp 39]) rfl ?_); at_builtin; refine Kd.S_append k43 w.heap.size rfl (.tmp 37) (.tmp 39) 37 43 (.agg #[(.slice none 0 0), (.slice none 0 0)]) 48 rfl Try.underlying37 info43 rfl (by decide) (by omega) u5 x5_1 (⟨x305000_2, t300⟩ : S43) [.slice Ao32 x305000_2.length co32, .slice Ao12 t300.length co12] (fun k_ => k_ ≠ gb304) (fun k_ => some k_ = (.slice Ao32 x305000_2.length co32 : Value).ownBlock ∨ some k_ = (.slice Ao12 t300.length co12 : Value).ownBlock) rfl rfl ?aP (fun k_ hk_ => hk_.elim (fun h_ => ((Kd.R_mono (ok' := fun k_ => ((fun k_ => k_ ≠ gb304)) k_ ∧ some k_ ≠ (u5 : Value).ownBlock) (Kd.R_types (Kd.R_apart' (HO_305000.out) (Kd.S_typed HO_5.out) (by decide)) BK304.out (by decide)) (fun k_ hk => okp hk))).1 k_ h_.symm) (fun h_ => ((Kd.R_mono (ok' := fun k_ => ((fun k_ => k_ ≠ gb304)) k_ ∧ some k_ ≠ (u5 : Value).ownBlock) (Kd.R_types (Kd.R_apart' (HO_305001.out) (Kd.S_typed HO_5.out) (by decide)) BK304.out (by decide)) (fun k_ hk => okp hk))).1 k_ h_.symm)) ?aF ?aO (Below.refl _ _) ?aS ?aL ?_; (case aP => exact k43_mkM _ _ _ (⟨x305000_2, t300⟩ : S43) (Kd.R_mono (Kd.R_tight rfl (Kd.R_mono (ok' := fun k_ => ((fun k_ => k_ ≠ gb304)) k_ ∧ some k_ ≠ (u5 : Value).ownBlock) (Kd.R_types (Kd.R_apart' (HO_305000.out) (Kd.S_typed HO_5.out) (by decide)) BK304.out (by decide)) (fun k_ hk => okp hk))) (fun _ h_ => Or.inl h_)) (Kd.R_mono (Kd.R_tight rfl (Kd.R_mono (ok' := fun k_ => ((fun k_ => k_ ≠ gb304)) k_ ∧ some k_ ≠ (u5 : Value).ownBlock) (Kd.R_types (Kd.R_apart' (HO_305001.out) (Kd.S_typed HO_5.out) (by decide)) BK304.out (by decide)) (fun k_ hk => okp hk))) (fun _ h_ => Or.inr (h_)))); (case aF => exact (fun k_ hk => Kd.freshB (g := gb304) (o := .cells #[.slice Ao32 x305000_2.length co32, .slice Ao12 t300.length co12] 43 (0, 0)) (by exact bk BK304.out) k_ hk)); (case aO => exact (by (with_reducible repeat (first | apply Kd.S_alloc | apply Kd.S_drewN | apply Kd.S_drew)); exact Kd.S_mono HO_5.out (fun k_ hk => ⟨hk.2.2, fun e_ => e_.elim (fun h_ => hk.1 h_) (fun h_ => hk.2.1 h_)⟩))); (case aS => exact (keep_size (w := w) (g := g) (row := none) (by exact kw HK.out))); (case aL => have := LMc28.out; omega); intro v311 w31 ho hb hg hat; rw [← Ny310.out] at ho; have n0_ := Aside0.mk (blk_grown (g := gb304) (o := .cells #[.slice Ao32 x305000_2.length co32, .slice Ao12 t300.length co12] 43 (0, 0)) (by exact bk BK304.out) hg (Kd.S_away HO_5.out (fun _ hk => hk.2.2))); have n1_ := Aside0.mk (IsS105.grown (by exact sw105 HI0.out) hg (IsS105.own_neS HI0.out HO_5.out (by decide))); have n2_ := Aside0.mk (below_weaken (by exact bw HB.out) HL.out hb); have n3_ := Aside0.mk (KeepBut.trans (by exact kw HK.out) (KeepBut.of_grown hg g) (Kd.S_base2 HO_5.out)); have n4_ := Aside0.mk (ho); clear BK304; clear HI0; clear HB; clear HK; clear HO_5; clear HO_305000; clear HO_305001; have BK304 := n0_; have HI0 := n1_; have HB := n2_; have HK := n3_; have HO312 := n4_; clear n0_ n1_ n2_ n3_ n4_; clear ho hb hg hat))
        go_roundg k2
        case measure => have := HK1.out; have := HK2.out; omega
        case rel => exact ⟨(y310), (wrap64 (x7_1 + 1)), (x1001_2), (by first | rfl | (simp; done) | (simp [*]; done)), H', ⟨by have := HK1.out; have := HK2.out; omega⟩, ⟨by (with_reducible repeat (first | apply Kd.S_alloc | apply Kd.S_drewN | apply Kd.S_drew)); exact Kd.S_mono HO312.out (fun _ hk => trivial)⟩, ⟨by exact sw105 HI0.out⟩, ⟨by exact kw HK.out⟩, ⟨by exact bw HB.out⟩⟩
       ·
        rw [if_neg c28] at H
        exact absurd H (by simp)
   ·
    rw [if_neg c7] at H
    have c7b0 : decide (x7_1 < t295) = false := decide_eq_false c7
    clear c7
    replace H := Option.bind_eq_some_iff.mp H
    obtain ⟨⟨t313, t314⟩, A330, H⟩ := H
    replace H : (if t313 = true then ((spec_l20Rd_pick.f k1 s0_0 t314 4).bind fun bt315 => (if bt315.1 = 0 then (if x5_1.length < 2932031007402 then (some ((x5_1 ++ [(⟨(([(x5_1.length : Int)] : List Int)), ([] : List (S47))⟩ : S43)]), bt315.2)) else (none)) else (if bt315.1 = 1 then (if x5_1.length < 2932031007402 then (some ((x5_1 ++ [(⟨([] : List Int), (([(⟨(⟨#[65]⟩ : ByteArray), (⟨0, 0⟩ : S45)⟩ : S47)] : List (S47)))⟩ : S43)]), bt315.2)) else (none)) else (if bt315.1 = 2 then ((spec_TruthOf.f true).bind fun bt329 => ((spec_TruthOf.f true).bind fun bt331 => (if x5_1.length < 2932031007402 then (some ((x5_1 ++ [(⟨([] : List Int), (([(⟨(⟨#[97]⟩ : ByteArray), (⟨bt329.1, bt329.2⟩ : S45)⟩ : S47), (⟨(⟨#[97]⟩ : ByteArray), (⟨bt331.1, bt331.2⟩ : S45)⟩ : S47)] : List (S47)))⟩ : S43)]), bt315.2)) else (none)))) else (if 8 ≤ 5864062014805 then (some ((List.replicate 8 z43), bt315.2)) else (none)))))) else (some (x5_1, t314))) = some (r1, r2) := H
    have A33 := Aside0.mk A330
    clear A330
    by_cases c34 : t313 = true
    ·
     subst c34
     have H1 : ((spec_l20Rd_pick.f k1 s0_0 t314 4).bind fun bt315 => (if bt315.1 = 0 then (if x5_1.length < 2932031007402 then (some ((x5_1 ++ [(⟨(([(x5_1.length : Int)] : List Int)), ([] : List (S47))⟩ : S43)]), bt315.2)) else (none)) else (if bt315.1 = 1 then (if x5_1.length < 2932031007402 then (some ((x5_1 ++ [(⟨([] : List Int), (([(⟨(⟨#[65]⟩ : ByteArray), (⟨0, 0⟩ : S45)⟩ : S47)] : List (S47)))⟩ : S43)]), bt315.2)) else (none)) else (if bt315.1 = 2 then ((spec_TruthOf.f true).bind fun bt329 => ((spec_TruthOf.f true).bind fun bt331 => (if x5_1.length < 2932031007402 then (some ((x5_1 ++ [(⟨([] : List Int), (([(⟨(⟨#[97]⟩ : ByteArray), (⟨bt329.1, bt329.2⟩ : S45)⟩ : S47), (⟨(⟨#[97]⟩ : ByteArray), (⟨bt331.1, bt331.2⟩ : S45)⟩ : S47)] : List (S47)))⟩ : S43)]), bt315.2)) else (none)))) else (if 8 ≤ 5864062014805 then (some ((List.replicate 8 z43), bt315.2)) else (none)))))) = some (r1, r2) := by rw [if_pos rfl] at H; exact H
     clear H
     have H := H1
     clear H1
     replace H := Option.bind_eq_some_iff.mp H
     obtain ⟨⟨t315, t316⟩, A350, H⟩ := H
     replace H : (if t315 = 0 then (if x5_1.length < 2932031007402 then (some ((x5_1 ++ [(⟨(([(x5_1.length : Int)] : List Int)), ([] : List (S47))⟩ : S43)]), t316)) else (none)) else (if t315 = 1 then (if x5_1.length < 2932031007402 then (some ((x5_1 ++ [(⟨([] : List Int), (([(⟨(⟨#[65]⟩ : ByteArray), (⟨0, 0⟩ : S45)⟩ : S47)] : List (S47)))⟩ : S43)]), t316)) else (none)) else (if t315 = 2 then ((spec_TruthOf.f true).bind fun bt329 => ((spec_TruthOf.f true).bind fun bt331 => (if x5_1.length < 2932031007402 then (some ((x5_1 ++ [(⟨([] : List Int), (([(⟨(⟨#[97]⟩ : ByteArray), (⟨bt329.1, bt329.2⟩ : S45)⟩ : S47), (⟨(⟨#[97]⟩ : ByteArray), (⟨bt331.1, bt331.2⟩ : S45)⟩ : S47)] : List (S47)))⟩ : S43)]), t316)) else (none)))) else (if 8 ≤ 5864062014805 then (some ((List.replicate 8 z43), t316)) else (none))))) = some (r1, r2) := H
     have A35 := Aside0.mk A350
     clear A350
     by_cases c36 : t315 = 0
     ·
      rw [if_pos c36] at H
      have c36b0 : (t315 == 0) = true := beq_iff_eq.mpr c36
      have c36b1 : (t315 != 0) = false := bne_eq_false_iff_eq.mpr c36
      clear c36
      obtain ⟨y317, hy317⟩ : ∃ y_ : List Int, y_ = (([(x5_1.length : Int)] : List Int)) := ⟨_, rfl⟩
      replace H : (if x5_1.length < 2932031007402 then (some ((x5_1 ++ [(⟨y317, ([] : List (S47))⟩ : S43)]), t316)) else (none)) = some (r1, r2) := by first | (rw [hy317]; with_reducible exact H) | (have H2_ := (Option.bind_some _ _).symm.trans H; rw [hy317]; with_reducible exact H2_) | (have H2_ := (Option.bind_some _ _).symm.trans H; with_reducible exact H2_) | with_reducible exact H | (rw [hy317]; exact H) | exact H
      have Ny317 := Aside0.mk hy317
      clear hy317
      by_cases c37 : x5_1.length < 2932031007402
      ·
       rw [if_pos c37] at H
       have LMc37 := Aside0.mk c37
       clear c37
       obtain ⟨y320, hy320⟩ : ∃ y_ : List (S43), y_ = (x5_1 ++ [(⟨y317, ([] : List (S47))⟩ : S43)]) := ⟨_, rfl⟩
       replace H : (some (y320, t316)) = some (r1, r2) := by first | (rw [hy320]; with_reducible exact H) | (have H2_ := (Option.bind_some _ _).symm.trans H; rw [hy320]; with_reducible exact H2_) | (have H2_ := (Option.bind_some _ _).symm.trans H; with_reducible exact H2_) | with_reducible exact H | (rw [hy320]; exact H) | exact H
       have Ny320 := Aside0.mk hy320
       clear hy320
       simp only [Option.some.injEq, Prod.mk.injEq] at H
       obtain ⟨rfl, rfl⟩ := H
       go_wp2_with (first | ((with_reducible refine gate_callee (f := 72) rfl ?_); refine gl (some 43) Try.func72 #[.pointer (some ⟨g, 0, none⟩), .int .i64 a1] ?_; (with_reducible refine (spec_l20Rd_odd.calls k1 g s0_0 x1001_1 a1 true t314 w0 _ ?side1 ?side2 A33.out).mono ?_); (case side1 => exact sw105 HI0.out); (case side2 => exact bw HB.out); rintro e w38 ⟨rfl, hi, hb, hk⟩; refine ⟨_, rfl, ?_⟩; have n0_ := Aside0.mk (Kd.S_mono (Kd.S_keep (IsS105.apartS (show IsS105 w0 _ g s0_0 x1001_1 from by exact sw105 HI0.out) (by exact Kd.xS HO_5.out) (by decide)) hk (fun _ h => h.2)) (fun _ h => h.1)); have n1_ := Aside0.mk (KeepBut.trans (by exact kw HK.out) hk (.inl rfl)); have n2_ := Aside0.mk (hb); have n3_ := Aside0.mk (hi); clear HO_5; clear HK; clear HB; clear HI0; have HO_5 := n0_; have HK := n1_; have HB := n2_; have HI0 := n3_; clear n0_ n1_ n2_ n3_; (try clear hb); (try clear hb2); (try clear hk); (try clear hi)) | ((with_reducible refine gate_callee (f := 62) rfl ?_); refine gl (some 45) Try.func62 #[.pointer (some ⟨g, 0, none⟩), .int .i64 4] ?_; (with_reducible refine (spec_l20Rd_pick.calls k1 g s0_0 t314 4 t315 t316 w0 _ ?side1 ?side2 A35.out).mono ?_); (case side1 => exact sw105 HI0.out); (case side2 => exact bw HB.out); rintro e w39 ⟨rfl, hi, hb, hk⟩; refine ⟨_, rfl, ?_⟩; have n0_ := Aside0.mk (Kd.S_mono (Kd.S_keep (IsS105.apartS (show IsS105 w0 _ g s0_0 t314 from by exact sw105 HI0.out) (by exact Kd.xS HO_5.out) (by decide)) hk (fun _ h => h.2)) (fun _ h => h.1)); have n1_ := Aside0.mk (KeepBut.trans (by exact kw HK.out) hk (.inl rfl)); have n2_ := Aside0.mk (hb); have n3_ := Aside0.mk (hi); clear HO_5; clear HK; clear HB; clear HI0; have HO_5 := n0_; have HK := n1_; have HB := n2_; have HI0 := n3_; clear n0_ n1_ n2_ n3_; (try clear hb); (try clear hb2); (try clear hk); (try clear hi); obtain ⟨Ao40, co40, eo40⟩ := Kd.S_slice HO_5.out; subst eo40) | ((with_reducible refine gate_dst (N := 52) rfl ?_); refine Kd.R_lit (Kd.int .i64) _ 3 ?hg (N := 52) ?hd (xs := ([(x5_1.length : Int)] : List Int)) (inner := [.int .i64 (x5_1.length : Int)]) (ok := fun _ => True) (okp := fun _ => True) ?hr ?hp (fun _ hk => hk) trivial (Below.refl _ _) (Nat.le_refl _) (by simp) ?_; (case hd => rfl); (case hg => rfl); (case hr => first | (go_simp; done) | (go_simp; rfl)); (case hp => exact (Reps.one (show Kd.M (Kd.int .i64) _ _ _ (x5_1.length : Int) [.int .i64 (x5_1.length : Int)] from rfl) (Reps.none _ _))); intro v318 w41 ho42 hb hg_ hnew_; clear hg_ hnew_; (first | rw [← Ny317.out] at ho42 | (simp only [Int.reduceToNat] at ho42; rw [← Ny317.out] at ho42)); have n0_ := Aside0.mk (Kd.S_elder' (by exact Kd.xS HO_5.out) (Kd.R_base ho42) hb); have n1_ := Aside0.mk (Kd.R_lower ho42 (keep_size (w := w) (g := g) (row := none) (by exact kw HK.out))); have n2_ := Aside0.mk (IsS105.below (by exact sw105 HI0.out) hb); have n3_ := Aside0.mk (KeepBut.trans (by exact kw HK.out) (KeepBut.of_below hb g none) (.inl rfl)); have n4_ := Aside0.mk (below_step (by exact bw HB.out) hb); clear HO_5; clear HI0; clear HK; clear HB; have HO_5 := n0_; have HO319 := n1_; have HI0 := n2_; have HK := n3_; have HB := n4_; clear n0_ n1_ n2_ n3_ n4_; clear hb ho42; obtain ⟨Ao43, co43, eo43⟩ := Kd.R_slice HO319.out; subst eo43) | ((with_reducible refine gate_builtin (b := .append) (xs := #[.tmp 49, .tmp 54]) rfl ?_); at_builtin; refine Kd.S_append k43 w.heap.size rfl (.tmp 49) (.tmp 54) 37 43 (.agg #[(.slice none 0 0), (.slice none 0 0)]) 48 rfl Try.underlying37 info43 rfl (by decide) (by omega) (.slice Ao40 x5_1.length co40) x5_1 (⟨y317, ([] : List (S47))⟩ : S43) [.slice Ao43 y317.length co43, .slice none 0 0] (fun _ => True) (fun k_ => some k_ = (.slice Ao43 y317.length co43 : Value).ownBlock) rfl rfl ?aP (fun k_ hk_ => ((Kd.R_mono (ok' := fun k_ => ((fun _ => True)) k_ ∧ some k_ ≠ (.slice Ao40 x5_1.length co40 : Value).ownBlock) (Kd.R_apart' (HO319.out) (Kd.S_typed HO_5.out) (by decide)) (fun k_ hk => ⟨trivial, hk.2⟩))).1 k_ hk_.symm) ?aF ?aO (Below.refl _ _) ?aS ?aL ?_; (case aP => exact k43_mkM _ _ _ (⟨y317, ([] : List (S47))⟩ : S43) (Kd.R_mono (Kd.R_tight rfl (Kd.R_mono (ok' := fun k_ => ((fun _ => True)) k_ ∧ some k_ ≠ (.slice Ao40 x5_1.length co40 : Value).ownBlock) (Kd.R_apart' (HO319.out) (Kd.S_typed HO_5.out) (by decide)) (fun k_ hk => ⟨trivial, hk.2⟩))) (fun _ h_ => h_)) (Kd.R_nil _ _ _ _ _)); (case aF => exact (fun _ _ => trivial)); (case aO => exact (by (with_reducible repeat (first | apply Kd.S_alloc | apply Kd.S_drewN | apply Kd.S_drew)); exact Kd.S_mono HO_5.out (fun k_ hk => ⟨trivial, fun e_ => hk.2 e_⟩))); (case aS => exact (keep_size (w := w) (g := g) (row := none) (by exact kw HK.out))); (case aL => have := LMc37.out; omega); intro v321 w44 ho hb hg hat; rw [← Ny320.out] at ho; have n0_ := Aside0.mk (IsS105.grown (by exact sw105 HI0.out) hg (IsS105.own_neS HI0.out HO_5.out (by decide))); have n1_ := Aside0.mk (below_weaken (by exact bw HB.out) HL.out hb); have n2_ := Aside0.mk (KeepBut.trans (by exact kw HK.out) (KeepBut.of_grown hg g) (Kd.S_base2 HO_5.out)); have n3_ := Aside0.mk (ho); clear HI0; clear HB; clear HK; clear HO_5; clear HO319; have HI0 := n0_; have HB := n1_; have HK := n2_; have HO322 := n3_; clear n0_ n1_ n2_ n3_; clear ho hb hg hat))
       go_ret
       exact ⟨_, by first | rfl | (simp [errW_none, errW_some] <;> rfl) | (simp [*, errW_none, errW_some] <;> rfl), by exact Kd.xS HO322.out, by exact sw105 HI0.out, by exact bw HB.out, by exact kw HK.out⟩
      ·
       rw [if_neg c37] at H
       exact absurd H (by simp)
     ·
      rw [if_neg c36] at H
      have c36b0 : (t315 == 0) = false := beq_eq_false_iff_ne.mpr c36
      have c36b1 : (t315 != 0) = true := bne_iff_ne.mpr c36
      by_cases c45 : t315 = 1
      ·
       rw [if_pos c45] at H
       have c45b0 : (t315 == 1) = true := beq_iff_eq.mpr c45
       have c45b1 : (t315 != 1) = false := bne_eq_false_iff_eq.mpr c45
       clear c45
       obtain ⟨y323, hy323⟩ : ∃ y_ : List (S47), y_ = (([(⟨(⟨#[65]⟩ : ByteArray), (⟨0, 0⟩ : S45)⟩ : S47)] : List (S47))) := ⟨_, rfl⟩
       replace H : (if x5_1.length < 2932031007402 then (some ((x5_1 ++ [(⟨([] : List Int), y323⟩ : S43)]), t316)) else (none)) = some (r1, r2) := by first | (rw [hy323]; with_reducible exact H) | (have H2_ := (Option.bind_some _ _).symm.trans H; rw [hy323]; with_reducible exact H2_) | (have H2_ := (Option.bind_some _ _).symm.trans H; with_reducible exact H2_) | with_reducible exact H | (rw [hy323]; exact H) | exact H
       have Ny323 := Aside0.mk hy323
       clear hy323
       by_cases c46 : x5_1.length < 2932031007402
       ·
        rw [if_pos c46] at H
        have LMc46 := Aside0.mk c46
        clear c46
        obtain ⟨y326, hy326⟩ : ∃ y_ : List (S43), y_ = (x5_1 ++ [(⟨([] : List Int), y323⟩ : S43)]) := ⟨_, rfl⟩
        replace H : (some (y326, t316)) = some (r1, r2) := by first | (rw [hy326]; with_reducible exact H) | (have H2_ := (Option.bind_some _ _).symm.trans H; rw [hy326]; with_reducible exact H2_) | (have H2_ := (Option.bind_some _ _).symm.trans H; with_reducible exact H2_) | with_reducible exact H | (rw [hy326]; exact H) | exact H
        have Ny326 := Aside0.mk hy326
        clear hy326
        simp only [Option.some.injEq, Prod.mk.injEq] at H
        obtain ⟨rfl, rfl⟩ := H
        go_wp2_with (first | ((with_reducible refine gate_callee (f := 72) rfl ?_); refine gl (some 43) Try.func72 #[.pointer (some ⟨g, 0, none⟩), .int .i64 a1] ?_; (with_reducible refine (spec_l20Rd_odd.calls k1 g s0_0 x1001_1 a1 true t314 w0 _ ?side1 ?side2 A33.out).mono ?_); (case side1 => exact sw105 HI0.out); (case side2 => exact bw HB.out); rintro e w47 ⟨rfl, hi, hb, hk⟩; refine ⟨_, rfl, ?_⟩; have n0_ := Aside0.mk (Kd.S_mono (Kd.S_keep (IsS105.apartS (show IsS105 w0 _ g s0_0 x1001_1 from by exact sw105 HI0.out) (by exact Kd.xS HO_5.out) (by decide)) hk (fun _ h => h.2)) (fun _ h => h.1)); have n1_ := Aside0.mk (KeepBut.trans (by exact kw HK.out) hk (.inl rfl)); have n2_ := Aside0.mk (hb); have n3_ := Aside0.mk (hi); clear HO_5; clear HK; clear HB; clear HI0; have HO_5 := n0_; have HK := n1_; have HB := n2_; have HI0 := n3_; clear n0_ n1_ n2_ n3_; (try clear hb); (try clear hb2); (try clear hk); (try clear hi)) | ((with_reducible refine gate_callee (f := 62) rfl ?_); refine gl (some 45) Try.func62 #[.pointer (some ⟨g, 0, none⟩), .int .i64 4] ?_; (with_reducible refine (spec_l20Rd_pick.calls k1 g s0_0 t314 4 t315 t316 w0 _ ?side1 ?side2 A35.out).mono ?_); (case side1 => exact sw105 HI0.out); (case side2 => exact bw HB.out); rintro e w48 ⟨rfl, hi, hb, hk⟩; refine ⟨_, rfl, ?_⟩; have n0_ := Aside0.mk (Kd.S_mono (Kd.S_keep (IsS105.apartS (show IsS105 w0 _ g s0_0 t314 from by exact sw105 HI0.out) (by exact Kd.xS HO_5.out) (by decide)) hk (fun _ h => h.2)) (fun _ h => h.1)); have n1_ := Aside0.mk (KeepBut.trans (by exact kw HK.out) hk (.inl rfl)); have n2_ := Aside0.mk (hb); have n3_ := Aside0.mk (hi); clear HO_5; clear HK; clear HB; clear HI0; have HO_5 := n0_; have HK := n1_; have HB := n2_; have HI0 := n3_; clear n0_ n1_ n2_ n3_; (try clear hb); (try clear hb2); (try clear hk); (try clear hi)) | ((with_reducible refine gate_dst (N := 60) rfl ?_); refine Kd.R_lit k47 _ 47 ?hg (N := 60) ?hd (xs := ([(⟨(⟨#[65]⟩ : ByteArray), (⟨0, 0⟩ : S45)⟩ : S47)] : List (S47))) (inner := [.string (⟨#[65]⟩ : ByteArray), .int .i64 0, .int .i64 0]) (ok := fun _ => True) (okp := fun _ => True) ?hr ?hp (fun _ hk => hk) trivial (Below.refl _ _) (Nat.le_refl _) (by simp) ?_; (case hd => rfl); (case hg => rfl); (case hr => first | (go_simp; done) | (go_simp; rfl)); (case hp => exact (Reps.c3 (show Kd.M k47 _ _ _ (⟨(⟨#[65]⟩ : ByteArray), (⟨0, 0⟩ : S45)⟩ : S47) [.string (⟨#[65]⟩ : ByteArray), .int .i64 0, .int .i64 0] from (k47_mkM _ _ _ (⟨(⟨#[65]⟩ : ByteArray), (⟨0, 0⟩ : S45)⟩ : S47) )) (Reps.none _ _))); intro v324 w49 ho50 hb hg_ hnew_; clear hg_ hnew_; (first | rw [← Ny323.out] at ho50 | (simp only [Int.reduceToNat] at ho50; rw [← Ny323.out] at ho50)); have n0_ := Aside0.mk (Kd.S_elder' (by exact Kd.xS HO_5.out) (Kd.R_base ho50) hb); have n1_ := Aside0.mk (Kd.R_lower ho50 (keep_size (w := w) (g := g) (row := none) (by exact kw HK.out))); have n2_ := Aside0.mk (IsS105.below (by exact sw105 HI0.out) hb); have n3_ := Aside0.mk (KeepBut.trans (by exact kw HK.out) (KeepBut.of_below hb g none) (.inl rfl)); have n4_ := Aside0.mk (below_step (by exact bw HB.out) hb); clear HO_5; clear HI0; clear HK; clear HB; have HO_5 := n0_; have HO325 := n1_; have HI0 := n2_; have HK := n3_; have HB := n4_; clear n0_ n1_ n2_ n3_ n4_; clear hb ho50; obtain ⟨Ao51, co51, eo51⟩ := Kd.R_slice HO325.out; subst eo51) | ((with_reducible refine gate_builtin (b := .append) (xs := #[.tmp 58, .tmp 62]) rfl ?_); at_builtin; refine Kd.S_append k43 w.heap.size rfl (.tmp 58) (.tmp 62) 37 43 (.agg #[(.slice none 0 0), (.slice none 0 0)]) 48 rfl Try.underlying37 info43 rfl (by decide) (by omega) u5 x5_1 (⟨([] : List Int), y323⟩ : S43) [.slice none 0 0, .slice Ao51 y323.length co51] (fun _ => True) (fun k_ => some k_ = (.slice Ao51 y323.length co51 : Value).ownBlock) rfl rfl ?aP (fun k_ hk_ => ((Kd.R_mono (ok' := fun k_ => ((fun _ => True)) k_ ∧ some k_ ≠ (u5 : Value).ownBlock) (Kd.R_apart' (HO325.out) (Kd.S_typed HO_5.out) (by decide)) (fun k_ hk => ⟨trivial, hk.2⟩))).1 k_ hk_.symm) ?aF ?aO (Below.refl _ _) ?aS ?aL ?_; (case aP => exact k43_mkM _ _ _ (⟨([] : List Int), y323⟩ : S43) (Kd.R_nil _ _ _ _ _) (Kd.R_mono (Kd.R_tight rfl (Kd.R_mono (ok' := fun k_ => ((fun _ => True)) k_ ∧ some k_ ≠ (u5 : Value).ownBlock) (Kd.R_apart' (HO325.out) (Kd.S_typed HO_5.out) (by decide)) (fun k_ hk => ⟨trivial, hk.2⟩))) (fun _ h_ => h_))); (case aF => exact (fun _ _ => trivial)); (case aO => exact (by (with_reducible repeat (first | apply Kd.S_alloc | apply Kd.S_drewN | apply Kd.S_drew)); exact Kd.S_mono HO_5.out (fun k_ hk => ⟨trivial, fun e_ => hk.2 e_⟩))); (case aS => exact (keep_size (w := w) (g := g) (row := none) (by exact kw HK.out))); (case aL => have := LMc46.out; omega); intro v327 w52 ho hb hg hat; rw [← Ny326.out] at ho; have n0_ := Aside0.mk (IsS105.grown (by exact sw105 HI0.out) hg (IsS105.own_neS HI0.out HO_5.out (by decide))); have n1_ := Aside0.mk (below_weaken (by exact bw HB.out) HL.out hb); have n2_ := Aside0.mk (KeepBut.trans (by exact kw HK.out) (KeepBut.of_grown hg g) (Kd.S_base2 HO_5.out)); have n3_ := Aside0.mk (ho); clear HI0; clear HB; clear HK; clear HO_5; clear HO325; have HI0 := n0_; have HB := n1_; have HK := n2_; have HO328 := n3_; clear n0_ n1_ n2_ n3_; clear ho hb hg hat))
        go_ret
        exact ⟨_, by first | rfl | (simp [errW_none, errW_some] <;> rfl) | (simp [*, errW_none, errW_some] <;> rfl), by exact Kd.xS HO328.out, by exact sw105 HI0.out, by exact bw HB.out, by exact kw HK.out⟩
       ·
        rw [if_neg c46] at H
        exact absurd H (by simp)
      ·
       rw [if_neg c45] at H
       have c45b0 : (t315 == 1) = false := beq_eq_false_iff_ne.mpr c45
       have c45b1 : (t315 != 1) = true := bne_iff_ne.mpr c45
       by_cases c53 : t315 = 2
       ·
        rw [if_pos c53] at H
        have c53b0 : (t315 == 2) = true := beq_iff_eq.mpr c53
        have c53b1 : (t315 != 2) = false := bne_eq_false_iff_eq.mpr c53
        clear c53
        replace H := Option.bind_eq_some_iff.mp H
        obtain ⟨⟨t329, t330⟩, A540, H⟩ := H
        replace H : ((spec_TruthOf.f true).bind fun bt331 => (if x5_1.length < 2932031007402 then (some ((x5_1 ++ [(⟨([] : List Int), (([(⟨(⟨#[97]⟩ : ByteArray), (⟨t329, t330⟩ : S45)⟩ : S47), (⟨(⟨#[97]⟩ : ByteArray), (⟨bt331.1, bt331.2⟩ : S45)⟩ : S47)] : List (S47)))⟩ : S43)]), t316)) else (none))) = some (r1, r2) := H
        have A54 := Aside0.mk A540
        clear A540
        replace H := Option.bind_eq_some_iff.mp H
        obtain ⟨⟨t331, t332⟩, A550, H⟩ := H
        replace H : (if x5_1.length < 2932031007402 then (some ((x5_1 ++ [(⟨([] : List Int), (([(⟨(⟨#[97]⟩ : ByteArray), (⟨t329, t330⟩ : S45)⟩ : S47), (⟨(⟨#[97]⟩ : ByteArray), (⟨t331, t332⟩ : S45)⟩ : S47)] : List (S47)))⟩ : S43)]), t316)) else (none)) = some (r1, r2) := H
        have A55 := Aside0.mk A550
        clear A550
        obtain ⟨y333, hy333⟩ : ∃ y_ : List (S47), y_ = (([(⟨(⟨#[97]⟩ : ByteArray), (⟨t329, t330⟩ : S45)⟩ : S47), (⟨(⟨#[97]⟩ : ByteArray), (⟨t331, t332⟩ : S45)⟩ : S47)] : List (S47))) := ⟨_, rfl⟩
        replace H : (if x5_1.length < 2932031007402 then (some ((x5_1 ++ [(⟨([] : List Int), y333⟩ : S43)]), t316)) else (none)) = some (r1, r2) := by first | (rw [hy333]; with_reducible exact H) | (have H2_ := (Option.bind_some _ _).symm.trans H; rw [hy333]; with_reducible exact H2_) | (have H2_ := (Option.bind_some _ _).symm.trans H; with_reducible exact H2_) | with_reducible exact H | (rw [hy333]; exact H) | exact H
        have Ny333 := Aside0.mk hy333
        clear hy333
        by_cases c56 : x5_1.length < 2932031007402
        ·
         rw [if_pos c56] at H
         have LMc56 := Aside0.mk c56
         clear c56
         obtain ⟨y336, hy336⟩ : ∃ y_ : List (S43), y_ = (x5_1 ++ [(⟨([] : List Int), y333⟩ : S43)]) := ⟨_, rfl⟩
         replace H : (some (y336, t316)) = some (r1, r2) := by first | (rw [hy336]; with_reducible exact H) | (have H2_ := (Option.bind_some _ _).symm.trans H; rw [hy336]; with_reducible exact H2_) | (have H2_ := (Option.bind_some _ _).symm.trans H; with_reducible exact H2_) | with_reducible exact H | (rw [hy336]; exact H) | exact H
         have Ny336 := Aside0.mk hy336
         clear hy336
         simp only [Option.some.injEq, Prod.mk.injEq] at H
         obtain ⟨rfl, rfl⟩ := H
         go_wp2_with (first | ((with_reducible refine gate_callee (f := 72) rfl ?_); refine gl (some 43) Try.func72 #[.pointer (some ⟨g, 0, none⟩), .int .i64 a1] ?_; (with_reducible refine (spec_l20Rd_odd.calls k1 g s0_0 x1001_1 a1 true t314 w0 _ ?side1 ?side2 A33.out).mono ?_); (case side1 => exact sw105 HI0.out); (case side2 => exact bw HB.out); rintro e w57 ⟨rfl, hi, hb, hk⟩; refine ⟨_, rfl, ?_⟩; have n0_ := Aside0.mk (Kd.S_mono (Kd.S_keep (IsS105.apartS (show IsS105 w0 _ g s0_0 x1001_1 from by exact sw105 HI0.out) (by exact Kd.xS HO_5.out) (by decide)) hk (fun _ h => h.2)) (fun _ h => h.1)); have n1_ := Aside0.mk (KeepBut.trans (by exact kw HK.out) hk (.inl rfl)); have n2_ := Aside0.mk (hb); have n3_ := Aside0.mk (hi); clear HO_5; clear HK; clear HB; clear HI0; have HO_5 := n0_; have HK := n1_; have HB := n2_; have HI0 := n3_; clear n0_ n1_ n2_ n3_; (try clear hb); (try clear hb2); (try clear hk); (try clear hi)) | ((with_reducible refine gate_callee (f := 62) rfl ?_); refine gl (some 45) Try.func62 #[.pointer (some ⟨g, 0, none⟩), .int .i64 4] ?_; (with_reducible refine (spec_l20Rd_pick.calls k1 g s0_0 t314 4 t315 t316 w0 _ ?side1 ?side2 A35.out).mono ?_); (case side1 => exact sw105 HI0.out); (case side2 => exact bw HB.out); rintro e w58 ⟨rfl, hi, hb, hk⟩; refine ⟨_, rfl, ?_⟩; have n0_ := Aside0.mk (Kd.S_mono (Kd.S_keep (IsS105.apartS (show IsS105 w0 _ g s0_0 t314 from by exact sw105 HI0.out) (by exact Kd.xS HO_5.out) (by decide)) hk (fun _ h => h.2)) (fun _ h => h.1)); have n1_ := Aside0.mk (KeepBut.trans (by exact kw HK.out) hk (.inl rfl)); have n2_ := Aside0.mk (hb); have n3_ := Aside0.mk (hi); clear HO_5; clear HK; clear HB; clear HI0; have HO_5 := n0_; have HK := n1_; have HB := n2_; have HI0 := n3_; clear n0_ n1_ n2_ n3_; (try clear hb); (try clear hb2); (try clear hk); (try clear hi)) | ((with_reducible refine gate_callee (f := 77) rfl ?_); refine gl (some 67) Try.func77 #[.bool true] ?_; (with_reducible refine (spec_TruthOf.calls true t329 t330 _ A54.out).mono ?_); rintro e w59 ⟨rfl, hb⟩; refine ⟨_, rfl, ?_⟩; have n0_ := Aside0.mk (Kd.S_below (by exact Kd.xS HO_5.out) hb); have n1_ := Aside0.mk (IsS105.below (by exact sw105 HI0.out) hb); have n2_ := Aside0.mk (KeepBut.trans (by exact kw HK.out) (KeepBut.of_below hb g none) (.inl rfl)); have n3_ := Aside0.mk (below_step (by exact bw HB.out) hb); clear HO_5; clear HI0; clear HK; clear HB; have HO_5 := n0_; have HI0 := n1_; have HK := n2_; have HB := n3_; clear n0_ n1_ n2_ n3_; (try clear hb); (try clear hb2); (try clear hk); (try clear hi)) | ((with_reducible refine gate_callee (f := 77) rfl ?_); refine gl (some 69) Try.func77 #[.bool true] ?_; (with_reducible refine (spec_TruthOf.calls true t331 t332 _ A55.out).mono ?_); rintro e w60 ⟨rfl, hb⟩; refine ⟨_, rfl, ?_⟩; have n0_ := Aside0.mk (Kd.S_below (by exact Kd.xS HO_5.out) hb); have n1_ := Aside0.mk (IsS105.below (by exact sw105 HI0.out) hb); have n2_ := Aside0.mk (KeepBut.trans (by exact kw HK.out) (KeepBut.of_below hb g none) (.inl rfl)); have n3_ := Aside0.mk (below_step (by exact bw HB.out) hb); clear HO_5; clear HI0; clear HK; clear HB; have HO_5 := n0_; have HI0 := n1_; have HK := n2_; have HB := n3_; clear n0_ n1_ n2_ n3_; (try clear hb); (try clear hb2); (try clear hk); (try clear hi)) | ((with_reducible refine gate_dst (N := 71) rfl ?_); refine Kd.R_lit k47 _ 47 ?hg (N := 71) ?hd (xs := ([(⟨(⟨#[97]⟩ : ByteArray), (⟨t329, t330⟩ : S45)⟩ : S47), (⟨(⟨#[97]⟩ : ByteArray), (⟨t331, t332⟩ : S45)⟩ : S47)] : List (S47))) (inner := [.string (⟨#[97]⟩ : ByteArray), .int .i64 t329, .int .i64 t330, .string (⟨#[97]⟩ : ByteArray), .int .i64 t331, .int .i64 t332]) (ok := fun _ => True) (okp := fun _ => True) ?hr ?hp (fun _ hk => hk) trivial (Below.refl _ _) (Nat.le_refl _) (by simp) ?_; (case hd => rfl); (case hg => rfl); (case hr => first | (go_simp; done) | (go_simp; rfl)); (case hp => exact (Reps.c3 (show Kd.M k47 _ _ _ (⟨(⟨#[97]⟩ : ByteArray), (⟨t329, t330⟩ : S45)⟩ : S47) [.string (⟨#[97]⟩ : ByteArray), .int .i64 t329, .int .i64 t330] from (k47_mkM _ _ _ (⟨(⟨#[97]⟩ : ByteArray), (⟨t329, t330⟩ : S45)⟩ : S47) )) (Reps.c3 (show Kd.M k47 _ _ _ (⟨(⟨#[97]⟩ : ByteArray), (⟨t331, t332⟩ : S45)⟩ : S47) [.string (⟨#[97]⟩ : ByteArray), .int .i64 t331, .int .i64 t332] from (k47_mkM _ _ _ (⟨(⟨#[97]⟩ : ByteArray), (⟨t331, t332⟩ : S45)⟩ : S47) )) (Reps.none _ _)))); intro v334 w61 ho62 hb hg_ hnew_; clear hg_ hnew_; (first | rw [← Ny333.out] at ho62 | (simp only [Int.reduceToNat] at ho62; rw [← Ny333.out] at ho62)); have n0_ := Aside0.mk (Kd.S_elder' (by exact Kd.xS HO_5.out) (Kd.R_base ho62) hb); have n1_ := Aside0.mk (Kd.R_lower ho62 (keep_size (w := w) (g := g) (row := none) (by exact kw HK.out))); have n2_ := Aside0.mk (IsS105.below (by exact sw105 HI0.out) hb); have n3_ := Aside0.mk (KeepBut.trans (by exact kw HK.out) (KeepBut.of_below hb g none) (.inl rfl)); have n4_ := Aside0.mk (below_step (by exact bw HB.out) hb); clear HO_5; clear HI0; clear HK; clear HB; have HO_5 := n0_; have HO335 := n1_; have HI0 := n2_; have HK := n3_; have HB := n4_; clear n0_ n1_ n2_ n3_ n4_; clear hb ho62; obtain ⟨Ao63, co63, eo63⟩ := Kd.R_slice HO335.out; subst eo63) | ((with_reducible refine gate_builtin (b := .append) (xs := #[.tmp 66, .tmp 73]) rfl ?_); at_builtin; refine Kd.S_append k43 w.heap.size rfl (.tmp 66) (.tmp 73) 37 43 (.agg #[(.slice none 0 0), (.slice none 0 0)]) 48 rfl Try.underlying37 info43 rfl (by decide) (by omega) u5 x5_1 (⟨([] : List Int), y333⟩ : S43) [.slice none 0 0, .slice Ao63 y333.length co63] (fun _ => True) (fun k_ => some k_ = (.slice Ao63 y333.length co63 : Value).ownBlock) rfl rfl ?aP (fun k_ hk_ => ((Kd.R_mono (ok' := fun k_ => ((fun _ => True)) k_ ∧ some k_ ≠ (u5 : Value).ownBlock) (Kd.R_apart' (HO335.out) (Kd.S_typed HO_5.out) (by decide)) (fun k_ hk => ⟨trivial, hk.2⟩))).1 k_ hk_.symm) ?aF ?aO (Below.refl _ _) ?aS ?aL ?_; (case aP => exact k43_mkM _ _ _ (⟨([] : List Int), y333⟩ : S43) (Kd.R_nil _ _ _ _ _) (Kd.R_mono (Kd.R_tight rfl (Kd.R_mono (ok' := fun k_ => ((fun _ => True)) k_ ∧ some k_ ≠ (u5 : Value).ownBlock) (Kd.R_apart' (HO335.out) (Kd.S_typed HO_5.out) (by decide)) (fun k_ hk => ⟨trivial, hk.2⟩))) (fun _ h_ => h_))); (case aF => exact (fun _ _ => trivial)); (case aO => exact (by (with_reducible repeat (first | apply Kd.S_alloc | apply Kd.S_drewN | apply Kd.S_drew)); exact Kd.S_mono HO_5.out (fun k_ hk => ⟨trivial, fun e_ => hk.2 e_⟩))); (case aS => exact (keep_size (w := w) (g := g) (row := none) (by exact kw HK.out))); (case aL => have := LMc56.out; omega); intro v337 w64 ho hb hg hat; rw [← Ny336.out] at ho; have n0_ := Aside0.mk (IsS105.grown (by exact sw105 HI0.out) hg (IsS105.own_neS HI0.out HO_5.out (by decide))); have n1_ := Aside0.mk (below_weaken (by exact bw HB.out) HL.out hb); have n2_ := Aside0.mk (KeepBut.trans (by exact kw HK.out) (KeepBut.of_grown hg g) (Kd.S_base2 HO_5.out)); have n3_ := Aside0.mk (ho); clear HI0; clear HB; clear HK; clear HO_5; clear HO335; have HI0 := n0_; have HB := n1_; have HK := n2_; have HO338 := n3_; clear n0_ n1_ n2_ n3_; clear ho hb hg hat))
         go_ret
         exact ⟨_, by first | rfl | (simp [errW_none, errW_some] <;> rfl) | (simp [*, errW_none, errW_some] <;> rfl), by exact Kd.xS HO338.out, by exact sw105 HI0.out, by exact bw HB.out, by exact kw HK.out⟩
        ·
         rw [if_neg c56] at H
         exact absurd H (by simp)
       ·
        rw [if_neg c53] at H
        have c53b0 : (t315 == 2) = false := beq_eq_false_iff_ne.mpr c53
        have c53b1 : (t315 != 2) = true := bne_iff_ne.mpr c53
        by_cases c65 : 8 ≤ 5864062014805
        ·
         rw [if_pos c65] at H
         have c65b0 := eq_true c65
         have c65b1 : decide (8 ≤ 5864062014805) = true := decide_eq_true c65
         clear c65
         obtain ⟨y339, hy339⟩ : ∃ y_ : List (S43), y_ = (List.replicate 8 z43) := ⟨_, rfl⟩
         replace H : (some (y339, t316)) = some (r1, r2) := by first | (rw [hy339]; with_reducible exact H) | (have H2_ := (Option.bind_some _ _).symm.trans H; rw [hy339]; with_reducible exact H2_) | (have H2_ := (Option.bind_some _ _).symm.trans H; with_reducible exact H2_) | with_reducible exact H | (rw [hy339]; exact H) | exact H
         have Ny339 := Aside0.mk hy339
         clear hy339
         simp only [Option.some.injEq, Prod.mk.injEq] at H
         obtain ⟨rfl, rfl⟩ := H
         go_wp2_with (first | ((with_reducible refine gate_callee (f := 72) rfl ?_); refine gl (some 43) Try.func72 #[.pointer (some ⟨g, 0, none⟩), .int .i64 a1] ?_; (with_reducible refine (spec_l20Rd_odd.calls k1 g s0_0 x1001_1 a1 true t314 w0 _ ?side1 ?side2 A33.out).mono ?_); (case side1 => exact sw105 HI0.out); (case side2 => exact bw HB.out); rintro e w66 ⟨rfl, hi, hb, hk⟩; refine ⟨_, rfl, ?_⟩; have n0_ := Aside0.mk (Kd.S_mono (Kd.S_keep (IsS105.apartS (show IsS105 w0 _ g s0_0 x1001_1 from by exact sw105 HI0.out) (by exact Kd.xS HO_5.out) (by decide)) hk (fun _ h => h.2)) (fun _ h => h.1)); have n1_ := Aside0.mk (KeepBut.trans (by exact kw HK.out) hk (.inl rfl)); have n2_ := Aside0.mk (hb); have n3_ := Aside0.mk (hi); clear HO_5; clear HK; clear HB; clear HI0; have HO_5 := n0_; have HK := n1_; have HB := n2_; have HI0 := n3_; clear n0_ n1_ n2_ n3_; (try clear hb); (try clear hb2); (try clear hk); (try clear hi)) | ((with_reducible refine gate_callee (f := 62) rfl ?_); refine gl (some 45) Try.func62 #[.pointer (some ⟨g, 0, none⟩), .int .i64 4] ?_; (with_reducible refine (spec_l20Rd_pick.calls k1 g s0_0 t314 4 t315 t316 w0 _ ?side1 ?side2 A35.out).mono ?_); (case side1 => exact sw105 HI0.out); (case side2 => exact bw HB.out); rintro e w67 ⟨rfl, hi, hb, hk⟩; refine ⟨_, rfl, ?_⟩; have n0_ := Aside0.mk (Kd.S_mono (Kd.S_keep (IsS105.apartS (show IsS105 w0 _ g s0_0 t314 from by exact sw105 HI0.out) (by exact Kd.xS HO_5.out) (by decide)) hk (fun _ h => h.2)) (fun _ h => h.1)); have n1_ := Aside0.mk (KeepBut.trans (by exact kw HK.out) hk (.inl rfl)); have n2_ := Aside0.mk (hb); have n3_ := Aside0.mk (hi); clear HO_5; clear HK; clear HB; clear HI0; have HO_5 := n0_; have HK := n1_; have HB := n2_; have HI0 := n3_; clear n0_ n1_ n2_ n3_; (try clear hb); (try clear hb2); (try clear hk); (try clear hi)) | ((with_reducible refine gate_dst (N := 46) rfl ?_); refine Kd.S_make k43 _ 43 rfl (N := 46) rfl 37 _ _ rfl 8 rfl rfl Try.underlying37 (.agg #[(.slice none 0 0), (.slice none 0 0)]) 48 info43 rfl (by decide) (by omega) z43 (ok := fun _ => True) (okp := fun _ => True) (k43_mkM _ _ _ z43 (Kd.R_nil _ _ _ _ _) (Kd.R_nil _ _ _ _ _)) (fun _ hk => hk) trivial (by omega) (by omega) (Below.refl _ _) (Nat.le_refl _) ?_; intro v340 w68 ho69 hb hg_ hnew_; clear hg_ hnew_; (first | rw [← Ny339.out] at ho69 | (simp only [Int.reduceToNat] at ho69; rw [← Ny339.out] at ho69)); have n0_ := Aside0.mk (Kd.S_elder' (by exact Kd.xS HO_5.out) (Kd.S_base ho69) hb); have n1_ := Aside0.mk (Kd.S_lower (Kd.S_new' ho69 (Kd.S_lt (by exact Kd.xS HO_5.out))) (keep_size (w := w) (g := g) (row := none) (by exact kw HK.out))); have n2_ := Aside0.mk (IsS105.below (by exact sw105 HI0.out) hb); have n3_ := Aside0.mk (KeepBut.trans (by exact kw HK.out) (KeepBut.of_below hb g none) (.inl rfl)); have n4_ := Aside0.mk (below_step (by exact bw HB.out) hb); clear HO_5; clear HI0; clear HK; clear HB; have HO_5 := n0_; have HO341 := n1_; have HI0 := n2_; have HK := n3_; have HB := n4_; clear n0_ n1_ n2_ n3_ n4_; clear hb ho69))
         go_ret
         exact ⟨_, by first | rfl | (simp [errW_none, errW_some] <;> rfl) | (simp [*, errW_none, errW_some] <;> rfl), by (with_reducible repeat (first | apply Kd.S_alloc | apply Kd.S_drewN | apply Kd.S_drew)); exact Kd.S_mono HO341.out (fun _ hk => trivial), by exact sw105 HI0.out, by exact bw HB.out, by exact kw HK.out⟩
        ·
         rw [if_neg c65] at H
         exact absurd H (by simp)
    ·
     replace c34 := Bool.eq_false_iff.mpr c34
     subst c34
     have H1 : (some (x5_1, t314)) = some (r1, r2) := by rw [if_neg (show ¬ (false = true) by decide)] at H; exact H
     clear H
     have H := H1
     clear H1
     simp only [Option.some.injEq, Prod.mk.injEq] at H
     obtain ⟨rfl, rfl⟩ := H
     go_wp2_with (first | ((with_reducible refine gate_callee (f := 72) rfl ?_); refine gl (some 43) Try.func72 #[.pointer (some ⟨g, 0, none⟩), .int .i64 a1] ?_; (with_reducible refine (spec_l20Rd_odd.calls k1 g s0_0 x1001_1 a1 false t314 w0 _ ?side1 ?side2 A33.out).mono ?_); (case side1 => exact sw105 HI0.out); (case side2 => exact bw HB.out); rintro e w70 ⟨rfl, hi, hb, hk⟩; refine ⟨_, rfl, ?_⟩; have n0_ := Aside0.mk (Kd.S_mono (Kd.S_keep (IsS105.apartS (show IsS105 w0 _ g s0_0 x1001_1 from by exact sw105 HI0.out) (by exact Kd.xS HO_5.out) (by decide)) hk (fun _ h => h.2)) (fun _ h => h.1)); have n1_ := Aside0.mk (KeepBut.trans (by exact kw HK.out) hk (.inl rfl)); have n2_ := Aside0.mk (hb); have n3_ := Aside0.mk (hi); clear HO_5; clear HK; clear HB; clear HI0; have HO_5 := n0_; have HK := n1_; have HB := n2_; have HI0 := n3_; clear n0_ n1_ n2_ n3_; (try clear hb); (try clear hb2); (try clear hk); (try clear hi)))
     go_ret
     exact ⟨_, by first | rfl | (simp [errW_none, errW_some] <;> rfl) | (simp [*, errW_none, errW_some] <;> rfl), by exact Kd.xS HO_5.out, by exact sw105 HI0.out, by exact bw HB.out, by exact kw HK.out⟩

end Go.Proofs.Ytejfaenmgdkaoaa.P
