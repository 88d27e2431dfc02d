-- Written by a program of this session (wip/tool).
import Derived.Test.YtoipfhdlgoaldaaPx0
import Derived.Test.YtoipfhdlgoaldaaPx1031
import Derived.Test.YtoipfhdlgoaldaaPx1041
import Derived.Test.YtoipfhdlgoaldaaPx1042
namespace Go.Proofs.Ytoipfhdlgoaldaa.P
open Go.RowKit Go.Proofs.YtoipfhdlgoaldaaW.PrintWords Go.Proofs.YtoipfhdlgoaldaaW.PrintLast Go.Proofs.YtoipfhdlgoaldaaW.PrintMore
attribute [local go_sem] max2_int min2_int max_two min_two max_three min_three max_four min_four   -- for this text's walks alone
set_option linter.unusedVariables false
set_option linter.unusedSimpArgs false

/-! ### spec_l20Things: function 32 -/
mutual
def spec_l20Things.l0 : Nat → Int → List (S74) → Int → Int → List Int → Int → Option ((List (S74)) × Int)
 | 0, _, _, _, _, _, _ => none
 | k + 1, x1, x5, x6, x7, x1000, x1001 => if x7 < x6 then ((spec_l20Fields.f k x1000 x1001 x6).bind fun bt141 => (spec_l20Things.l1 k x1 x5 x6 x7 0 x1000 bt141.2 (([] : List Int)) bt141.1)) else ((spec_l20Rd_odd.f k x1000 x1001 x1).bind fun bt154 => (if bt154.1 = true then ((spec_l20Rd_pick.f k x1000 bt154.2 4).bind fun bt156 => (if bt156.1 = 0 then (if x5.length < 2932031007402 then (some ((x5 ++ [(⟨(([(x5.length : Int)] : List Int)), ([] : List (S55))⟩ : S74)]), bt156.2)) else (none)) else (if bt156.1 = 1 then (if x5.length < 2932031007402 then (some ((x5 ++ [(⟨([] : List Int), (([(⟨(⟨#[65]⟩ : ByteArray), (⟨0, 0⟩ : S52)⟩ : S55)] : List (S55)))⟩ : S74)]), bt156.2)) else (none)) else (if bt156.1 = 2 then ((spec_TruthOf.f true).bind fun bt170 => ((spec_TruthOf.f true).bind fun bt172 => (if x5.length < 2932031007402 then (some ((x5 ++ [(⟨([] : List Int), (([(⟨(⟨#[97]⟩ : ByteArray), (⟨bt170.1, bt170.2⟩ : S52)⟩ : S55), (⟨(⟨#[97]⟩ : ByteArray), (⟨bt172.1, bt172.2⟩ : S52)⟩ : S55)] : List (S55)))⟩ : S74)]), bt156.2)) else (none)))) else (if 8 ≤ 5864062014805 then (some ((List.replicate 8 z74), bt156.2)) else (none)))))) else (some (x5, bt154.2))))
def spec_l20Things.l1 : Nat → Int → List (S74) → Int → Int → Int → List Int → Int → List Int → List (S55) → Option ((List (S74)) × Int)
 | 0, _, _, _, _, _, _, _, _, _ => none
 | k + 1, x1, x5, x6, x7, x9, x1000, x1001, x146000, x146001 => if x9 < x7 then ((spec_l20Rd_pick.f k x1000 x1001 4).bind fun bt146 => (if bt146.1 = 0 then (if x146000.length < 17592186044416 then (spec_l20Things.l1 k x1 x5 x6 x7 (wrap64 (x9 + 1)) x1000 bt146.2 (x146000 ++ [x9]) x146001) else (none)) else (spec_l20Things.l1 k x1 x5 x6 x7 (wrap64 (x9 + 1)) x1000 bt146.2 x146000 x146001))) else (if x5.length < 2932031007402 then (spec_l20Things.l0 k x1 (x5 ++ [(⟨x146000, x146001⟩ : S74)]) x6 (wrap64 (x7 + 1)) x1000 x1001) else (none))
end
def spec_l20Things.f (k : Nat) (s0_0 : List Int) (s0_1 : Int) (a1 : Int) : Option ((List (S74)) × Int) := (spec_l20Rd_pick.f k s0_0 s0_1 6).bind fun bt136 => (spec_l20Things.l0 k a1 (([] : List (S74))) bt136.1 0 s0_0 bt136.2)
theorem spec_l20Things.mono_l : ∀ k, (∀ y0 y1 y2 y3 y4 y5, LeO (spec_l20Things.l0 k y0 y1 y2 y3 y4 y5) (spec_l20Things.l0 (k + 1) y0 y1 y2 y3 y4 y5)) ∧ (∀ y0 y1 y2 y3 y4 y5 y6 y7 y8, LeO (spec_l20Things.l1 k y0 y1 y2 y3 y4 y5 y6 y7 y8) (spec_l20Things.l1 (k + 1) y0 y1 y2 y3 y4 y5 y6 y7 y8))
 | 0 => ⟨fun _ _ _ _ _ _ r h => by simp [spec_l20Things.l0] at h, fun _ _ _ _ _ _ _ _ _ r h => by simp [spec_l20Things.l1] at h⟩
 | k + 1 => by
  obtain ⟨ih0, ih1⟩ := spec_l20Things.mono_l k
  refine ⟨?_, ?_⟩
  ·
   intro y0 y1 y2 y3 y4 y5
   unfold spec_l20Things.l0
   repeat' first
   | (with_reducible exact ih0 _ _ _ _ _ _)
   | (with_reducible exact ih1 _ _ _ _ _ _ _ _ _)
   | (with_reducible exact spec_l20Fields.mono _ _ _ _)
   | (with_reducible exact spec_l20Rd_odd.mono _ _ _ _)
   | (with_reducible exact spec_l20Rd_pick.mono _ _ _ _)
   | (with_reducible exact LeO.refl _)
   | (with_reducible exact LeO.none _)
   | (with_reducible refine LeO.ite ?_ ?_)
   | (with_reducible refine LeO.bind ?_ (fun _ => ?_))
   | exact ih0 _ _ _ _ _ _
   | exact ih1 _ _ _ _ _ _ _ _ _
   | exact spec_l20Fields.mono _ _ _ _
   | exact spec_l20Rd_odd.mono _ _ _ _
   | exact spec_l20Rd_pick.mono _ _ _ _
   | exact LeO.none _
   | refine LeO.ite ?_ ?_
   | refine LeO.bind ?_ (fun _ => ?_)
  ·
   intro y0 y1 y2 y3 y4 y5 y6 y7 y8
   unfold spec_l20Things.l1
   repeat' first
   | (with_reducible exact ih0 _ _ _ _ _ _)
   | (with_reducible exact ih1 _ _ _ _ _ _ _ _ _)
   | (with_reducible exact spec_l20Fields.mono _ _ _ _)
   | (with_reducible exact spec_l20Rd_odd.mono _ _ _ _)
   | (with_reducible exact spec_l20Rd_pick.mono _ _ _ _)
   | (with_reducible exact LeO.refl _)
   | (with_reducible exact LeO.none _)
   | (with_reducible refine LeO.ite ?_ ?_)
   | (with_reducible refine LeO.bind ?_ (fun _ => ?_))
   | exact ih0 _ _ _ _ _ _
   | exact ih1 _ _ _ _ _ _ _ _ _
   | exact spec_l20Fields.mono _ _ _ _
   | exact spec_l20Rd_odd.mono _ _ _ _
   | exact spec_l20Rd_pick.mono _ _ _ _
   | exact LeO.none _
   | refine LeO.ite ?_ ?_
   | refine LeO.bind ?_ (fun _ => ?_)
theorem spec_l20Things.mono : ∀ a0 a1 a2 k, LeO (spec_l20Things.f k a0 a1 a2) (spec_l20Things.f (k + 1) a0 a1 a2) := by
 intro a0 a1 a2 k
 obtain ⟨ih0, ih1⟩ := spec_l20Things.mono_l k
 unfold spec_l20Things.f
 repeat' first
   | (with_reducible exact ih0 _ _ _ _ _ _)
   | (with_reducible exact ih1 _ _ _ _ _ _ _ _ _)
   | (with_reducible exact spec_l20Fields.mono _ _ _ _)
   | (with_reducible exact spec_l20Rd_odd.mono _ _ _ _)
   | (with_reducible exact spec_l20Rd_pick.mono _ _ _ _)
   | (with_reducible exact LeO.refl _)
   | (with_reducible exact LeO.none _)
   | (with_reducible refine LeO.ite ?_ ?_)
   | (with_reducible refine LeO.bind ?_ (fun _ => ?_))
   | exact ih0 _ _ _ _ _ _
   | exact ih1 _ _ _ _ _ _ _ _ _
   | exact spec_l20Fields.mono _ _ _ _
   | exact spec_l20Rd_odd.mono _ _ _ _
   | exact spec_l20Rd_pick.mono _ _ _ _
   | exact LeO.none _
   | refine LeO.ite ?_ ?_
   | refine LeO.bind ?_ (fun _ => ?_)
set_option maxHeartbeats 8000000 in
set_option maxRecDepth 100000 in
theorem spec_l20Things.calls (k : Nat) (g : Nat) (s0_0 : List Int) (s0_1 : Int) (a1 : Int) (r1 : List (S74)) (r2 : Int) (w0 w : World) (hI : IsS80 w0 w g s0_0 s0_1) (hB : Below w0.heap.size w0 w) (h : spec_l20Things.f k s0_0 s0_1 a1 = some (r1, r2)) :
  Calls Try.prog 32 #[.pointer (some ⟨g, 0, none⟩), .int .i64 a1] w fun e w' => ∃ v0_ : Value, e = .returned (v0_) ∧ Kd.S k74 74 w' w.heap.size (fun _ => True) v0_ r1 ∧ IsS80 w0 w' g s0_0 r2 ∧ Below w0.heap.size w0 w' ∧ KeepBut w w' g none := by
 have hu74 := Try.underlying74
 have hu55 := Try.underlying55
 have HI0 := Aside0.mk hI
 have HK := Aside0.mk (KeepBut.refl w g none)
 have HL := Aside0.mk hB.size
 have HG0 := Aside0.mk (IsS80.ge hI)
 clear hI
 have HW0 := Aside0.mk hB.size
 have HB := Aside0.mk hB
 clear hB
 have H : ((spec_l20Rd_pick.f k s0_0 s0_1 6).bind fun bt136 => (spec_l20Things.l0 k a1 (([] : List (S74))) bt136.1 0 s0_0 bt136.2)) = some (r1, r2) := h
 clear h
 obtain ⟨y133, hy133⟩ : ∃ y_ : List (S74), y_ = (([] : List (S74))) := ⟨_, rfl⟩
 replace H : ((spec_l20Rd_pick.f k s0_0 s0_1 6).bind fun bt136 => (spec_l20Things.l0 k a1 y133 bt136.1 0 s0_0 bt136.2)) = some (r1, r2) := by first | (rw [hy133]; with_reducible exact H) | (have H2_ := (Option.bind_some _ _).symm.trans H; rw [hy133]; with_reducible exact H2_) | (have H2_ := (Option.bind_some _ _).symm.trans H; with_reducible exact H2_) | with_reducible exact H | (rw [hy133]; exact H) | exact H
 have Ny133 := Aside0.mk hy133
 clear hy133
 replace H := Option.bind_eq_some_iff.mp H
 obtain ⟨⟨t136, t137⟩, A30, H⟩ := H
 replace H : (spec_l20Things.l0 k a1 y133 t136 0 s0_0 t137) = some (r1, r2) := H
 have A3 := Aside0.mk A30
 clear A30
 have H' := Aside0.mk H
 clear H
 go_enter Try.func32, Try.ntmps32
 go_wp2_with (first | ((with_reducible refine gate_dst (N := 10) rfl ?_); refine Kd.S_lit k74 _ 74 ?hg (N := 10) ?hd (xs := ([] : List (S74))) (inner := []) (ok := fun _ => True) (okp := fun _ => True) ?hr ?hp (fun _ hk => hk) trivial (Below.refl _ _) (Nat.le_refl _) (by simp) ?_; (case hd => rfl); (case hg => rfl); (case hr => first | (go_simp; done) | (go_simp; rfl)); (case hp => exact (Reps.none _ _)); intro v134 w4 ho5 hb hg_ hnew_; clear hg_ hnew_; (first | rw [← Ny133.out] at ho5 | (simp only [Int.reduceToNat] at ho5; rw [← Ny133.out] at ho5)); have HO135 := Aside0.mk (Kd.S_lower ho5 (kz HK)); replace HI0 := ib80 HI0 hb; replace HK := kTb HK hb; replace HB := bS HB hb; clear hb ho5) | ((with_reducible refine gate_callee (f := 33) rfl ?_); refine gl (some 12) Try.func33 #[.pointer (some ⟨g, 0, none⟩), .int .i64 6] ?_; (with_reducible refine (spec_l20Rd_pick.calls k g s0_0 s0_1 6 t136 t137 w0 _ ?side1 ?side2 A3.out).mono ?_); (case side1 => exact sw80 HI0.out); (case side2 => exact bw HB.out); rintro e w6 ⟨rfl, hi, hb, hk⟩; refine ⟨_, rfl, ?_⟩; replace HO135 := Aside0.mk (Kd.S_mono (Kd.S_keep (IsS80.apartS (show IsS80 w0 _ g s0_0 s0_1 from by exact sw80 HI0.out) (by exact Kd.xS HO135.out) (by decide)) hk (fun _ h => h.2)) (fun _ h => h.1)); replace HK := kT HK hk; replace HB := Aside0.mk (hb); replace HI0 := Aside0.mk (hi); (try clear hb); (try clear hb2); (try clear hk); (try clear hi)))
 go_loopg [5, 7] k (fun kq v5 v7 w' => ∃ (x5_1 : List (S74)) (x7_1 : Int) (x1001_1 : Int), v7 = .int .i64 x7_1 ∧ Aside0 (spec_l20Things.l0 kq a1 x5_1 t136 x7_1 s0_0 x1001_1 = some (r1, r2)) ∧ Aside0 (kq ≤ k) ∧ Aside0 (Kd.S k74 74 w' w.heap.size (fun _ => True) v5 x5_1) ∧ Aside0 (IsS80 w0 w' g s0_0 x1001_1) ∧ Aside0 (KeepBut w w' g none) ∧ Aside0 (Below w0.heap.size w0 w'))
 case atStart => exact ⟨(y133), (0), (t137), (by first | rfl | (simp; done) | (simp [*]; done)), H', ⟨Nat.le_refl _⟩, ⟨by exact Kd.xS HO135.out⟩, ⟨by exact sw80 HI0.out⟩, ⟨by exact kw HK.out⟩, ⟨by exact bw HB.out⟩⟩
 case round =>
  clear H'
  try clear p2
  try clear c3
  obtain ⟨x5_1, x7_1, x1001_1, rfl, HA, HK1, HO_5, HI0, HK, HB⟩ := hrel
  cases gk with
  | zero => exact absurd HA.out (by simp [spec_l20Things.l0])
  | succ k1 =>
   have H := HA.out
   clear HA
   simp only [spec_l20Things.l0] at H
   by_cases c7 : x7_1 < t136
   ·
    rw [if_pos c7] at H; have c7b0 : decide (x7_1 < t136) = true := decide_eq_true c7; clear c7
    obtain ⟨y138, hy138⟩ : ∃ y_ : List Int, y_ = (([] : List Int)) := ⟨_, rfl⟩
    replace H : ((spec_l20Fields.f k1 s0_0 x1001_1 t136).bind fun bt141 => (spec_l20Things.l1 k1 a1 x5_1 t136 x7_1 0 s0_0 bt141.2 y138 bt141.1)) = some (r1, r2) := by first | (rw [hy138]; with_reducible exact H) | (have H2_ := (Option.bind_some _ _).symm.trans H; rw [hy138]; with_reducible exact H2_) | (have H2_ := (Option.bind_some _ _).symm.trans H; with_reducible exact H2_) | with_reducible exact H | (rw [hy138]; exact H) | exact H
    have Ny138 := Aside0.mk hy138
    clear hy138
    replace H := Option.bind_eq_some_iff.mp H
    obtain ⟨⟨t141, t144⟩, A80, H⟩ := H
    replace H : (spec_l20Things.l1 k1 a1 x5_1 t136 x7_1 0 s0_0 t144 y138 t141) = some (r1, r2) := H
    have A8 := Aside0.mk A80
    clear A80
    have H' := Aside0.mk H
    clear H
    go_wp2_with (first | ((with_reducible refine gate_dst (N := 18) rfl ?_); refine Kd.R_lit (Kd.int .i64) _ 3 ?hg (N := 18) ?hd (xs := ([] : List Int)) (inner := []) (ok := fun _ => True) (okp := fun _ => True) ?hr ?hp (fun _ hk => hk) trivial (Below.refl _ _) (Nat.le_refl _) (by simp) ?_; (case hd => rfl); (case hg => rfl); (case hr => first | (go_simp; done) | (go_simp; rfl)); (case hp => exact (Reps.none _ _)); intro v139 w9 ho10 hb hg_ hnew_; clear hg_ hnew_; (first | rw [← Ny138.out] at ho10 | (simp only [Int.reduceToNat] at ho10; rw [← Ny138.out] at ho10)); replace HO_5 := Aside0.mk (Kd.S_elder' (by exact Kd.xS HO_5.out) (Kd.R_base ho10) hb); have HO140 := Aside0.mk (Kd.R_lower ho10 (kz HK)); replace HI0 := ib80 HI0 hb; replace HK := kTb HK hb; replace HB := bS HB hb; clear hb ho10) | ((with_reducible refine gate_callee (f := 41) rfl ?_); refine gl (some 21) Try.func41 #[.pointer (some ⟨g, 0, none⟩), .int .i64 t136] ?_; (with_reducible refine (spec_l20Fields.calls k1 g s0_0 x1001_1 t136 t141 t144 w0 _ ?side1 ?side2 A8.out).mono ?_); (case side1 => exact sw80 HI0.out); (case side2 => exact bw HB.out); rintro e w11 ⟨v142, rfl, ho0, hi, hb, hk⟩; refine ⟨_, rfl, ?_⟩; replace HO_5 := Aside0.mk (Kd.S_mono (Kd.S_told (Kd.S_oldK (IsS80.apartS (show IsS80 w0 _ g s0_0 x1001_1 from by exact sw80 HI0.out) (by exact Kd.xS HO_5.out) (by decide)) hk) (Kd.R_base ho0)) (fun _ h_ => h_.1)); replace HO140 := Aside0.mk (Kd.R_mono (Kd.R_keep (IsS80.apart (show IsS80 w0 _ g s0_0 x1001_1 from by exact sw80 HI0.out) (by exact Kd.xR HO140.out) (by decide)) hk (fun _ h => h.2)) (fun _ h => h.1)); have HO143 := Aside0.mk (Kd.R_lower ho0 (kz HK)); replace HK := kT HK hk; replace HB := Aside0.mk (hb); replace HI0 := Aside0.mk (hi); (try clear hb); (try clear hb2); (try clear hk); (try clear hi); (try clear ho0); obtain ⟨Ao12, co12, eo12⟩ := Kd.R_slice HO143.out; subst eo12; obtain ⟨Ao13, co13, eo13⟩ := Kd.R_slice HO140.out; subst eo13) | ((with_reducible refine gate_dst (N := 8) rfl ?_); refine bx 8 #[.slice none 0 0, .slice none 0 0] 74 ?_; intro gb145 hg w14 hbox hb; replace HO_5 := Aside0.mk (Kd.S_below (Kd.S_elderB (by exact Kd.xS HO_5.out) gb145 (Nat.le_of_eq hg.symm)) hb); replace HO140 := Aside0.mk (Kd.R_below (by exact Kd.xR HO140.out) hb); replace HO143 := Aside0.mk (Kd.R_below (by exact Kd.xR HO143.out) hb); replace HB := bS HB hb; have BK145 := Aside0.mk (hbox); have GW145 := gwK HK hg; have GE145 := gwE HW0 (gwK HK hg); replace HK := kTb HK hb; have NB0_145 := il80 HI0 hg; have NB145_0 := ir80 HI0 hg; replace HI0 := ib80 HI0 hb; clear hb hbox hg; have hnb15 := NB145_0.out; have hnc15 := NB0_145.out; obtain ⟨hcz16_0, hcz16_1⟩ := cs2 BK145.out; obtain ⟨hfz16_0, hfz16_1⟩ := fz2 BK145.out))
    go_loopg [9] k1 (fun kq v9 w' => ∃ (x9_2 : Int) (x1001_2 : Int) (x146000_2 : List Int) (u146000 : Value), v9 = .int .i64 x9_2 ∧ Aside0 (spec_l20Things.l1 kq a1 x5_1 t136 x7_1 x9_2 s0_0 x1001_2 x146000_2 t141 = some (r1, r2)) ∧ Aside0 (kq ≤ k1) ∧ Aside0 (Kd.S k74 74 w' w.heap.size (fun k_ => some k_ ≠ (u146000 : Value).ownBlock ∧ some k_ ≠ ((.slice Ao12 t141.length co12) : Value).ownBlock ∧ k_ ≠ gb145) u5 x5_1) ∧ Aside0 (Kd.R (Kd.int .i64) 3 w' w.heap.size (fun _ => True) u146000 x146000_2) ∧ Aside0 (Kd.R k55 55 w' w.heap.size (fun _ => True) (.slice Ao12 t141.length co12) t141) ∧ Aside0 (w'.heap[gb145]? = some (.cells #[u146000, (.slice Ao12 t141.length co12)] 74 (0, 0))) ∧ Aside0 (IsS80 w0 w' g s0_0 x1001_2) ∧ Aside0 (KeepBut w w' g none) ∧ Aside0 (Below w0.heap.size w0 w'))
    case atStart => exact ⟨(0), (t144), (y138), (.slice Ao13 y138.length co13), (by first | rfl | (simp; done) | (simp [*]; done)), H', ⟨Nat.le_refl _⟩, ⟨by (with_reducible repeat (first | apply Kd.S_alloc | apply Kd.S_drewN | apply Kd.S_drew)); exact Kd.S_mono (Kd.S_far (p := ⟨gb145, 1, none⟩) (Kd.S_far (p := ⟨gb145, 0, none⟩) (Kd.S_mono HO_5.out (fun k_ hk => (⟨hk, okp hk⟩ : _ ∧ k_ ≠ gb145))) (fun _ hk => hk.2) (.slice Ao13 y138.length co13)) (fun _ hk => hk.2) (.slice Ao12 t141.length co12)) (fun _ hk => okp hk)⟩, ⟨by (with_reducible repeat (first | apply Kd.R_alloc | apply Kd.R_drewN | apply Kd.R_drew)); exact Kd.R_mono (Kd.R_far (p := ⟨gb145, 1, none⟩) (Kd.R_far (p := ⟨gb145, 0, none⟩) (Kd.R_types HO140.out BK145.out (by decide)) (fun _ hk => hk.2) (.slice Ao13 y138.length co13)) (fun _ hk => hk.2) (.slice Ao12 t141.length co12)) (fun _ hk => trivial)⟩, ⟨by (with_reducible repeat (first | apply Kd.R_alloc | apply Kd.R_drewN | apply Kd.R_drew)); exact Kd.R_mono (Kd.R_far (p := ⟨gb145, 1, none⟩) (Kd.R_far (p := ⟨gb145, 0, none⟩) (Kd.R_types HO143.out BK145.out (by decide)) (fun _ hk => hk.2) (.slice Ao13 y138.length co13)) (fun _ hk => hk.2) (.slice Ao12 t141.length co12)) (fun _ hk => trivial)⟩, ⟨by (with_reducible repeat (first | refine blk_drewN ?_ _ | refine blk_drew ?_ | refine blk_alloc ?_ _)); refine blk_put (cs := #[.slice Ao13 y138.length co13, .slice none 0 0]) ?_ 1 _ rfl; (with_reducible repeat (first | refine blk_drewN ?_ _ | refine blk_drew ?_ | refine blk_alloc ?_ _)); refine blk_put (cs := #[.slice none 0 0, .slice none 0 0]) ?_ 0 _ rfl; exact bk BK145.out⟩, ⟨by exact sw80 HI0.out⟩, ⟨by exact kw HK.out⟩, ⟨by exact bw HB.out⟩⟩
    case round =>
     clear H'
     try clear c1
     try clear p2
     try clear c3
     try clear c4
     try clear c7
     try clear c7b0
     try clear c15
     try clear hcz16_0
     try clear hcz16_1
     try clear hfz16_0
     try clear hfz16_1
     try clear p2
     obtain ⟨x9_2, x1001_2, x146000_2, u146000, rfl, HA, HK2, HO_5, HO_146000, HO_146001, BK145, HI0, HK, HB⟩ := hrel
     cases gk with
     | zero => exact absurd HA.out (by simp [spec_l20Things.l1])
     | succ k2 =>
      have H := HA.out
      clear HA
      simp only [spec_l20Things.l1] at H
      by_cases c17 : x9_2 < x7_1
      ·
       rw [if_pos c17] at H; have c17b0 : decide (x9_2 < x7_1) = true := decide_eq_true c17; clear c17
       replace H := Option.bind_eq_some_iff.mp H
       obtain ⟨⟨t146, t147⟩, A180, H⟩ := H
       replace H : (if t146 = 0 then (if x146000_2.length < 17592186044416 then (spec_l20Things.l1 k2 a1 x5_1 t136 x7_1 (wrap64 (x9_2 + 1)) s0_0 t147 (x146000_2 ++ [x9_2]) t141) else (none)) else (spec_l20Things.l1 k2 a1 x5_1 t136 x7_1 (wrap64 (x9_2 + 1)) s0_0 t147 x146000_2 t141)) = some (r1, r2) := H
       have A18 := Aside0.mk A180
       clear A180
       by_cases c19 : t146 = 0
       ·
        rw [if_pos c19] at H; obtain ⟨c19b0, c19b1⟩ := eqY c19; clear c19
        by_cases c20 : x146000_2.length < 17592186044416
        ·
         rw [if_pos c20] at H; have LMc20 := Aside0.mk c20; clear c20
         obtain ⟨y148, hy148⟩ : ∃ y_ : List Int, y_ = (x146000_2 ++ [x9_2]) := ⟨_, rfl⟩
         replace H : (spec_l20Things.l1 k2 a1 x5_1 t136 x7_1 (wrap64 (x9_2 + 1)) s0_0 t147 y148 t141) = some (r1, r2) := by first | (rw [hy148]; with_reducible exact H) | (have H2_ := (Option.bind_some _ _).symm.trans H; rw [hy148]; with_reducible exact H2_) | (have H2_ := (Option.bind_some _ _).symm.trans H; with_reducible exact H2_) | with_reducible exact H | (rw [hy148]; exact H) | exact H
         have Ny148 := Aside0.mk hy148
         clear hy148
         have H' := Aside0.mk H
         clear H
         go_wp2_with (first | ((with_reducible refine gate_callee (f := 33) rfl ?_); refine gl (some 29) Try.func33 #[.pointer (some ⟨g, 0, none⟩), .int .i64 4] ?_; (with_reducible refine (spec_l20Rd_pick.calls k2 g s0_0 x1001_2 4 t146 t147 w0 _ ?side1 ?side2 A18.out).mono ?_); (case side1 => exact sw80 HI0.out); (case side2 => exact bw HB.out); rintro e w21 ⟨rfl, hi, hb, hk⟩; refine ⟨_, rfl, ?_⟩; replace HO_5 := Aside0.mk (Kd.S_mono (Kd.S_keep (IsS80.apartS (show IsS80 w0 _ g s0_0 x1001_2 from by exact sw80 HI0.out) (by exact Kd.xS HO_5.out) (by decide)) hk (fun _ h => h.2)) (fun _ h => h.1)); replace HO_146000 := Aside0.mk (Kd.R_mono (Kd.R_keep (IsS80.apart (show IsS80 w0 _ g s0_0 x1001_2 from by exact sw80 HI0.out) (by exact Kd.xR HO_146000.out) (by decide)) hk (fun _ h => h.2)) (fun _ h => h.1)); replace HO_146001 := Aside0.mk (Kd.R_mono (Kd.R_keep (IsS80.apart (show IsS80 w0 _ g s0_0 x1001_2 from by exact sw80 HI0.out) (by exact Kd.xR HO_146001.out) (by decide)) hk (fun _ h => h.2)) (fun _ h => h.1)); replace BK145 := kB hk BK145 NB145_0; replace HK := kT HK hk; replace HB := Aside0.mk (hb); replace HI0 := Aside0.mk (hi); (try clear hb); (try clear hb2); (try clear hk); (try clear hi); have hnb22 := NB145_0.out; have hnc22 := NB0_145.out; obtain ⟨hcz23_0, hcz23_1⟩ := cs2 BK145.out; obtain ⟨hfz23_0, hfz23_1⟩ := fz2 BK145.out) | ((with_reducible refine gate_builtin (b := .append) (xs := #[.tmp 32, .tmp 34]) rfl ?_); at_builtin; refine Kd.R_append (Kd.int .i64) w.heap.size rfl (.tmp 32) (.tmp 34) 31 3 (.int .i64 0) 8 rfl Try.underlying31 info3 rfl (by decide) (by omega) u146000 x146000_2 x9_2 [.int .i64 x9_2] (fun _ => True) (fun _ => False) rfl rfl ?aP (fun _ hk => hk.elim) ?aF ?aO (Below.refl _ _) ?aS ?aL ?_; (case aP => exact rfl); (case aF => exact (fun _ _ => trivial)); (case aO => exact (by exact Kd.xR HO_146000.out)); (case aS => exact (kz HK)); (case aL => have := LMc20.out; omega); intro v149 w24 ho hb hg hat; rw [← Ny148.out] at ho; replace HO_5 := Aside0.mk (Kd.S_after (ok := (fun k_ => some k_ ≠ (.slice Ao12 t141.length co12 : Value).ownBlock ∧ k_ ≠ gb145)) (by (with_reducible repeat (first | apply Kd.S_alloc | apply Kd.S_drewN | apply Kd.S_drew)); exact Kd.S_mono HO_5.out (fun _ hk => okp hk)) hg hat); replace HO_146001 := Aside0.mk (Kd.R_over' (by exact Kd.xR HO_146001.out) (Kd.R_typed (by exact Kd.xR HO_146000.out)) (by decide) hg); replace BK145 := Aside0.mk (blk_grown (g := gb145) (o := .cells #[u146000, .slice Ao12 t141.length co12] 74 (0, 0)) (by exact bk BK145.out) hg (Kd.R_ne HO_146000.out BK145.out (by decide))); replace HI0 := Aside0.mk (IsS80.grown (by exact sw80 HI0.out) hg (IsS80.own_ne HI0.out HO_146000.out (by decide))); replace HB := Aside0.mk (below_weaken (by exact bw HB.out) HL.out hb); replace HK := Aside0.mk (KeepBut.trans (by exact kw HK.out) (KeepBut.of_grown hg g) (Kd.R_base2 HO_146000.out)); have HO150 := Aside0.mk (ho); clear HO_146000; clear ho hb hg hat; obtain ⟨Ao25, co25, eo25⟩ := Kd.R_slice HO150.out; subst eo25; obtain ⟨hcz26_0, hcz26_1⟩ := cs2 BK145.out; obtain ⟨hfz26_0, hfz26_1⟩ := fz2 BK145.out))
         go_roundg k2
         case measure => have := HK1.out; have := HK2.out; omega
         case rel => exact ⟨(wrap64 (x9_2 + 1)), (t147), (y148), (.slice Ao25 y148.length co25), (by first | rfl | (simp; done) | (simp [*]; done)), H', ⟨by have := HK1.out; have := HK2.out; omega⟩, ⟨by (with_reducible repeat (first | apply Kd.S_alloc | apply Kd.S_drewN | apply Kd.S_drew)); exact Kd.S_mono (Kd.S_far (p := ⟨gb145, 0, none⟩) (Kd.S_mono HO_5.out (fun k_ hk => (⟨hk, okp hk⟩ : _ ∧ k_ ≠ gb145))) (fun _ hk => hk.2) (.slice Ao25 y148.length co25)) (fun _ hk => okp hk)⟩, ⟨by (with_reducible repeat (first | apply Kd.R_alloc | apply Kd.R_drewN | apply Kd.R_drew)); exact Kd.R_mono (Kd.R_far (p := ⟨gb145, 0, none⟩) (Kd.R_types HO150.out BK145.out (by decide)) (fun _ hk => hk.2) (.slice Ao25 y148.length co25)) (fun _ hk => trivial)⟩, ⟨by (with_reducible repeat (first | apply Kd.R_alloc | apply Kd.R_drewN | apply Kd.R_drew)); exact Kd.R_mono (Kd.R_far (p := ⟨gb145, 0, none⟩) (Kd.R_types HO_146001.out BK145.out (by decide)) (fun _ hk => hk.2) (.slice Ao25 y148.length co25)) (fun _ hk => trivial)⟩, ⟨by (with_reducible repeat (first | refine blk_drewN ?_ _ | refine blk_drew ?_ | refine blk_alloc ?_ _)); refine blk_put (cs := #[u146000, .slice Ao12 t141.length co12]) ?_ 0 _ rfl; exact bk BK145.out⟩, ⟨by exact sw80 HI0.out⟩, ⟨by exact kw HK.out⟩, ⟨by exact bw HB.out⟩⟩
        ·
         rw [if_neg c20] at H; exact absurd H (by simp)
       ·
        rw [if_neg c19] at H; obtain ⟨c19b0, c19b1⟩ := eqN c19
        have H' := Aside0.mk H
        clear H
        go_wp2_with (first | ((with_reducible refine gate_callee (f := 33) rfl ?_); refine gl (some 29) Try.func33 #[.pointer (some ⟨g, 0, none⟩), .int .i64 4] ?_; (with_reducible refine (spec_l20Rd_pick.calls k2 g s0_0 x1001_2 4 t146 t147 w0 _ ?side1 ?side2 A18.out).mono ?_); (case side1 => exact sw80 HI0.out); (case side2 => exact bw HB.out); rintro e w27 ⟨rfl, hi, hb, hk⟩; refine ⟨_, rfl, ?_⟩; replace HO_5 := Aside0.mk (Kd.S_mono (Kd.S_keep (IsS80.apartS (show IsS80 w0 _ g s0_0 x1001_2 from by exact sw80 HI0.out) (by exact Kd.xS HO_5.out) (by decide)) hk (fun _ h => h.2)) (fun _ h => h.1)); replace HO_146000 := Aside0.mk (Kd.R_mono (Kd.R_keep (IsS80.apart (show IsS80 w0 _ g s0_0 x1001_2 from by exact sw80 HI0.out) (by exact Kd.xR HO_146000.out) (by decide)) hk (fun _ h => h.2)) (fun _ h => h.1)); replace HO_146001 := Aside0.mk (Kd.R_mono (Kd.R_keep (IsS80.apart (show IsS80 w0 _ g s0_0 x1001_2 from by exact sw80 HI0.out) (by exact Kd.xR HO_146001.out) (by decide)) hk (fun _ h => h.2)) (fun _ h => h.1)); replace BK145 := kB hk BK145 NB145_0; replace HK := kT HK hk; replace HB := Aside0.mk (hb); replace HI0 := Aside0.mk (hi); (try clear hb); (try clear hb2); (try clear hk); (try clear hi)))
        go_roundg k2
        case measure => have := HK1.out; have := HK2.out; omega
        case rel => exact ⟨(wrap64 (x9_2 + 1)), (t147), (x146000_2), (u146000), (by first | rfl | (simp; done) | (simp [*]; done)), H', ⟨by have := HK1.out; have := HK2.out; omega⟩, ⟨by exact Kd.xS HO_5.out⟩, ⟨by exact Kd.xR HO_146000.out⟩, ⟨by exact Kd.xR HO_146001.out⟩, ⟨by exact bk BK145.out⟩, ⟨by exact sw80 HI0.out⟩, ⟨by exact kw HK.out⟩, ⟨by exact bw HB.out⟩⟩
      ·
       rw [if_neg c17] at H; have c17b0 : decide (x9_2 < x7_1) = false := decide_eq_false c17; clear c17
       by_cases c28 : x5_1.length < 2932031007402
       ·
        rw [if_pos c28] at H; have LMc28 := Aside0.mk c28; clear c28
        obtain ⟨y151, hy151⟩ : ∃ y_ : List (S74), y_ = (x5_1 ++ [(⟨x146000_2, t141⟩ : S74)]) := ⟨_, rfl⟩
        replace H : (spec_l20Things.l0 k2 a1 y151 t136 (wrap64 (x7_1 + 1)) s0_0 x1001_2) = some (r1, r2) := by first | (rw [hy151]; with_reducible exact H) | (have H2_ := (Option.bind_some _ _).symm.trans H; rw [hy151]; with_reducible exact H2_) | (have H2_ := (Option.bind_some _ _).symm.trans H; with_reducible exact H2_) | with_reducible exact H | (rw [hy151]; exact H) | exact H
        have Ny151 := Aside0.mk hy151
        clear hy151
        have H' := Aside0.mk H
        clear H
        have hnb29 := NB145_0.out
        have hnc29 := NB0_145.out
        have hcz30_0 : wr.cell? ⟨gb145, 0, none⟩ = some (u146000) := (blk_cell BK145.out 0).trans rfl
        have hcz30_1 : wr.cell? ⟨gb145, 1, none⟩ = some (.slice Ao12 t141.length co12) := (blk_cell BK145.out 1).trans rfl
        have hfz30_0 := blk_frozen BK145.out 0
        have hfz30_1 := blk_frozen BK145.out 1
        obtain ⟨Ao32, co32, eo32⟩ := Kd.R_slice HO_146000.out
        subst eo32
        go_wp2_with (first | ((with_reducible refine gate_builtin (b := .append) (xs := #[.tmp 37, .tmp 39]) rfl ?_); at_builtin; refine Kd.S_append k74 w.heap.size rfl (.tmp 37) (.tmp 39) 23 74 (.agg #[(.slice none 0 0), (.slice none 0 0)]) 48 rfl Try.underlying23 info74 rfl (by decide) (by omega) u5 x5_1 (⟨x146000_2, t141⟩ : S74) [.slice Ao32 x146000_2.length co32, .slice Ao12 t141.length co12] (fun k_ => k_ ≠ gb145) (fun k_ => some k_ = (.slice Ao32 x146000_2.length co32 : Value).ownBlock ∨ some k_ = (.slice Ao12 t141.length co12 : Value).ownBlock) rfl rfl ?aP (fun k_ hk_ => hk_.elim (fun h_ => ((Kd.R_mono (ok' := fun k_ => ((fun k_ => k_ ≠ gb145)) k_ ∧ some k_ ≠ (u5 : Value).ownBlock) (Kd.R_types (Kd.R_apart' (HO_146000.out) (Kd.S_typed HO_5.out) (by decide)) BK145.out (by decide)) (fun k_ hk => okp hk))).1 k_ h_.symm) (fun h_ => ((Kd.R_mono (ok' := fun k_ => ((fun k_ => k_ ≠ gb145)) k_ ∧ some k_ ≠ (u5 : Value).ownBlock) (Kd.R_types (Kd.R_apart' (HO_146001.out) (Kd.S_typed HO_5.out) (by decide)) BK145.out (by decide)) (fun k_ hk => okp hk))).1 k_ h_.symm)) ?aF ?aO (Below.refl _ _) ?aS ?aL ?_; (case aP => exact k74_mkM _ _ _ (⟨x146000_2, t141⟩ : S74) (Kd.R_mono (Kd.R_tight rfl (Kd.R_mono (ok' := fun k_ => ((fun k_ => k_ ≠ gb145)) k_ ∧ some k_ ≠ (u5 : Value).ownBlock) (Kd.R_types (Kd.R_apart' (HO_146000.out) (Kd.S_typed HO_5.out) (by decide)) BK145.out (by decide)) (fun k_ hk => okp hk))) (fun _ h_ => Or.inl h_)) (Kd.R_mono (Kd.R_tight rfl (Kd.R_mono (ok' := fun k_ => ((fun k_ => k_ ≠ gb145)) k_ ∧ some k_ ≠ (u5 : Value).ownBlock) (Kd.R_types (Kd.R_apart' (HO_146001.out) (Kd.S_typed HO_5.out) (by decide)) BK145.out (by decide)) (fun k_ hk => okp hk))) (fun _ h_ => Or.inr (h_)))); (case aF => exact (fun k_ hk => Kd.freshB (by exact bk BK145.out) k_ hk)); (case aO => exact (by (with_reducible repeat (first | apply Kd.S_alloc | apply Kd.S_drewN | apply Kd.S_drew)); exact Kd.S_mono HO_5.out (fun k_ hk => ⟨hk.2.2, fun e_ => e_.elim (fun h_ => hk.1 h_) (fun h_ => hk.2.1 h_)⟩))); (case aS => exact (kz HK)); (case aL => have := LMc28.out; omega); intro v152 w31 ho hb hg hat; rw [← Ny151.out] at ho; replace BK145 := Aside0.mk (blk_grown (g := gb145) (o := .cells #[.slice Ao32 x146000_2.length co32, .slice Ao12 t141.length co12] 74 (0, 0)) (by exact bk BK145.out) hg (Kd.S_away HO_5.out (fun _ hk => hk.2.2))); replace HI0 := Aside0.mk (IsS80.grown (by exact sw80 HI0.out) hg (IsS80.own_neS HI0.out HO_5.out (by decide))); replace HB := Aside0.mk (below_weaken (by exact bw HB.out) HL.out hb); replace HK := Aside0.mk (KeepBut.trans (by exact kw HK.out) (KeepBut.of_grown hg g) (Kd.S_base2 HO_5.out)); have HO153 := Aside0.mk (ho); clear HO_5; clear HO_146000; clear HO_146001; clear ho hb hg hat))
        go_roundg k2
        case measure => have := HK1.out; have := HK2.out; omega
        case rel => exact ⟨(y151), (wrap64 (x7_1 + 1)), (x1001_2), (by first | rfl | (simp; done) | (simp [*]; done)), H', ⟨by have := HK1.out; have := HK2.out; omega⟩, ⟨by (with_reducible repeat (first | apply Kd.S_alloc | apply Kd.S_drewN | apply Kd.S_drew)); exact Kd.S_mono HO153.out (fun _ hk => trivial)⟩, ⟨by exact sw80 HI0.out⟩, ⟨by exact kw HK.out⟩, ⟨by exact bw HB.out⟩⟩
       ·
        rw [if_neg c28] at H; exact absurd H (by simp)
   ·
    rw [if_neg c7] at H; have c7b0 : decide (x7_1 < t136) = false := decide_eq_false c7; clear c7
    replace H := Option.bind_eq_some_iff.mp H
    obtain ⟨⟨t154, t155⟩, A330, H⟩ := H
    replace H : (if t154 = true then ((spec_l20Rd_pick.f k1 s0_0 t155 4).bind fun bt156 => (if bt156.1 = 0 then (if x5_1.length < 2932031007402 then (some ((x5_1 ++ [(⟨(([(x5_1.length : Int)] : List Int)), ([] : List (S55))⟩ : S74)]), bt156.2)) else (none)) else (if bt156.1 = 1 then (if x5_1.length < 2932031007402 then (some ((x5_1 ++ [(⟨([] : List Int), (([(⟨(⟨#[65]⟩ : ByteArray), (⟨0, 0⟩ : S52)⟩ : S55)] : List (S55)))⟩ : S74)]), bt156.2)) else (none)) else (if bt156.1 = 2 then ((spec_TruthOf.f true).bind fun bt170 => ((spec_TruthOf.f true).bind fun bt172 => (if x5_1.length < 2932031007402 then (some ((x5_1 ++ [(⟨([] : List Int), (([(⟨(⟨#[97]⟩ : ByteArray), (⟨bt170.1, bt170.2⟩ : S52)⟩ : S55), (⟨(⟨#[97]⟩ : ByteArray), (⟨bt172.1, bt172.2⟩ : S52)⟩ : S55)] : List (S55)))⟩ : S74)]), bt156.2)) else (none)))) else (if 8 ≤ 5864062014805 then (some ((List.replicate 8 z74), bt156.2)) else (none)))))) else (some (x5_1, t155))) = some (r1, r2) := H
    have A33 := Aside0.mk A330
    clear A330
    by_cases c34 : t154 = true
    ·
     subst c34
     have H1 : ((spec_l20Rd_pick.f k1 s0_0 t155 4).bind fun bt156 => (if bt156.1 = 0 then (if x5_1.length < 2932031007402 then (some ((x5_1 ++ [(⟨(([(x5_1.length : Int)] : List Int)), ([] : List (S55))⟩ : S74)]), bt156.2)) else (none)) else (if bt156.1 = 1 then (if x5_1.length < 2932031007402 then (some ((x5_1 ++ [(⟨([] : List Int), (([(⟨(⟨#[65]⟩ : ByteArray), (⟨0, 0⟩ : S52)⟩ : S55)] : List (S55)))⟩ : S74)]), bt156.2)) else (none)) else (if bt156.1 = 2 then ((spec_TruthOf.f true).bind fun bt170 => ((spec_TruthOf.f true).bind fun bt172 => (if x5_1.length < 2932031007402 then (some ((x5_1 ++ [(⟨([] : List Int), (([(⟨(⟨#[97]⟩ : ByteArray), (⟨bt170.1, bt170.2⟩ : S52)⟩ : S55), (⟨(⟨#[97]⟩ : ByteArray), (⟨bt172.1, bt172.2⟩ : S52)⟩ : S55)] : List (S55)))⟩ : S74)]), bt156.2)) else (none)))) else (if 8 ≤ 5864062014805 then (some ((List.replicate 8 z74), bt156.2)) else (none)))))) = some (r1, r2) := by rw [if_pos rfl] at H; exact H
     clear H
     have H := H1
     clear H1
     replace H := Option.bind_eq_some_iff.mp H
     obtain ⟨⟨t156, t157⟩, A350, H⟩ := H
     replace H : (if t156 = 0 then (if x5_1.length < 2932031007402 then (some ((x5_1 ++ [(⟨(([(x5_1.length : Int)] : List Int)), ([] : List (S55))⟩ : S74)]), t157)) else (none)) else (if t156 = 1 then (if x5_1.length < 2932031007402 then (some ((x5_1 ++ [(⟨([] : List Int), (([(⟨(⟨#[65]⟩ : ByteArray), (⟨0, 0⟩ : S52)⟩ : S55)] : List (S55)))⟩ : S74)]), t157)) else (none)) else (if t156 = 2 then ((spec_TruthOf.f true).bind fun bt170 => ((spec_TruthOf.f true).bind fun bt172 => (if x5_1.length < 2932031007402 then (some ((x5_1 ++ [(⟨([] : List Int), (([(⟨(⟨#[97]⟩ : ByteArray), (⟨bt170.1, bt170.2⟩ : S52)⟩ : S55), (⟨(⟨#[97]⟩ : ByteArray), (⟨bt172.1, bt172.2⟩ : S52)⟩ : S55)] : List (S55)))⟩ : S74)]), t157)) else (none)))) else (if 8 ≤ 5864062014805 then (some ((List.replicate 8 z74), t157)) else (none))))) = some (r1, r2) := H
     have A35 := Aside0.mk A350
     clear A350
     by_cases c36 : t156 = 0
     ·
      rw [if_pos c36] at H; obtain ⟨c36b0, c36b1⟩ := eqY c36; clear c36
      obtain ⟨y158, hy158⟩ : ∃ y_ : List Int, y_ = (([(x5_1.length : Int)] : List Int)) := ⟨_, rfl⟩
      replace H : (if x5_1.length < 2932031007402 then (some ((x5_1 ++ [(⟨y158, ([] : List (S55))⟩ : S74)]), t157)) else (none)) = some (r1, r2) := by first | (rw [hy158]; with_reducible exact H) | (have H2_ := (Option.bind_some _ _).symm.trans H; rw [hy158]; with_reducible exact H2_) | (have H2_ := (Option.bind_some _ _).symm.trans H; with_reducible exact H2_) | with_reducible exact H | (rw [hy158]; exact H) | exact H
      have Ny158 := Aside0.mk hy158
      clear hy158
      by_cases c37 : x5_1.length < 2932031007402
      ·
       rw [if_pos c37] at H; have LMc37 := Aside0.mk c37; clear c37
       obtain ⟨y161, hy161⟩ : ∃ y_ : List (S74), y_ = (x5_1 ++ [(⟨y158, ([] : List (S55))⟩ : S74)]) := ⟨_, rfl⟩
       replace H : (some (y161, t157)) = some (r1, r2) := by first | (rw [hy161]; with_reducible exact H) | (have H2_ := (Option.bind_some _ _).symm.trans H; rw [hy161]; with_reducible exact H2_) | (have H2_ := (Option.bind_some _ _).symm.trans H; with_reducible exact H2_) | with_reducible exact H | (rw [hy161]; exact H) | exact H
       have Ny161 := Aside0.mk hy161
       clear hy161
       simp only [Option.some.injEq, Prod.mk.injEq] at H
       obtain ⟨rfl, rfl⟩ := H
       go_wp2_with (first | ((with_reducible refine gate_callee (f := 42) rfl ?_); refine gl (some 43) Try.func42 #[.pointer (some ⟨g, 0, none⟩), .int .i64 a1] ?_; (with_reducible refine (spec_l20Rd_odd.calls k1 g s0_0 x1001_1 a1 true t155 w0 _ ?side1 ?side2 A33.out).mono ?_); (case side1 => exact sw80 HI0.out); (case side2 => exact bw HB.out); rintro e w38 ⟨rfl, hi, hb, hk⟩; refine ⟨_, rfl, ?_⟩; replace HO_5 := Aside0.mk (Kd.S_mono (Kd.S_keep (IsS80.apartS (show IsS80 w0 _ g s0_0 x1001_1 from by exact sw80 HI0.out) (by exact Kd.xS HO_5.out) (by decide)) hk (fun _ h => h.2)) (fun _ h => h.1)); replace HK := kT HK hk; replace HB := Aside0.mk (hb); replace HI0 := Aside0.mk (hi); (try clear hb); (try clear hb2); (try clear hk); (try clear hi)) | ((with_reducible refine gate_callee (f := 33) rfl ?_); refine gl (some 45) Try.func33 #[.pointer (some ⟨g, 0, none⟩), .int .i64 4] ?_; (with_reducible refine (spec_l20Rd_pick.calls k1 g s0_0 t155 4 t156 t157 w0 _ ?side1 ?side2 A35.out).mono ?_); (case side1 => exact sw80 HI0.out); (case side2 => exact bw HB.out); rintro e w39 ⟨rfl, hi, hb, hk⟩; refine ⟨_, rfl, ?_⟩; replace HO_5 := Aside0.mk (Kd.S_mono (Kd.S_keep (IsS80.apartS (show IsS80 w0 _ g s0_0 t155 from by exact sw80 HI0.out) (by exact Kd.xS HO_5.out) (by decide)) hk (fun _ h => h.2)) (fun _ h => h.1)); replace HK := kT HK hk; replace HB := Aside0.mk (hb); replace HI0 := Aside0.mk (hi); (try clear hb); (try clear hb2); (try clear hk); (try clear hi); obtain ⟨Ao40, co40, eo40⟩ := Kd.S_slice HO_5.out; subst eo40) | ((with_reducible refine gate_dst (N := 52) rfl ?_); refine Kd.R_lit (Kd.int .i64) _ 3 ?hg (N := 52) ?hd (xs := ([(x5_1.length : Int)] : List Int)) (inner := [.int .i64 (x5_1.length : Int)]) (ok := fun _ => True) (okp := fun _ => True) ?hr ?hp (fun _ hk => hk) trivial (Below.refl _ _) (Nat.le_refl _) (by simp) ?_; (case hd => rfl); (case hg => rfl); (case hr => first | (go_simp; done) | (go_simp; rfl)); (case hp => exact (Reps.one (show Kd.M (Kd.int .i64) _ _ _ (x5_1.length : Int) [.int .i64 (x5_1.length : Int)] from rfl) (Reps.none _ _))); intro v159 w41 ho42 hb hg_ hnew_; clear hg_ hnew_; (first | rw [← Ny158.out] at ho42 | (simp only [Int.reduceToNat] at ho42; rw [← Ny158.out] at ho42)); replace HO_5 := Aside0.mk (Kd.S_elder' (by exact Kd.xS HO_5.out) (Kd.R_base ho42) hb); have HO160 := Aside0.mk (Kd.R_lower ho42 (kz HK)); replace HI0 := ib80 HI0 hb; replace HK := kTb HK hb; replace HB := bS HB hb; clear hb ho42; obtain ⟨Ao43, co43, eo43⟩ := Kd.R_slice HO160.out; subst eo43) | ((with_reducible refine gate_builtin (b := .append) (xs := #[.tmp 49, .tmp 54]) rfl ?_); at_builtin; refine Kd.S_append k74 w.heap.size rfl (.tmp 49) (.tmp 54) 23 74 (.agg #[(.slice none 0 0), (.slice none 0 0)]) 48 rfl Try.underlying23 info74 rfl (by decide) (by omega) (.slice Ao40 x5_1.length co40) x5_1 (⟨y158, ([] : List (S55))⟩ : S74) [.slice Ao43 y158.length co43, .slice none 0 0] (fun _ => True) (fun k_ => some k_ = (.slice Ao43 y158.length co43 : Value).ownBlock) rfl rfl ?aP (fun k_ hk_ => ((Kd.R_mono (ok' := fun k_ => ((fun _ => True)) k_ ∧ some k_ ≠ (.slice Ao40 x5_1.length co40 : Value).ownBlock) (Kd.R_apart' (HO160.out) (Kd.S_typed HO_5.out) (by decide)) (fun k_ hk => ⟨trivial, hk.2⟩))).1 k_ hk_.symm) ?aF ?aO (Below.refl _ _) ?aS ?aL ?_; (case aP => exact k74_mkM _ _ _ (⟨y158, ([] : List (S55))⟩ : S74) (Kd.R_mono (Kd.R_tight rfl (Kd.R_mono (ok' := fun k_ => ((fun _ => True)) k_ ∧ some k_ ≠ (.slice Ao40 x5_1.length co40 : Value).ownBlock) (Kd.R_apart' (HO160.out) (Kd.S_typed HO_5.out) (by decide)) (fun k_ hk => ⟨trivial, hk.2⟩))) (fun _ h_ => h_)) (Kd.R_nil _ _ _ _ _)); (case aF => exact (fun _ _ => trivial)); (case aO => exact (by (with_reducible repeat (first | apply Kd.S_alloc | apply Kd.S_drewN | apply Kd.S_drew)); exact Kd.S_mono HO_5.out (fun k_ hk => ⟨trivial, fun e_ => hk.2 e_⟩))); (case aS => exact (kz HK)); (case aL => have := LMc37.out; omega); intro v162 w44 ho hb hg hat; rw [← Ny161.out] at ho; replace HI0 := Aside0.mk (IsS80.grown (by exact sw80 HI0.out) hg (IsS80.own_neS HI0.out HO_5.out (by decide))); replace HB := Aside0.mk (below_weaken (by exact bw HB.out) HL.out hb); replace HK := Aside0.mk (KeepBut.trans (by exact kw HK.out) (KeepBut.of_grown hg g) (Kd.S_base2 HO_5.out)); have HO163 := Aside0.mk (ho); clear HO_5; clear HO160; clear ho hb hg hat))
       go_ret
       exact ⟨_, by first | rfl | (simp [errW_none, errW_some] <;> rfl) | (simp [*, errW_none, errW_some] <;> rfl), by exact Kd.xS HO163.out, by exact sw80 HI0.out, by exact bw HB.out, by exact kw HK.out⟩
      ·
       rw [if_neg c37] at H; exact absurd H (by simp)
     ·
      rw [if_neg c36] at H; obtain ⟨c36b0, c36b1⟩ := eqN c36
      by_cases c45 : t156 = 1
      ·
       rw [if_pos c45] at H; obtain ⟨c45b0, c45b1⟩ := eqY c45; clear c45
       obtain ⟨y164, hy164⟩ : ∃ y_ : List (S55), y_ = (([(⟨(⟨#[65]⟩ : ByteArray), (⟨0, 0⟩ : S52)⟩ : S55)] : List (S55))) := ⟨_, rfl⟩
       replace H : (if x5_1.length < 2932031007402 then (some ((x5_1 ++ [(⟨([] : List Int), y164⟩ : S74)]), t157)) else (none)) = some (r1, r2) := by first | (rw [hy164]; with_reducible exact H) | (have H2_ := (Option.bind_some _ _).symm.trans H; rw [hy164]; with_reducible exact H2_) | (have H2_ := (Option.bind_some _ _).symm.trans H; with_reducible exact H2_) | with_reducible exact H | (rw [hy164]; exact H) | exact H
       have Ny164 := Aside0.mk hy164
       clear hy164
       by_cases c46 : x5_1.length < 2932031007402
       ·
        rw [if_pos c46] at H; have LMc46 := Aside0.mk c46; clear c46
        obtain ⟨y167, hy167⟩ : ∃ y_ : List (S74), y_ = (x5_1 ++ [(⟨([] : List Int), y164⟩ : S74)]) := ⟨_, rfl⟩
        replace H : (some (y167, t157)) = some (r1, r2) := by first | (rw [hy167]; with_reducible exact H) | (have H2_ := (Option.bind_some _ _).symm.trans H; rw [hy167]; with_reducible exact H2_) | (have H2_ := (Option.bind_some _ _).symm.trans H; with_reducible exact H2_) | with_reducible exact H | (rw [hy167]; exact H) | exact H
        have Ny167 := Aside0.mk hy167
        clear hy167
        simp only [Option.some.injEq, Prod.mk.injEq] at H
        obtain ⟨rfl, rfl⟩ := H
        go_wp2_with (first | ((with_reducible refine gate_callee (f := 42) rfl ?_); refine gl (some 43) Try.func42 #[.pointer (some ⟨g, 0, none⟩), .int .i64 a1] ?_; (with_reducible refine (spec_l20Rd_odd.calls k1 g s0_0 x1001_1 a1 true t155 w0 _ ?side1 ?side2 A33.out).mono ?_); (case side1 => exact sw80 HI0.out); (case side2 => exact bw HB.out); rintro e w47 ⟨rfl, hi, hb, hk⟩; refine ⟨_, rfl, ?_⟩; replace HO_5 := Aside0.mk (Kd.S_mono (Kd.S_keep (IsS80.apartS (show IsS80 w0 _ g s0_0 x1001_1 from by exact sw80 HI0.out) (by exact Kd.xS HO_5.out) (by decide)) hk (fun _ h => h.2)) (fun _ h => h.1)); replace HK := kT HK hk; replace HB := Aside0.mk (hb); replace HI0 := Aside0.mk (hi); (try clear hb); (try clear hb2); (try clear hk); (try clear hi)) | ((with_reducible refine gate_callee (f := 33) rfl ?_); refine gl (some 45) Try.func33 #[.pointer (some ⟨g, 0, none⟩), .int .i64 4] ?_; (with_reducible refine (spec_l20Rd_pick.calls k1 g s0_0 t155 4 t156 t157 w0 _ ?side1 ?side2 A35.out).mono ?_); (case side1 => exact sw80 HI0.out); (case side2 => exact bw HB.out); rintro e w48 ⟨rfl, hi, hb, hk⟩; refine ⟨_, rfl, ?_⟩; replace HO_5 := Aside0.mk (Kd.S_mono (Kd.S_keep (IsS80.apartS (show IsS80 w0 _ g s0_0 t155 from by exact sw80 HI0.out) (by exact Kd.xS HO_5.out) (by decide)) hk (fun _ h => h.2)) (fun _ h => h.1)); replace HK := kT HK hk; replace HB := Aside0.mk (hb); replace HI0 := Aside0.mk (hi); (try clear hb); (try clear hb2); (try clear hk); (try clear hi)) | ((with_reducible refine gate_dst (N := 60) rfl ?_); refine Kd.R_lit k55 _ 55 ?hg (N := 60) ?hd (xs := ([(⟨(⟨#[65]⟩ : ByteArray), (⟨0, 0⟩ : S52)⟩ : S55)] : List (S55))) (inner := [.string (⟨#[65]⟩ : ByteArray), .int .i64 0, .int .i64 0]) (ok := fun _ => True) (okp := fun _ => True) ?hr ?hp (fun _ hk => hk) trivial (Below.refl _ _) (Nat.le_refl _) (by simp) ?_; (case hd => rfl); (case hg => rfl); (case hr => first | (go_simp; done) | (go_simp; rfl)); (case hp => exact (Reps.c3 (show Kd.M k55 _ _ _ (⟨(⟨#[65]⟩ : ByteArray), (⟨0, 0⟩ : S52)⟩ : S55) [.string (⟨#[65]⟩ : ByteArray), .int .i64 0, .int .i64 0] from (k55_mkM _ _ _ (⟨(⟨#[65]⟩ : ByteArray), (⟨0, 0⟩ : S52)⟩ : S55) )) (Reps.none _ _))); intro v165 w49 ho50 hb hg_ hnew_; clear hg_ hnew_; (first | rw [← Ny164.out] at ho50 | (simp only [Int.reduceToNat] at ho50; rw [← Ny164.out] at ho50)); replace HO_5 := Aside0.mk (Kd.S_elder' (by exact Kd.xS HO_5.out) (Kd.R_base ho50) hb); have HO166 := Aside0.mk (Kd.R_lower ho50 (kz HK)); replace HI0 := ib80 HI0 hb; replace HK := kTb HK hb; replace HB := bS HB hb; clear hb ho50; obtain ⟨Ao51, co51, eo51⟩ := Kd.R_slice HO166.out; subst eo51) | ((with_reducible refine gate_builtin (b := .append) (xs := #[.tmp 58, .tmp 62]) rfl ?_); at_builtin; refine Kd.S_append k74 w.heap.size rfl (.tmp 58) (.tmp 62) 23 74 (.agg #[(.slice none 0 0), (.slice none 0 0)]) 48 rfl Try.underlying23 info74 rfl (by decide) (by omega) u5 x5_1 (⟨([] : List Int), y164⟩ : S74) [.slice none 0 0, .slice Ao51 y164.length co51] (fun _ => True) (fun k_ => some k_ = (.slice Ao51 y164.length co51 : Value).ownBlock) rfl rfl ?aP (fun k_ hk_ => ((Kd.R_mono (ok' := fun k_ => ((fun _ => True)) k_ ∧ some k_ ≠ (u5 : Value).ownBlock) (Kd.R_apart' (HO166.out) (Kd.S_typed HO_5.out) (by decide)) (fun k_ hk => ⟨trivial, hk.2⟩))).1 k_ hk_.symm) ?aF ?aO (Below.refl _ _) ?aS ?aL ?_; (case aP => exact k74_mkM _ _ _ (⟨([] : List Int), y164⟩ : S74) (Kd.R_nil _ _ _ _ _) (Kd.R_mono (Kd.R_tight rfl (Kd.R_mono (ok' := fun k_ => ((fun _ => True)) k_ ∧ some k_ ≠ (u5 : Value).ownBlock) (Kd.R_apart' (HO166.out) (Kd.S_typed HO_5.out) (by decide)) (fun k_ hk => ⟨trivial, hk.2⟩))) (fun _ h_ => h_))); (case aF => exact (fun _ _ => trivial)); (case aO => exact (by (with_reducible repeat (first | apply Kd.S_alloc | apply Kd.S_drewN | apply Kd.S_drew)); exact Kd.S_mono HO_5.out (fun k_ hk => ⟨trivial, fun e_ => hk.2 e_⟩))); (case aS => exact (kz HK)); (case aL => have := LMc46.out; omega); intro v168 w52 ho hb hg hat; rw [← Ny167.out] at ho; replace HI0 := Aside0.mk (IsS80.grown (by exact sw80 HI0.out) hg (IsS80.own_neS HI0.out HO_5.out (by decide))); replace HB := Aside0.mk (below_weaken (by exact bw HB.out) HL.out hb); replace HK := Aside0.mk (KeepBut.trans (by exact kw HK.out) (KeepBut.of_grown hg g) (Kd.S_base2 HO_5.out)); have HO169 := Aside0.mk (ho); clear HO_5; clear HO166; clear ho hb hg hat))
        go_ret
        exact ⟨_, by first | rfl | (simp [errW_none, errW_some] <;> rfl) | (simp [*, errW_none, errW_some] <;> rfl), by exact Kd.xS HO169.out, by exact sw80 HI0.out, by exact bw HB.out, by exact kw HK.out⟩
       ·
        rw [if_neg c46] at H; exact absurd H (by simp)
      ·
       rw [if_neg c45] at H; obtain ⟨c45b0, c45b1⟩ := eqN c45
       by_cases c53 : t156 = 2
       ·
        rw [if_pos c53] at H; obtain ⟨c53b0, c53b1⟩ := eqY c53; clear c53
        replace H := Option.bind_eq_some_iff.mp H
        obtain ⟨⟨t170, t171⟩, A540, H⟩ := H
        replace H : ((spec_TruthOf.f true).bind fun bt172 => (if x5_1.length < 2932031007402 then (some ((x5_1 ++ [(⟨([] : List Int), (([(⟨(⟨#[97]⟩ : ByteArray), (⟨t170, t171⟩ : S52)⟩ : S55), (⟨(⟨#[97]⟩ : ByteArray), (⟨bt172.1, bt172.2⟩ : S52)⟩ : S55)] : List (S55)))⟩ : S74)]), t157)) else (none))) = some (r1, r2) := H
        have A54 := Aside0.mk A540
        clear A540
        replace H := Option.bind_eq_some_iff.mp H
        obtain ⟨⟨t172, t173⟩, A550, H⟩ := H
        replace H : (if x5_1.length < 2932031007402 then (some ((x5_1 ++ [(⟨([] : List Int), (([(⟨(⟨#[97]⟩ : ByteArray), (⟨t170, t171⟩ : S52)⟩ : S55), (⟨(⟨#[97]⟩ : ByteArray), (⟨t172, t173⟩ : S52)⟩ : S55)] : List (S55)))⟩ : S74)]), t157)) else (none)) = some (r1, r2) := H
        have A55 := Aside0.mk A550
        clear A550
        obtain ⟨y174, hy174⟩ : ∃ y_ : List (S55), y_ = (([(⟨(⟨#[97]⟩ : ByteArray), (⟨t170, t171⟩ : S52)⟩ : S55), (⟨(⟨#[97]⟩ : ByteArray), (⟨t172, t173⟩ : S52)⟩ : S55)] : List (S55))) := ⟨_, rfl⟩
        replace H : (if x5_1.length < 2932031007402 then (some ((x5_1 ++ [(⟨([] : List Int), y174⟩ : S74)]), t157)) else (none)) = some (r1, r2) := by first | (rw [hy174]; with_reducible exact H) | (have H2_ := (Option.bind_some _ _).symm.trans H; rw [hy174]; with_reducible exact H2_) | (have H2_ := (Option.bind_some _ _).symm.trans H; with_reducible exact H2_) | with_reducible exact H | (rw [hy174]; exact H) | exact H
        have Ny174 := Aside0.mk hy174
        clear hy174
        by_cases c56 : x5_1.length < 2932031007402
        ·
         rw [if_pos c56] at H; have LMc56 := Aside0.mk c56; clear c56
         obtain ⟨y177, hy177⟩ : ∃ y_ : List (S74), y_ = (x5_1 ++ [(⟨([] : List Int), y174⟩ : S74)]) := ⟨_, rfl⟩
         replace H : (some (y177, t157)) = some (r1, r2) := by first | (rw [hy177]; with_reducible exact H) | (have H2_ := (Option.bind_some _ _).symm.trans H; rw [hy177]; with_reducible exact H2_) | (have H2_ := (Option.bind_some _ _).symm.trans H; with_reducible exact H2_) | with_reducible exact H | (rw [hy177]; exact H) | exact H
         have Ny177 := Aside0.mk hy177
         clear hy177
         simp only [Option.some.injEq, Prod.mk.injEq] at H
         obtain ⟨rfl, rfl⟩ := H
         go_wp2_with (first | ((with_reducible refine gate_callee (f := 42) rfl ?_); refine gl (some 43) Try.func42 #[.pointer (some ⟨g, 0, none⟩), .int .i64 a1] ?_; (with_reducible refine (spec_l20Rd_odd.calls k1 g s0_0 x1001_1 a1 true t155 w0 _ ?side1 ?side2 A33.out).mono ?_); (case side1 => exact sw80 HI0.out); (case side2 => exact bw HB.out); rintro e w57 ⟨rfl, hi, hb, hk⟩; refine ⟨_, rfl, ?_⟩; replace HO_5 := Aside0.mk (Kd.S_mono (Kd.S_keep (IsS80.apartS (show IsS80 w0 _ g s0_0 x1001_1 from by exact sw80 HI0.out) (by exact Kd.xS HO_5.out) (by decide)) hk (fun _ h => h.2)) (fun _ h => h.1)); replace HK := kT HK hk; replace HB := Aside0.mk (hb); replace HI0 := Aside0.mk (hi); (try clear hb); (try clear hb2); (try clear hk); (try clear hi)) | ((with_reducible refine gate_callee (f := 33) rfl ?_); refine gl (some 45) Try.func33 #[.pointer (some ⟨g, 0, none⟩), .int .i64 4] ?_; (with_reducible refine (spec_l20Rd_pick.calls k1 g s0_0 t155 4 t156 t157 w0 _ ?side1 ?side2 A35.out).mono ?_); (case side1 => exact sw80 HI0.out); (case side2 => exact bw HB.out); rintro e w58 ⟨rfl, hi, hb, hk⟩; refine ⟨_, rfl, ?_⟩; replace HO_5 := Aside0.mk (Kd.S_mono (Kd.S_keep (IsS80.apartS (show IsS80 w0 _ g s0_0 t155 from by exact sw80 HI0.out) (by exact Kd.xS HO_5.out) (by decide)) hk (fun _ h => h.2)) (fun _ h => h.1)); replace HK := kT HK hk; replace HB := Aside0.mk (hb); replace HI0 := Aside0.mk (hi); (try clear hb); (try clear hb2); (try clear hk); (try clear hi)) | ((with_reducible refine gate_callee (f := 56) rfl ?_); refine gl (some 67) Try.func56 #[.bool true] ?_; (with_reducible refine (spec_TruthOf.calls true t170 t171 _ A54.out).mono ?_); rintro e w59 ⟨rfl, hb⟩; refine ⟨_, rfl, ?_⟩; replace HO_5 := Aside0.mk (Kd.S_below (by exact Kd.xS HO_5.out) hb); replace HI0 := ib80 HI0 hb; replace HK := kTb HK hb; replace HB := bS HB hb; (try clear hb); (try clear hb2); (try clear hk); (try clear hi)) | ((with_reducible refine gate_callee (f := 56) rfl ?_); refine gl (some 69) Try.func56 #[.bool true] ?_; (with_reducible refine (spec_TruthOf.calls true t172 t173 _ A55.out).mono ?_); rintro e w60 ⟨rfl, hb⟩; refine ⟨_, rfl, ?_⟩; replace HO_5 := Aside0.mk (Kd.S_below (by exact Kd.xS HO_5.out) hb); replace HI0 := ib80 HI0 hb; replace HK := kTb HK hb; replace HB := bS HB hb; (try clear hb); (try clear hb2); (try clear hk); (try clear hi)) | ((with_reducible refine gate_dst (N := 71) rfl ?_); refine Kd.R_lit k55 _ 55 ?hg (N := 71) ?hd (xs := ([(⟨(⟨#[97]⟩ : ByteArray), (⟨t170, t171⟩ : S52)⟩ : S55), (⟨(⟨#[97]⟩ : ByteArray), (⟨t172, t173⟩ : S52)⟩ : S55)] : List (S55))) (inner := [.string (⟨#[97]⟩ : ByteArray), .int .i64 t170, .int .i64 t171, .string (⟨#[97]⟩ : ByteArray), .int .i64 t172, .int .i64 t173]) (ok := fun _ => True) (okp := fun _ => True) ?hr ?hp (fun _ hk => hk) trivial (Below.refl _ _) (Nat.le_refl _) (by simp) ?_; (case hd => rfl); (case hg => rfl); (case hr => first | (go_simp; done) | (go_simp; rfl)); (case hp => exact (Reps.c3 (show Kd.M k55 _ _ _ (⟨(⟨#[97]⟩ : ByteArray), (⟨t170, t171⟩ : S52)⟩ : S55) [.string (⟨#[97]⟩ : ByteArray), .int .i64 t170, .int .i64 t171] from (k55_mkM _ _ _ (⟨(⟨#[97]⟩ : ByteArray), (⟨t170, t171⟩ : S52)⟩ : S55) )) (Reps.c3 (show Kd.M k55 _ _ _ (⟨(⟨#[97]⟩ : ByteArray), (⟨t172, t173⟩ : S52)⟩ : S55) [.string (⟨#[97]⟩ : ByteArray), .int .i64 t172, .int .i64 t173] from (k55_mkM _ _ _ (⟨(⟨#[97]⟩ : ByteArray), (⟨t172, t173⟩ : S52)⟩ : S55) )) (Reps.none _ _)))); intro v175 w61 ho62 hb hg_ hnew_; clear hg_ hnew_; (first | rw [← Ny174.out] at ho62 | (simp only [Int.reduceToNat] at ho62; rw [← Ny174.out] at ho62)); replace HO_5 := Aside0.mk (Kd.S_elder' (by exact Kd.xS HO_5.out) (Kd.R_base ho62) hb); have HO176 := Aside0.mk (Kd.R_lower ho62 (kz HK)); replace HI0 := ib80 HI0 hb; replace HK := kTb HK hb; replace HB := bS HB hb; clear hb ho62; obtain ⟨Ao63, co63, eo63⟩ := Kd.R_slice HO176.out; subst eo63) | ((with_reducible refine gate_builtin (b := .append) (xs := #[.tmp 66, .tmp 73]) rfl ?_); at_builtin; refine Kd.S_append k74 w.heap.size rfl (.tmp 66) (.tmp 73) 23 74 (.agg #[(.slice none 0 0), (.slice none 0 0)]) 48 rfl Try.underlying23 info74 rfl (by decide) (by omega) u5 x5_1 (⟨([] : List Int), y174⟩ : S74) [.slice none 0 0, .slice Ao63 y174.length co63] (fun _ => True) (fun k_ => some k_ = (.slice Ao63 y174.length co63 : Value).ownBlock) rfl rfl ?aP (fun k_ hk_ => ((Kd.R_mono (ok' := fun k_ => ((fun _ => True)) k_ ∧ some k_ ≠ (u5 : Value).ownBlock) (Kd.R_apart' (HO176.out) (Kd.S_typed HO_5.out) (by decide)) (fun k_ hk => ⟨trivial, hk.2⟩))).1 k_ hk_.symm) ?aF ?aO (Below.refl _ _) ?aS ?aL ?_; (case aP => exact k74_mkM _ _ _ (⟨([] : List Int), y174⟩ : S74) (Kd.R_nil _ _ _ _ _) (Kd.R_mono (Kd.R_tight rfl (Kd.R_mono (ok' := fun k_ => ((fun _ => True)) k_ ∧ some k_ ≠ (u5 : Value).ownBlock) (Kd.R_apart' (HO176.out) (Kd.S_typed HO_5.out) (by decide)) (fun k_ hk => ⟨trivial, hk.2⟩))) (fun _ h_ => h_))); (case aF => exact (fun _ _ => trivial)); (case aO => exact (by (with_reducible repeat (first | apply Kd.S_alloc | apply Kd.S_drewN | apply Kd.S_drew)); exact Kd.S_mono HO_5.out (fun k_ hk => ⟨trivial, fun e_ => hk.2 e_⟩))); (case aS => exact (kz HK)); (case aL => have := LMc56.out; omega); intro v178 w64 ho hb hg hat; rw [← Ny177.out] at ho; replace HI0 := Aside0.mk (IsS80.grown (by exact sw80 HI0.out) hg (IsS80.own_neS HI0.out HO_5.out (by decide))); replace HB := Aside0.mk (below_weaken (by exact bw HB.out) HL.out hb); replace HK := Aside0.mk (KeepBut.trans (by exact kw HK.out) (KeepBut.of_grown hg g) (Kd.S_base2 HO_5.out)); have HO179 := Aside0.mk (ho); clear HO_5; clear HO176; clear ho hb hg hat))
         go_ret
         exact ⟨_, by first | rfl | (simp [errW_none, errW_some] <;> rfl) | (simp [*, errW_none, errW_some] <;> rfl), by exact Kd.xS HO179.out, by exact sw80 HI0.out, by exact bw HB.out, by exact kw HK.out⟩
        ·
         rw [if_neg c56] at H; exact absurd H (by simp)
       ·
        rw [if_neg c53] at H; obtain ⟨c53b0, c53b1⟩ := eqN c53
        by_cases c65 : 8 ≤ 5864062014805
        ·
         rw [if_pos c65] at H; have c65b0 := eq_true c65
         have c65b1 : decide (8 ≤ 5864062014805) = true := decide_eq_true c65
         clear c65
         obtain ⟨y180, hy180⟩ : ∃ y_ : List (S74), y_ = (List.replicate 8 z74) := ⟨_, rfl⟩
         replace H : (some (y180, t157)) = some (r1, r2) := by first | (rw [hy180]; with_reducible exact H) | (have H2_ := (Option.bind_some _ _).symm.trans H; rw [hy180]; with_reducible exact H2_) | (have H2_ := (Option.bind_some _ _).symm.trans H; with_reducible exact H2_) | with_reducible exact H | (rw [hy180]; exact H) | exact H
         have Ny180 := Aside0.mk hy180
         clear hy180
         simp only [Option.some.injEq, Prod.mk.injEq] at H
         obtain ⟨rfl, rfl⟩ := H
         go_wp2_with (first | ((with_reducible refine gate_callee (f := 42) rfl ?_); refine gl (some 43) Try.func42 #[.pointer (some ⟨g, 0, none⟩), .int .i64 a1] ?_; (with_reducible refine (spec_l20Rd_odd.calls k1 g s0_0 x1001_1 a1 true t155 w0 _ ?side1 ?side2 A33.out).mono ?_); (case side1 => exact sw80 HI0.out); (case side2 => exact bw HB.out); rintro e w66 ⟨rfl, hi, hb, hk⟩; refine ⟨_, rfl, ?_⟩; replace HO_5 := Aside0.mk (Kd.S_mono (Kd.S_keep (IsS80.apartS (show IsS80 w0 _ g s0_0 x1001_1 from by exact sw80 HI0.out) (by exact Kd.xS HO_5.out) (by decide)) hk (fun _ h => h.2)) (fun _ h => h.1)); replace HK := kT HK hk; replace HB := Aside0.mk (hb); replace HI0 := Aside0.mk (hi); (try clear hb); (try clear hb2); (try clear hk); (try clear hi)) | ((with_reducible refine gate_callee (f := 33) rfl ?_); refine gl (some 45) Try.func33 #[.pointer (some ⟨g, 0, none⟩), .int .i64 4] ?_; (with_reducible refine (spec_l20Rd_pick.calls k1 g s0_0 t155 4 t156 t157 w0 _ ?side1 ?side2 A35.out).mono ?_); (case side1 => exact sw80 HI0.out); (case side2 => exact bw HB.out); rintro e w67 ⟨rfl, hi, hb, hk⟩; refine ⟨_, rfl, ?_⟩; replace HO_5 := Aside0.mk (Kd.S_mono (Kd.S_keep (IsS80.apartS (show IsS80 w0 _ g s0_0 t155 from by exact sw80 HI0.out) (by exact Kd.xS HO_5.out) (by decide)) hk (fun _ h => h.2)) (fun _ h => h.1)); replace HK := kT HK hk; replace HB := Aside0.mk (hb); replace HI0 := Aside0.mk (hi); (try clear hb); (try clear hb2); (try clear hk); (try clear hi)) | ((with_reducible refine gate_dst (N := 46) rfl ?_); refine Kd.S_make k74 _ 74 rfl (N := 46) rfl 23 _ _ rfl 8 rfl rfl Try.underlying23 (.agg #[(.slice none 0 0), (.slice none 0 0)]) 48 info74 rfl (by decide) (by omega) z74 (ok := fun _ => True) (okp := fun _ => True) (k74_mkM _ _ _ z74 (Kd.R_nil _ _ _ _ _) (Kd.R_nil _ _ _ _ _)) (fun _ hk => hk) trivial (by omega) (by omega) (Below.refl _ _) (Nat.le_refl _) ?_; intro v181 w68 ho69 hb hg_ hnew_; clear hg_ hnew_; (first | rw [← Ny180.out] at ho69 | (simp only [Int.reduceToNat] at ho69; rw [← Ny180.out] at ho69)); have HO182 := Aside0.mk (Kd.S_lower (Kd.S_new' ho69 (Kd.S_lt (by exact Kd.xS HO_5.out))) (kz HK)); replace HO_5 := Aside0.mk (Kd.S_elder' (by exact Kd.xS HO_5.out) (Kd.S_base ho69) hb); replace HI0 := ib80 HI0 hb; replace HK := kTb HK hb; replace HB := bS HB hb; clear hb ho69))
         go_ret
         exact ⟨_, by first | rfl | (simp [errW_none, errW_some] <;> rfl) | (simp [*, errW_none, errW_some] <;> rfl), by (with_reducible repeat (first | apply Kd.S_alloc | apply Kd.S_drewN | apply Kd.S_drew)); exact Kd.S_mono HO182.out (fun _ hk => trivial), by exact sw80 HI0.out, by exact bw HB.out, by exact kw HK.out⟩
        ·
         rw [if_neg c65] at H; exact absurd H (by simp)
    ·
     replace c34 := Bool.eq_false_iff.mpr c34
     subst c34
     have H1 : (some (x5_1, t155)) = some (r1, r2) := by rw [if_neg (show ¬ (false = true) by decide)] at H; exact H
     clear H
     have H := H1
     clear H1
     simp only [Option.some.injEq, Prod.mk.injEq] at H
     obtain ⟨rfl, rfl⟩ := H
     go_wp2_with (first | ((with_reducible refine gate_callee (f := 42) rfl ?_); refine gl (some 43) Try.func42 #[.pointer (some ⟨g, 0, none⟩), .int .i64 a1] ?_; (with_reducible refine (spec_l20Rd_odd.calls k1 g s0_0 x1001_1 a1 false t155 w0 _ ?side1 ?side2 A33.out).mono ?_); (case side1 => exact sw80 HI0.out); (case side2 => exact bw HB.out); rintro e w70 ⟨rfl, hi, hb, hk⟩; refine ⟨_, rfl, ?_⟩; replace HO_5 := Aside0.mk (Kd.S_mono (Kd.S_keep (IsS80.apartS (show IsS80 w0 _ g s0_0 x1001_1 from by exact sw80 HI0.out) (by exact Kd.xS HO_5.out) (by decide)) hk (fun _ h => h.2)) (fun _ h => h.1)); replace HK := kT HK hk; replace HB := Aside0.mk (hb); replace HI0 := Aside0.mk (hi); (try clear hb); (try clear hb2); (try clear hk); (try clear hi)))
     go_ret
     exact ⟨_, by first | rfl | (simp [errW_none, errW_some] <;> rfl) | (simp [*, errW_none, errW_some] <;> rfl), by exact Kd.xS HO_5.out, by exact sw80 HI0.out, by exact bw HB.out, by exact kw HK.out⟩

end Go.Proofs.Ytoipfhdlgoaldaa.P
