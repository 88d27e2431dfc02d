-- Written by a program of this session (wip/tool).
import Derived.Test.YtacpkmdnoggmoaaPx0
namespace Go.Proofs.Ytacpkmdnoggmoaa.P
open Go.RowKit Go.Proofs.YtacpkmdnoggmoaaW.PrintWords Go.Proofs.YtacpkmdnoggmoaaW.PrintLast Go.Proofs.YtacpkmdnoggmoaaW.PrintMore
attribute [local go_sem] max2_int min2_int max_two min_two max_three min_three max_four min_four   -- for this text's walks alone
set_option linter.unusedVariables false
set_option linter.unusedSimpArgs false

/-! ### laws_eqKinded: function 84 -/
def laws_eqKinded.f (a0_0 : ByteArray) (a0_1 : Int) (a1_0 : ByteArray) (a1_1 : Int) : Option (Bool) := if a0_0.toList = a1_0.toList then (if a0_1 = a1_1 then (some true) else (some false)) else (some false)
set_option maxHeartbeats 8000000 in
set_option maxRecDepth 100000 in
theorem laws_eqKinded.calls (a0_0 : ByteArray) (a0_1 : Int) (a1_0 : ByteArray) (a1_1 : Int) (r : Bool) (w : World) (h : laws_eqKinded.f a0_0 a0_1 a1_0 a1_1 = some r) :
  Calls Try.prog 84 #[.agg #[.string a0_0, .int .i64 a0_1], .agg #[.string a1_0, .int .i64 a1_1]] w fun e w' => e = .returned (.bool r) ∧ Below w.heap.size w w' := by
 have hu110 := Try.underlying110
 have HB := Aside0.mk (Below.refl w.heap.size w)
 have H : (if a0_0.toList = a1_0.toList then (if a0_1 = a1_1 then (some true) else (some false)) else (some false)) = some r := h
 clear h
 by_cases c3 : a0_0.toList = a1_0.toList
 ·
  rw [if_pos c3] at H; obtain ⟨c3b0, c3b1⟩ := eqY c3; clear c3
  by_cases c4 : a0_1 = a1_1
  ·
   rw [if_pos c4] at H; obtain ⟨c4b0, c4b1⟩ := eqY c4; clear c4
   obtain rfl := Option.some.inj H
   go_enter Try.func84, Try.ntmps84
   go_wp2_with (first | ((with_reducible refine gate_dst (N := 2) rfl ?_); refine bx 2 #[.string a0_0, .int .i64 a0_1] 110 ?_; intro gb494 hg w5 hbox hb; have BK494 := Aside0.mk (hbox); have GW494 := gwB HB hg; have GE494 := gwB HB hg; replace HB := bS HB hb; clear hb hbox hg) | ((with_reducible refine gate_dst (N := 3) rfl ?_); refine bx 3 #[.string a1_0, .int .i64 a1_1] 110 ?_; intro gb495 hg w6 hbox hb; have BK495 := Aside0.mk (hbox); have GW495 := gwB HB hg; have GE495 := gwB HB hg; replace HB := bS HB hb; have NB494_495 := nbL BK494 hg; have NB495_494 := nbR BK494 hg; replace BK494 := bB BK494 hb; clear hb hbox hg; have hnb7 := NB494_495.out; have hnc7 := NB495_494.out; obtain ⟨hcz8_0, hcz8_1⟩ := cs2 BK494.out; obtain ⟨hfz8_0, hfz8_1⟩ := fz2 BK494.out; obtain ⟨hcz9_0, hcz9_1⟩ := cs2 BK495.out; obtain ⟨hfz9_0, hfz9_1⟩ := fz2 BK495.out))
   go_ret
   exact ⟨by first | rfl | (simp [errW_none, errW_some] <;> rfl) | (simp [*, errW_none, errW_some] <;> rfl), by exact bw HB.out⟩
  ·
   rw [if_neg c4] at H; obtain ⟨c4b0, c4b1⟩ := eqN c4
   obtain rfl := Option.some.inj H
   go_enter Try.func84, Try.ntmps84
   go_wp2_with (first | ((with_reducible refine gate_dst (N := 2) rfl ?_); refine bx 2 #[.string a0_0, .int .i64 a0_1] 110 ?_; intro gb494 hg w10 hbox hb; have BK494 := Aside0.mk (hbox); have GW494 := gwB HB hg; have GE494 := gwB HB hg; replace HB := bS HB hb; clear hb hbox hg) | ((with_reducible refine gate_dst (N := 3) rfl ?_); refine bx 3 #[.string a1_0, .int .i64 a1_1] 110 ?_; intro gb495 hg w11 hbox hb; have BK495 := Aside0.mk (hbox); have GW495 := gwB HB hg; have GE495 := gwB HB hg; replace HB := bS HB hb; have NB494_495 := nbL BK494 hg; have NB495_494 := nbR BK494 hg; replace BK494 := bB BK494 hb; clear hb hbox hg; have hnb12 := NB494_495.out; have hnc12 := NB495_494.out; obtain ⟨hcz13_0, hcz13_1⟩ := cs2 BK494.out; obtain ⟨hfz13_0, hfz13_1⟩ := fz2 BK494.out; obtain ⟨hcz14_0, hcz14_1⟩ := cs2 BK495.out; obtain ⟨hfz14_0, hfz14_1⟩ := fz2 BK495.out))
   go_ret
   exact ⟨by first | rfl | (simp [errW_none, errW_some] <;> rfl) | (simp [*, errW_none, errW_some] <;> rfl), by exact bw HB.out⟩
 ·
  rw [if_neg c3] at H; obtain ⟨c3b0, c3b1⟩ := eqN c3
  obtain rfl := Option.some.inj H
  go_enter Try.func84, Try.ntmps84
  go_wp2_with (first | ((with_reducible refine gate_dst (N := 2) rfl ?_); refine bx 2 #[.string a0_0, .int .i64 a0_1] 110 ?_; intro gb494 hg w15 hbox hb; have BK494 := Aside0.mk (hbox); have GW494 := gwB HB hg; have GE494 := gwB HB hg; replace HB := bS HB hb; clear hb hbox hg) | ((with_reducible refine gate_dst (N := 3) rfl ?_); refine bx 3 #[.string a1_0, .int .i64 a1_1] 110 ?_; intro gb495 hg w16 hbox hb; have BK495 := Aside0.mk (hbox); have GW495 := gwB HB hg; have GE495 := gwB HB hg; replace HB := bS HB hb; have NB494_495 := nbL BK494 hg; have NB495_494 := nbR BK494 hg; replace BK494 := bB BK494 hb; clear hb hbox hg; have hnb17 := NB494_495.out; have hnc17 := NB495_494.out; obtain ⟨hcz18_0, hcz18_1⟩ := cs2 BK494.out; obtain ⟨hfz18_0, hfz18_1⟩ := fz2 BK494.out; obtain ⟨hcz19_0, hcz19_1⟩ := cs2 BK495.out; obtain ⟨hfz19_0, hfz19_1⟩ := fz2 BK495.out))
  go_ret
  exact ⟨by first | rfl | (simp [errW_none, errW_some] <;> rfl) | (simp [*, errW_none, errW_some] <;> rfl), by exact bw HB.out⟩

/-! ### laws_eqKindedS: function 66 -/
def laws_eqKindedS.l0 : Nat → List (S110) → List (S110) → Int → Option (Bool)
 | 0, _, _, _ => none
 | k + 1, x0, x1, x5 => if x5 < (x0.length : Int) then (if 0 ≤ x5 then (if x5 < (x1.length : Int) then ((laws_eqKinded.f ((rd_T110 x0 x5).f0) ((rd_T110 x0 x5).f1) ((rd_T110 x1 x5).f0) ((rd_T110 x1 x5).f1)).bind fun t498 => (if t498 = true then (laws_eqKindedS.l0 k x0 x1 (wrap64 (x5 + 1))) else (some false))) else (none)) else (none)) else (some true)
def laws_eqKindedS.f (k : Nat) (l0 : List (S110)) (l1 : List (S110)) : Option (Bool) := if (l0.length : Int) = (l1.length : Int) then (laws_eqKindedS.l0 k l0 l1 0) else (some false)
theorem laws_eqKindedS.mono_l : ∀ k, (∀ y0 y1 y2, LeO (laws_eqKindedS.l0 k y0 y1 y2) (laws_eqKindedS.l0 (k + 1) y0 y1 y2))
 | 0 => fun _ _ _ r h => by simp [laws_eqKindedS.l0] at h
 | k + 1 => by
  have ih0 := laws_eqKindedS.mono_l k
  ·
   intro y0 y1 y2
   unfold laws_eqKindedS.l0
   repeat' first
   | (with_reducible exact ih0 _ _ _)
   | (with_reducible exact LeO.refl _)
   | (with_reducible exact LeO.none _)
   | (with_reducible refine LeO.ite ?_ ?_)
   | (with_reducible refine LeO.bind ?_ (fun _ => ?_))
   | exact ih0 _ _ _
   | exact LeO.none _
   | refine LeO.ite ?_ ?_
   | refine LeO.bind ?_ (fun _ => ?_)
theorem laws_eqKindedS.mono : ∀ a0 a1 k, LeO (laws_eqKindedS.f k a0 a1) (laws_eqKindedS.f (k + 1) a0 a1) := by
 intro a0 a1 k
 have ih0 := laws_eqKindedS.mono_l k
 unfold laws_eqKindedS.f
 repeat' first
   | (with_reducible exact ih0 _ _ _)
   | (with_reducible exact LeO.refl _)
   | (with_reducible exact LeO.none _)
   | (with_reducible refine LeO.ite ?_ ?_)
   | (with_reducible refine LeO.bind ?_ (fun _ => ?_))
   | exact ih0 _ _ _
   | exact LeO.none _
   | refine LeO.ite ?_ ?_
   | refine LeO.bind ?_ (fun _ => ?_)
def laws_eqKindedS.T6 : Bool × List (List Nat × List Nat) := (true, [([], []), ([], []), ([0, 1], [0, 1]), ([2], [2]), ([], []), ([], []), ([4, 5], [4, 5]), ([6], [6]), ([3, 7], [3, 7]), ([8], [8])])
def laws_eqKindedS.B6 : List Nat := [0, 0, 3, 7, 0, 0, 48, 112, 255, 511]
theorem laws_eqKindedS.tab6 : rtab .any (opsOf Try.f66 6) = laws_eqKindedS.T6 := by kernel_rfl
theorem laws_eqKindedS.bits6 : waitsOk laws_eqKindedS.T6.2 laws_eqKindedS.B6 = true := by kernel_rfl
set_option maxHeartbeats 8000000 in
set_option maxRecDepth 100000 in
theorem laws_eqKindedS.calls (k : Nat) (A0 : Option Addr) (c0 : Nat) (l0 : List (S110)) (A1 : Option Addr) (c1 : Nat) (l1 : List (S110)) (r : Bool) (w : World) (hr0 : Kd.C k110 w A0 l0.length l0) (hc0 : l0.length ≤ c0) (hr1 : Kd.C k110 w A1 l1.length l1) (hc1 : l1.length ≤ c1) (h : laws_eqKindedS.f k l0 l1 = some r) :
  Calls Try.prog 66 #[.slice A0 l0.length c0, .slice A1 l1.length c1] w fun e w' => e = .returned (.bool r) ∧ Below w.heap.size w w' := by
 have hu110 := Try.underlying110
 have HR0 := Aside0.mk hr0
 have HC0 := Aside0.mk hc0
 clear hr0 hc0
 have HR1 := Aside0.mk hr1
 have HC1 := Aside0.mk hc1
 clear hr1 hc1
 have HB := Aside0.mk (Below.refl w.heap.size w)
 have H : (if (l0.length : Int) = (l1.length : Int) then (laws_eqKindedS.l0 k l0 l1 0) else (some false)) = some r := h
 clear h
 by_cases c3 : (l0.length : Int) = (l1.length : Int)
 ·
  rw [if_pos c3] at H; obtain ⟨c3b0, c3b1⟩ := eqY c3
  have c3b2 : (l0.length == l1.length) = true := by first | simpa using c3 | (simp at c3 ⊢; omega)
  clear c3
  have H' := Aside0.mk H
  clear H
  go_enter Try.func66, Try.ntmps66
  go_wp2
  go_loopg [5] k (fun kq v5 w' => ∃ (x5_1 : Int), v5 = .int .i64 x5_1 ∧ Aside0 (laws_eqKindedS.l0 kq l0 l1 x5_1 = some r) ∧ Aside0 (kq ≤ k) ∧ Aside0 (Below w.heap.size w w'))
  case atStart => exact ⟨(0), (by first | rfl | (simp; done) | (simp [*]; done)), H', ⟨Nat.le_refl _⟩, ⟨by exact bw HB.out⟩⟩
  case round =>
   clear H'
   try clear c1
   try clear p2
   try clear c3
   try clear c3b0
   try clear c3b1
   try clear c3b2
   obtain ⟨x5_1, rfl, HA, HK1, HB⟩ := hrel
   cases gk with
   | zero => exact absurd HA.out (by simp [laws_eqKindedS.l0])
   | succ k1 =>
    have H := HA.out
    clear HA
    simp only [laws_eqKindedS.l0] at H
    by_cases c4 : x5_1 < (l0.length : Int)
    ·
     rw [if_pos c4] at H; have c4b0 : decide (x5_1 < (l0.length : Int)) = true := decide_eq_true c4; clear c4
     by_cases c5 : 0 ≤ x5_1
     ·
      rw [if_pos c5] at H; have c5b0 : decide (0 ≤ x5_1) = true := decide_eq_true c5; clear c5
      by_cases c6 : x5_1 < (l1.length : Int)
      ·
       rw [if_pos c6] at H; have c6b0 : decide (x5_1 < (l1.length : Int)) = true := decide_eq_true c6; clear c6
       replace H := Option.bind_eq_some_iff.mp H
       obtain ⟨t498, A70, H⟩ := H
       replace H : (if t498 = true then (laws_eqKindedS.l0 k1 l0 l1 (wrap64 (x5_1 + 1))) else (some false)) = some r := H
       have A7 := Aside0.mk A70
       clear A70
       by_cases c8 : t498 = true
       ·
        subst c8
        have H1 : (laws_eqKindedS.l0 k1 l0 l1 (wrap64 (x5_1 + 1))) = some r := by rw [if_pos rfl] at H; exact H
        clear H
        have H := H1
        clear H1
        have H' := Aside0.mk H
        clear H
        try go_wp2
        replace HB := Aside0.mk (below_drew1 HB.out)
        have p496 : 0 ≤ (x5_1 : Int) := of_decide_eq_true (by first | (with_reducible assumption) | assumption)
        have q496 : x5_1 < (l0.length : Int) := of_decide_eq_true (by first | (with_reducible assumption) | assumption)
        obtain ⟨ad496, e496, hx496_0, hx496_1⟩ := at_T110 HR0.out x5_1 p496 q496
        have hw496_1 := hx496_1
        have hw496_0 := hx496_0
        cases e496
        first | replace hx496_0 := (HB.out.cell (World.block_lt_of_cell? w _ hx496_0)).trans hx496_0 | skip
        first | replace hx496_1 := (HB.out.cell (World.block_lt_of_cell? w _ hx496_1)).trans hx496_1 | skip
        replace p496 := eq_true p496
        replace q496 := eq_true q496
        have p497 : 0 ≤ (x5_1 : Int) := of_decide_eq_true (by first | (with_reducible assumption) | assumption)
        have q497 : x5_1 < (l1.length : Int) := of_decide_eq_true (by first | (with_reducible assumption) | assumption)
        obtain ⟨ad497, e497, hx497_0, hx497_1⟩ := at_T110 HR1.out x5_1 p497 q497
        have hw497_1 := hx497_1
        have hw497_0 := hx497_0
        cases e497
        first | replace hx497_0 := (HB.out.cell (World.block_lt_of_cell? w _ hx497_0)).trans hx497_0 | skip
        first | replace hx497_1 := (HB.out.cell (World.block_lt_of_cell? w _ hx497_1)).trans hx497_1 | skip
        replace p497 := eq_true p497
        replace q497 := eq_true q497
        refine start_ (n := 10) (S := fun w' => w'.cell? (ad496.add ((x5_1).toNat * 2)) = some (.string ((rd_T110 l0 x5_1).f0)) ∧ w'.cell? ⟨(ad496.add ((x5_1).toNat * 2)).block, (ad496.add ((x5_1).toNat * 2)).off + 1, none⟩ = some (.int .i64 ((rd_T110 l0 x5_1).f1)) ∧ w'.cell? (ad497.add ((x5_1).toNat * 2)) = some (.string ((rd_T110 l1 x5_1).f0)) ∧ w'.cell? ⟨(ad497.add ((x5_1).toNat * 2)).block, (ad497.add ((x5_1).toNat * 2)).off + 1, none⟩ = some (.int .i64 ((rd_T110 l1 x5_1).f1))) (ds := []) (mB 10 0) (by kernel_rfl) rfl rfl ⟨((HB.out.cell (World.block_lt_of_cell? w _ hw496_0)).trans hw496_0), ((HB.out.cell (World.block_lt_of_cell? w _ hw496_1)).trans hw496_1), ((HB.out.cell (World.block_lt_of_cell? w _ hw497_0)).trans hw497_0), ((HB.out.cell (World.block_lt_of_cell? w _ hw497_1)).trans hw497_1)⟩ (fun hHeld => ?_); refine with_tabW laws_eqKindedS.tab6 laws_eqKindedS.bits6 (fun HT_ HW_ => ?_)
        generalize wr.drew = w9 at HB hx496_0 hx496_1 hx497_0 hx497_1 hHeld ⊢
        refine pn 0 17 HT_.out ?_
        refine pn 1 18 HT_.out ?_
        refine pn 2 19 HT_.out ?_
        refine pn 4 21 HT_.out ?_
        refine pn 5 22 HT_.out ?_
        refine pn 6 23 HT_.out ?_
        refine tk 3 20 HT_.out HW_.out hHeld ?_
        refine tk 7 24 HT_.out HW_.out hHeld ?_
        refine on 8 25 HT_.out (fun K hK => ?_)
        refine gs Try.func84 #[.agg #[.string ((rd_T110 l0 x5_1).f0), .int .i64 ((rd_T110 l0 x5_1).f1)], .agg #[.string ((rd_T110 l1 x5_1).f0), .int .i64 ((rd_T110 l1 x5_1).f1)]] ?_
        with_reducible refine (laws_eqKinded.calls ((rd_T110 l0 x5_1).f0) ((rd_T110 l0 x5_1).f1) ((rd_T110 l1 x5_1).f0) ((rd_T110 l1 x5_1).f1) true _ A7.out).mono ?_
        rintro e w10 ⟨rfl, hb⟩
        refine ⟨_, rfl, ?_⟩
        replace HB := bS HB hb
        (try clear hb)
        (try clear hb2)
        (try clear hk)
        (try clear hi)
        refine hK.out _ _ ⟨((HB.out.cell (World.block_lt_of_cell? w _ hw496_0)).trans hw496_0), ((HB.out.cell (World.block_lt_of_cell? w _ hw496_1)).trans hw496_1), ((HB.out.cell (World.block_lt_of_cell? w _ hw497_0)).trans hw497_0), ((HB.out.cell (World.block_lt_of_cell? w _ hw497_1)).trans hw497_1)⟩ (fun hHeld => ?_)
        clear hK K
        refine nm (some 25) ?_
        refine pn 9 26 HT_.out ?_
        refine done_ (done_of HT_.out (by kernel_rfl)) ?_
        try go_wp2
        go_roundg k1
        case measure => have := HK1.out; omega
        case rel => exact ⟨(wrap64 (x5_1 + 1)), (by first | rfl | (simp; done) | (simp [*]; done)), H', ⟨by have := HK1.out; omega⟩, ⟨by exact bw HB.out⟩⟩
       ·
        replace c8 := Bool.eq_false_iff.mpr c8
        subst c8
        have H1 : (some false) = some r := by rw [if_neg (show ¬ (false = true) by decide)] at H; exact H
        clear H
        have H := H1
        clear H1
        obtain rfl := Option.some.inj H
        try go_wp2
        replace HB := Aside0.mk (below_drew1 HB.out)
        have p496 : 0 ≤ (x5_1 : Int) := of_decide_eq_true (by first | (with_reducible assumption) | assumption)
        have q496 : x5_1 < (l0.length : Int) := of_decide_eq_true (by first | (with_reducible assumption) | assumption)
        obtain ⟨ad496, e496, hx496_0, hx496_1⟩ := at_T110 HR0.out x5_1 p496 q496
        have hw496_1 := hx496_1
        have hw496_0 := hx496_0
        cases e496
        first | replace hx496_0 := (HB.out.cell (World.block_lt_of_cell? w _ hx496_0)).trans hx496_0 | skip
        first | replace hx496_1 := (HB.out.cell (World.block_lt_of_cell? w _ hx496_1)).trans hx496_1 | skip
        replace p496 := eq_true p496
        replace q496 := eq_true q496
        have p497 : 0 ≤ (x5_1 : Int) := of_decide_eq_true (by first | (with_reducible assumption) | assumption)
        have q497 : x5_1 < (l1.length : Int) := of_decide_eq_true (by first | (with_reducible assumption) | assumption)
        obtain ⟨ad497, e497, hx497_0, hx497_1⟩ := at_T110 HR1.out x5_1 p497 q497
        have hw497_1 := hx497_1
        have hw497_0 := hx497_0
        cases e497
        first | replace hx497_0 := (HB.out.cell (World.block_lt_of_cell? w _ hx497_0)).trans hx497_0 | skip
        first | replace hx497_1 := (HB.out.cell (World.block_lt_of_cell? w _ hx497_1)).trans hx497_1 | skip
        replace p497 := eq_true p497
        replace q497 := eq_true q497
        refine start_ (n := 10) (S := fun w' => w'.cell? (ad496.add ((x5_1).toNat * 2)) = some (.string ((rd_T110 l0 x5_1).f0)) ∧ w'.cell? ⟨(ad496.add ((x5_1).toNat * 2)).block, (ad496.add ((x5_1).toNat * 2)).off + 1, none⟩ = some (.int .i64 ((rd_T110 l0 x5_1).f1)) ∧ w'.cell? (ad497.add ((x5_1).toNat * 2)) = some (.string ((rd_T110 l1 x5_1).f0)) ∧ w'.cell? ⟨(ad497.add ((x5_1).toNat * 2)).block, (ad497.add ((x5_1).toNat * 2)).off + 1, none⟩ = some (.int .i64 ((rd_T110 l1 x5_1).f1))) (ds := []) (mB 10 0) (by kernel_rfl) rfl rfl ⟨((HB.out.cell (World.block_lt_of_cell? w _ hw496_0)).trans hw496_0), ((HB.out.cell (World.block_lt_of_cell? w _ hw496_1)).trans hw496_1), ((HB.out.cell (World.block_lt_of_cell? w _ hw497_0)).trans hw497_0), ((HB.out.cell (World.block_lt_of_cell? w _ hw497_1)).trans hw497_1)⟩ (fun hHeld => ?_); refine with_tabW laws_eqKindedS.tab6 laws_eqKindedS.bits6 (fun HT_ HW_ => ?_)
        generalize wr.drew = w11 at HB hx496_0 hx496_1 hx497_0 hx497_1 hHeld ⊢
        refine pn 0 17 HT_.out ?_
        refine pn 1 18 HT_.out ?_
        refine pn 2 19 HT_.out ?_
        refine pn 4 21 HT_.out ?_
        refine pn 5 22 HT_.out ?_
        refine pn 6 23 HT_.out ?_
        refine tk 3 20 HT_.out HW_.out hHeld ?_
        refine tk 7 24 HT_.out HW_.out hHeld ?_
        refine on 8 25 HT_.out (fun K hK => ?_)
        refine gs Try.func84 #[.agg #[.string ((rd_T110 l0 x5_1).f0), .int .i64 ((rd_T110 l0 x5_1).f1)], .agg #[.string ((rd_T110 l1 x5_1).f0), .int .i64 ((rd_T110 l1 x5_1).f1)]] ?_
        with_reducible refine (laws_eqKinded.calls ((rd_T110 l0 x5_1).f0) ((rd_T110 l0 x5_1).f1) ((rd_T110 l1 x5_1).f0) ((rd_T110 l1 x5_1).f1) false _ A7.out).mono ?_
        rintro e w12 ⟨rfl, hb⟩
        refine ⟨_, rfl, ?_⟩
        replace HB := bS HB hb
        (try clear hb)
        (try clear hb2)
        (try clear hk)
        (try clear hi)
        refine hK.out _ _ ⟨((HB.out.cell (World.block_lt_of_cell? w _ hw496_0)).trans hw496_0), ((HB.out.cell (World.block_lt_of_cell? w _ hw496_1)).trans hw496_1), ((HB.out.cell (World.block_lt_of_cell? w _ hw497_0)).trans hw497_0), ((HB.out.cell (World.block_lt_of_cell? w _ hw497_1)).trans hw497_1)⟩ (fun hHeld => ?_)
        clear hK K
        refine nm (some 25) ?_
        refine pn 9 26 HT_.out ?_
        refine done_ (done_of HT_.out (by kernel_rfl)) ?_
        try go_wp2
        go_ret
        exact ⟨by first | rfl | (simp [errW_none, errW_some] <;> rfl) | (simp [*, errW_none, errW_some] <;> rfl), by exact bw HB.out⟩
      ·
       rw [if_neg c6] at H; exact absurd H (by simp)
     ·
      rw [if_neg c5] at H; exact absurd H (by simp)
    ·
     rw [if_neg c4] at H; have c4b0 : decide (x5_1 < (l0.length : Int)) = false := decide_eq_false c4; clear c4
     obtain rfl := Option.some.inj H
     go_wp2
     go_ret
     exact ⟨by first | rfl | (simp [errW_none, errW_some] <;> rfl) | (simp [*, errW_none, errW_some] <;> rfl), by exact bw HB.out⟩
 ·
  rw [if_neg c3] at H; obtain ⟨c3b0, c3b1⟩ := eqN c3
  have c3b2 : (l0.length == l1.length) = false := by first | simpa using c3 | (simp at c3 ⊢; omega)
  obtain rfl := Option.some.inj H
  go_enter Try.func66, Try.ntmps66
  go_wp2
  go_ret
  exact ⟨by first | rfl | (simp [errW_none, errW_some] <;> rfl) | (simp [*, errW_none, errW_some] <;> rfl), by exact bw HB.out⟩

/-! ### laws_eqSchema: function 40 -/
def laws_eqSchema.f (k : Nat) (l0_0 : List (S110)) (l0_1 : List (S110)) (l1_0 : List (S110)) (l1_1 : List (S110)) : Option (Bool) := (laws_eqKindedS.f k l0_0 l1_0).bind fun t501 => (if t501 = true then ((laws_eqKindedS.f k l0_1 l1_1).bind fun t502 => (if t502 = true then (some true) else (some false))) else (some false))
theorem laws_eqSchema.mono : ∀ a0 a1 a2 a3 k, LeO (laws_eqSchema.f k a0 a1 a2 a3) (laws_eqSchema.f (k + 1) a0 a1 a2 a3) := by
 intro a0 a1 a2 a3 k
 unfold laws_eqSchema.f
 repeat' first
   | (with_reducible exact laws_eqKindedS.mono _ _ _)
   | (with_reducible exact LeO.refl _)
   | (with_reducible exact LeO.none _)
   | (with_reducible refine LeO.ite ?_ ?_)
   | (with_reducible refine LeO.bind ?_ (fun _ => ?_))
   | exact laws_eqKindedS.mono _ _ _
   | exact LeO.none _
   | refine LeO.ite ?_ ?_
   | refine LeO.bind ?_ (fun _ => ?_)
set_option maxHeartbeats 8000000 in
set_option maxRecDepth 100000 in
theorem laws_eqSchema.calls (k : Nat) (A0_0 : Option Addr) (c0_0 : Nat) (l0_0 : List (S110)) (A0_1 : Option Addr) (c0_1 : Nat) (l0_1 : List (S110)) (A1_0 : Option Addr) (c1_0 : Nat) (l1_0 : List (S110)) (A1_1 : Option Addr) (c1_1 : Nat) (l1_1 : List (S110)) (r : Bool) (w : World) (hr0_0 : Kd.C k110 w A0_0 l0_0.length l0_0) (hc0_0 : l0_0.length ≤ c0_0) (hr0_1 : Kd.C k110 w A0_1 l0_1.length l0_1) (hc0_1 : l0_1.length ≤ c0_1) (hr1_0 : Kd.C k110 w A1_0 l1_0.length l1_0) (hc1_0 : l1_0.length ≤ c1_0) (hr1_1 : Kd.C k110 w A1_1 l1_1.length l1_1) (hc1_1 : l1_1.length ≤ c1_1) (h : laws_eqSchema.f k l0_0 l0_1 l1_0 l1_1 = some r) :
  Calls Try.prog 40 #[.agg #[.slice A0_0 l0_0.length c0_0, .slice A0_1 l0_1.length c0_1], .agg #[.slice A1_0 l1_0.length c1_0, .slice A1_1 l1_1.length c1_1]] w fun e w' => e = .returned (.bool r) ∧ Below w.heap.size w w' := by
 have hu62 := Try.underlying62
 have HR0_0 := Aside0.mk hr0_0
 have HC0_0 := Aside0.mk hc0_0
 clear hr0_0 hc0_0
 have HR0_1 := Aside0.mk hr0_1
 have HC0_1 := Aside0.mk hc0_1
 clear hr0_1 hc0_1
 have HR1_0 := Aside0.mk hr1_0
 have HC1_0 := Aside0.mk hc1_0
 clear hr1_0 hc1_0
 have HR1_1 := Aside0.mk hr1_1
 have HC1_1 := Aside0.mk hc1_1
 clear hr1_1 hc1_1
 have HB := Aside0.mk (Below.refl w.heap.size w)
 have H : ((laws_eqKindedS.f k l0_0 l1_0).bind fun t501 => (if t501 = true then ((laws_eqKindedS.f k l0_1 l1_1).bind fun t502 => (if t502 = true then (some true) else (some false))) else (some false))) = some r := h
 clear h
 replace H := Option.bind_eq_some_iff.mp H
 obtain ⟨t501, A30, H⟩ := H
 replace H : (if t501 = true then ((laws_eqKindedS.f k l0_1 l1_1).bind fun t502 => (if t502 = true then (some true) else (some false))) else (some false)) = some r := H
 have A3 := Aside0.mk A30
 clear A30
 by_cases c4 : t501 = true
 ·
  subst c4
  have H1 : ((laws_eqKindedS.f k l0_1 l1_1).bind fun t502 => (if t502 = true then (some true) else (some false))) = some r := by rw [if_pos rfl] at H; exact H
  clear H
  have H := H1
  clear H1
  replace H := Option.bind_eq_some_iff.mp H
  obtain ⟨t502, A50, H⟩ := H
  replace H : (if t502 = true then (some true) else (some false)) = some r := H
  have A5 := Aside0.mk A50
  clear A50
  by_cases c6 : t502 = true
  ·
   subst c6
   have H1 : (some true) = some r := by rw [if_pos rfl] at H; exact H
   clear H
   have H := H1
   clear H1
   obtain rfl := Option.some.inj H
   go_enter Try.func40, Try.ntmps40
   go_wp2_with (first | ((with_reducible refine gate_dst (N := 2) rfl ?_); refine bx 2 #[.slice A0_0 l0_0.length c0_0, .slice A0_1 l0_1.length c0_1] 62 ?_; intro gb499 hg w7 hbox hb; have BK499 := Aside0.mk (hbox); have GW499 := gwB HB hg; have GE499 := gwB HB hg; replace HB := bS HB hb; clear hb hbox hg) | ((with_reducible refine gate_dst (N := 3) rfl ?_); refine bx 3 #[.slice A1_0 l1_0.length c1_0, .slice A1_1 l1_1.length c1_1] 62 ?_; intro gb500 hg w8 hbox hb; have BK500 := Aside0.mk (hbox); have GW500 := gwB HB hg; have GE500 := gwB HB hg; replace HB := bS HB hb; have NB499_500 := nbL BK499 hg; have NB500_499 := nbR BK499 hg; replace BK499 := bB BK499 hb; clear hb hbox hg; have hnb9 := NB499_500.out; have hnc9 := NB500_499.out; obtain ⟨hcz10_0, hcz10_1⟩ := cs2 BK499.out; obtain ⟨hfz10_0, hfz10_1⟩ := fz2 BK499.out; obtain ⟨hcz11_0, hcz11_1⟩ := cs2 BK500.out; obtain ⟨hfz11_0, hfz11_1⟩ := fz2 BK500.out) | ((with_reducible refine gate_callee (f := 66) rfl ?_); refine gl (some 9) Try.func66 #[.slice A0_0 l0_0.length c0_0, .slice A1_0 l1_0.length c1_0] ?_; (with_reducible refine (laws_eqKindedS.calls k _ _ l0_0 _ _ l1_0 true _ ?side1 ?side2 ?side3 ?side4 A3.out).mono ?_); (case side1 => repeat (first | exact (Kd.C_below HR0_0.out HB.out) | (with_reducible refine Kd.C_alloc ?_ _) | (with_reducible refine Kd.C_drewN ?_ _) | (with_reducible refine Kd.C_drew ?_))); (case side2 => exact HC0_0.out); (case side3 => repeat (first | exact (Kd.C_below HR1_0.out HB.out) | (with_reducible refine Kd.C_alloc ?_ _) | (with_reducible refine Kd.C_drewN ?_ _) | (with_reducible refine Kd.C_drew ?_))); (case side4 => exact HC1_0.out); rintro e w12 ⟨rfl, hb⟩; refine ⟨_, rfl, ?_⟩; replace BK499 := bB BK499 hb; replace BK500 := bB BK500 hb; replace HB := bS HB hb; (try clear hb); (try clear hb2); (try clear hk); (try clear hi); obtain ⟨hcz13_0, hcz13_1⟩ := cs2 BK499.out; obtain ⟨hfz13_0, hfz13_1⟩ := fz2 BK499.out; obtain ⟨hcz14_0, hcz14_1⟩ := cs2 BK500.out; obtain ⟨hfz14_0, hfz14_1⟩ := fz2 BK500.out) | ((with_reducible refine gate_callee (f := 66) rfl ?_); refine gl (some 15) Try.func66 #[.slice A0_1 l0_1.length c0_1, .slice A1_1 l1_1.length c1_1] ?_; (with_reducible refine (laws_eqKindedS.calls k _ _ l0_1 _ _ l1_1 true _ ?side1 ?side2 ?side3 ?side4 A5.out).mono ?_); (case side1 => repeat (first | exact (Kd.C_below HR0_1.out HB.out) | (with_reducible refine Kd.C_alloc ?_ _) | (with_reducible refine Kd.C_drewN ?_ _) | (with_reducible refine Kd.C_drew ?_))); (case side2 => exact HC0_1.out); (case side3 => repeat (first | exact (Kd.C_below HR1_1.out HB.out) | (with_reducible refine Kd.C_alloc ?_ _) | (with_reducible refine Kd.C_drewN ?_ _) | (with_reducible refine Kd.C_drew ?_))); (case side4 => exact HC1_1.out); rintro e w15 ⟨rfl, hb⟩; refine ⟨_, rfl, ?_⟩; replace BK499 := bB BK499 hb; replace BK500 := bB BK500 hb; replace HB := bS HB hb; (try clear hb); (try clear hb2); (try clear hk); (try clear hi)))
   go_ret
   exact ⟨by first | rfl | (simp [errW_none, errW_some] <;> rfl) | (simp [*, errW_none, errW_some] <;> rfl), by exact bw HB.out⟩
  ·
   replace c6 := Bool.eq_false_iff.mpr c6
   subst c6
   have H1 : (some false) = some r := by rw [if_neg (show ¬ (false = true) by decide)] at H; exact H
   clear H
   have H := H1
   clear H1
   obtain rfl := Option.some.inj H
   go_enter Try.func40, Try.ntmps40
   go_wp2_with (first | ((with_reducible refine gate_dst (N := 2) rfl ?_); refine bx 2 #[.slice A0_0 l0_0.length c0_0, .slice A0_1 l0_1.length c0_1] 62 ?_; intro gb499 hg w16 hbox hb; have BK499 := Aside0.mk (hbox); have GW499 := gwB HB hg; have GE499 := gwB HB hg; replace HB := bS HB hb; clear hb hbox hg) | ((with_reducible refine gate_dst (N := 3) rfl ?_); refine bx 3 #[.slice A1_0 l1_0.length c1_0, .slice A1_1 l1_1.length c1_1] 62 ?_; intro gb500 hg w17 hbox hb; have BK500 := Aside0.mk (hbox); have GW500 := gwB HB hg; have GE500 := gwB HB hg; replace HB := bS HB hb; have NB499_500 := nbL BK499 hg; have NB500_499 := nbR BK499 hg; replace BK499 := bB BK499 hb; clear hb hbox hg; have hnb18 := NB499_500.out; have hnc18 := NB500_499.out; obtain ⟨hcz19_0, hcz19_1⟩ := cs2 BK499.out; obtain ⟨hfz19_0, hfz19_1⟩ := fz2 BK499.out; obtain ⟨hcz20_0, hcz20_1⟩ := cs2 BK500.out; obtain ⟨hfz20_0, hfz20_1⟩ := fz2 BK500.out) | ((with_reducible refine gate_callee (f := 66) rfl ?_); refine gl (some 9) Try.func66 #[.slice A0_0 l0_0.length c0_0, .slice A1_0 l1_0.length c1_0] ?_; (with_reducible refine (laws_eqKindedS.calls k _ _ l0_0 _ _ l1_0 true _ ?side1 ?side2 ?side3 ?side4 A3.out).mono ?_); (case side1 => repeat (first | exact (Kd.C_below HR0_0.out HB.out) | (with_reducible refine Kd.C_alloc ?_ _) | (with_reducible refine Kd.C_drewN ?_ _) | (with_reducible refine Kd.C_drew ?_))); (case side2 => exact HC0_0.out); (case side3 => repeat (first | exact (Kd.C_below HR1_0.out HB.out) | (with_reducible refine Kd.C_alloc ?_ _) | (with_reducible refine Kd.C_drewN ?_ _) | (with_reducible refine Kd.C_drew ?_))); (case side4 => exact HC1_0.out); rintro e w21 ⟨rfl, hb⟩; refine ⟨_, rfl, ?_⟩; replace BK499 := bB BK499 hb; replace BK500 := bB BK500 hb; replace HB := bS HB hb; (try clear hb); (try clear hb2); (try clear hk); (try clear hi); obtain ⟨hcz22_0, hcz22_1⟩ := cs2 BK499.out; obtain ⟨hfz22_0, hfz22_1⟩ := fz2 BK499.out; obtain ⟨hcz23_0, hcz23_1⟩ := cs2 BK500.out; obtain ⟨hfz23_0, hfz23_1⟩ := fz2 BK500.out) | ((with_reducible refine gate_callee (f := 66) rfl ?_); refine gl (some 15) Try.func66 #[.slice A0_1 l0_1.length c0_1, .slice A1_1 l1_1.length c1_1] ?_; (with_reducible refine (laws_eqKindedS.calls k _ _ l0_1 _ _ l1_1 false _ ?side1 ?side2 ?side3 ?side4 A5.out).mono ?_); (case side1 => repeat (first | exact (Kd.C_below HR0_1.out HB.out) | (with_reducible refine Kd.C_alloc ?_ _) | (with_reducible refine Kd.C_drewN ?_ _) | (with_reducible refine Kd.C_drew ?_))); (case side2 => exact HC0_1.out); (case side3 => repeat (first | exact (Kd.C_below HR1_1.out HB.out) | (with_reducible refine Kd.C_alloc ?_ _) | (with_reducible refine Kd.C_drewN ?_ _) | (with_reducible refine Kd.C_drew ?_))); (case side4 => exact HC1_1.out); rintro e w24 ⟨rfl, hb⟩; refine ⟨_, rfl, ?_⟩; replace BK499 := bB BK499 hb; replace BK500 := bB BK500 hb; replace HB := bS HB hb; (try clear hb); (try clear hb2); (try clear hk); (try clear hi)))
   go_ret
   exact ⟨by first | rfl | (simp [errW_none, errW_some] <;> rfl) | (simp [*, errW_none, errW_some] <;> rfl), by exact bw HB.out⟩
 ·
  replace c4 := Bool.eq_false_iff.mpr c4
  subst c4
  have H1 : (some false) = some r := by rw [if_neg (show ¬ (false = true) by decide)] at H; exact H
  clear H
  have H := H1
  clear H1
  obtain rfl := Option.some.inj H
  go_enter Try.func40, Try.ntmps40
  go_wp2_with (first | ((with_reducible refine gate_dst (N := 2) rfl ?_); refine bx 2 #[.slice A0_0 l0_0.length c0_0, .slice A0_1 l0_1.length c0_1] 62 ?_; intro gb499 hg w25 hbox hb; have BK499 := Aside0.mk (hbox); have GW499 := gwB HB hg; have GE499 := gwB HB hg; replace HB := bS HB hb; clear hb hbox hg) | ((with_reducible refine gate_dst (N := 3) rfl ?_); refine bx 3 #[.slice A1_0 l1_0.length c1_0, .slice A1_1 l1_1.length c1_1] 62 ?_; intro gb500 hg w26 hbox hb; have BK500 := Aside0.mk (hbox); have GW500 := gwB HB hg; have GE500 := gwB HB hg; replace HB := bS HB hb; have NB499_500 := nbL BK499 hg; have NB500_499 := nbR BK499 hg; replace BK499 := bB BK499 hb; clear hb hbox hg; have hnb27 := NB499_500.out; have hnc27 := NB500_499.out; obtain ⟨hcz28_0, hcz28_1⟩ := cs2 BK499.out; obtain ⟨hfz28_0, hfz28_1⟩ := fz2 BK499.out; obtain ⟨hcz29_0, hcz29_1⟩ := cs2 BK500.out; obtain ⟨hfz29_0, hfz29_1⟩ := fz2 BK500.out) | ((with_reducible refine gate_callee (f := 66) rfl ?_); refine gl (some 9) Try.func66 #[.slice A0_0 l0_0.length c0_0, .slice A1_0 l1_0.length c1_0] ?_; (with_reducible refine (laws_eqKindedS.calls k _ _ l0_0 _ _ l1_0 false _ ?side1 ?side2 ?side3 ?side4 A3.out).mono ?_); (case side1 => repeat (first | exact (Kd.C_below HR0_0.out HB.out) | (with_reducible refine Kd.C_alloc ?_ _) | (with_reducible refine Kd.C_drewN ?_ _) | (with_reducible refine Kd.C_drew ?_))); (case side2 => exact HC0_0.out); (case side3 => repeat (first | exact (Kd.C_below HR1_0.out HB.out) | (with_reducible refine Kd.C_alloc ?_ _) | (with_reducible refine Kd.C_drewN ?_ _) | (with_reducible refine Kd.C_drew ?_))); (case side4 => exact HC1_0.out); rintro e w30 ⟨rfl, hb⟩; refine ⟨_, rfl, ?_⟩; replace BK499 := bB BK499 hb; replace BK500 := bB BK500 hb; replace HB := bS HB hb; (try clear hb); (try clear hb2); (try clear hk); (try clear hi)))
  go_ret
  exact ⟨by first | rfl | (simp [errW_none, errW_some] <;> rfl) | (simp [*, errW_none, errW_some] <;> rfl), by exact bw HB.out⟩

end Go.Proofs.Ytacpkmdnoggmoaa.P
