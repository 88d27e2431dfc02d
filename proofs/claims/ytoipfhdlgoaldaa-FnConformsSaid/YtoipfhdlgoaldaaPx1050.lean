-- Written by a program of this session (wip/tool).
import Derived.Test.YtoipfhdlgoaldaaPx0
import Derived.Test.YtoipfhdlgoaldaaPx1026
namespace Go.Proofs.Ytoipfhdlgoaldaa.P
open Go.RowKit Go.Proofs.YtoipfhdlgoaldaaW.PrintWords Go.Proofs.YtoipfhdlgoaldaaW.PrintLast Go.Proofs.YtoipfhdlgoaldaaW.PrintMore
attribute [local go_sem] max2_int min2_int max_two min_two max_three min_three max_four min_four   -- for this text's walks alone
set_option linter.unusedVariables false
set_option linter.unusedSimpArgs false

/-! ### impl_conform: function 50 -/
def impl_conform.l0 : Nat → List (S77) → List (S55) → Int → Int → Option (Bool)
 | 0, _, _, _, _ => none
 | k + 1, x0, x7, x8, x9 => if x9 < x8 then (if 0 ≤ x9 then (if x9 < (x7.length : Int) then ((impl_kindIn.f k x0 ((rd_T55 x7 x9).f0)).bind fun t551 => (if t551 = ((rd_T55 x7 x9).f1.f0) then (impl_conform.l0 k x0 x7 x8 (wrap64 (x9 + 1))) else (some false))) else (none)) else (none)) else (some true)
def impl_conform.f (k : Nat) (l0 : List (S77)) (l1 : List (S55)) : Option (Bool) := impl_conform.l0 k l0 l1 (l1.length : Int) 0
theorem impl_conform.mono_l : ∀ k, (∀ y0 y1 y2 y3, LeO (impl_conform.l0 k y0 y1 y2 y3) (impl_conform.l0 (k + 1) y0 y1 y2 y3))
 | 0 => fun _ _ _ _ r h => by simp [impl_conform.l0] at h
 | k + 1 => by
  have ih0 := impl_conform.mono_l k
  ·
   intro y0 y1 y2 y3
   unfold impl_conform.l0
   repeat' first
   | (with_reducible exact ih0 _ _ _ _)
   | (with_reducible exact impl_kindIn.mono _ _ _)
   | (with_reducible exact LeO.refl _)
   | (with_reducible exact LeO.none _)
   | (with_reducible refine LeO.ite ?_ ?_)
   | (with_reducible refine LeO.bind ?_ (fun _ => ?_))
   | exact ih0 _ _ _ _
   | exact impl_kindIn.mono _ _ _
   | exact LeO.none _
   | refine LeO.ite ?_ ?_
   | refine LeO.bind ?_ (fun _ => ?_)
theorem impl_conform.mono : ∀ a0 a1 k, LeO (impl_conform.f k a0 a1) (impl_conform.f (k + 1) a0 a1) := by
 intro a0 a1 k
 have ih0 := impl_conform.mono_l k
 unfold impl_conform.f
 repeat' first
   | (with_reducible exact ih0 _ _ _ _)
   | (with_reducible exact impl_kindIn.mono _ _ _)
   | (with_reducible exact LeO.refl _)
   | (with_reducible exact LeO.none _)
   | (with_reducible refine LeO.ite ?_ ?_)
   | (with_reducible refine LeO.bind ?_ (fun _ => ?_))
   | exact ih0 _ _ _ _
   | exact impl_kindIn.mono _ _ _
   | exact LeO.none _
   | refine LeO.ite ?_ ?_
   | refine LeO.bind ?_ (fun _ => ?_)
def impl_conform.T4 : Bool × List (List Nat × List Nat) := (true, [([], []), ([], []), ([1], [1]), ([0, 2], [0, 2]), ([], []), ([4], [4]), ([5], [5]), ([3, 6], [3, 6])])
def impl_conform.B4 : List Nat := [0, 0, 2, 7, 0, 16, 48, 127]
theorem impl_conform.tab4 : rtab .any (opsOf Try.f50 4) = impl_conform.T4 := by kernel_rfl
theorem impl_conform.bits4 : waitsOk impl_conform.T4.2 impl_conform.B4 = true := by kernel_rfl
set_option maxHeartbeats 8000000 in
set_option maxRecDepth 100000 in
theorem impl_conform.calls (k : Nat) (A0 : Option Addr) (c0 : Nat) (l0 : List (S77)) (A1 : Option Addr) (c1 : Nat) (l1 : List (S55)) (r : Bool) (w : World) (hr0 : Kd.C k77 w A0 l0.length l0) (hc0 : l0.length ≤ c0) (hr1 : Kd.C k55 w A1 l1.length l1) (hc1 : l1.length ≤ c1) (h : impl_conform.f k l0 l1 = some r) :
  Calls Try.prog 50 #[.slice A0 l0.length c0, .slice A1 l1.length c1] w fun e w' => e = .returned (.bool r) ∧ Below w.heap.size w w' := by
 have hu55 := Try.underlying55
 have HR0 := Aside0.mk hr0
 have HC0 := Aside0.mk hc0
 clear hr0 hc0
 have HR1 := Aside0.mk hr1
 have HC1 := Aside0.mk hc1
 clear hr1 hc1
 have HB := Aside0.mk (Below.refl w.heap.size w)
 have H : (impl_conform.l0 k l0 l1 (l1.length : Int) 0) = some r := h
 clear h
 have H' := Aside0.mk H
 clear H
 go_enter Try.func50, Try.ntmps50
 go_wp2
 go_loopg [9] k (fun kq v9 w' => ∃ (x9_1 : Int), v9 = .int .i64 x9_1 ∧ Aside0 (impl_conform.l0 kq l0 l1 (l1.length : Int) x9_1 = some r) ∧ Aside0 (kq ≤ k) ∧ Aside0 (Below w.heap.size w w'))
 case atStart => exact ⟨(0), (by first | rfl | (simp; done) | (simp [*]; done)), H', ⟨Nat.le_refl _⟩, ⟨by exact bw HB.out⟩⟩
 case round =>
  clear H'
  try clear c1
  try clear p2
  obtain ⟨x9_1, rfl, HA, HK1, HB⟩ := hrel
  cases gk with
  | zero => exact absurd HA.out (by simp [impl_conform.l0])
  | succ k1 =>
   have H := HA.out
   clear HA
   simp only [impl_conform.l0] at H
   by_cases c3 : x9_1 < (l1.length : Int)
   ·
    rw [if_pos c3] at H; have c3b0 : decide (x9_1 < (l1.length : Int)) = true := decide_eq_true c3; clear c3
    by_cases c4 : 0 ≤ x9_1
    ·
     rw [if_pos c4] at H; have c4b0 : decide (0 ≤ x9_1) = true := decide_eq_true c4; clear c4
     by_cases c5 : x9_1 < (l1.length : Int)
     ·
      rw [if_pos c5] at H; have c5b0 : decide (x9_1 < (l1.length : Int)) = true := decide_eq_true c5; clear c5
      replace H := Option.bind_eq_some_iff.mp H
      obtain ⟨t551, A60, H⟩ := H
      replace H : (if t551 = ((rd_T55 l1 x9_1).f1.f0) then (impl_conform.l0 k1 l0 l1 (l1.length : Int) (wrap64 (x9_1 + 1))) else (some false)) = some r := H
      have A6 := Aside0.mk A60
      clear A60
      by_cases c7 : t551 = ((rd_T55 l1 x9_1).f1.f0)
      ·
       rw [if_pos c7] at H; obtain ⟨c7b0, c7b1⟩ := eqY c7; clear c7
       have H' := Aside0.mk H
       clear H
       have p549 : 0 ≤ (x9_1 : Int) := of_decide_eq_true (by first | (with_reducible assumption) | assumption)
       have q549 : x9_1 < (l1.length : Int) := of_decide_eq_true (by first | (with_reducible assumption) | assumption)
       obtain ⟨ad549, e549, hx549_0, hx549_1, hx549_2⟩ := at_T55 HR1.out x9_1 p549 q549
       cases e549
       first | replace hx549_0 := (HB.out.cell (World.block_lt_of_cell? w _ hx549_0)).trans hx549_0 | skip
       first | replace hx549_1 := (HB.out.cell (World.block_lt_of_cell? w _ hx549_1)).trans hx549_1 | skip
       first | replace hx549_2 := (HB.out.cell (World.block_lt_of_cell? w _ hx549_2)).trans hx549_2 | skip
       replace p549 := eq_true p549
       replace q549 := eq_true q549
       try go_wp2_with (first | ((with_reducible refine gate_dst (N := 6) rfl ?_); refine bx 6 #[.string (⟨#[]⟩ : ByteArray), .int .i64 0, .int .i64 0] 55 ?_; intro gb550 hg w8 hbox hb; have BK550 := Aside0.mk (hbox); have GW550 := gwB HB hg; have GE550 := gwB HB hg; replace HB := bS HB hb; clear hb hbox hg; obtain ⟨hcz9_0, hcz9_1, hcz9_2⟩ := cs3 BK550.out; obtain ⟨hfz9_0, hfz9_1, hfz9_2⟩ := fz3 BK550.out))
       have n0_ : Aside0 ((((w8.setCell ⟨gb550, 0, none⟩ (.string ((rd_T55 l1 x9_1).f0))).setCell ⟨gb550, 1, none⟩ (.int .i64 ((rd_T55 l1 x9_1).f1.f0))).setCell ⟨gb550, 2, none⟩ (.int .i64 ((rd_T55 l1 x9_1).f1.f1))).heap[gb550]? = some (.cells #[.string ((rd_T55 l1 x9_1).f0), .int .i64 ((rd_T55 l1 x9_1).f1.f0), .int .i64 ((rd_T55 l1 x9_1).f1.f1)] 55 (0, 0))) := ⟨by (with_reducible repeat (first | refine blk_drewN ?_ _ | refine blk_drew ?_ | refine blk_alloc ?_ _)); refine blk_put (cs := #[.string ((rd_T55 l1 x9_1).f0), .int .i64 ((rd_T55 l1 x9_1).f1.f0), .int .i64 0]) ?_ 2 _ rfl; (with_reducible repeat (first | refine blk_drewN ?_ _ | refine blk_drew ?_ | refine blk_alloc ?_ _)); refine blk_put (cs := #[.string ((rd_T55 l1 x9_1).f0), .int .i64 0, .int .i64 0]) ?_ 1 _ rfl; (with_reducible repeat (first | refine blk_drewN ?_ _ | refine blk_drew ?_ | refine blk_alloc ?_ _)); refine blk_put (cs := #[.string (⟨#[]⟩ : ByteArray), .int .i64 0, .int .i64 0]) ?_ 0 _ rfl; exact bk BK550.out⟩
       have n1_ : Aside0 (Below w.heap.size w (((w8.setCell ⟨gb550, 0, none⟩ (.string ((rd_T55 l1 x9_1).f0))).setCell ⟨gb550, 1, none⟩ (.int .i64 ((rd_T55 l1 x9_1).f1.f0))).setCell ⟨gb550, 2, none⟩ (.int .i64 ((rd_T55 l1 x9_1).f1.f1)))) := ⟨by exact bw HB.out⟩
       (try clear BK550)
       (try clear HB)
       generalize (((w8.setCell ⟨gb550, 0, none⟩ (.string ((rd_T55 l1 x9_1).f0))).setCell ⟨gb550, 1, none⟩ (.int .i64 ((rd_T55 l1 x9_1).f1.f0))).setCell ⟨gb550, 2, none⟩ (.int .i64 ((rd_T55 l1 x9_1).f1.f1))) = w10 at n0_ n1_ ⊢
       have BK550 := n0_
       have HB := n1_
       clear n0_ n1_
       replace BK550 := Aside0.mk (blk_drew BK550.out)
       replace HB := Aside0.mk (below_drew1 HB.out)
       refine start_ (n := 8) (S := fun w' => w'.cell? ⟨gb550, 0, none⟩ = some (.string ((rd_T55 l1 x9_1).f0)) ∧ w'.cell? ⟨gb550, 1, none⟩ = some (.int .i64 ((rd_T55 l1 x9_1).f1.f0)) ∧ w'.cell? ⟨gb550, 2, none⟩ = some (.int .i64 ((rd_T55 l1 x9_1).f1.f1))) (ds := []) (mB 8 0) (by kernel_rfl) rfl rfl (cs3 BK550.out) (fun hHeld => ?_); refine with_tabW impl_conform.tab4 impl_conform.bits4 (fun HT_ HW_ => ?_)
       generalize w10.drew = w11 at BK550 HB hHeld ⊢
       refine pn 0 13 HT_.out ?_
       refine pn 1 14 HT_.out ?_
       refine pn 4 17 HT_.out ?_
       refine pn 5 18 HT_.out ?_
       refine tk 2 15 HT_.out HW_.out hHeld ?_
       refine tk 6 19 HT_.out HW_.out hHeld ?_
       refine on 3 16 HT_.out (fun K hK => ?_)
       refine gs Try.func55 #[.slice A0 l0.length c0, .string ((rd_T55 l1 x9_1).f0)] ?_
       with_reducible refine (impl_kindIn.calls k1 _ _ l0 ((rd_T55 l1 x9_1).f0) t551 _ ?side1 ?side2 A6.out).mono ?_
       (case side1 => repeat (first | exact (Kd.C_below HR0.out HB.out) | (with_reducible refine Kd.C_alloc ?_ _) | (with_reducible refine Kd.C_drewN ?_ _) | (with_reducible refine Kd.C_drew ?_)))
       (case side2 => exact HC0.out)
       rintro e w12 ⟨rfl, hb⟩
       refine ⟨_, rfl, ?_⟩
       replace BK550 := bB BK550 hb
       replace HB := bS HB hb
       (try clear hb)
       (try clear hb2)
       (try clear hk)
       (try clear hi)
       refine hK.out _ _ (cs3 BK550.out) (fun hHeld => ?_)
       clear hK K
       refine nm (some 16) ?_
       refine pn 7 20 HT_.out ?_
       refine done_ (done_of HT_.out (by kernel_rfl)) ?_
       try go_wp2
       go_roundg k1
       case measure => have := HK1.out; omega
       case rel => exact ⟨(wrap64 (x9_1 + 1)), (by first | rfl | (simp; done) | (simp [*]; done)), H', ⟨by have := HK1.out; omega⟩, ⟨by exact bw HB.out⟩⟩
      ·
       rw [if_neg c7] at H; obtain ⟨c7b0, c7b1⟩ := eqN c7
       obtain rfl := Option.some.inj H
       have p549 : 0 ≤ (x9_1 : Int) := of_decide_eq_true (by first | (with_reducible assumption) | assumption)
       have q549 : x9_1 < (l1.length : Int) := of_decide_eq_true (by first | (with_reducible assumption) | assumption)
       obtain ⟨ad549, e549, hx549_0, hx549_1, hx549_2⟩ := at_T55 HR1.out x9_1 p549 q549
       cases e549
       first | replace hx549_0 := (HB.out.cell (World.block_lt_of_cell? w _ hx549_0)).trans hx549_0 | skip
       first | replace hx549_1 := (HB.out.cell (World.block_lt_of_cell? w _ hx549_1)).trans hx549_1 | skip
       first | replace hx549_2 := (HB.out.cell (World.block_lt_of_cell? w _ hx549_2)).trans hx549_2 | skip
       replace p549 := eq_true p549
       replace q549 := eq_true q549
       try go_wp2_with (first | ((with_reducible refine gate_dst (N := 6) rfl ?_); refine bx 6 #[.string (⟨#[]⟩ : ByteArray), .int .i64 0, .int .i64 0] 55 ?_; intro gb550 hg w13 hbox hb; have BK550 := Aside0.mk (hbox); have GW550 := gwB HB hg; have GE550 := gwB HB hg; replace HB := bS HB hb; clear hb hbox hg; obtain ⟨hcz14_0, hcz14_1, hcz14_2⟩ := cs3 BK550.out; obtain ⟨hfz14_0, hfz14_1, hfz14_2⟩ := fz3 BK550.out))
       have n0_ : Aside0 ((((w13.setCell ⟨gb550, 0, none⟩ (.string ((rd_T55 l1 x9_1).f0))).setCell ⟨gb550, 1, none⟩ (.int .i64 ((rd_T55 l1 x9_1).f1.f0))).setCell ⟨gb550, 2, none⟩ (.int .i64 ((rd_T55 l1 x9_1).f1.f1))).heap[gb550]? = some (.cells #[.string ((rd_T55 l1 x9_1).f0), .int .i64 ((rd_T55 l1 x9_1).f1.f0), .int .i64 ((rd_T55 l1 x9_1).f1.f1)] 55 (0, 0))) := ⟨by (with_reducible repeat (first | refine blk_drewN ?_ _ | refine blk_drew ?_ | refine blk_alloc ?_ _)); refine blk_put (cs := #[.string ((rd_T55 l1 x9_1).f0), .int .i64 ((rd_T55 l1 x9_1).f1.f0), .int .i64 0]) ?_ 2 _ rfl; (with_reducible repeat (first | refine blk_drewN ?_ _ | refine blk_drew ?_ | refine blk_alloc ?_ _)); refine blk_put (cs := #[.string ((rd_T55 l1 x9_1).f0), .int .i64 0, .int .i64 0]) ?_ 1 _ rfl; (with_reducible repeat (first | refine blk_drewN ?_ _ | refine blk_drew ?_ | refine blk_alloc ?_ _)); refine blk_put (cs := #[.string (⟨#[]⟩ : ByteArray), .int .i64 0, .int .i64 0]) ?_ 0 _ rfl; exact bk BK550.out⟩
       have n1_ : Aside0 (Below w.heap.size w (((w13.setCell ⟨gb550, 0, none⟩ (.string ((rd_T55 l1 x9_1).f0))).setCell ⟨gb550, 1, none⟩ (.int .i64 ((rd_T55 l1 x9_1).f1.f0))).setCell ⟨gb550, 2, none⟩ (.int .i64 ((rd_T55 l1 x9_1).f1.f1)))) := ⟨by exact bw HB.out⟩
       (try clear BK550)
       (try clear HB)
       generalize (((w13.setCell ⟨gb550, 0, none⟩ (.string ((rd_T55 l1 x9_1).f0))).setCell ⟨gb550, 1, none⟩ (.int .i64 ((rd_T55 l1 x9_1).f1.f0))).setCell ⟨gb550, 2, none⟩ (.int .i64 ((rd_T55 l1 x9_1).f1.f1))) = w15 at n0_ n1_ ⊢
       have BK550 := n0_
       have HB := n1_
       clear n0_ n1_
       replace BK550 := Aside0.mk (blk_drew BK550.out)
       replace HB := Aside0.mk (below_drew1 HB.out)
       refine start_ (n := 8) (S := fun w' => w'.cell? ⟨gb550, 0, none⟩ = some (.string ((rd_T55 l1 x9_1).f0)) ∧ w'.cell? ⟨gb550, 1, none⟩ = some (.int .i64 ((rd_T55 l1 x9_1).f1.f0)) ∧ w'.cell? ⟨gb550, 2, none⟩ = some (.int .i64 ((rd_T55 l1 x9_1).f1.f1))) (ds := []) (mB 8 0) (by kernel_rfl) rfl rfl (cs3 BK550.out) (fun hHeld => ?_); refine with_tabW impl_conform.tab4 impl_conform.bits4 (fun HT_ HW_ => ?_)
       generalize w15.drew = w16 at BK550 HB hHeld ⊢
       refine pn 0 13 HT_.out ?_
       refine pn 1 14 HT_.out ?_
       refine pn 4 17 HT_.out ?_
       refine pn 5 18 HT_.out ?_
       refine tk 2 15 HT_.out HW_.out hHeld ?_
       refine tk 6 19 HT_.out HW_.out hHeld ?_
       refine on 3 16 HT_.out (fun K hK => ?_)
       refine gs Try.func55 #[.slice A0 l0.length c0, .string ((rd_T55 l1 x9_1).f0)] ?_
       with_reducible refine (impl_kindIn.calls k1 _ _ l0 ((rd_T55 l1 x9_1).f0) t551 _ ?side1 ?side2 A6.out).mono ?_
       (case side1 => repeat (first | exact (Kd.C_below HR0.out HB.out) | (with_reducible refine Kd.C_alloc ?_ _) | (with_reducible refine Kd.C_drewN ?_ _) | (with_reducible refine Kd.C_drew ?_)))
       (case side2 => exact HC0.out)
       rintro e w17 ⟨rfl, hb⟩
       refine ⟨_, rfl, ?_⟩
       replace BK550 := bB BK550 hb
       replace HB := bS HB hb
       (try clear hb)
       (try clear hb2)
       (try clear hk)
       (try clear hi)
       refine hK.out _ _ (cs3 BK550.out) (fun hHeld => ?_)
       clear hK K
       refine nm (some 16) ?_
       refine pn 7 20 HT_.out ?_
       refine done_ (done_of HT_.out (by kernel_rfl)) ?_
       try go_wp2
       go_ret
       exact ⟨by first | rfl | (simp [errW_none, errW_some] <;> rfl) | (simp [*, errW_none, errW_some] <;> rfl), by exact bw HB.out⟩
     ·
      rw [if_neg c5] at H; exact absurd H (by simp)
    ·
     rw [if_neg c4] at H; exact absurd H (by simp)
   ·
    rw [if_neg c3] at H; have c3b0 : decide (x9_1 < (l1.length : Int)) = false := decide_eq_false c3; clear c3
    obtain rfl := Option.some.inj H
    go_wp2
    go_ret
    exact ⟨by first | rfl | (simp [errW_none, errW_some] <;> rfl) | (simp [*, errW_none, errW_some] <;> rfl), by exact bw HB.out⟩

end Go.Proofs.Ytoipfhdlgoaldaa.P
