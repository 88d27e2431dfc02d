-- Written by a program of this session (wip/tool).
import Derived.Test.YtacpkmdnoggmoaaPx0
import Derived.Test.YtacpkmdnoggmoaaPx1003
import Derived.Test.YtacpkmdnoggmoaaPx1064
import Derived.Test.YtacpkmdnoggmoaaPx1065
namespace Go.Proofs.Ytacpkmdnoggmoaa.P
open Go.RowKit Go.Proofs.YtacpkmdnoggmoaaW.PrintWords Go.Proofs.YtacpkmdnoggmoaaW.PrintLast Go.Proofs.YtacpkmdnoggmoaaW.PrintMore
attribute [local go_sem] max2_int min2_int max_two min_two max_three min_three max_four min_four   -- for this text's walks alone
set_option linter.unusedVariables false
set_option linter.unusedSimpArgs false

/-! ### impl_Conforms: function 39 -/
mutual
def impl_Conforms.j0 : Nat → List (S72) → Bool → List (S110) → List (S110) → Option (Bool)
 | 0, _, _, _, _ => none
 | k + 1, x1, x25, x487000, x487001 => if x25 = true then (some false) else (impl_Conforms.l0 k x1 (x1.length : Int) 0 x487000 x487001)
def impl_Conforms.l0 : Nat → List (S72) → Int → Int → List (S110) → List (S110) → Option (Bool)
 | 0, _, _, _, _, _ => none
 | k + 1, x26, x27, x28, x487000, x487001 => if x28 < x27 then (if 0 ≤ x28 then (if x28 < (x26.length : Int) then ((impl_conform.f k x487000 ((rd_T72 x26 x28).f1)).bind fun t493 => (if t493 = true then (impl_Conforms.l0 k x26 x27 (wrap64 (x28 + 1)) x487000 x487001) else (some false))) else (none)) else (none)) else (some true)
end
def impl_Conforms.f (k : Nat) (l0_0 : List (S110)) (l0_1 : List (S110)) (l1 : List (S72)) (a2_0 : Int) (a2_1 : Int) (a2_2 : Int) (l2_3 : List (S85)) : Option (Bool) := (impl_SchemaValid.f k l0_0 l0_1).bind fun t488 => (if t488 = true then ((impl_RequestValid.f k l1 a2_0 a2_1 a2_2 l2_3).bind fun t489 => (if t489 = true then ((impl_conform.f k l0_1 l2_3).bind fun t490 => (impl_Conforms.j0 k l1 (!t490) l0_0 l0_1)) else (impl_Conforms.j0 k l1 true l0_0 l0_1))) else (impl_Conforms.j0 k l1 true l0_0 l0_1))
theorem impl_Conforms.mono_l : ∀ k, (∀ y0 y1 y2 y3, LeO (impl_Conforms.j0 k y0 y1 y2 y3) (impl_Conforms.j0 (k + 1) y0 y1 y2 y3)) ∧ (∀ y0 y1 y2 y3 y4, LeO (impl_Conforms.l0 k y0 y1 y2 y3 y4) (impl_Conforms.l0 (k + 1) y0 y1 y2 y3 y4))
 | 0 => ⟨fun _ _ _ _ r h => by simp [impl_Conforms.j0] at h, fun _ _ _ _ _ r h => by simp [impl_Conforms.l0] at h⟩
 | k + 1 => by
  obtain ⟨ih0, ih1⟩ := impl_Conforms.mono_l k
  refine ⟨?_, ?_⟩
  ·
   intro y0 y1 y2 y3
   unfold impl_Conforms.j0
   repeat' first
   | (with_reducible exact ih0 _ _ _ _)
   | (with_reducible exact ih1 _ _ _ _ _)
   | (with_reducible exact impl_RequestValid.mono _ _ _ _ _ _)
   | (with_reducible exact impl_SchemaValid.mono _ _ _)
   | (with_reducible exact impl_conform.mono _ _ _)
   | (with_reducible exact LeO.refl _)
   | (with_reducible exact LeO.none _)
   | (with_reducible refine LeO.ite ?_ ?_)
   | (with_reducible refine LeO.bind ?_ (fun _ => ?_))
   | exact ih0 _ _ _ _
   | exact ih1 _ _ _ _ _
   | exact impl_RequestValid.mono _ _ _ _ _ _
   | exact impl_SchemaValid.mono _ _ _
   | exact impl_conform.mono _ _ _
   | exact LeO.none _
   | refine LeO.ite ?_ ?_
   | refine LeO.bind ?_ (fun _ => ?_)
  ·
   intro y0 y1 y2 y3 y4
   unfold impl_Conforms.l0
   repeat' first
   | (with_reducible exact ih0 _ _ _ _)
   | (with_reducible exact ih1 _ _ _ _ _)
   | (with_reducible exact impl_RequestValid.mono _ _ _ _ _ _)
   | (with_reducible exact impl_SchemaValid.mono _ _ _)
   | (with_reducible exact impl_conform.mono _ _ _)
   | (with_reducible exact LeO.refl _)
   | (with_reducible exact LeO.none _)
   | (with_reducible refine LeO.ite ?_ ?_)
   | (with_reducible refine LeO.bind ?_ (fun _ => ?_))
   | exact ih0 _ _ _ _
   | exact ih1 _ _ _ _ _
   | exact impl_RequestValid.mono _ _ _ _ _ _
   | exact impl_SchemaValid.mono _ _ _
   | exact impl_conform.mono _ _ _
   | exact LeO.none _
   | refine LeO.ite ?_ ?_
   | refine LeO.bind ?_ (fun _ => ?_)
theorem impl_Conforms.mono : ∀ a0 a1 a2 a3 a4 a5 a6 k, LeO (impl_Conforms.f k a0 a1 a2 a3 a4 a5 a6) (impl_Conforms.f (k + 1) a0 a1 a2 a3 a4 a5 a6) := by
 intro a0 a1 a2 a3 a4 a5 a6 k
 obtain ⟨ih0, ih1⟩ := impl_Conforms.mono_l k
 unfold impl_Conforms.f
 repeat' first
   | (with_reducible exact ih0 _ _ _ _)
   | (with_reducible exact ih1 _ _ _ _ _)
   | (with_reducible exact impl_RequestValid.mono _ _ _ _ _ _)
   | (with_reducible exact impl_SchemaValid.mono _ _ _)
   | (with_reducible exact impl_conform.mono _ _ _)
   | (with_reducible exact LeO.refl _)
   | (with_reducible exact LeO.none _)
   | (with_reducible refine LeO.ite ?_ ?_)
   | (with_reducible refine LeO.bind ?_ (fun _ => ?_))
   | exact ih0 _ _ _ _
   | exact ih1 _ _ _ _ _
   | exact impl_RequestValid.mono _ _ _ _ _ _
   | exact impl_SchemaValid.mono _ _ _
   | exact impl_conform.mono _ _ _
   | exact LeO.none _
   | refine LeO.ite ?_ ?_
   | refine LeO.bind ?_ (fun _ => ?_)
set_option maxHeartbeats 8000000 in
set_option maxRecDepth 100000 in
theorem impl_Conforms.calls (k : Nat) (A0_0 : Option Addr) (c0_0 : Nat) (l0_0 : List (S110)) (A0_1 : Option Addr) (c0_1 : Nat) (l0_1 : List (S110)) (A1 : Option Addr) (c1 : Nat) (l1 : List (S72)) (a2_0 : Int) (a2_1 : Int) (a2_2 : Int) (A2_3 : Option Addr) (c2_3 : Nat) (l2_3 : List (S85)) (r : Bool) (w : World) (hr0_0 : Kd.C k110 w A0_0 l0_0.length l0_0) (hc0_0 : l0_0.length ≤ c0_0) (hr0_1 : Kd.C k110 w A0_1 l0_1.length l0_1) (hc0_1 : l0_1.length ≤ c0_1) (hr1 : Kd.C k72 w A1 l1.length l1) (hc1 : l1.length ≤ c1) (hr2_3 : Kd.C k85 w A2_3 l2_3.length l2_3) (hc2_3 : l2_3.length ≤ c2_3) (h : impl_Conforms.f k l0_0 l0_1 l1 a2_0 a2_1 a2_2 l2_3 = some r) :
  Calls Try.prog 39 #[.agg #[.slice A0_0 l0_0.length c0_0, .slice A0_1 l0_1.length c0_1], .slice A1 l1.length c1, .agg #[.int .i64 a2_0, .int .i64 a2_1, .int .i64 a2_2, .slice A2_3 l2_3.length c2_3]] w fun e w' => e = .returned (.bool r) ∧ Below w.heap.size w w' := by
 have hu62 := Try.underlying62
 have hu36 := Try.underlying36
 have hu72 := Try.underlying72
 have HR0_0 := Aside0.mk hr0_0
 have HC0_0 := Aside0.mk hc0_0
 clear hr0_0 hc0_0
 have HR0_1 := Aside0.mk hr0_1
 have HC0_1 := Aside0.mk hc0_1
 clear hr0_1 hc0_1
 have HR1 := Aside0.mk hr1
 have HC1 := Aside0.mk hc1
 clear hr1 hc1
 have HR2_3 := Aside0.mk hr2_3
 have HC2_3 := Aside0.mk hc2_3
 clear hr2_3 hc2_3
 have HB := Aside0.mk (Below.refl w.heap.size w)
 have H : ((impl_SchemaValid.f k l0_0 l0_1).bind fun t488 => (if t488 = true then ((impl_RequestValid.f k l1 a2_0 a2_1 a2_2 l2_3).bind fun t489 => (if t489 = true then ((impl_conform.f k l0_1 l2_3).bind fun t490 => (impl_Conforms.j0 k l1 (!t490) l0_0 l0_1)) else (impl_Conforms.j0 k l1 true l0_0 l0_1))) else (impl_Conforms.j0 k l1 true l0_0 l0_1))) = some r := h
 clear h
 have HC4 := Aside0.mk H
 clear H
 go_enter Try.func39, Try.ntmps39
 go_upto_region 1 with (first | ((with_reducible refine gate_dst (N := 3) rfl ?_); refine bx 3 #[.slice A0_0 l0_0.length c0_0, .slice A0_1 l0_1.length c0_1] 62 ?_; intro gb486 hg w5 hbox hb; have BK486 := Aside0.mk (hbox); have GW486 := gwB HB hg; have GE486 := gwB HB hg; replace HB := bS HB hb; clear hb hbox hg) | ((with_reducible refine gate_dst (N := 5) rfl ?_); refine bx 5 #[.int .i64 a2_0, .int .i64 a2_1, .int .i64 a2_2, .slice A2_3 l2_3.length c2_3] 36 ?_; intro gb487 hg w6 hbox hb; have BK487 := Aside0.mk (hbox); have GW487 := gwB HB hg; have GE487 := gwB HB hg; replace HB := bS HB hb; have NB486_487 := nbL BK486 hg; have NB487_486 := nbR BK486 hg; replace BK486 := bB BK486 hb; clear hb hbox hg))
 (try simp only [Act.put, List.setIfInBounds_toArray, List.set_cons_zero, List.set_cons_succ])
 go_cut [25] (fun v25 wc => ∃ (kq : Nat) (x25_3 : Bool), v25 = .bool x25_3 ∧ Aside0 (impl_Conforms.j0 kq l1 x25_3 l0_0 l0_1 = some r) ∧ Aside0 (kq ≤ k) ∧ Aside0 (wc.heap[gb486]? = some (.cells #[(.slice A0_0 l0_0.length c0_0), (.slice A0_1 l0_1.length c0_1)] 62 (0, 0))) ∧ Aside0 (wc.heap[gb487]? = some (.cells #[.int .i64 a2_0, .int .i64 a2_1, .int .i64 a2_2, (.slice A2_3 l2_3.length c2_3)] 36 (0, 0))) ∧ Aside0 (Below w.heap.size w wc))
 case first =>
  have H := HC4.out
  clear HC4
  replace H := Option.bind_eq_some_iff.mp H
  obtain ⟨t488, A70, H⟩ := H
  replace H : (if t488 = true then ((impl_RequestValid.f k l1 a2_0 a2_1 a2_2 l2_3).bind fun t489 => (if t489 = true then ((impl_conform.f k l0_1 l2_3).bind fun t490 => (impl_Conforms.j0 k l1 (!t490) l0_0 l0_1)) else (impl_Conforms.j0 k l1 true l0_0 l0_1))) else (impl_Conforms.j0 k l1 true l0_0 l0_1)) = some r := H
  have A7 := Aside0.mk A70
  clear A70
  by_cases c8 : t488 = true
  ·
   subst c8
   have H1 : ((impl_RequestValid.f k l1 a2_0 a2_1 a2_2 l2_3).bind fun t489 => (if t489 = true then ((impl_conform.f k l0_1 l2_3).bind fun t490 => (impl_Conforms.j0 k l1 (!t490) l0_0 l0_1)) else (impl_Conforms.j0 k l1 true l0_0 l0_1))) = some r := by rw [if_pos rfl] at H; exact H
   clear H
   have H := H1
   clear H1
   replace H := Option.bind_eq_some_iff.mp H
   obtain ⟨t489, A90, H⟩ := H
   replace H : (if t489 = true then ((impl_conform.f k l0_1 l2_3).bind fun t490 => (impl_Conforms.j0 k l1 (!t490) l0_0 l0_1)) else (impl_Conforms.j0 k l1 true l0_0 l0_1)) = some r := H
   have A9 := Aside0.mk A90
   clear A90
   by_cases c10 : t489 = true
   ·
    subst c10
    have H1 : ((impl_conform.f k l0_1 l2_3).bind fun t490 => (impl_Conforms.j0 k l1 (!t490) l0_0 l0_1)) = some r := by rw [if_pos rfl] at H; exact H
    clear H
    have H := H1
    clear H1
    replace H := Option.bind_eq_some_iff.mp H
    obtain ⟨t490, A110, H⟩ := H
    replace H : (impl_Conforms.j0 k l1 (!t490) l0_0 l0_1) = some r := H
    have A11 := Aside0.mk A110
    clear A110
    have H' := Aside0.mk H
    clear H
    have hnb12 := NB486_487.out
    have hnc12 := NB487_486.out
    have hcz13_0 : w6.cell? ⟨gb486, 0, none⟩ = some (.slice A0_0 l0_0.length c0_0) := (blk_cell BK486.out 0).trans rfl
    have hcz13_1 : w6.cell? ⟨gb486, 1, none⟩ = some (.slice A0_1 l0_1.length c0_1) := (blk_cell BK486.out 1).trans rfl
    have hfz13_0 := blk_frozen BK486.out 0
    have hfz13_1 := blk_frozen BK486.out 1
    go_wp2_with (first | ((with_reducible refine gate_callee (f := 64) rfl ?_); refine gl (some 10) Try.func64 #[.agg #[.slice A0_0 l0_0.length c0_0, .slice A0_1 l0_1.length c0_1]] ?_; (with_reducible refine (impl_SchemaValid.calls k (fun k_ => k_ < w.heap.size) _ _ l0_0 (fun k_ => k_ < w.heap.size) _ _ l0_1 true _ ?side1 ?side2 A7.out).mono ?_); (case side1 => exact Kd.V_mk HC0_0.out (Kd.F_below (Kd.C_F k110_heap HR0_0.out) (by exact bw HB.out))); (case side2 => exact Kd.V_mk HC0_1.out (Kd.F_below (Kd.C_F k110_heap HR0_1.out) (by exact bw HB.out))); rintro e w14 ⟨rfl, hb⟩; refine ⟨_, rfl, ?_⟩; replace BK486 := bB BK486 hb; replace BK487 := bB BK487 hb; replace HB := bS HB hb; (try clear hb); (try clear hb2); (try clear hk); (try clear hi); obtain ⟨hcz15_0, hcz15_1, hcz15_2, hcz15_3⟩ := cs4 BK487.out; obtain ⟨hfz15_0, hfz15_1, hfz15_2, hfz15_3⟩ := fz4 BK487.out) | (go_at_call 17; (with_reducible refine (impl_RequestValid.calls k _ _ l1 a2_0 a2_1 a2_2 _ _ l2_3 true _ ?side1 ?side2 ?side3 ?side4 A9.out).mono ?_); (case side1 => repeat (first | exact (Kd.C_below HR1.out HB.out) | (with_reducible refine Kd.C_alloc ?_ _) | (with_reducible refine Kd.C_drewN ?_ _) | (with_reducible refine Kd.C_drew ?_))); (case side2 => exact HC1.out); (case side3 => repeat (first | exact (Kd.C_below HR2_3.out HB.out) | (with_reducible refine Kd.C_alloc ?_ _) | (with_reducible refine Kd.C_drewN ?_ _) | (with_reducible refine Kd.C_drew ?_))); (case side4 => exact HC2_3.out); rintro e w16 ⟨rfl, hb⟩; have n0_ := bB BK486 hb; have n1_ := bB BK487 hb; have n2_ := bS HB hb; clear BK486; clear BK487; clear HB; have BK486 := n0_; have BK487 := n1_; have HB := n2_; clear n0_ n1_ n2_; (try clear hb); (try clear hb2); (try clear hk); (try clear hi); obtain ⟨hcz17_0, hcz17_1⟩ := cs2 BK486.out; obtain ⟨hfz17_0, hfz17_1⟩ := fz2 BK486.out; obtain ⟨hcz18_0, hcz18_1, hcz18_2, hcz18_3⟩ := cs4 BK487.out; obtain ⟨hfz18_0, hfz18_1, hfz18_2, hfz18_3⟩ := fz4 BK487.out) | (go_at_call 65; (with_reducible refine (impl_conform.calls k _ _ l0_1 _ _ l2_3 t490 _ ?side1 ?side2 ?side3 ?side4 A11.out).mono ?_); (case side1 => repeat (first | exact (Kd.C_below HR0_1.out HB.out) | (with_reducible refine Kd.C_alloc ?_ _) | (with_reducible refine Kd.C_drewN ?_ _) | (with_reducible refine Kd.C_drew ?_))); (case side2 => exact HC0_1.out); (case side3 => repeat (first | exact (Kd.C_below HR2_3.out HB.out) | (with_reducible refine Kd.C_alloc ?_ _) | (with_reducible refine Kd.C_drewN ?_ _) | (with_reducible refine Kd.C_drew ?_))); (case side4 => exact HC2_3.out); rintro e w19 ⟨rfl, hb⟩; have n0_ := bB BK486 hb; have n1_ := bB BK487 hb; have n2_ := bS HB hb; clear BK486; clear BK487; clear HB; have BK486 := n0_; have BK487 := n1_; have HB := n2_; clear n0_ n1_ n2_; (try clear hb); (try clear hb2); (try clear hk); (try clear hi)))
    go_meet
    case rel => exact ⟨_, (!t490), (by first | rfl | (simp; done) | (simp [*]; done)), H', ⟨by first | omega | exact Nat.le_refl _⟩, ⟨by exact bk BK486.out⟩, ⟨by exact bk BK487.out⟩, ⟨by exact bw HB.out⟩⟩
   ·
    replace c10 := Bool.eq_false_iff.mpr c10
    subst c10
    have H1 : (impl_Conforms.j0 k l1 true l0_0 l0_1) = some r := by rw [if_neg (show ¬ (false = true) by decide)] at H; exact H
    clear H
    have H := H1
    clear H1
    have H' := Aside0.mk H
    clear H
    have hnb20 := NB486_487.out
    have hnc20 := NB487_486.out
    have hcz21_0 : w6.cell? ⟨gb486, 0, none⟩ = some (.slice A0_0 l0_0.length c0_0) := (blk_cell BK486.out 0).trans rfl
    have hcz21_1 : w6.cell? ⟨gb486, 1, none⟩ = some (.slice A0_1 l0_1.length c0_1) := (blk_cell BK486.out 1).trans rfl
    have hfz21_0 := blk_frozen BK486.out 0
    have hfz21_1 := blk_frozen BK486.out 1
    go_wp2_with (first | ((with_reducible refine gate_callee (f := 64) rfl ?_); refine gl (some 10) Try.func64 #[.agg #[.slice A0_0 l0_0.length c0_0, .slice A0_1 l0_1.length c0_1]] ?_; (with_reducible refine (impl_SchemaValid.calls k (fun k_ => k_ < w.heap.size) _ _ l0_0 (fun k_ => k_ < w.heap.size) _ _ l0_1 true _ ?side1 ?side2 A7.out).mono ?_); (case side1 => exact Kd.V_mk HC0_0.out (Kd.F_below (Kd.C_F k110_heap HR0_0.out) (by exact bw HB.out))); (case side2 => exact Kd.V_mk HC0_1.out (Kd.F_below (Kd.C_F k110_heap HR0_1.out) (by exact bw HB.out))); rintro e w22 ⟨rfl, hb⟩; refine ⟨_, rfl, ?_⟩; replace BK486 := bB BK486 hb; replace BK487 := bB BK487 hb; replace HB := bS HB hb; (try clear hb); (try clear hb2); (try clear hk); (try clear hi); obtain ⟨hcz23_0, hcz23_1, hcz23_2, hcz23_3⟩ := cs4 BK487.out; obtain ⟨hfz23_0, hfz23_1, hfz23_2, hfz23_3⟩ := fz4 BK487.out) | (go_at_call 17; (with_reducible refine (impl_RequestValid.calls k _ _ l1 a2_0 a2_1 a2_2 _ _ l2_3 false _ ?side1 ?side2 ?side3 ?side4 A9.out).mono ?_); (case side1 => repeat (first | exact (Kd.C_below HR1.out HB.out) | (with_reducible refine Kd.C_alloc ?_ _) | (with_reducible refine Kd.C_drewN ?_ _) | (with_reducible refine Kd.C_drew ?_))); (case side2 => exact HC1.out); (case side3 => repeat (first | exact (Kd.C_below HR2_3.out HB.out) | (with_reducible refine Kd.C_alloc ?_ _) | (with_reducible refine Kd.C_drewN ?_ _) | (with_reducible refine Kd.C_drew ?_))); (case side4 => exact HC2_3.out); rintro e w24 ⟨rfl, hb⟩; have n0_ := bB BK486 hb; have n1_ := bB BK487 hb; have n2_ := bS HB hb; clear BK486; clear BK487; clear HB; have BK486 := n0_; have BK487 := n1_; have HB := n2_; clear n0_ n1_ n2_; (try clear hb); (try clear hb2); (try clear hk); (try clear hi)))
    go_meet
    case rel => exact ⟨_, (true), (by first | rfl | (simp; done) | (simp [*]; done)), H', ⟨by first | omega | exact Nat.le_refl _⟩, ⟨by exact bk BK486.out⟩, ⟨by exact bk BK487.out⟩, ⟨by exact bw HB.out⟩⟩
  ·
   replace c8 := Bool.eq_false_iff.mpr c8
   subst c8
   have H1 : (impl_Conforms.j0 k l1 true l0_0 l0_1) = some r := by rw [if_neg (show ¬ (false = true) by decide)] at H; exact H
   clear H
   have H := H1
   clear H1
   have H' := Aside0.mk H
   clear H
   have hnb25 := NB486_487.out
   have hnc25 := NB487_486.out
   have hcz26_0 : w6.cell? ⟨gb486, 0, none⟩ = some (.slice A0_0 l0_0.length c0_0) := (blk_cell BK486.out 0).trans rfl
   have hcz26_1 : w6.cell? ⟨gb486, 1, none⟩ = some (.slice A0_1 l0_1.length c0_1) := (blk_cell BK486.out 1).trans rfl
   have hfz26_0 := blk_frozen BK486.out 0
   have hfz26_1 := blk_frozen BK486.out 1
   go_wp2_with (first | ((with_reducible refine gate_callee (f := 64) rfl ?_); refine gl (some 10) Try.func64 #[.agg #[.slice A0_0 l0_0.length c0_0, .slice A0_1 l0_1.length c0_1]] ?_; (with_reducible refine (impl_SchemaValid.calls k (fun k_ => k_ < w.heap.size) _ _ l0_0 (fun k_ => k_ < w.heap.size) _ _ l0_1 false _ ?side1 ?side2 A7.out).mono ?_); (case side1 => exact Kd.V_mk HC0_0.out (Kd.F_below (Kd.C_F k110_heap HR0_0.out) (by exact bw HB.out))); (case side2 => exact Kd.V_mk HC0_1.out (Kd.F_below (Kd.C_F k110_heap HR0_1.out) (by exact bw HB.out))); rintro e w27 ⟨rfl, hb⟩; refine ⟨_, rfl, ?_⟩; replace BK486 := bB BK486 hb; replace BK487 := bB BK487 hb; replace HB := bS HB hb; (try clear hb); (try clear hb2); (try clear hk); (try clear hi)))
   go_meet
   case rel => exact ⟨_, (true), (by first | rfl | (simp; done) | (simp [*]; done)), H', ⟨by first | omega | exact Nat.le_refl _⟩, ⟨by exact bk BK486.out⟩, ⟨by exact bk BK487.out⟩, ⟨by exact bw HB.out⟩⟩
 case rest =>
  clear HC4
  try clear c1
  try clear c2
  try clear p2
  try clear c3
  try clear c6
  try clear c8
  try clear c10
  try clear c12
  try clear c20
  try clear c25
  try clear hcz13_0
  try clear hcz13_1
  try clear hcz15_0
  try clear hcz15_1
  try clear hcz15_2
  try clear hcz15_3
  try clear hcz17_0
  try clear hcz17_1
  try clear hcz18_0
  try clear hcz18_1
  try clear hcz18_2
  try clear hcz18_3
  try clear hcz21_0
  try clear hcz21_1
  try clear hcz23_0
  try clear hcz23_1
  try clear hcz23_2
  try clear hcz23_3
  try clear hcz26_0
  try clear hcz26_1
  try clear hfz13_0
  try clear hfz13_1
  try clear hfz15_0
  try clear hfz15_1
  try clear hfz15_2
  try clear hfz15_3
  try clear hfz17_0
  try clear hfz17_1
  try clear hfz18_0
  try clear hfz18_1
  try clear hfz18_2
  try clear hfz18_3
  try clear hfz21_0
  try clear hfz21_1
  try clear hfz23_0
  try clear hfz23_1
  try clear hfz23_2
  try clear hfz23_3
  try clear hfz26_0
  try clear hfz26_1
  obtain ⟨kq, x25_3, rfl, HA, HJ3, BK486, BK487, HB⟩ := hcut
  cases kq with
  | zero => exact absurd HA.out (by simp [impl_Conforms.j0])
  | succ kj3 =>
   have H := HA.out
   clear HA
   simp only [impl_Conforms.j0] at H
   by_cases c28 : x25_3 = true
   ·
    subst c28
    have H1 : (some false) = some r := by rw [if_pos rfl] at H; exact H
    clear H
    have H := H1
    clear H1
    obtain rfl := Option.some.inj H
    go_wp2
    go_ret
    exact ⟨by first | rfl | (simp [errW_none, errW_some] <;> rfl) | (simp [*, errW_none, errW_some] <;> rfl), by exact bw HB.out⟩
   ·
    replace c28 := Bool.eq_false_iff.mpr c28
    subst c28
    have H1 : (impl_Conforms.l0 kj3 l1 (l1.length : Int) 0 l0_0 l0_1) = some r := by rw [if_neg (show ¬ (false = true) by decide)] at H; exact H
    clear H
    have H := H1
    clear H1
    have H' := Aside0.mk H
    clear H
    go_wp2
    go_loopg [28] kj3 (fun kq v28 w' => ∃ (x28_2 : Int), v28 = .int .i64 x28_2 ∧ Aside0 (impl_Conforms.l0 kq l1 (l1.length : Int) x28_2 l0_0 l0_1 = some r) ∧ Aside0 (kq ≤ kj3) ∧ Aside0 (w'.heap[gb486]? = some (.cells #[(.slice A0_0 l0_0.length c0_0), (.slice A0_1 l0_1.length c0_1)] 62 (0, 0))) ∧ Aside0 (w'.heap[gb487]? = some (.cells #[.int .i64 a2_0, .int .i64 a2_1, .int .i64 a2_2, (.slice A2_3 l2_3.length c2_3)] 36 (0, 0))) ∧ Aside0 (Below w.heap.size w w'))
    case atStart => exact ⟨(0), (by first | rfl | (simp; done) | (simp [*]; done)), H', ⟨Nat.le_refl _⟩, ⟨by exact bk BK486.out⟩, ⟨by exact bk BK487.out⟩, ⟨by exact bw HB.out⟩⟩
    case round =>
     clear H'
     try clear c1
     try clear c2
     try clear p2
     try clear c3
     try clear c6
     try clear c8
     try clear c10
     try clear c12
     try clear c20
     try clear c25
     try clear c28
     try clear hcz13_0
     try clear hcz13_1
     try clear hcz15_0
     try clear hcz15_1
     try clear hcz15_2
     try clear hcz15_3
     try clear hcz17_0
     try clear hcz17_1
     try clear hcz18_0
     try clear hcz18_1
     try clear hcz18_2
     try clear hcz18_3
     try clear hcz21_0
     try clear hcz21_1
     try clear hcz23_0
     try clear hcz23_1
     try clear hcz23_2
     try clear hcz23_3
     try clear hcz26_0
     try clear hcz26_1
     try clear hfz13_0
     try clear hfz13_1
     try clear hfz15_0
     try clear hfz15_1
     try clear hfz15_2
     try clear hfz15_3
     try clear hfz17_0
     try clear hfz17_1
     try clear hfz18_0
     try clear hfz18_1
     try clear hfz18_2
     try clear hfz18_3
     try clear hfz21_0
     try clear hfz21_1
     try clear hfz23_0
     try clear hfz23_1
     try clear hfz23_2
     try clear hfz23_3
     try clear hfz26_0
     try clear hfz26_1
     try clear p2
     obtain ⟨x28_2, rfl, HA, HK2, BK486, BK487, HB⟩ := hrel
     cases gk with
     | zero => exact absurd HA.out (by simp [impl_Conforms.l0])
     | succ k2 =>
      have H := HA.out
      clear HA
      simp only [impl_Conforms.l0] at H
      by_cases c29 : x28_2 < (l1.length : Int)
      ·
       rw [if_pos c29] at H; have c29b0 : decide (x28_2 < (l1.length : Int)) = true := decide_eq_true c29; clear c29
       by_cases c30 : 0 ≤ x28_2
       ·
        rw [if_pos c30] at H; have c30b0 : decide (0 ≤ x28_2) = true := decide_eq_true c30; clear c30
        by_cases c31 : x28_2 < (l1.length : Int)
        ·
         rw [if_pos c31] at H; have c31b0 : decide (x28_2 < (l1.length : Int)) = true := decide_eq_true c31; clear c31
         replace H := Option.bind_eq_some_iff.mp H
         obtain ⟨t493, A320, H⟩ := H
         replace H : (if t493 = true then (impl_Conforms.l0 k2 l1 (l1.length : Int) (wrap64 (x28_2 + 1)) l0_0 l0_1) else (some false)) = some r := H
         have A32 := Aside0.mk A320
         clear A320
         by_cases c33 : t493 = true
         ·
          subst c33
          have H1 : (impl_Conforms.l0 k2 l1 (l1.length : Int) (wrap64 (x28_2 + 1)) l0_0 l0_1) = some r := by rw [if_pos rfl] at H; exact H
          clear H
          have H := H1
          clear H1
          have H' := Aside0.mk H
          clear H
          have p491 : 0 ≤ (x28_2 : Int) := of_decide_eq_true (by first | (with_reducible assumption) | assumption)
          have q491 : x28_2 < (l1.length : Int) := of_decide_eq_true (by first | (with_reducible assumption) | assumption)
          obtain ⟨ad491, A491_0, c491_0, A491_1, c491_1, e491, hx491_0, hx491_1, hl491_0, hi491_0, hl491_1, hi491_1⟩ := at_T72 HR1.out x28_2 p491 q491
          cases e491
          first | replace hx491_0 := (HB.out.cell (World.block_lt_of_cell? w _ hx491_0)).trans hx491_0 | skip
          first | replace hx491_1 := (HB.out.cell (World.block_lt_of_cell? w _ hx491_1)).trans hx491_1 | skip
          have HR491_0 := Aside0.mk hi491_0
          have HC491_0 := Aside0.mk hl491_0
          clear hi491_0 hl491_0
          have HR491_1 := Aside0.mk hi491_1
          have HC491_1 := Aside0.mk hl491_1
          clear hi491_1 hl491_1
          replace p491 := eq_true p491
          replace q491 := eq_true q491
          go_wp2_with (first | ((with_reducible refine gate_dst (N := 8) rfl ?_); refine bx 8 #[.slice none 0 0, .slice none 0 0] 72 ?_; intro gb492 hg w34 hbox hb; have BK492 := Aside0.mk (hbox); have GW492 := gwB HB hg; have GE492 := gwB HB hg; replace HB := bS HB hb; have NB486_492 := nbL BK486 hg; have NB492_486 := nbR BK486 hg; replace BK486 := bB BK486 hb; have NB487_492 := nbL BK487 hg; have NB492_487 := nbR BK487 hg; replace BK487 := bB BK487 hb; clear hb hbox hg; have hnb35 := NB492_486.out; have hnc35 := NB486_492.out; have hnb36 := NB492_487.out; have hnc36 := NB487_492.out; obtain ⟨hcz37_0, hcz37_1⟩ := cs2 BK492.out; obtain ⟨hfz37_0, hfz37_1⟩ := fz2 BK492.out; have hnb38 := NB486_487.out; have hnc38 := NB487_486.out; obtain ⟨hcz39_0, hcz39_1⟩ := cs2 BK486.out; obtain ⟨hfz39_0, hfz39_1⟩ := fz2 BK486.out) | ((with_reducible refine gate_callee (f := 65) rfl ?_); refine gl (some 36) Try.func65 #[.slice A0_0 l0_0.length c0_0, .slice A491_1 ((rd_T72 l1 x28_2).f1).length c491_1] ?_; (with_reducible refine (impl_conform.calls k2 _ _ l0_0 _ _ ((rd_T72 l1 x28_2).f1) true _ ?side1 ?side2 ?side3 ?side4 A32.out).mono ?_); (case side1 => exact Kd.C_below HR0_0.out (by exact bw HB.out)); (case side2 => exact HC0_0.out); (case side3 => exact Kd.C_below HR491_1.out (by exact bw HB.out)); (case side4 => exact HC491_1.out); rintro e w40 ⟨rfl, hb⟩; refine ⟨_, rfl, ?_⟩; replace BK486 := Aside0.mk (blk_below (g := gb486) (o := .cells #[.slice A0_0 l0_0.length c0_0, .slice A0_1 l0_1.length c0_1] 62 (0, 0)) (bo BK486) hb); replace BK487 := Aside0.mk (blk_below (g := gb487) (o := .cells #[.int .i64 a2_0, .int .i64 a2_1, .int .i64 a2_2, .slice A2_3 l2_3.length c2_3] 36 (0, 0)) (bo BK487) hb); replace BK492 := Aside0.mk (blk_below (g := gb492) (o := .cells #[.slice A491_0 ((rd_T72 l1 x28_2).f0).length c491_0, .slice A491_1 ((rd_T72 l1 x28_2).f1).length c491_1] 72 (0, 0)) (bp BK492) hb); replace HB := bS HB hb; (try clear hb); (try clear hb2); (try clear hk); (try clear hi)))
          go_roundg k2
          case measure => have := HJ3.out; have := HK2.out; omega
          case rel => exact ⟨(wrap64 (x28_2 + 1)), (by first | rfl | (simp; done) | (simp [*]; done)), H', ⟨by have := HJ3.out; have := HK2.out; omega⟩, ⟨by exact bk BK486.out⟩, ⟨by exact bk BK487.out⟩, ⟨by exact bw HB.out⟩⟩
         ·
          replace c33 := Bool.eq_false_iff.mpr c33
          subst c33
          have H1 : (some false) = some r := by rw [if_neg (show ¬ (false = true) by decide)] at H; exact H
          clear H
          have H := H1
          clear H1
          obtain rfl := Option.some.inj H
          have p491 : 0 ≤ (x28_2 : Int) := of_decide_eq_true (by first | (with_reducible assumption) | assumption)
          have q491 : x28_2 < (l1.length : Int) := of_decide_eq_true (by first | (with_reducible assumption) | assumption)
          obtain ⟨ad491, A491_0, c491_0, A491_1, c491_1, e491, hx491_0, hx491_1, hl491_0, hi491_0, hl491_1, hi491_1⟩ := at_T72 HR1.out x28_2 p491 q491
          cases e491
          first | replace hx491_0 := (HB.out.cell (World.block_lt_of_cell? w _ hx491_0)).trans hx491_0 | skip
          first | replace hx491_1 := (HB.out.cell (World.block_lt_of_cell? w _ hx491_1)).trans hx491_1 | skip
          have HR491_0 := Aside0.mk hi491_0
          have HC491_0 := Aside0.mk hl491_0
          clear hi491_0 hl491_0
          have HR491_1 := Aside0.mk hi491_1
          have HC491_1 := Aside0.mk hl491_1
          clear hi491_1 hl491_1
          replace p491 := eq_true p491
          replace q491 := eq_true q491
          go_wp2_with (first | ((with_reducible refine gate_dst (N := 8) rfl ?_); refine bx 8 #[.slice none 0 0, .slice none 0 0] 72 ?_; intro gb492 hg w41 hbox hb; have BK492 := Aside0.mk (hbox); have GW492 := gwB HB hg; have GE492 := gwB HB hg; replace HB := bS HB hb; have NB486_492 := nbL BK486 hg; have NB492_486 := nbR BK486 hg; replace BK486 := bB BK486 hb; have NB487_492 := nbL BK487 hg; have NB492_487 := nbR BK487 hg; replace BK487 := bB BK487 hb; clear hb hbox hg; have hnb42 := NB492_486.out; have hnc42 := NB486_492.out; have hnb43 := NB492_487.out; have hnc43 := NB487_492.out; obtain ⟨hcz44_0, hcz44_1⟩ := cs2 BK492.out; obtain ⟨hfz44_0, hfz44_1⟩ := fz2 BK492.out; have hnb45 := NB486_487.out; have hnc45 := NB487_486.out; obtain ⟨hcz46_0, hcz46_1⟩ := cs2 BK486.out; obtain ⟨hfz46_0, hfz46_1⟩ := fz2 BK486.out) | ((with_reducible refine gate_callee (f := 65) rfl ?_); refine gl (some 36) Try.func65 #[.slice A0_0 l0_0.length c0_0, .slice A491_1 ((rd_T72 l1 x28_2).f1).length c491_1] ?_; (with_reducible refine (impl_conform.calls k2 _ _ l0_0 _ _ ((rd_T72 l1 x28_2).f1) false _ ?side1 ?side2 ?side3 ?side4 A32.out).mono ?_); (case side1 => exact Kd.C_below HR0_0.out (by exact bw HB.out)); (case side2 => exact HC0_0.out); (case side3 => exact Kd.C_below HR491_1.out (by exact bw HB.out)); (case side4 => exact HC491_1.out); rintro e w47 ⟨rfl, hb⟩; refine ⟨_, rfl, ?_⟩; replace BK486 := Aside0.mk (blk_below (g := gb486) (o := .cells #[.slice A0_0 l0_0.length c0_0, .slice A0_1 l0_1.length c0_1] 62 (0, 0)) (bo BK486) hb); replace BK487 := Aside0.mk (blk_below (g := gb487) (o := .cells #[.int .i64 a2_0, .int .i64 a2_1, .int .i64 a2_2, .slice A2_3 l2_3.length c2_3] 36 (0, 0)) (bo BK487) hb); replace BK492 := Aside0.mk (blk_below (g := gb492) (o := .cells #[.slice A491_0 ((rd_T72 l1 x28_2).f0).length c491_0, .slice A491_1 ((rd_T72 l1 x28_2).f1).length c491_1] 72 (0, 0)) (bp BK492) hb); replace HB := bS HB hb; (try clear hb); (try clear hb2); (try clear hk); (try clear hi)))
          go_ret
          exact ⟨by first | rfl | (simp [errW_none, errW_some] <;> rfl) | (simp [*, errW_none, errW_some] <;> rfl), by exact bw HB.out⟩
        ·
         rw [if_neg c31] at H; exact absurd H (by simp)
       ·
        rw [if_neg c30] at H; exact absurd H (by simp)
      ·
       rw [if_neg c29] at H; have c29b0 : decide (x28_2 < (l1.length : Int)) = false := decide_eq_false c29; clear c29
       obtain rfl := Option.some.inj H
       go_wp2
       go_ret
       exact ⟨by first | rfl | (simp [errW_none, errW_some] <;> rfl) | (simp [*, errW_none, errW_some] <;> rfl), by exact bw HB.out⟩

end Go.Proofs.Ytacpkmdnoggmoaa.P
