-- Written by a program of this session (wip/tool).
import Derived.Test.YtoipfhdlgoaldaaPx0
import Derived.Test.YtoipfhdlgoaldaaPx1030
import Derived.Test.YtoipfhdlgoaldaaPx1046
import Derived.Test.YtoipfhdlgoaldaaPx1050
namespace Go.Proofs.Ytoipfhdlgoaldaa.P
open Go.RowKit Go.Proofs.YtoipfhdlgoaldaaW.PrintWords Go.Proofs.YtoipfhdlgoaldaaW.PrintLast Go.Proofs.YtoipfhdlgoaldaaW.PrintMore
attribute [local go_sem] max2_int min2_int max_two min_two max_three min_three max_four min_four   -- for this text's walks alone
set_option linter.unusedVariables false
set_option linter.unusedSimpArgs false

/-! ### impl_Conforms: function 27 -/
mutual
def impl_Conforms.j0 : Nat → List (S74) → Bool → List (S77) → List (S77) → Option (Bool)
 | 0, _, _, _, _ => none
 | k + 1, x1, x25, x553000, x553001 => if x25 = true then (some false) else (impl_Conforms.l0 k x1 (x1.length : Int) 0 x553000 x553001)
def impl_Conforms.l0 : Nat → List (S74) → Int → Int → List (S77) → List (S77) → Option (Bool)
 | 0, _, _, _, _, _ => none
 | k + 1, x26, x27, x28, x553000, x553001 => if x28 < x27 then (if 0 ≤ x28 then (if x28 < (x26.length : Int) then ((impl_conform.f k x553000 ((rd_T74 x26 x28).f1)).bind fun t559 => (if t559 = true then (impl_Conforms.l0 k x26 x27 (wrap64 (x28 + 1)) x553000 x553001) else (some false))) else (none)) else (none)) else (some true)
end
def impl_Conforms.f (k : Nat) (l0_0 : List (S77)) (l0_1 : List (S77)) (l1 : List (S74)) (a2_0 : Int) (a2_1 : Int) (a2_2 : Int) (l2_3 : List (S55)) : Option (Bool) := (impl_SchemaValid.f k l0_0 l0_1).bind fun t554 => (if t554 = true then ((impl_RequestValid.f k l1 a2_0 a2_1 a2_2 l2_3).bind fun t555 => (if t555 = true then ((impl_conform.f k l0_1 l2_3).bind fun t556 => (impl_Conforms.j0 k l1 (!t556) l0_0 l0_1)) else (impl_Conforms.j0 k l1 true l0_0 l0_1))) else (impl_Conforms.j0 k l1 true l0_0 l0_1))
theorem impl_Conforms.mono_l : ∀ k, (∀ y0 y1 y2 y3, LeO (impl_Conforms.j0 k y0 y1 y2 y3) (impl_Conforms.j0 (k + 1) y0 y1 y2 y3)) ∧ (∀ y0 y1 y2 y3 y4, LeO (impl_Conforms.l0 k y0 y1 y2 y3 y4) (impl_Conforms.l0 (k + 1) y0 y1 y2 y3 y4))
 | 0 => ⟨fun _ _ _ _ r h => by simp [impl_Conforms.j0] at h, fun _ _ _ _ _ r h => by simp [impl_Conforms.l0] at h⟩
 | k + 1 => by
  obtain ⟨ih0, ih1⟩ := impl_Conforms.mono_l k
  refine ⟨?_, ?_⟩
  ·
   intro y0 y1 y2 y3
   unfold impl_Conforms.j0
   repeat' first
   | (with_reducible exact ih0 _ _ _ _)
   | (with_reducible exact ih1 _ _ _ _ _)
   | (with_reducible exact impl_RequestValid.mono _ _ _ _ _ _)
   | (with_reducible exact impl_SchemaValid.mono _ _ _)
   | (with_reducible exact impl_conform.mono _ _ _)
   | (with_reducible exact LeO.refl _)
   | (with_reducible exact LeO.none _)
   | (with_reducible refine LeO.ite ?_ ?_)
   | (with_reducible refine LeO.bind ?_ (fun _ => ?_))
   | exact ih0 _ _ _ _
   | exact ih1 _ _ _ _ _
   | exact impl_RequestValid.mono _ _ _ _ _ _
   | exact impl_SchemaValid.mono _ _ _
   | exact impl_conform.mono _ _ _
   | exact LeO.none _
   | refine LeO.ite ?_ ?_
   | refine LeO.bind ?_ (fun _ => ?_)
  ·
   intro y0 y1 y2 y3 y4
   unfold impl_Conforms.l0
   repeat' first
   | (with_reducible exact ih0 _ _ _ _)
   | (with_reducible exact ih1 _ _ _ _ _)
   | (with_reducible exact impl_RequestValid.mono _ _ _ _ _ _)
   | (with_reducible exact impl_SchemaValid.mono _ _ _)
   | (with_reducible exact impl_conform.mono _ _ _)
   | (with_reducible exact LeO.refl _)
   | (with_reducible exact LeO.none _)
   | (with_reducible refine LeO.ite ?_ ?_)
   | (with_reducible refine LeO.bind ?_ (fun _ => ?_))
   | exact ih0 _ _ _ _
   | exact ih1 _ _ _ _ _
   | exact impl_RequestValid.mono _ _ _ _ _ _
   | exact impl_SchemaValid.mono _ _ _
   | exact impl_conform.mono _ _ _
   | exact LeO.none _
   | refine LeO.ite ?_ ?_
   | refine LeO.bind ?_ (fun _ => ?_)
theorem impl_Conforms.mono : ∀ a0 a1 a2 a3 a4 a5 a6 k, LeO (impl_Conforms.f k a0 a1 a2 a3 a4 a5 a6) (impl_Conforms.f (k + 1) a0 a1 a2 a3 a4 a5 a6) := by
 intro a0 a1 a2 a3 a4 a5 a6 k
 obtain ⟨ih0, ih1⟩ := impl_Conforms.mono_l k
 unfold impl_Conforms.f
 repeat' first
   | (with_reducible exact ih0 _ _ _ _)
   | (with_reducible exact ih1 _ _ _ _ _)
   | (with_reducible exact impl_RequestValid.mono _ _ _ _ _ _)
   | (with_reducible exact impl_SchemaValid.mono _ _ _)
   | (with_reducible exact impl_conform.mono _ _ _)
   | (with_reducible exact LeO.refl _)
   | (with_reducible exact LeO.none _)
   | (with_reducible refine LeO.ite ?_ ?_)
   | (with_reducible refine LeO.bind ?_ (fun _ => ?_))
   | exact ih0 _ _ _ _
   | exact ih1 _ _ _ _ _
   | exact impl_RequestValid.mono _ _ _ _ _ _
   | exact impl_SchemaValid.mono _ _ _
   | exact impl_conform.mono _ _ _
   | exact LeO.none _
   | refine LeO.ite ?_ ?_
   | refine LeO.bind ?_ (fun _ => ?_)
set_option maxHeartbeats 8000000 in
set_option maxRecDepth 100000 in
theorem impl_Conforms.calls (k : Nat) (A0_0 : Option Addr) (c0_0 : Nat) (l0_0 : List (S77)) (A0_1 : Option Addr) (c0_1 : Nat) (l0_1 : List (S77)) (A1 : Option Addr) (c1 : Nat) (l1 : List (S74)) (a2_0 : Int) (a2_1 : Int) (a2_2 : Int) (A2_3 : Option Addr) (c2_3 : Nat) (l2_3 : List (S55)) (r : Bool) (w : World) (hr0_0 : Kd.C k77 w A0_0 l0_0.length l0_0) (hc0_0 : l0_0.length ≤ c0_0) (hr0_1 : Kd.C k77 w A0_1 l0_1.length l0_1) (hc0_1 : l0_1.length ≤ c0_1) (hr1 : Kd.C k74 w A1 l1.length l1) (hc1 : l1.length ≤ c1) (hr2_3 : Kd.C k55 w A2_3 l2_3.length l2_3) (hc2_3 : l2_3.length ≤ c2_3) (h : impl_Conforms.f k l0_0 l0_1 l1 a2_0 a2_1 a2_2 l2_3 = some r) :
  Calls Try.prog 27 #[.agg #[.slice A0_0 l0_0.length c0_0, .slice A0_1 l0_1.length c0_1], .slice A1 l1.length c1, .agg #[.int .i64 a2_0, .int .i64 a2_1, .int .i64 a2_2, .slice A2_3 l2_3.length c2_3]] w fun e w' => e = .returned (.bool r) ∧ Below w.heap.size w w' := by
 have hu47 := Try.underlying47
 have hu42 := Try.underlying42
 have hu74 := Try.underlying74
 have HR0_0 := Aside0.mk hr0_0
 have HC0_0 := Aside0.mk hc0_0
 clear hr0_0 hc0_0
 have HR0_1 := Aside0.mk hr0_1
 have HC0_1 := Aside0.mk hc0_1
 clear hr0_1 hc0_1
 have HR1 := Aside0.mk hr1
 have HC1 := Aside0.mk hc1
 clear hr1 hc1
 have HR2_3 := Aside0.mk hr2_3
 have HC2_3 := Aside0.mk hc2_3
 clear hr2_3 hc2_3
 have HB := Aside0.mk (Below.refl w.heap.size w)
 have H : ((impl_SchemaValid.f k l0_0 l0_1).bind fun t554 => (if t554 = true then ((impl_RequestValid.f k l1 a2_0 a2_1 a2_2 l2_3).bind fun t555 => (if t555 = true then ((impl_conform.f k l0_1 l2_3).bind fun t556 => (impl_Conforms.j0 k l1 (!t556) l0_0 l0_1)) else (impl_Conforms.j0 k l1 true l0_0 l0_1))) else (impl_Conforms.j0 k l1 true l0_0 l0_1))) = some r := h
 clear h
 have HC4 := Aside0.mk H
 clear H
 go_enter Try.func27, Try.ntmps27
 go_upto_region 1 with (first | ((with_reducible refine gate_dst (N := 3) rfl ?_); refine bx 3 #[.slice A0_0 l0_0.length c0_0, .slice A0_1 l0_1.length c0_1] 47 ?_; intro gb552 hg w5 hbox hb; have BK552 := Aside0.mk (hbox); have GW552 := gwB HB hg; have GE552 := gwB HB hg; replace HB := bS HB hb; clear hb hbox hg) | ((with_reducible refine gate_dst (N := 5) rfl ?_); refine bx 5 #[.int .i64 a2_0, .int .i64 a2_1, .int .i64 a2_2, .slice A2_3 l2_3.length c2_3] 42 ?_; intro gb553 hg w6 hbox hb; have BK553 := Aside0.mk (hbox); have GW553 := gwB HB hg; have GE553 := gwB HB hg; replace HB := bS HB hb; have NB552_553 := nbL BK552 hg; have NB553_552 := nbR BK552 hg; replace BK552 := bB BK552 hb; clear hb hbox hg))
 (try simp only [Act.put, List.setIfInBounds_toArray, List.set_cons_zero, List.set_cons_succ])
 go_cut [25] (fun v25 wc => ∃ (kq : Nat) (x25_3 : Bool), v25 = .bool x25_3 ∧ Aside0 (impl_Conforms.j0 kq l1 x25_3 l0_0 l0_1 = some r) ∧ Aside0 (kq ≤ k) ∧ Aside0 (wc.heap[gb552]? = some (.cells #[(.slice A0_0 l0_0.length c0_0), (.slice A0_1 l0_1.length c0_1)] 47 (0, 0))) ∧ Aside0 (wc.heap[gb553]? = some (.cells #[.int .i64 a2_0, .int .i64 a2_1, .int .i64 a2_2, (.slice A2_3 l2_3.length c2_3)] 42 (0, 0))) ∧ Aside0 (Below w.heap.size w wc))
 case first =>
  have H := HC4.out
  clear HC4
  replace H := Option.bind_eq_some_iff.mp H
  obtain ⟨t554, A70, H⟩ := H
  replace H : (if t554 = true then ((impl_RequestValid.f k l1 a2_0 a2_1 a2_2 l2_3).bind fun t555 => (if t555 = true then ((impl_conform.f k l0_1 l2_3).bind fun t556 => (impl_Conforms.j0 k l1 (!t556) l0_0 l0_1)) else (impl_Conforms.j0 k l1 true l0_0 l0_1))) else (impl_Conforms.j0 k l1 true l0_0 l0_1)) = some r := H
  have A7 := Aside0.mk A70
  clear A70
  by_cases c8 : t554 = true
  ·
   subst c8
   have H1 : ((impl_RequestValid.f k l1 a2_0 a2_1 a2_2 l2_3).bind fun t555 => (if t555 = true then ((impl_conform.f k l0_1 l2_3).bind fun t556 => (impl_Conforms.j0 k l1 (!t556) l0_0 l0_1)) else (impl_Conforms.j0 k l1 true l0_0 l0_1))) = some r := by rw [if_pos rfl] at H; exact H
   clear H
   have H := H1
   clear H1
   replace H := Option.bind_eq_some_iff.mp H
   obtain ⟨t555, A90, H⟩ := H
   replace H : (if t555 = true then ((impl_conform.f k l0_1 l2_3).bind fun t556 => (impl_Conforms.j0 k l1 (!t556) l0_0 l0_1)) else (impl_Conforms.j0 k l1 true l0_0 l0_1)) = some r := H
   have A9 := Aside0.mk A90
   clear A90
   by_cases c10 : t555 = true
   ·
    subst c10
    have H1 : ((impl_conform.f k l0_1 l2_3).bind fun t556 => (impl_Conforms.j0 k l1 (!t556) l0_0 l0_1)) = some r := by rw [if_pos rfl] at H; exact H
    clear H
    have H := H1
    clear H1
    replace H := Option.bind_eq_some_iff.mp H
    obtain ⟨t556, A110, H⟩ := H
    replace H : (impl_Conforms.j0 k l1 (!t556) l0_0 l0_1) = some r := H
    have A11 := Aside0.mk A110
    clear A110
    have H' := Aside0.mk H
    clear H
    have hnb12 := NB552_553.out
    have hnc12 := NB553_552.out
    have hcz13_0 : w6.cell? ⟨gb552, 0, none⟩ = some (.slice A0_0 l0_0.length c0_0) := (blk_cell BK552.out 0).trans rfl
    have hcz13_1 : w6.cell? ⟨gb552, 1, none⟩ = some (.slice A0_1 l0_1.length c0_1) := (blk_cell BK552.out 1).trans rfl
    have hfz13_0 := blk_frozen BK552.out 0
    have hfz13_1 := blk_frozen BK552.out 1
    go_wp2_with (first | ((with_reducible refine gate_callee (f := 30) rfl ?_); refine gl (some 10) Try.func30 #[.agg #[.slice A0_0 l0_0.length c0_0, .slice A0_1 l0_1.length c0_1]] ?_; (with_reducible refine (impl_SchemaValid.calls k (fun k_ => k_ < w.heap.size) _ _ l0_0 (fun k_ => k_ < w.heap.size) _ _ l0_1 true _ ?side1 ?side2 A7.out).mono ?_); (case side1 => exact Kd.V_mk HC0_0.out (Kd.F_below (Kd.C_F k77_heap HR0_0.out) (by exact bw HB.out))); (case side2 => exact Kd.V_mk HC0_1.out (Kd.F_below (Kd.C_F k77_heap HR0_1.out) (by exact bw HB.out))); rintro e w14 ⟨rfl, hb⟩; refine ⟨_, rfl, ?_⟩; replace BK552 := bB BK552 hb; replace BK553 := bB BK553 hb; replace HB := bS HB hb; (try clear hb); (try clear hb2); (try clear hk); (try clear hi); obtain ⟨hcz15_0, hcz15_1, hcz15_2, hcz15_3⟩ := cs4 BK553.out; obtain ⟨hfz15_0, hfz15_1, hfz15_2, hfz15_3⟩ := fz4 BK553.out) | (go_at_call 20; (with_reducible refine (impl_RequestValid.calls k _ _ l1 a2_0 a2_1 a2_2 _ _ l2_3 true _ ?side1 ?side2 ?side3 ?side4 A9.out).mono ?_); (case side1 => repeat (first | exact (Kd.C_below HR1.out HB.out) | (with_reducible refine Kd.C_alloc ?_ _) | (with_reducible refine Kd.C_drewN ?_ _) | (with_reducible refine Kd.C_drew ?_))); (case side2 => exact HC1.out); (case side3 => repeat (first | exact (Kd.C_below HR2_3.out HB.out) | (with_reducible refine Kd.C_alloc ?_ _) | (with_reducible refine Kd.C_drewN ?_ _) | (with_reducible refine Kd.C_drew ?_))); (case side4 => exact HC2_3.out); rintro e w16 ⟨rfl, hb⟩; have n0_ := bB BK552 hb; have n1_ := bB BK553 hb; have n2_ := bS HB hb; clear BK552; clear BK553; clear HB; have BK552 := n0_; have BK553 := n1_; have HB := n2_; clear n0_ n1_ n2_; (try clear hb); (try clear hb2); (try clear hk); (try clear hi); obtain ⟨hcz17_0, hcz17_1⟩ := cs2 BK552.out; obtain ⟨hfz17_0, hfz17_1⟩ := fz2 BK552.out; obtain ⟨hcz18_0, hcz18_1, hcz18_2, hcz18_3⟩ := cs4 BK553.out; obtain ⟨hfz18_0, hfz18_1, hfz18_2, hfz18_3⟩ := fz4 BK553.out) | (go_at_call 50; (with_reducible refine (impl_conform.calls k _ _ l0_1 _ _ l2_3 t556 _ ?side1 ?side2 ?side3 ?side4 A11.out).mono ?_); (case side1 => repeat (first | exact (Kd.C_below HR0_1.out HB.out) | (with_reducible refine Kd.C_alloc ?_ _) | (with_reducible refine Kd.C_drewN ?_ _) | (with_reducible refine Kd.C_drew ?_))); (case side2 => exact HC0_1.out); (case side3 => repeat (first | exact (Kd.C_below HR2_3.out HB.out) | (with_reducible refine Kd.C_alloc ?_ _) | (with_reducible refine Kd.C_drewN ?_ _) | (with_reducible refine Kd.C_drew ?_))); (case side4 => exact HC2_3.out); rintro e w19 ⟨rfl, hb⟩; have n0_ := bB BK552 hb; have n1_ := bB BK553 hb; have n2_ := bS HB hb; clear BK552; clear BK553; clear HB; have BK552 := n0_; have BK553 := n1_; have HB := n2_; clear n0_ n1_ n2_; (try clear hb); (try clear hb2); (try clear hk); (try clear hi)))
    go_meet
    case rel => exact ⟨_, (!t556), (by first | rfl | (simp; done) | (simp [*]; done)), H', ⟨by first | omega | exact Nat.le_refl _⟩, ⟨by exact bk BK552.out⟩, ⟨by exact bk BK553.out⟩, ⟨by exact bw HB.out⟩⟩
   ·
    replace c10 := Bool.eq_false_iff.mpr c10
    subst c10
    have H1 : (impl_Conforms.j0 k l1 true l0_0 l0_1) = some r := by rw [if_neg (show ¬ (false = true) by decide)] at H; exact H
    clear H
    have H := H1
    clear H1
    have H' := Aside0.mk H
    clear H
    have hnb20 := NB552_553.out
    have hnc20 := NB553_552.out
    have hcz21_0 : w6.cell? ⟨gb552, 0, none⟩ = some (.slice A0_0 l0_0.length c0_0) := (blk_cell BK552.out 0).trans rfl
    have hcz21_1 : w6.cell? ⟨gb552, 1, none⟩ = some (.slice A0_1 l0_1.length c0_1) := (blk_cell BK552.out 1).trans rfl
    have hfz21_0 := blk_frozen BK552.out 0
    have hfz21_1 := blk_frozen BK552.out 1
    go_wp2_with (first | ((with_reducible refine gate_callee (f := 30) rfl ?_); refine gl (some 10) Try.func30 #[.agg #[.slice A0_0 l0_0.length c0_0, .slice A0_1 l0_1.length c0_1]] ?_; (with_reducible refine (impl_SchemaValid.calls k (fun k_ => k_ < w.heap.size) _ _ l0_0 (fun k_ => k_ < w.heap.size) _ _ l0_1 true _ ?side1 ?side2 A7.out).mono ?_); (case side1 => exact Kd.V_mk HC0_0.out (Kd.F_below (Kd.C_F k77_heap HR0_0.out) (by exact bw HB.out))); (case side2 => exact Kd.V_mk HC0_1.out (Kd.F_below (Kd.C_F k77_heap HR0_1.out) (by exact bw HB.out))); rintro e w22 ⟨rfl, hb⟩; refine ⟨_, rfl, ?_⟩; replace BK552 := bB BK552 hb; replace BK553 := bB BK553 hb; replace HB := bS HB hb; (try clear hb); (try clear hb2); (try clear hk); (try clear hi); obtain ⟨hcz23_0, hcz23_1, hcz23_2, hcz23_3⟩ := cs4 BK553.out; obtain ⟨hfz23_0, hfz23_1, hfz23_2, hfz23_3⟩ := fz4 BK553.out) | (go_at_call 20; (with_reducible refine (impl_RequestValid.calls k _ _ l1 a2_0 a2_1 a2_2 _ _ l2_3 false _ ?side1 ?side2 ?side3 ?side4 A9.out).mono ?_); (case side1 => repeat (first | exact (Kd.C_below HR1.out HB.out) | (with_reducible refine Kd.C_alloc ?_ _) | (with_reducible refine Kd.C_drewN ?_ _) | (with_reducible refine Kd.C_drew ?_))); (case side2 => exact HC1.out); (case side3 => repeat (first | exact (Kd.C_below HR2_3.out HB.out) | (with_reducible refine Kd.C_alloc ?_ _) | (with_reducible refine Kd.C_drewN ?_ _) | (with_reducible refine Kd.C_drew ?_))); (case side4 => exact HC2_3.out); rintro e w24 ⟨rfl, hb⟩; have n0_ := bB BK552 hb; have n1_ := bB BK553 hb; have n2_ := bS HB hb; clear BK552; clear BK553; clear HB; have BK552 := n0_; have BK553 := n1_; have HB := n2_; clear n0_ n1_ n2_; (try clear hb); (try clear hb2); (try clear hk); (try clear hi)))
    go_meet
    case rel => exact ⟨_, (true), (by first | rfl | (simp; done) | (simp [*]; done)), H', ⟨by first | omega | exact Nat.le_refl _⟩, ⟨by exact bk BK552.out⟩, ⟨by exact bk BK553.out⟩, ⟨by exact bw HB.out⟩⟩
  ·
   replace c8 := Bool.eq_false_iff.mpr c8
   subst c8
   have H1 : (impl_Conforms.j0 k l1 true l0_0 l0_1) = some r := by rw [if_neg (show ¬ (false = true) by decide)] at H; exact H
   clear H
   have H := H1
   clear H1
   have H' := Aside0.mk H
   clear H
   have hnb25 := NB552_553.out
   have hnc25 := NB553_552.out
   have hcz26_0 : w6.cell? ⟨gb552, 0, none⟩ = some (.slice A0_0 l0_0.length c0_0) := (blk_cell BK552.out 0).trans rfl
   have hcz26_1 : w6.cell? ⟨gb552, 1, none⟩ = some (.slice A0_1 l0_1.length c0_1) := (blk_cell BK552.out 1).trans rfl
   have hfz26_0 := blk_frozen BK552.out 0
   have hfz26_1 := blk_frozen BK552.out 1
   go_wp2_with (first | ((with_reducible refine gate_callee (f := 30) rfl ?_); refine gl (some 10) Try.func30 #[.agg #[.slice A0_0 l0_0.length c0_0, .slice A0_1 l0_1.length c0_1]] ?_; (with_reducible refine (impl_SchemaValid.calls k (fun k_ => k_ < w.heap.size) _ _ l0_0 (fun k_ => k_ < w.heap.size) _ _ l0_1 false _ ?side1 ?side2 A7.out).mono ?_); (case side1 => exact Kd.V_mk HC0_0.out (Kd.F_below (Kd.C_F k77_heap HR0_0.out) (by exact bw HB.out))); (case side2 => exact Kd.V_mk HC0_1.out (Kd.F_below (Kd.C_F k77_heap HR0_1.out) (by exact bw HB.out))); rintro e w27 ⟨rfl, hb⟩; refine ⟨_, rfl, ?_⟩; replace BK552 := bB BK552 hb; replace BK553 := bB BK553 hb; replace HB := bS HB hb; (try clear hb); (try clear hb2); (try clear hk); (try clear hi)))
   go_meet
   case rel => exact ⟨_, (true), (by first | rfl | (simp; done) | (simp [*]; done)), H', ⟨by first | omega | exact Nat.le_refl _⟩, ⟨by exact bk BK552.out⟩, ⟨by exact bk BK553.out⟩, ⟨by exact bw HB.out⟩⟩
 case rest =>
  clear HC4
  try clear c1
  try clear c2
  try clear p2
  try clear c3
  try clear c8
  try clear c10
  try clear c12
  try clear c20
  try clear c25
  try clear c27
  try clear hcz13_0
  try clear hcz13_1
  try clear hcz15_0
  try clear hcz15_1
  try clear hcz15_2
  try clear hcz15_3
  try clear hcz17_0
  try clear hcz17_1
  try clear hcz18_0
  try clear hcz18_1
  try clear hcz18_2
  try clear hcz18_3
  try clear hcz21_0
  try clear hcz21_1
  try clear hcz23_0
  try clear hcz23_1
  try clear hcz23_2
  try clear hcz23_3
  try clear hcz26_0
  try clear hcz26_1
  try clear hfz13_0
  try clear hfz13_1
  try clear hfz15_0
  try clear hfz15_1
  try clear hfz15_2
  try clear hfz15_3
  try clear hfz17_0
  try clear hfz17_1
  try clear hfz18_0
  try clear hfz18_1
  try clear hfz18_2
  try clear hfz18_3
  try clear hfz21_0
  try clear hfz21_1
  try clear hfz23_0
  try clear hfz23_1
  try clear hfz23_2
  try clear hfz23_3
  try clear hfz26_0
  try clear hfz26_1
  obtain ⟨kq, x25_3, rfl, HA, HJ3, BK552, BK553, HB⟩ := hcut
  cases kq with
  | zero => exact absurd HA.out (by simp [impl_Conforms.j0])
  | succ kj3 =>
   have H := HA.out
   clear HA
   simp only [impl_Conforms.j0] at H
   by_cases c28 : x25_3 = true
   ·
    subst c28
    have H1 : (some false) = some r := by rw [if_pos rfl] at H; exact H
    clear H
    have H := H1
    clear H1
    obtain rfl := Option.some.inj H
    go_wp2
    go_ret
    exact ⟨by first | rfl | (simp [errW_none, errW_some] <;> rfl) | (simp [*, errW_none, errW_some] <;> rfl), by exact bw HB.out⟩
   ·
    replace c28 := Bool.eq_false_iff.mpr c28
    subst c28
    have H1 : (impl_Conforms.l0 kj3 l1 (l1.length : Int) 0 l0_0 l0_1) = some r := by rw [if_neg (show ¬ (false = true) by decide)] at H; exact H
    clear H
    have H := H1
    clear H1
    have H' := Aside0.mk H
    clear H
    go_wp2
    go_loopg [28] kj3 (fun kq v28 w' => ∃ (x28_2 : Int), v28 = .int .i64 x28_2 ∧ Aside0 (impl_Conforms.l0 kq l1 (l1.length : Int) x28_2 l0_0 l0_1 = some r) ∧ Aside0 (kq ≤ kj3) ∧ Aside0 (w'.heap[gb552]? = some (.cells #[(.slice A0_0 l0_0.length c0_0), (.slice A0_1 l0_1.length c0_1)] 47 (0, 0))) ∧ Aside0 (w'.heap[gb553]? = some (.cells #[.int .i64 a2_0, .int .i64 a2_1, .int .i64 a2_2, (.slice A2_3 l2_3.length c2_3)] 42 (0, 0))) ∧ Aside0 (Below w.heap.size w w'))
    case atStart => exact ⟨(0), (by first | rfl | (simp; done) | (simp [*]; done)), H', ⟨Nat.le_refl _⟩, ⟨by exact bk BK552.out⟩, ⟨by exact bk BK553.out⟩, ⟨by exact bw HB.out⟩⟩
    case round =>
     clear H'
     try clear c1
     try clear c2
     try clear p2
     try clear c3
     try clear c8
     try clear c10
     try clear c12
     try clear c20
     try clear c25
     try clear c27
     try clear c28
     try clear hcz13_0
     try clear hcz13_1
     try clear hcz15_0
     try clear hcz15_1
     try clear hcz15_2
     try clear hcz15_3
     try clear hcz17_0
     try clear hcz17_1
     try clear hcz18_0
     try clear hcz18_1
     try clear hcz18_2
     try clear hcz18_3
     try clear hcz21_0
     try clear hcz21_1
     try clear hcz23_0
     try clear hcz23_1
     try clear hcz23_2
     try clear hcz23_3
     try clear hcz26_0
     try clear hcz26_1
     try clear hfz13_0
     try clear hfz13_1
     try clear hfz15_0
     try clear hfz15_1
     try clear hfz15_2
     try clear hfz15_3
     try clear hfz17_0
     try clear hfz17_1
     try clear hfz18_0
     try clear hfz18_1
     try clear hfz18_2
     try clear hfz18_3
     try clear hfz21_0
     try clear hfz21_1
     try clear hfz23_0
     try clear hfz23_1
     try clear hfz23_2
     try clear hfz23_3
     try clear hfz26_0
     try clear hfz26_1
     try clear p2
     obtain ⟨x28_2, rfl, HA, HK2, BK552, BK553, HB⟩ := hrel
     cases gk with
     | zero => exact absurd HA.out (by simp [impl_Conforms.l0])
     | succ k2 =>
      have H := HA.out
      clear HA
      simp only [impl_Conforms.l0] at H
      by_cases c29 : x28_2 < (l1.length : Int)
      ·
       rw [if_pos c29] at H; have c29b0 : decide (x28_2 < (l1.length : Int)) = true := decide_eq_true c29; clear c29
       by_cases c30 : 0 ≤ x28_2
       ·
        rw [if_pos c30] at H; have c30b0 : decide (0 ≤ x28_2) = true := decide_eq_true c30; clear c30
        by_cases c31 : x28_2 < (l1.length : Int)
        ·
         rw [if_pos c31] at H; have c31b0 : decide (x28_2 < (l1.length : Int)) = true := decide_eq_true c31; clear c31
         replace H := Option.bind_eq_some_iff.mp H
         obtain ⟨t559, A320, H⟩ := H
         replace H : (if t559 = true then (impl_Conforms.l0 k2 l1 (l1.length : Int) (wrap64 (x28_2 + 1)) l0_0 l0_1) else (some false)) = some r := H
         have A32 := Aside0.mk A320
         clear A320
         by_cases c33 : t559 = true
         ·
          subst c33
          have H1 : (impl_Conforms.l0 k2 l1 (l1.length : Int) (wrap64 (x28_2 + 1)) l0_0 l0_1) = some r := by rw [if_pos rfl] at H; exact H
          clear H
          have H := H1
          clear H1
          have H' := Aside0.mk H
          clear H
          have p557 : 0 ≤ (x28_2 : Int) := of_decide_eq_true (by first | (with_reducible assumption) | assumption)
          have q557 : x28_2 < (l1.length : Int) := of_decide_eq_true (by first | (with_reducible assumption) | assumption)
          obtain ⟨ad557, A557_0, c557_0, A557_1, c557_1, e557, hx557_0, hx557_1, hl557_0, hi557_0, hl557_1, hi557_1⟩ := at_T74 HR1.out x28_2 p557 q557
          cases e557
          first | replace hx557_0 := (HB.out.cell (World.block_lt_of_cell? w _ hx557_0)).trans hx557_0 | skip
          first | replace hx557_1 := (HB.out.cell (World.block_lt_of_cell? w _ hx557_1)).trans hx557_1 | skip
          have HR557_0 := Aside0.mk hi557_0
          have HC557_0 := Aside0.mk hl557_0
          clear hi557_0 hl557_0
          have HR557_1 := Aside0.mk hi557_1
          have HC557_1 := Aside0.mk hl557_1
          clear hi557_1 hl557_1
          replace p557 := eq_true p557
          replace q557 := eq_true q557
          go_wp2_with (first | ((with_reducible refine gate_dst (N := 8) rfl ?_); refine bx 8 #[.slice none 0 0, .slice none 0 0] 74 ?_; intro gb558 hg w34 hbox hb; have BK558 := Aside0.mk (hbox); have GW558 := gwB HB hg; have GE558 := gwB HB hg; replace HB := bS HB hb; have NB552_558 := nbL BK552 hg; have NB558_552 := nbR BK552 hg; replace BK552 := bB BK552 hb; have NB553_558 := nbL BK553 hg; have NB558_553 := nbR BK553 hg; replace BK553 := bB BK553 hb; clear hb hbox hg; have hnb35 := NB558_552.out; have hnc35 := NB552_558.out; have hnb36 := NB558_553.out; have hnc36 := NB553_558.out; obtain ⟨hcz37_0, hcz37_1⟩ := cs2 BK558.out; obtain ⟨hfz37_0, hfz37_1⟩ := fz2 BK558.out; have hnb38 := NB552_553.out; have hnc38 := NB553_552.out; obtain ⟨hcz39_0, hcz39_1⟩ := cs2 BK552.out; obtain ⟨hfz39_0, hfz39_1⟩ := fz2 BK552.out) | ((with_reducible refine gate_callee (f := 50) rfl ?_); refine gl (some 36) Try.func50 #[.slice A0_0 l0_0.length c0_0, .slice A557_1 ((rd_T74 l1 x28_2).f1).length c557_1] ?_; (with_reducible refine (impl_conform.calls k2 _ _ l0_0 _ _ ((rd_T74 l1 x28_2).f1) true _ ?side1 ?side2 ?side3 ?side4 A32.out).mono ?_); (case side1 => exact Kd.C_below HR0_0.out (by exact bw HB.out)); (case side2 => exact HC0_0.out); (case side3 => exact Kd.C_below HR557_1.out (by exact bw HB.out)); (case side4 => exact HC557_1.out); rintro e w40 ⟨rfl, hb⟩; refine ⟨_, rfl, ?_⟩; replace BK552 := Aside0.mk (blk_below (g := gb552) (o := .cells #[.slice A0_0 l0_0.length c0_0, .slice A0_1 l0_1.length c0_1] 47 (0, 0)) (bo BK552) hb); replace BK553 := Aside0.mk (blk_below (g := gb553) (o := .cells #[.int .i64 a2_0, .int .i64 a2_1, .int .i64 a2_2, .slice A2_3 l2_3.length c2_3] 42 (0, 0)) (bo BK553) hb); replace BK558 := Aside0.mk (blk_below (g := gb558) (o := .cells #[.slice A557_0 ((rd_T74 l1 x28_2).f0).length c557_0, .slice A557_1 ((rd_T74 l1 x28_2).f1).length c557_1] 74 (0, 0)) (bp BK558) hb); replace HB := bS HB hb; (try clear hb); (try clear hb2); (try clear hk); (try clear hi)))
          go_roundg k2
          case measure => have := HJ3.out; have := HK2.out; omega
          case rel => exact ⟨(wrap64 (x28_2 + 1)), (by first | rfl | (simp; done) | (simp [*]; done)), H', ⟨by have := HJ3.out; have := HK2.out; omega⟩, ⟨by exact bk BK552.out⟩, ⟨by exact bk BK553.out⟩, ⟨by exact bw HB.out⟩⟩
         ·
          replace c33 := Bool.eq_false_iff.mpr c33
          subst c33
          have H1 : (some false) = some r := by rw [if_neg (show ¬ (false = true) by decide)] at H; exact H
          clear H
          have H := H1
          clear H1
          obtain rfl := Option.some.inj H
          have p557 : 0 ≤ (x28_2 : Int) := of_decide_eq_true (by first | (with_reducible assumption) | assumption)
          have q557 : x28_2 < (l1.length : Int) := of_decide_eq_true (by first | (with_reducible assumption) | assumption)
          obtain ⟨ad557, A557_0, c557_0, A557_1, c557_1, e557, hx557_0, hx557_1, hl557_0, hi557_0, hl557_1, hi557_1⟩ := at_T74 HR1.out x28_2 p557 q557
          cases e557
          first | replace hx557_0 := (HB.out.cell (World.block_lt_of_cell? w _ hx557_0)).trans hx557_0 | skip
          first | replace hx557_1 := (HB.out.cell (World.block_lt_of_cell? w _ hx557_1)).trans hx557_1 | skip
          have HR557_0 := Aside0.mk hi557_0
          have HC557_0 := Aside0.mk hl557_0
          clear hi557_0 hl557_0
          have HR557_1 := Aside0.mk hi557_1
          have HC557_1 := Aside0.mk hl557_1
          clear hi557_1 hl557_1
          replace p557 := eq_true p557
          replace q557 := eq_true q557
          go_wp2_with (first | ((with_reducible refine gate_dst (N := 8) rfl ?_); refine bx 8 #[.slice none 0 0, .slice none 0 0] 74 ?_; intro gb558 hg w41 hbox hb; have BK558 := Aside0.mk (hbox); have GW558 := gwB HB hg; have GE558 := gwB HB hg; replace HB := bS HB hb; have NB552_558 := nbL BK552 hg; have NB558_552 := nbR BK552 hg; replace BK552 := bB BK552 hb; have NB553_558 := nbL BK553 hg; have NB558_553 := nbR BK553 hg; replace BK553 := bB BK553 hb; clear hb hbox hg; have hnb42 := NB558_552.out; have hnc42 := NB552_558.out; have hnb43 := NB558_553.out; have hnc43 := NB553_558.out; obtain ⟨hcz44_0, hcz44_1⟩ := cs2 BK558.out; obtain ⟨hfz44_0, hfz44_1⟩ := fz2 BK558.out; have hnb45 := NB552_553.out; have hnc45 := NB553_552.out; obtain ⟨hcz46_0, hcz46_1⟩ := cs2 BK552.out; obtain ⟨hfz46_0, hfz46_1⟩ := fz2 BK552.out) | ((with_reducible refine gate_callee (f := 50) rfl ?_); refine gl (some 36) Try.func50 #[.slice A0_0 l0_0.length c0_0, .slice A557_1 ((rd_T74 l1 x28_2).f1).length c557_1] ?_; (with_reducible refine (impl_conform.calls k2 _ _ l0_0 _ _ ((rd_T74 l1 x28_2).f1) false _ ?side1 ?side2 ?side3 ?side4 A32.out).mono ?_); (case side1 => exact Kd.C_below HR0_0.out (by exact bw HB.out)); (case side2 => exact HC0_0.out); (case side3 => exact Kd.C_below HR557_1.out (by exact bw HB.out)); (case side4 => exact HC557_1.out); rintro e w47 ⟨rfl, hb⟩; refine ⟨_, rfl, ?_⟩; replace BK552 := Aside0.mk (blk_below (g := gb552) (o := .cells #[.slice A0_0 l0_0.length c0_0, .slice A0_1 l0_1.length c0_1] 47 (0, 0)) (bo BK552) hb); replace BK553 := Aside0.mk (blk_below (g := gb553) (o := .cells #[.int .i64 a2_0, .int .i64 a2_1, .int .i64 a2_2, .slice A2_3 l2_3.length c2_3] 42 (0, 0)) (bo BK553) hb); replace BK558 := Aside0.mk (blk_below (g := gb558) (o := .cells #[.slice A557_0 ((rd_T74 l1 x28_2).f0).length c557_0, .slice A557_1 ((rd_T74 l1 x28_2).f1).length c557_1] 74 (0, 0)) (bp BK558) hb); replace HB := bS HB hb; (try clear hb); (try clear hb2); (try clear hk); (try clear hi)))
          go_ret
          exact ⟨by first | rfl | (simp [errW_none, errW_some] <;> rfl) | (simp [*, errW_none, errW_some] <;> rfl), by exact bw HB.out⟩
        ·
         rw [if_neg c31] at H; exact absurd H (by simp)
       ·
        rw [if_neg c30] at H; exact absurd H (by simp)
      ·
       rw [if_neg c29] at H; have c29b0 : decide (x28_2 < (l1.length : Int)) = false := decide_eq_false c29; clear c29
       obtain rfl := Option.some.inj H
       go_wp2
       go_ret
       exact ⟨by first | rfl | (simp [errW_none, errW_some] <;> rfl) | (simp [*, errW_none, errW_some] <;> rfl), by exact bw HB.out⟩

end Go.Proofs.Ytoipfhdlgoaldaa.P
