-- Written by a program of this session (wip/tool).
import Derived.Test.YtefgbocbhohkeaaPx0
import Derived.Test.YtefgbocbhohkeaaPx12
import Derived.Test.YtefgbocbhohkeaaPx13
import Derived.Test.YtefgbocbhohkeaaPx59
import Derived.Test.YtefgbocbhohkeaaPx60
import Derived.Test.YtefgbocbhohkeaaPx61
namespace Go.Proofs.Ytefgbocbhohkeaa.P
open Go.RowKit Go.Proofs.YtefgbocbhohkeaaW.PrintWords Go.Proofs.YtefgbocbhohkeaaW.PrintLast Go.Proofs.YtefgbocbhohkeaaW.PrintMore
attribute [local go_sem] max2_int min2_int max_two min_two max_three min_three max_four min_four   -- for this text's walks alone
set_option linter.unusedVariables false
set_option linter.unusedSimpArgs false

/-! ### spec_l20Expr: function 59 -/
mutual
def spec_l20Expr.j0 : Nat → Bool → List Int → Int → Int → Int → ByteArray → List (S54) → Option (Int × Int × ByteArray × (List (S54)) × Int)
 | 0, _, _, _, _, _, _, _ => none
 | k + 1, x13, x1000, x1001, x735000, x735001, x735002, x735003 => if x13 = true then ((spec_l20Rd_pick.f k x1000 x1001 6).bind fun bt737 => (spec_l20Expr.j1 k bt737.1 x1000 bt737.2 x735000 x735001 x735002 x735003)) else (some (x735000, x735001, x735002, x735003, x1001))
def spec_l20Expr.j1 : Nat → Int → List Int → Int → Int → Int → ByteArray → List (S54) → Option (Int × Int × ByteArray × (List (S54)) × Int)
 | 0, _, _, _, _, _, _, _ => none
 | k + 1, x15, x1000, x1001, x735000, x735001, x735002, x735003 => if x15 = 0 then ((spec_l20Number.f k x1000 x1001 2).bind fun bt739 => (some (bt739.1, bt739.2.1, bt739.2.2.1, bt739.2.2.2.1, bt739.2.2.2.2))) else (if x15 = 1 then ((spec_l20Thing.f k x1000 x1001 1).bind fun bt746 => (some (13, 0, (⟨#[]⟩ : ByteArray), (([(⟨bt746.1, bt746.2.1, bt746.2.2.1, bt746.2.2.2.1⟩ : S54)] : List (S54))), bt746.2.2.2.2))) else (if x15 = 2 then ((spec_l20Thing.f k x1000 x1001 1).bind fun bt756 => (some (11, 0, (⟨#[]⟩ : ByteArray), (([(⟨bt756.1, bt756.2.1, bt756.2.2.1, bt756.2.2.2.1⟩ : S54), (⟨x735000, x735001, x735002, x735003⟩ : S54)] : List (S54))), bt756.2.2.2.2))) else (if x15 = 3 then ((some (([0, 16] : List Int) : List Int)).bind fun y766 => ((spec_l20Rd_pick.f k x1000 x1001 2).bind fun bt769 => (if 0 ≤ bt769.1 then (if bt769.1 < (y766.length : Int) then (some (rd y766 bt769.1, 0, (⟨#[]⟩ : ByteArray), ([] : List (S54)), bt769.2)) else (none)) else (none)))) else (if x15 = 4 then (some (14, 0, (⟨#[]⟩ : ByteArray), (([(⟨x735000, x735001, x735002, x735003⟩ : S54)] : List (S54))), x1001)) else (some (9, 0, (⟨#[65]⟩ : ByteArray), (([(⟨x735000, x735001, x735002, x735003⟩ : S54)] : List (S54))), x1001))))))
end
def spec_l20Expr.f (k : Nat) (s0_0 : List Int) (s0_1 : Int) (a1 : Int) : Option (Int × Int × ByteArray × (List (S54)) × Int) := (spec_l20Rd_pick.f k s0_0 s0_1 3).bind fun bt725 => ((spec_l20Truth.f k s0_0 bt725.2 (wrap64 (1 + bt725.1))).bind fun bt727 => ((spec_l20Rd_odd.f k s0_0 bt727.2.2.2.2 a1).bind fun bt735 => (spec_l20Expr.j0 k bt735.1 s0_0 bt735.2 bt727.1 bt727.2.1 bt727.2.2.1 bt727.2.2.2.1)))
theorem spec_l20Expr.mono_l : ∀ k, (∀ y0 y1 y2 y3 y4 y5 y6, LeO (spec_l20Expr.j0 k y0 y1 y2 y3 y4 y5 y6) (spec_l20Expr.j0 (k + 1) y0 y1 y2 y3 y4 y5 y6)) ∧ (∀ y0 y1 y2 y3 y4 y5 y6, LeO (spec_l20Expr.j1 k y0 y1 y2 y3 y4 y5 y6) (spec_l20Expr.j1 (k + 1) y0 y1 y2 y3 y4 y5 y6))
 | 0 => ⟨fun _ _ _ _ _ _ _ r h => by simp [spec_l20Expr.j0] at h, fun _ _ _ _ _ _ _ r h => by simp [spec_l20Expr.j1] at h⟩
 | k + 1 => by
  obtain ⟨ih0, ih1⟩ := spec_l20Expr.mono_l k
  refine ⟨?_, ?_⟩
  ·
   intro y0 y1 y2 y3 y4 y5 y6
   unfold spec_l20Expr.j0
   repeat' first
   | (with_reducible exact ih0 _ _ _ _ _ _ _)
   | (with_reducible exact ih1 _ _ _ _ _ _ _)
   | (with_reducible exact spec_l20Number.mono _ _ _ _)
   | (with_reducible exact spec_l20Rd_odd.mono _ _ _ _)
   | (with_reducible exact spec_l20Rd_pick.mono _ _ _ _)
   | (with_reducible exact spec_l20Thing.mono _ _ _ _)
   | (with_reducible exact spec_l20Truth.mono _ _ _ _)
   | (with_reducible exact LeO.refl _)
   | (with_reducible exact LeO.none _)
   | (with_reducible refine LeO.ite ?_ ?_)
   | (with_reducible refine LeO.bind ?_ (fun _ => ?_))
   | exact ih0 _ _ _ _ _ _ _
   | exact ih1 _ _ _ _ _ _ _
   | exact spec_l20Number.mono _ _ _ _
   | exact spec_l20Rd_odd.mono _ _ _ _
   | exact spec_l20Rd_pick.mono _ _ _ _
   | exact spec_l20Thing.mono _ _ _ _
   | exact spec_l20Truth.mono _ _ _ _
   | exact LeO.none _
   | refine LeO.ite ?_ ?_
   | refine LeO.bind ?_ (fun _ => ?_)
  ·
   intro y0 y1 y2 y3 y4 y5 y6
   unfold spec_l20Expr.j1
   repeat' first
   | (with_reducible exact ih0 _ _ _ _ _ _ _)
   | (with_reducible exact ih1 _ _ _ _ _ _ _)
   | (with_reducible exact spec_l20Number.mono _ _ _ _)
   | (with_reducible exact spec_l20Rd_odd.mono _ _ _ _)
   | (with_reducible exact spec_l20Rd_pick.mono _ _ _ _)
   | (with_reducible exact spec_l20Thing.mono _ _ _ _)
   | (with_reducible exact spec_l20Truth.mono _ _ _ _)
   | (with_reducible exact LeO.refl _)
   | (with_reducible exact LeO.none _)
   | (with_reducible refine LeO.ite ?_ ?_)
   | (with_reducible refine LeO.bind ?_ (fun _ => ?_))
   | exact ih0 _ _ _ _ _ _ _
   | exact ih1 _ _ _ _ _ _ _
   | exact spec_l20Number.mono _ _ _ _
   | exact spec_l20Rd_odd.mono _ _ _ _
   | exact spec_l20Rd_pick.mono _ _ _ _
   | exact spec_l20Thing.mono _ _ _ _
   | exact spec_l20Truth.mono _ _ _ _
   | exact LeO.none _
   | refine LeO.ite ?_ ?_
   | refine LeO.bind ?_ (fun _ => ?_)
theorem spec_l20Expr.mono : ∀ a0 a1 a2 k, LeO (spec_l20Expr.f k a0 a1 a2) (spec_l20Expr.f (k + 1) a0 a1 a2) := by
 intro a0 a1 a2 k
 obtain ⟨ih0, ih1⟩ := spec_l20Expr.mono_l k
 unfold spec_l20Expr.f
 repeat' first
   | (with_reducible exact ih0 _ _ _ _ _ _ _)
   | (with_reducible exact ih1 _ _ _ _ _ _ _)
   | (with_reducible exact spec_l20Number.mono _ _ _ _)
   | (with_reducible exact spec_l20Rd_odd.mono _ _ _ _)
   | (with_reducible exact spec_l20Rd_pick.mono _ _ _ _)
   | (with_reducible exact spec_l20Thing.mono _ _ _ _)
   | (with_reducible exact spec_l20Truth.mono _ _ _ _)
   | (with_reducible exact LeO.refl _)
   | (with_reducible exact LeO.none _)
   | (with_reducible refine LeO.ite ?_ ?_)
   | (with_reducible refine LeO.bind ?_ (fun _ => ?_))
   | exact ih0 _ _ _ _ _ _ _
   | exact ih1 _ _ _ _ _ _ _
   | exact spec_l20Number.mono _ _ _ _
   | exact spec_l20Rd_odd.mono _ _ _ _
   | exact spec_l20Rd_pick.mono _ _ _ _
   | exact spec_l20Thing.mono _ _ _ _
   | exact spec_l20Truth.mono _ _ _ _
   | exact LeO.none _
   | refine LeO.ite ?_ ?_
   | refine LeO.bind ?_ (fun _ => ?_)
set_option maxHeartbeats 8000000 in
set_option maxRecDepth 100000 in
theorem spec_l20Expr.calls (k : Nat) (g : Nat) (s0_0 : List Int) (s0_1 : Int) (a1 : Int) (r1 : Int) (r2 : Int) (r3 : ByteArray) (r4 : List (S54)) (r5 : Int) (w0 w : World) (hI : IsS81 w0 w g s0_0 s0_1) (hB : Below w0.heap.size w0 w) (h : spec_l20Expr.f k s0_0 s0_1 a1 = some (r1, r2, r3, r4, r5)) :
  Calls Try.prog 59 #[.pointer (some ⟨g, 0, none⟩), .int .i64 a1] w fun e w' => ∃ v3_ : Value, e = .returned (.agg #[.int .i64 r1, .int .i64 r2, .string r3, v3_]) ∧ Kd.V k54 54 w' w.heap.size (fun k_ => (w.heap.size ≤ k_)) v3_ r4 ∧ IsS81 w0 w' g s0_0 r5 ∧ Below w0.heap.size w0 w' ∧ KeepBut w w' g none := by
 have hu54 := Try.underlying54
 have HI0 := Aside0.mk hI
 have HK := Aside0.mk (KeepBut.refl w g none)
 have HL := Aside0.mk hB.size
 have HG0 := Aside0.mk (IsS81.ge hI)
 clear hI
 have HW0 := Aside0.mk hB.size
 have HB := Aside0.mk hB
 clear hB
 have H : ((spec_l20Rd_pick.f k s0_0 s0_1 3).bind fun bt725 => ((spec_l20Truth.f k s0_0 bt725.2 (wrap64 (1 + bt725.1))).bind fun bt727 => ((spec_l20Rd_odd.f k s0_0 bt727.2.2.2.2 a1).bind fun bt735 => (spec_l20Expr.j0 k bt735.1 s0_0 bt735.2 bt727.1 bt727.2.1 bt727.2.2.1 bt727.2.2.2.1)))) = some (r1, r2, r3, r4, r5) := h
 clear h
 replace H := Option.bind_eq_some_iff.mp H
 obtain ⟨⟨t725, t726⟩, A30, H⟩ := H
 replace H : ((spec_l20Truth.f k s0_0 t726 (wrap64 (1 + t725))).bind fun bt727 => ((spec_l20Rd_odd.f k s0_0 bt727.2.2.2.2 a1).bind fun bt735 => (spec_l20Expr.j0 k bt735.1 s0_0 bt735.2 bt727.1 bt727.2.1 bt727.2.2.1 bt727.2.2.2.1))) = some (r1, r2, r3, r4, r5) := H
 have A3 := Aside0.mk A30
 clear A30
 replace H := Option.bind_eq_some_iff.mp H
 obtain ⟨⟨t727, t728, t729, t730, t733⟩, A40, H⟩ := H
 replace H : ((spec_l20Rd_odd.f k s0_0 t733 a1).bind fun bt735 => (spec_l20Expr.j0 k bt735.1 s0_0 bt735.2 t727 t728 t729 t730)) = some (r1, r2, r3, r4, r5) := H
 have A4 := Aside0.mk A40
 clear A40
 have HC5 := Aside0.mk H
 clear H
 go_enter Try.func59, Try.ntmps59
 go_upto_region 2 with (first | ((with_reducible refine gate_dst (N := 4) rfl ?_); refine box_event ?hg (N := 4) ?hd (cs := #[.int .i64 0, .int .i64 0, .string (⟨#[]⟩ : ByteArray), .slice none 0 0]) (t := 54) ?hr ?_; (case hd => rfl); (case hg => rfl); (case hr => first | (go_simp; done) | (go_simp; rfl)); intro gb724 hg w6 hbox hb; have n0_ := Aside0.mk (IsS81.below (by exact sw81 HI0.out) hb); have n1_ := Aside0.mk (KeepBut.trans (by exact kw HK.out) (KeepBut.of_below hb g none) (.inl rfl)); have n2_ := Aside0.mk (below_step (by exact bw HB.out) hb); have n3_ := Aside0.mk (hbox); have n4_ := Aside0.mk ((by rw [hg]; exact (keep_size (w := w) (g := g) (row := none) (by exact kw HK.out)) : w.heap.size ≤ gb724)); have n5_ := Aside0.mk ((Nat.le_trans HW0.out (by rw [hg]; exact (keep_size (w := w) (g := g) (row := none) (by exact kw HK.out)) : w.heap.size ≤ gb724) : w0.heap.size ≤ gb724)); have n6_ := Aside0.mk ((by rw [hg]; exact Nat.ne_of_lt (IsS81.lt (show IsS81 w0 _ g s0_0 s0_1 from by exact sw81 HI0.out)) : g ≠ gb724)); have n7_ := Aside0.mk ((by rw [hg]; exact Nat.ne_of_gt (IsS81.lt (show IsS81 w0 _ g s0_0 s0_1 from by exact sw81 HI0.out)) : gb724 ≠ g)); clear HI0; clear HK; clear HB; have HI0 := n0_; have HK := n1_; have HB := n2_; have BK724 := n3_; have GW724 := n4_; have GE724 := n5_; have NB0_724 := n6_; have NB724_0 := n7_; clear n0_ n1_ n2_ n3_ n4_ n5_ n6_ n7_; clear hb hbox hg) | ((with_reducible refine gate_callee (f := 46) rfl ?_); refine gl (some 8) Try.func46 #[.pointer (some ⟨g, 0, none⟩), .int .i64 3] ?_; (with_reducible refine (spec_l20Rd_pick.calls k g s0_0 s0_1 3 t725 t726 w0 _ ?side1 ?side2 A3.out).mono ?_); (case side1 => exact sw81 HI0.out); (case side2 => exact bw HB.out); rintro e w7 ⟨rfl, hi, hb, hk⟩; refine ⟨_, rfl, ?_⟩; have n0_ := Aside0.mk (KeepBut.blk hk (g' := gb724) (o := .cells #[.int .i64 0, .int .i64 0, .string (⟨#[]⟩ : ByteArray), .slice none 0 0] 54 (0, 0)) (by exact bk BK724.out) NB724_0.out (by simp)); have n1_ := Aside0.mk (KeepBut.trans (by exact kw HK.out) hk (.inl rfl)); have n2_ := Aside0.mk (hb); have n3_ := Aside0.mk (hi); clear BK724; clear HK; clear HB; clear HI0; have BK724 := n0_; have HK := n1_; have HB := n2_; have HI0 := n3_; clear n0_ n1_ n2_ n3_; (try clear hb); (try clear hb2); (try clear hk); (try clear hi)) | ((with_reducible refine gate_callee (f := 66) rfl ?_); refine gl (some 10) Try.func66 #[.pointer (some ⟨g, 0, none⟩), .int .i64 (wrap64 (1 + t725))] ?_; (with_reducible refine (spec_l20Truth.calls k g s0_0 t726 (wrap64 (1 + t725)) t727 t728 t729 t730 t733 w0 _ ?side1 ?side2 A4.out).mono ?_); (case side1 => exact sw81 HI0.out); (case side2 => exact bw HB.out); rintro e w8 ⟨v731, rfl, ho0, hi, hb, hk⟩; refine ⟨_, rfl, ?_⟩; have n0_ := Aside0.mk (KeepBut.blk hk (g' := gb724) (o := .cells #[.int .i64 0, .int .i64 0, .string (⟨#[]⟩ : ByteArray), .slice none 0 0] 54 (0, 0)) (by exact bk BK724.out) NB724_0.out (by simp)); have n1_ := Aside0.mk (Kd.V_lower (Kd.V_mono (ok' := fun k_ => (w.heap.size ≤ k_) ∧ k_ ≠ gb724 ∧ k_ ≠ g) ho0 (fun k_ hk_ => ⟨(Nat.le_trans (keep_size (w := w) (g := g) (row := none) (by exact kw HK.out)) hk_), (Kd.freshB (g := gb724) (o := .cells #[.int .i64 0, .int .i64 0, .string (⟨#[]⟩ : ByteArray), .slice none 0 0] 54 (0, 0)) (by exact bk BK724.out) k_ hk_), (IsS81.fresh (by exact sw81 HI0.out) k_ hk_)⟩)) (keep_size (w := w) (g := g) (row := none) (by exact kw HK.out))); have n2_ := Aside0.mk (KeepBut.trans (by exact kw HK.out) hk (.inl rfl)); have n3_ := Aside0.mk (hb); have n4_ := Aside0.mk (hi); clear BK724; clear HK; clear HB; clear HI0; have BK724 := n0_; have HO732 := n1_; have HK := n2_; have HB := n3_; have HI0 := n4_; clear n0_ n1_ n2_ n3_ n4_; (try clear hb); (try clear hb2); (try clear hk); (try clear hi); (try clear ho0)) | ((with_reducible refine gate_dst (N := 5) rfl ?_); refine box_event ?hg (N := 5) ?hd (cs := #[.int .i64 0, .int .i64 0, .string (⟨#[]⟩ : ByteArray), .slice none 0 0]) (t := 54) ?hr ?_; (case hd => rfl); (case hg => rfl); (case hr => first | (go_simp; done) | (go_simp; rfl)); intro gb734 hg w9 hbox hb; have n0_ := Aside0.mk (Kd.V_below (Kd.V_elderB (by exact Kd.xV HO732.out) gb734 (Nat.le_of_eq hg.symm)) hb); have n1_ := Aside0.mk (IsS81.below (by exact sw81 HI0.out) hb); have n2_ := Aside0.mk (blk_below (g := gb724) (o := .cells #[.int .i64 0, .int .i64 0, .string (⟨#[]⟩ : ByteArray), .slice none 0 0] 54 (0, 0)) (by exact bk BK724.out) hb); have n3_ := Aside0.mk (KeepBut.trans (by exact kw HK.out) (KeepBut.of_below hb g none) (.inl rfl)); have n4_ := Aside0.mk (below_step (by exact bw HB.out) hb); have n5_ := Aside0.mk (hbox); have n6_ := Aside0.mk ((by rw [hg]; exact (keep_size (w := w) (g := g) (row := none) (by exact kw HK.out)) : w.heap.size ≤ gb734)); have n7_ := Aside0.mk ((Nat.le_trans HW0.out (by rw [hg]; exact (keep_size (w := w) (g := g) (row := none) (by exact kw HK.out)) : w.heap.size ≤ gb734) : w0.heap.size ≤ gb734)); have n8_ := Aside0.mk ((by rw [hg]; exact Nat.ne_of_lt (blk_lt (g := gb724) (o := .cells #[.int .i64 0, .int .i64 0, .string (⟨#[]⟩ : ByteArray), .slice none 0 0] 54 (0, 0)) (by exact bk BK724.out)) : gb724 ≠ gb734)); have n9_ := Aside0.mk ((by rw [hg]; exact Nat.ne_of_gt (blk_lt (g := gb724) (o := .cells #[.int .i64 0, .int .i64 0, .string (⟨#[]⟩ : ByteArray), .slice none 0 0] 54 (0, 0)) (by exact bk BK724.out)) : gb734 ≠ gb724)); have n10_ := Aside0.mk ((by rw [hg]; exact Nat.ne_of_lt (IsS81.lt (show IsS81 w0 _ g s0_0 t733 from by exact sw81 HI0.out)) : g ≠ gb734)); have n11_ := Aside0.mk ((by rw [hg]; exact Nat.ne_of_gt (IsS81.lt (show IsS81 w0 _ g s0_0 t733 from by exact sw81 HI0.out)) : gb734 ≠ g)); clear HO732; clear HI0; clear BK724; clear HK; clear HB; have HO732 := n0_; have HI0 := n1_; have BK724 := n2_; have HK := n3_; have HB := n4_; have BK734 := n5_; have GW734 := n6_; have GE734 := n7_; have NB724_734 := n8_; have NB734_724 := n9_; have NB0_734 := n10_; have NB734_0 := n11_; clear n0_ n1_ n2_ n3_ n4_ n5_ n6_ n7_ n8_ n9_ n10_ n11_; clear hb hbox hg; have hnb10 := NB734_724.out; have hnc10 := NB724_734.out; have hnb11 := NB734_0.out; have hnc11 := NB0_734.out; have hcz12_0 : w9.cell? ⟨gb734, 0, none⟩ = some (.int .i64 0) := (blk_cell BK734.out 0).trans rfl; have hcz12_1 : w9.cell? ⟨gb734, 1, none⟩ = some (.int .i64 0) := (blk_cell BK734.out 1).trans rfl; have hcz12_2 : w9.cell? ⟨gb734, 2, none⟩ = some (.string (⟨#[]⟩ : ByteArray)) := (blk_cell BK734.out 2).trans rfl; have hcz12_3 : w9.cell? ⟨gb734, 3, none⟩ = some (.slice none 0 0) := (blk_cell BK734.out 3).trans rfl; have hfz12_0 := blk_frozen BK734.out 0; have hfz12_1 := blk_frozen BK734.out 1; have hfz12_2 := blk_frozen BK734.out 2; have hfz12_3 := blk_frozen BK734.out 3; obtain ⟨Ao13, co13, eo13⟩ := Kd.V_slice HO732.out; subst eo13))
 (try simp only [Act.put, List.setIfInBounds_toArray, List.set_cons_zero, List.set_cons_succ])
 go_cut [13] (fun v13 wc => ∃ (kq : Nat) (x13_4 : Bool) (x1001_4 : Int), v13 = .bool x13_4 ∧ Aside0 (spec_l20Expr.j0 kq x13_4 s0_0 x1001_4 t727 t728 t729 t730 = some (r1, r2, r3, r4, r5)) ∧ Aside0 (kq ≤ k) ∧ Aside0 (Kd.V k54 54 wc w.heap.size (fun k_ => (w.heap.size ≤ k_) ∧ k_ ≠ gb724 ∧ k_ ≠ gb734 ∧ k_ ≠ g) (.slice Ao13 t730.length co13) t730) ∧ Aside0 (wc.heap[gb724]? = some (.cells #[.int .i64 0, .int .i64 0, .string (⟨#[]⟩ : ByteArray), (.slice none 0 0)] 54 (0, 0))) ∧ Aside0 (wc.heap[gb734]? = some (.cells #[.int .i64 t727, .int .i64 t728, .string t729, (.slice Ao13 t730.length co13)] 54 (0, 0))) ∧ Aside0 (IsS81 w0 wc g s0_0 x1001_4) ∧ Aside0 (KeepBut w wc g none) ∧ Aside0 (Below w0.heap.size w0 wc))
 case first =>
  have H := HC5.out
  clear HC5
  replace H := Option.bind_eq_some_iff.mp H
  obtain ⟨⟨t735, t736⟩, A140, H⟩ := H
  replace H : (spec_l20Expr.j0 k t735 s0_0 t736 t727 t728 t729 t730) = some (r1, r2, r3, r4, r5) := H
  have A14 := Aside0.mk A140
  clear A140
  have H' := Aside0.mk H
  clear H
  go_wp2_with (first | ((with_reducible refine gate_callee (f := 60) rfl ?_); refine gl (some 13) Try.func60 #[.pointer (some ⟨g, 0, none⟩), .int .i64 a1] ?_; (with_reducible refine (spec_l20Rd_odd.calls k g s0_0 t733 a1 t735 t736 w0 _ ?side1 ?side2 A14.out).mono ?_); (case side1 => exact sw81 HI0.out); (case side2 => exact bw HB.out); rintro e w15 ⟨rfl, hi, hb, hk⟩; refine ⟨_, rfl, ?_⟩; have n0_ := Aside0.mk (KeepBut.blk hk (g' := gb724) (o := .cells #[.int .i64 0, .int .i64 0, .string (⟨#[]⟩ : ByteArray), .slice none 0 0] 54 (0, 0)) (by (with_reducible repeat (first | refine blk_drewN ?_ _ | refine blk_drew ?_ | refine blk_alloc ?_ _)); refine blk_far ?_ NB724_734.out _; (with_reducible repeat (first | refine blk_drewN ?_ _ | refine blk_drew ?_ | refine blk_alloc ?_ _)); refine blk_far ?_ NB724_734.out _; (with_reducible repeat (first | refine blk_drewN ?_ _ | refine blk_drew ?_ | refine blk_alloc ?_ _)); refine blk_far ?_ NB724_734.out _; (with_reducible repeat (first | refine blk_drewN ?_ _ | refine blk_drew ?_ | refine blk_alloc ?_ _)); refine blk_far ?_ NB724_734.out _; exact bk BK724.out) NB724_0.out (by simp)); have n1_ := Aside0.mk (Kd.V_mono (Kd.V_keep (Kd.V_mono (ok := fun k_ => ((((w.heap.size ≤ k_)) ∧ (k_ ≠ gb724 ∧ k_ ≠ g)) ∧ k_ ≠ gb734)) (by (with_reducible repeat (first | apply Kd.V_alloc | apply Kd.V_drewN | apply Kd.V_drew)); exact (Kd.V_mono (Kd.V_far (p := ⟨gb734, 3, none⟩) (Kd.V_far (p := ⟨gb734, 2, none⟩) (Kd.V_far (p := ⟨gb734, 1, none⟩) (Kd.V_far (p := ⟨gb734, 0, none⟩) (Kd.V_mono HO732.out (fun k_ hk => (⟨hk, okp hk⟩ : _ ∧ k_ ≠ gb734))) (fun _ hk => hk.2) (.int .i64 t727)) (fun _ hk => hk.2) (.int .i64 t728)) (fun _ hk => hk.2) (.string t729)) (fun _ hk => hk.2) (.slice Ao13 t730.length co13)) (fun _ h_ => h_.1))) (fun k_ hk_ => (⟨hk_, hk_.1.2.2⟩ : _ ∧ k_ ≠ g))) hk (fun _ h => h.2)) (fun _ h => h.1)); have n2_ := Aside0.mk (KeepBut.blk hk (g' := gb734) (o := .cells #[.int .i64 t727, .int .i64 t728, .string t729, .slice Ao13 t730.length co13] 54 (0, 0)) (by (with_reducible repeat (first | refine blk_drewN ?_ _ | refine blk_drew ?_ | refine blk_alloc ?_ _)); refine blk_put (cs := #[.int .i64 t727, .int .i64 t728, .string t729, .slice none 0 0]) ?_ 3 _ rfl; (with_reducible repeat (first | refine blk_drewN ?_ _ | refine blk_drew ?_ | refine blk_alloc ?_ _)); refine blk_put (cs := #[.int .i64 t727, .int .i64 t728, .string (⟨#[]⟩ : ByteArray), .slice none 0 0]) ?_ 2 _ rfl; (with_reducible repeat (first | refine blk_drewN ?_ _ | refine blk_drew ?_ | refine blk_alloc ?_ _)); refine blk_put (cs := #[.int .i64 t727, .int .i64 0, .string (⟨#[]⟩ : ByteArray), .slice none 0 0]) ?_ 1 _ rfl; (with_reducible repeat (first | refine blk_drewN ?_ _ | refine blk_drew ?_ | refine blk_alloc ?_ _)); refine blk_put (cs := #[.int .i64 0, .int .i64 0, .string (⟨#[]⟩ : ByteArray), .slice none 0 0]) ?_ 0 _ rfl; exact bk BK734.out) NB734_0.out (by simp)); have n3_ := Aside0.mk (KeepBut.trans (by exact kw HK.out) hk (.inl rfl)); have n4_ := Aside0.mk (hb); have n5_ := Aside0.mk (hi); clear BK724; clear HO732; clear BK734; clear HK; clear HB; clear HI0; have BK724 := n0_; have HO732 := n1_; have BK734 := n2_; have HK := n3_; have HB := n4_; have HI0 := n5_; clear n0_ n1_ n2_ n3_ n4_ n5_; (try clear hb); (try clear hb2); (try clear hk); (try clear hi)))
  go_meet
  case rel => exact ⟨_, (t735), (t736), (by first | rfl | (simp; done) | (simp [*]; done)), H', ⟨by first | omega | exact Nat.le_refl _⟩, ⟨by (with_reducible repeat (first | apply Kd.V_alloc | apply Kd.V_drewN | apply Kd.V_drew)); exact Kd.V_mono HO732.out (fun _ hk => okp hk)⟩, ⟨by exact bk BK724.out⟩, ⟨by exact bk BK734.out⟩, ⟨by exact sw81 HI0.out⟩, ⟨by exact kw HK.out⟩, ⟨by exact bw HB.out⟩⟩
 case rest =>
  clear HC5
  try clear c1
  try clear p2
  try clear c4
  try clear c5
  try clear c6
  try clear p6
  try clear c10
  try clear c11
  try clear hcz12_0
  try clear hcz12_1
  try clear hcz12_2
  try clear hcz12_3
  try clear hfz12_0
  try clear hfz12_1
  try clear hfz12_2
  try clear hfz12_3
  obtain ⟨kq, x13_4, x1001_4, rfl, HA, HJ4, HO_735003, BK724, BK734, HI0, HK, HB⟩ := hcut
  cases kq with
  | zero => exact absurd HA.out (by simp [spec_l20Expr.j0])
  | succ kj4 =>
   have H := HA.out
   clear HA
   simp only [spec_l20Expr.j0] at H
   by_cases c16 : x13_4 = true
   ·
    subst c16
    have H1 : ((spec_l20Rd_pick.f kj4 s0_0 x1001_4 6).bind fun bt737 => (spec_l20Expr.j1 kj4 bt737.1 s0_0 bt737.2 t727 t728 t729 t730)) = some (r1, r2, r3, r4, r5) := by rw [if_pos rfl] at H; exact H
    clear H
    have H := H1
    clear H1
    have HC17 := Aside0.mk H
    clear H
    go_upto_region 3 with (fail)
    go_cut [15] (fun v15 wc => ∃ (kq : Nat) (x15_16 : Int) (x1001_16 : Int), v15 = .int .i64 x15_16 ∧ Aside0 (spec_l20Expr.j1 kq x15_16 s0_0 x1001_16 t727 t728 t729 t730 = some (r1, r2, r3, r4, r5)) ∧ Aside0 (kq ≤ kj4) ∧ Aside0 (Kd.V k54 54 wc w.heap.size (fun k_ => (w.heap.size ≤ k_) ∧ k_ ≠ gb724 ∧ k_ ≠ gb734 ∧ k_ ≠ g) (.slice Ao13 t730.length co13) t730) ∧ Aside0 (wc.heap[gb724]? = some (.cells #[.int .i64 0, .int .i64 0, .string (⟨#[]⟩ : ByteArray), (.slice none 0 0)] 54 (0, 0))) ∧ Aside0 (wc.heap[gb734]? = some (.cells #[.int .i64 t727, .int .i64 t728, .string t729, (.slice Ao13 t730.length co13)] 54 (0, 0))) ∧ Aside0 (IsS81 w0 wc g s0_0 x1001_16) ∧ Aside0 (KeepBut w wc g none) ∧ Aside0 (Below w0.heap.size w0 wc))
    case first =>
     have H := HC17.out
     clear HC17
     replace H := Option.bind_eq_some_iff.mp H
     obtain ⟨⟨t737, t738⟩, A180, H⟩ := H
     replace H : (spec_l20Expr.j1 kj4 t737 s0_0 t738 t727 t728 t729 t730) = some (r1, r2, r3, r4, r5) := H
     have A18 := Aside0.mk A180
     clear A180
     have H' := Aside0.mk H
     clear H
     go_wp2_with (first | ((with_reducible refine gate_callee (f := 46) rfl ?_); refine gl (some 15) Try.func46 #[.pointer (some ⟨g, 0, none⟩), .int .i64 6] ?_; (with_reducible refine (spec_l20Rd_pick.calls kj4 g s0_0 x1001_4 6 t737 t738 w0 _ ?side1 ?side2 A18.out).mono ?_); (case side1 => exact sw81 HI0.out); (case side2 => exact bw HB.out); rintro e w19 ⟨rfl, hi, hb, hk⟩; refine ⟨_, rfl, ?_⟩; have n0_ := Aside0.mk (Kd.V_mono (Kd.V_keep (Kd.V_mono (ok := fun k_ => (((w.heap.size ≤ k_)) ∧ (k_ ≠ gb724 ∧ (k_ ≠ gb734 ∧ k_ ≠ g)))) (by exact Kd.xV HO_735003.out) (fun k_ hk_ => (⟨hk_, hk_.2.2.2⟩ : _ ∧ k_ ≠ g))) hk (fun _ h => h.2)) (fun _ h => h.1)); have n1_ := Aside0.mk (KeepBut.blk hk (g' := gb724) (o := .cells #[.int .i64 0, .int .i64 0, .string (⟨#[]⟩ : ByteArray), .slice none 0 0] 54 (0, 0)) (by exact bk BK724.out) NB724_0.out (by simp)); have n2_ := Aside0.mk (KeepBut.blk hk (g' := gb734) (o := .cells #[.int .i64 t727, .int .i64 t728, .string t729, .slice Ao13 t730.length co13] 54 (0, 0)) (by exact bk BK734.out) NB734_0.out (by simp)); have n3_ := Aside0.mk (KeepBut.trans (by exact kw HK.out) hk (.inl rfl)); have n4_ := Aside0.mk (hb); have n5_ := Aside0.mk (hi); clear HO_735003; clear BK724; clear BK734; clear HK; clear HB; clear HI0; have HO_735003 := n0_; have BK724 := n1_; have BK734 := n2_; have HK := n3_; have HB := n4_; have HI0 := n5_; clear n0_ n1_ n2_ n3_ n4_ n5_; (try clear hb); (try clear hb2); (try clear hk); (try clear hi)))
     go_meet
     case rel => exact ⟨_, (t737), (t738), (by first | rfl | (simp; done) | (simp [*]; done)), H', ⟨by have := HJ4.out; first | omega | exact Nat.le_refl _⟩, ⟨by exact Kd.xV HO_735003.out⟩, ⟨by exact bk BK724.out⟩, ⟨by exact bk BK734.out⟩, ⟨by exact sw81 HI0.out⟩, ⟨by exact kw HK.out⟩, ⟨by exact bw HB.out⟩⟩
    case rest =>
     clear HC17
     try clear c1
     try clear p2
     try clear c4
     try clear c5
     try clear c6
     try clear p6
     try clear c10
     try clear c11
     try clear c16
     try clear hcz12_0
     try clear hcz12_1
     try clear hcz12_2
     try clear hcz12_3
     try clear hfz12_0
     try clear hfz12_1
     try clear hfz12_2
     try clear hfz12_3
     try clear p2
     try clear p6
     obtain ⟨kq, x15_16, x1001_16, rfl, HA, HJ16, HO_735003, BK724, BK734, HI0, HK, HB⟩ := hcut
     cases kq with
     | zero => exact absurd HA.out (by simp [spec_l20Expr.j1])
     | succ kj16 =>
      have H := HA.out
      clear HA
      simp only [spec_l20Expr.j1] at H
      by_cases c20 : x15_16 = 0
      ·
       rw [if_pos c20] at H
       have c20b0 : (x15_16 == 0) = true := beq_iff_eq.mpr c20
       have c20b1 : (x15_16 != 0) = false := bne_eq_false_iff_eq.mpr c20
       clear c20
       replace H := Option.bind_eq_some_iff.mp H
       obtain ⟨⟨t739, t740, t741, t742, t745⟩, A210, H⟩ := H
       replace H : (some (t739, t740, t741, t742, t745)) = some (r1, r2, r3, r4, r5) := H
       have A21 := Aside0.mk A210
       clear A210
       simp only [Option.some.injEq, Prod.mk.injEq] at H
       obtain ⟨rfl, rfl, rfl, rfl, rfl⟩ := H
       go_wp2_with (first | ((with_reducible refine gate_callee (f := 67) rfl ?_); refine gl (some 22) Try.func67 #[.pointer (some ⟨g, 0, none⟩), .int .i64 2] ?_; (with_reducible refine (spec_l20Number.calls kj16 g s0_0 x1001_16 2 t739 t740 t741 t742 t745 w0 _ ?side1 ?side2 A21.out).mono ?_); (case side1 => exact sw81 HI0.out); (case side2 => exact bw HB.out); rintro e w22 ⟨v743, rfl, ho0, hi, hb, hk⟩; refine ⟨_, rfl, ?_⟩; have n0_ := Aside0.mk (Kd.V_mono (Kd.V_told (Kd.V_oldK (Kd.V_mono (ok := fun k_ => (((w.heap.size ≤ k_)) ∧ (k_ ≠ gb724 ∧ (k_ ≠ gb734 ∧ k_ ≠ g)))) (by exact Kd.xV HO_735003.out) (fun k_ hk_ => (⟨hk_, hk_.2.2.2⟩ : _ ∧ k_ ≠ g))) hk) (Kd.N_base ho0)) (fun _ h_ => h_.1)); have n1_ := Aside0.mk (KeepBut.blk hk (g' := gb724) (o := .cells #[.int .i64 0, .int .i64 0, .string (⟨#[]⟩ : ByteArray), .slice none 0 0] 54 (0, 0)) (by exact bk BK724.out) NB724_0.out (by simp)); have n2_ := Aside0.mk (KeepBut.blk hk (g' := gb734) (o := .cells #[.int .i64 t727, .int .i64 t728, .string t729, .slice Ao13 t730.length co13] 54 (0, 0)) (by exact bk BK734.out) NB734_0.out (by simp)); have n3_ := Aside0.mk (Kd.N_lower (Kd.N_mono (ok' := fun k_ => (w.heap.size ≤ k_) ∧ k_ ≠ gb724 ∧ k_ ≠ gb734 ∧ k_ ≠ g) ho0 (fun k_ hk_ => ⟨(Nat.le_trans (keep_size (w := w) (g := g) (row := none) (by exact kw HK.out)) hk_), (Kd.freshB (g := gb724) (o := .cells #[.int .i64 0, .int .i64 0, .string (⟨#[]⟩ : ByteArray), .slice none 0 0] 54 (0, 0)) (by exact bk BK724.out) k_ hk_), (Kd.freshB (g := gb734) (o := .cells #[.int .i64 t727, .int .i64 t728, .string t729, .slice Ao13 t730.length co13] 54 (0, 0)) (by exact bk BK734.out) k_ hk_), (IsS81.fresh (by exact sw81 HI0.out) k_ hk_)⟩)) (keep_size (w := w) (g := g) (row := none) (by exact kw HK.out))); have n4_ := Aside0.mk (KeepBut.trans (by exact kw HK.out) hk (.inl rfl)); have n5_ := Aside0.mk (hb); have n6_ := Aside0.mk (hi); clear HO_735003; clear BK724; clear BK734; clear HK; clear HB; clear HI0; have HO_735003 := n0_; have BK724 := n1_; have BK734 := n2_; have HO744 := n3_; have HK := n4_; have HB := n5_; have HI0 := n6_; clear n0_ n1_ n2_ n3_ n4_ n5_ n6_; (try clear hb); (try clear hb2); (try clear hk); (try clear hi); (try clear ho0); have hnb23 := NB724_734.out; have hnc23 := NB734_724.out; have hnb24 := NB724_0.out; have hnc24 := NB0_724.out; have hcz25_0 : w22.cell? ⟨gb724, 0, none⟩ = some (.int .i64 0) := (blk_cell BK724.out 0).trans rfl; have hcz25_1 : w22.cell? ⟨gb724, 1, none⟩ = some (.int .i64 0) := (blk_cell BK724.out 1).trans rfl; have hcz25_2 : w22.cell? ⟨gb724, 2, none⟩ = some (.string (⟨#[]⟩ : ByteArray)) := (blk_cell BK724.out 2).trans rfl; have hcz25_3 : w22.cell? ⟨gb724, 3, none⟩ = some (.slice none 0 0) := (blk_cell BK724.out 3).trans rfl; have hfz25_0 := blk_frozen BK724.out 0; have hfz25_1 := blk_frozen BK724.out 1; have hfz25_2 := blk_frozen BK724.out 2; have hfz25_3 := blk_frozen BK724.out 3; obtain ⟨Ao26, co26, eo26⟩ := Kd.N_slice HO744.out; subst eo26))
       refine bodyPost_ret (results_cell_row rfl _ _ gb724 54 #[.int .i64 t739, .int .i64 t740, .string t741, .slice Ao26 t742.length co26] (0, 0) _ rfl (by (with_reducible repeat (first | refine blk_drewN ?_ _ | refine blk_drew ?_ | refine blk_alloc ?_ _)); refine blk_put (cs := #[.int .i64 t739, .int .i64 t740, .string t741, .slice none 0 0]) ?_ 3 _ rfl; (with_reducible repeat (first | refine blk_drewN ?_ _ | refine blk_drew ?_ | refine blk_alloc ?_ _)); refine blk_put (cs := #[.int .i64 t739, .int .i64 t740, .string (⟨#[]⟩ : ByteArray), .slice none 0 0]) ?_ 2 _ rfl; (with_reducible repeat (first | refine blk_drewN ?_ _ | refine blk_drew ?_ | refine blk_alloc ?_ _)); refine blk_put (cs := #[.int .i64 t739, .int .i64 0, .string (⟨#[]⟩ : ByteArray), .slice none 0 0]) ?_ 1 _ rfl; (with_reducible repeat (first | refine blk_drewN ?_ _ | refine blk_drew ?_ | refine blk_alloc ?_ _)); refine blk_put (cs := #[.int .i64 0, .int .i64 0, .string (⟨#[]⟩ : ByteArray), .slice none 0 0]) ?_ 0 _ rfl; exact bk BK724.out) Try.underlying54 rfl (by kernel_rfl)) rfl ?_
       exact ⟨_, by first | rfl | (simp [errW_none, errW_some] <;> rfl) | (simp [*, errW_none, errW_some] <;> rfl), Kd.N_V (by (with_reducible repeat (first | apply Kd.N_alloc | apply Kd.N_drewN | apply Kd.N_drew)); exact Kd.N_mono (Kd.N_far (p := ⟨gb724, 3, none⟩) (Kd.N_far (p := ⟨gb724, 2, none⟩) (Kd.N_far (p := ⟨gb724, 1, none⟩) (Kd.N_far (p := ⟨gb724, 0, none⟩) (Kd.N_mono HO744.out (fun k_ hk => (⟨hk, okp hk⟩ : _ ∧ k_ ≠ gb724))) (fun _ hk => hk.2) (.int .i64 t739)) (fun _ hk => hk.2) (.int .i64 t740)) (fun _ hk => hk.2) (.string t741)) (fun _ hk => hk.2) (.slice Ao26 t742.length co26)) (fun _ hk => hk.1.1)), by exact sw81 HI0.out, by exact bw HB.out, by exact kw HK.out⟩
      ·
       rw [if_neg c20] at H
       have c20b0 : (x15_16 == 0) = false := beq_eq_false_iff_ne.mpr c20
       have c20b1 : (x15_16 != 0) = true := bne_iff_ne.mpr c20
       by_cases c27 : x15_16 = 1
       ·
        rw [if_pos c27] at H
        have c27b0 : (x15_16 == 1) = true := beq_iff_eq.mpr c27
        have c27b1 : (x15_16 != 1) = false := bne_eq_false_iff_eq.mpr c27
        clear c27
        replace H := Option.bind_eq_some_iff.mp H
        obtain ⟨⟨t746, t747, t748, t749, t752⟩, A280, H⟩ := H
        replace H : (some (13, 0, (⟨#[]⟩ : ByteArray), (([(⟨t746, t747, t748, t749⟩ : S54)] : List (S54))), t752)) = some (r1, r2, r3, r4, r5) := H
        have A28 := Aside0.mk A280
        clear A280
        obtain ⟨y753, hy753⟩ : ∃ y_ : List (S54), y_ = (([(⟨t746, t747, t748, t749⟩ : S54)] : List (S54))) := ⟨_, rfl⟩
        replace H : (some (13, 0, (⟨#[]⟩ : ByteArray), y753, t752)) = some (r1, r2, r3, r4, r5) := by first | (rw [hy753]; with_reducible exact H) | (have H2_ := (Option.bind_some _ _).symm.trans H; rw [hy753]; with_reducible exact H2_) | (have H2_ := (Option.bind_some _ _).symm.trans H; with_reducible exact H2_) | with_reducible exact H | (rw [hy753]; exact H) | exact H
        have Ny753 := Aside0.mk hy753
        clear hy753
        simp only [Option.some.injEq, Prod.mk.injEq] at H
        obtain ⟨rfl, rfl, rfl, rfl, rfl⟩ := H
        go_wp2_with (first | ((with_reducible refine gate_callee (f := 68) rfl ?_); refine gl (some 26) Try.func68 #[.pointer (some ⟨g, 0, none⟩), .int .i64 1] ?_; (with_reducible refine (spec_l20Thing.calls kj16 g s0_0 x1001_16 1 t746 t747 t748 t749 t752 w0 _ ?side1 ?side2 A28.out).mono ?_); (case side1 => exact sw81 HI0.out); (case side2 => exact bw HB.out); rintro e w29 ⟨v750, rfl, ho0, hi, hb, hk⟩; refine ⟨_, rfl, ?_⟩; have n0_ := Aside0.mk (Kd.V_mono (Kd.V_keep (Kd.V_mono (ok := fun k_ => (((w.heap.size ≤ k_)) ∧ (k_ ≠ gb724 ∧ (k_ ≠ gb734 ∧ k_ ≠ g)))) (by exact Kd.xV HO_735003.out) (fun k_ hk_ => (⟨hk_, hk_.2.2.2⟩ : _ ∧ k_ ≠ g))) hk (fun _ h => h.2)) (fun _ h => h.1)); have n1_ := Aside0.mk (KeepBut.blk hk (g' := gb724) (o := .cells #[.int .i64 0, .int .i64 0, .string (⟨#[]⟩ : ByteArray), .slice none 0 0] 54 (0, 0)) (by exact bk BK724.out) NB724_0.out (by simp)); have n2_ := Aside0.mk (KeepBut.blk hk (g' := gb734) (o := .cells #[.int .i64 t727, .int .i64 t728, .string t729, .slice Ao13 t730.length co13] 54 (0, 0)) (by exact bk BK734.out) NB734_0.out (by simp)); have n3_ := Aside0.mk (Kd.V_lower (Kd.V_mono (ok' := fun k_ => (w.heap.size ≤ k_) ∧ k_ ≠ gb724 ∧ k_ ≠ gb734 ∧ k_ ≠ g) ho0 (fun k_ hk_ => ⟨(Nat.le_trans (keep_size (w := w) (g := g) (row := none) (by exact kw HK.out)) hk_), (Kd.freshB (g := gb724) (o := .cells #[.int .i64 0, .int .i64 0, .string (⟨#[]⟩ : ByteArray), .slice none 0 0] 54 (0, 0)) (by exact bk BK724.out) k_ hk_), (Kd.freshB (g := gb734) (o := .cells #[.int .i64 t727, .int .i64 t728, .string t729, .slice Ao13 t730.length co13] 54 (0, 0)) (by exact bk BK734.out) k_ hk_), (IsS81.fresh (by exact sw81 HI0.out) k_ hk_)⟩)) (keep_size (w := w) (g := g) (row := none) (by exact kw HK.out))); have n4_ := Aside0.mk (KeepBut.trans (by exact kw HK.out) hk (.inl rfl)); have n5_ := Aside0.mk (hb); have n6_ := Aside0.mk (hi); clear HO_735003; clear BK724; clear BK734; clear HK; clear HB; clear HI0; have HO_735003 := n0_; have BK724 := n1_; have BK734 := n2_; have HO751 := n3_; have HK := n4_; have HB := n5_; have HI0 := n6_; clear n0_ n1_ n2_ n3_ n4_ n5_ n6_; (try clear hb); (try clear hb2); (try clear hk); (try clear hi); (try clear ho0); obtain ⟨Ao30, co30, eo30⟩ := Kd.V_slice HO751.out; subst eo30) | ((with_reducible refine gate_dst (N := 27) rfl ?_); refine Kd.N_lit k54 _ 54 ?hg (N' := 27) ?hd (xs := ([(⟨t746, t747, t748, t749⟩ : S54)] : List (S54))) (inner := [.int .i64 t746, .int .i64 t747, .string t748, .slice Ao30 t749.length co30]) (ok := (fun k_ => (w.heap.size ≤ k_) ∧ k_ ≠ gb724 ∧ k_ ≠ gb734 ∧ k_ ≠ g)) (okp := (fun k_ => (w.heap.size ≤ k_) ∧ k_ ≠ gb724 ∧ k_ ≠ gb734 ∧ k_ ≠ g)) ?hr ?hp (fun _ hk => hk) ((show ∀ k_, w29.heap.size ≤ k_ → (fun k_ => (w.heap.size ≤ k_) ∧ k_ ≠ gb724 ∧ k_ ≠ gb734 ∧ k_ ≠ g) k_ from fun k_ hk => ⟨(Nat.le_trans (keep_size (w := w) (g := g) (row := none) (by exact kw HK.out)) hk), Kd.freshB (g := gb724) (o := .cells #[.int .i64 0, .int .i64 0, .string (⟨#[]⟩ : ByteArray), .slice none 0 0] 54 (0, 0)) (by exact bk BK724.out) k_ hk, Kd.freshB (g := gb734) (o := .cells #[.int .i64 t727, .int .i64 t728, .string t729, .slice Ao13 t730.length co13] 54 (0, 0)) (by exact bk BK734.out) k_ hk, IsS81.fresh (by exact sw81 HI0.out) k_ hk⟩) _ (Nat.le_refl _)) (Below.refl _ _) (Nat.le_refl _) (by simp) ?_; (case hd => rfl); (case hg => rfl); (case hr => first | (go_simp; done) | (go_simp; rfl)); (case hp => exact (Reps.c4 (show Kd.FK k54 _ _ (⟨t746, t747, t748, t749⟩ : S54) [.int .i64 t746, .int .i64 t747, .string t748, .slice Ao30 t749.length co30] from (k54_mkF _ _ (⟨t746, t747, t748, t749⟩ : S54) (Kd.V_reads' (Kd.V_mono (ok' := (fun k_ => (w.heap.size ≤ k_) ∧ k_ ≠ gb724 ∧ k_ ≠ gb734 ∧ k_ ≠ g)) (HO751.out) (fun k_ hk => okp hk))).2.1 (Kd.V_F (Kd.V_mono (ok' := (fun k_ => (w.heap.size ≤ k_) ∧ k_ ≠ gb724 ∧ k_ ≠ gb734 ∧ k_ ≠ g)) (HO751.out) (fun k_ hk => okp hk))))) (Reps.none _ _))); intro v754 w31 ho32 hb hg_ hnew_; clear hg_ hnew_; (first | rw [← Ny753.out] at ho32 | (simp only [Int.reduceToNat] at ho32; rw [← Ny753.out] at ho32)); have n0_ := Aside0.mk (Kd.V_elder' (by exact Kd.xV HO_735003.out) (Kd.N_base ho32) hb); have n1_ := Aside0.mk (Kd.V_elder' (by exact Kd.xV HO751.out) (Kd.N_base ho32) hb); have n2_ := Aside0.mk (Kd.N_lower ho32 (keep_size (w := w) (g := g) (row := none) (by exact kw HK.out))); have n3_ := Aside0.mk (blk_below (g := gb724) (o := .cells #[.int .i64 0, .int .i64 0, .string (⟨#[]⟩ : ByteArray), .slice none 0 0] 54 (0, 0)) (by exact bk BK724.out) hb); have n4_ := Aside0.mk (blk_below (g := gb734) (o := .cells #[.int .i64 t727, .int .i64 t728, .string t729, .slice Ao13 t730.length co13] 54 (0, 0)) (by exact bk BK734.out) hb); have n5_ := Aside0.mk (IsS81.below (by exact sw81 HI0.out) hb); have n6_ := Aside0.mk (KeepBut.trans (by exact kw HK.out) (KeepBut.of_below hb g none) (.inl rfl)); have n7_ := Aside0.mk (below_step (by exact bw HB.out) hb); clear HO_735003; clear HO751; clear BK724; clear BK734; clear HI0; clear HK; clear HB; have HO_735003 := n0_; have HO751 := n1_; have HO755 := n2_; have BK724 := n3_; have BK734 := n4_; have HI0 := n5_; have HK := n6_; have HB := n7_; clear n0_ n1_ n2_ n3_ n4_ n5_ n6_ n7_; clear hb ho32; obtain ⟨Ao33, co33, eo33⟩ := Kd.N_slice HO755.out; subst eo33; have hnb34 := NB724_734.out; have hnc34 := NB734_724.out; have hnb35 := NB724_0.out; have hnc35 := NB0_724.out; have hcz36_0 : w31.cell? ⟨gb724, 0, none⟩ = some (.int .i64 0) := (blk_cell BK724.out 0).trans rfl; have hcz36_1 : w31.cell? ⟨gb724, 1, none⟩ = some (.int .i64 0) := (blk_cell BK724.out 1).trans rfl; have hcz36_2 : w31.cell? ⟨gb724, 2, none⟩ = some (.string (⟨#[]⟩ : ByteArray)) := (blk_cell BK724.out 2).trans rfl; have hcz36_3 : w31.cell? ⟨gb724, 3, none⟩ = some (.slice none 0 0) := (blk_cell BK724.out 3).trans rfl; have hfz36_0 := blk_frozen BK724.out 0; have hfz36_1 := blk_frozen BK724.out 1; have hfz36_2 := blk_frozen BK724.out 2; have hfz36_3 := blk_frozen BK724.out 3))
        refine bodyPost_ret (results_cell_row rfl _ _ gb724 54 #[.int .i64 13, .int .i64 0, .string (⟨#[]⟩ : ByteArray), .slice Ao33 y753.length co33] (0, 0) _ rfl (by (with_reducible repeat (first | refine blk_drewN ?_ _ | refine blk_drew ?_ | refine blk_alloc ?_ _)); refine blk_put (cs := #[.int .i64 13, .int .i64 0, .string (⟨#[]⟩ : ByteArray), .slice none 0 0]) ?_ 3 _ rfl; (with_reducible repeat (first | refine blk_drewN ?_ _ | refine blk_drew ?_ | refine blk_alloc ?_ _)); refine blk_put (cs := #[.int .i64 13, .int .i64 0, .string (⟨#[]⟩ : ByteArray), .slice none 0 0]) ?_ 2 _ rfl; (with_reducible repeat (first | refine blk_drewN ?_ _ | refine blk_drew ?_ | refine blk_alloc ?_ _)); refine blk_put (cs := #[.int .i64 13, .int .i64 0, .string (⟨#[]⟩ : ByteArray), .slice none 0 0]) ?_ 1 _ rfl; (with_reducible repeat (first | refine blk_drewN ?_ _ | refine blk_drew ?_ | refine blk_alloc ?_ _)); refine blk_put (cs := #[.int .i64 0, .int .i64 0, .string (⟨#[]⟩ : ByteArray), .slice none 0 0]) ?_ 0 _ rfl; exact bk BK724.out) Try.underlying54 rfl (by kernel_rfl)) rfl ?_
        exact ⟨_, by first | rfl | (simp [errW_none, errW_some] <;> rfl) | (simp [*, errW_none, errW_some] <;> rfl), Kd.N_V (by (with_reducible repeat (first | apply Kd.N_alloc | apply Kd.N_drewN | apply Kd.N_drew)); exact Kd.N_mono (Kd.N_far (p := ⟨gb724, 3, none⟩) (Kd.N_far (p := ⟨gb724, 2, none⟩) (Kd.N_far (p := ⟨gb724, 1, none⟩) (Kd.N_far (p := ⟨gb724, 0, none⟩) (Kd.N_mono HO755.out (fun k_ hk => (⟨hk, okp hk⟩ : _ ∧ k_ ≠ gb724))) (fun _ hk => hk.2) (.int .i64 13)) (fun _ hk => hk.2) (.int .i64 0)) (fun _ hk => hk.2) (.string (⟨#[]⟩ : ByteArray))) (fun _ hk => hk.2) (.slice Ao33 y753.length co33)) (fun _ hk => hk.1.1)), by exact sw81 HI0.out, by exact bw HB.out, by exact kw HK.out⟩
       ·
        rw [if_neg c27] at H
        have c27b0 : (x15_16 == 1) = false := beq_eq_false_iff_ne.mpr c27
        have c27b1 : (x15_16 != 1) = true := bne_iff_ne.mpr c27
        by_cases c37 : x15_16 = 2
        ·
         rw [if_pos c37] at H
         have c37b0 : (x15_16 == 2) = true := beq_iff_eq.mpr c37
         have c37b1 : (x15_16 != 2) = false := bne_eq_false_iff_eq.mpr c37
         clear c37
         replace H := Option.bind_eq_some_iff.mp H
         obtain ⟨⟨t756, t757, t758, t759, t762⟩, A380, H⟩ := H
         replace H : (some (11, 0, (⟨#[]⟩ : ByteArray), (([(⟨t756, t757, t758, t759⟩ : S54), (⟨t727, t728, t729, t730⟩ : S54)] : List (S54))), t762)) = some (r1, r2, r3, r4, r5) := H
         have A38 := Aside0.mk A380
         clear A380
         obtain ⟨y763, hy763⟩ : ∃ y_ : List (S54), y_ = (([(⟨t756, t757, t758, t759⟩ : S54), (⟨t727, t728, t729, t730⟩ : S54)] : List (S54))) := ⟨_, rfl⟩
         replace H : (some (11, 0, (⟨#[]⟩ : ByteArray), y763, t762)) = some (r1, r2, r3, r4, r5) := by first | (rw [hy763]; with_reducible exact H) | (have H2_ := (Option.bind_some _ _).symm.trans H; rw [hy763]; with_reducible exact H2_) | (have H2_ := (Option.bind_some _ _).symm.trans H; with_reducible exact H2_) | with_reducible exact H | (rw [hy763]; exact H) | exact H
         have Ny763 := Aside0.mk hy763
         clear hy763
         simp only [Option.some.injEq, Prod.mk.injEq] at H
         obtain ⟨rfl, rfl, rfl, rfl, rfl⟩ := H
         try go_wp2
         have n0_ := Aside0.mk (Kd.V_drew HO_735003.out)
         have n1_ := Aside0.mk (blk_drew BK724.out)
         have n2_ := Aside0.mk (blk_drew BK734.out)
         have n3_ := Aside0.mk (IsS81.drew HI0.out)
         have n4_ := Aside0.mk (keep_drew HK.out)
         have n5_ := Aside0.mk (below_drew1 HB.out)
         clear HO_735003
         clear BK724
         clear BK734
         clear HI0
         clear HK
         clear HB
         have HO_735003 := n0_
         have BK724 := n1_
         have BK734 := n2_
         have HI0 := n3_
         have HK := n4_
         have HB := n5_
         clear n0_ n1_ n2_ n3_ n4_ n5_
         refine start_ (n := 6) (S := fun w' => w'.cell? ⟨gb734, 0, none⟩ = some (.int .i64 t727) ∧ w'.cell? ⟨gb734, 1, none⟩ = some (.int .i64 t728) ∧ w'.cell? ⟨gb734, 2, none⟩ = some (.string t729) ∧ w'.cell? ⟨gb734, 3, none⟩ = some (.slice Ao13 t730.length co13)) (ds := []) #[false, false, false, false, false, false] (by kernel_rfl) rfl rfl ⟨(blk_cell BK734.out 0).trans rfl, (blk_cell BK734.out 1).trans rfl, (blk_cell BK734.out 2).trans rfl, (blk_cell BK734.out 3).trans rfl⟩ (fun hHeld => ?_)
         generalize wc.drew = w39 at HO_735003 BK724 BK734 HI0 HK HB hHeld ⊢
         refine pure_ (i := 0) (N := some 31) (v := ?_) (a' := ?_) #[true, false, false, false, false, false] rfl rfl (by kernel_rfl) (fun _ _ _ h => h) (Or.inl ⟨by rfl, ?_⟩) ?_ ?_
         rotate_left
         ·
          intro w'
          go_simp
          with_reducible rfl
         rotate_left
         ·
          simp only [Act.put, List.setIfInBounds_toArray, List.set_cons_zero, List.set_cons_succ, i64_w, i32_w]
          rfl
         refine take_ (i := 2) (N := some 33) (v := ?_) (a' := ?_) #[true, false, true, false, false, false] rfl rfl (by kernel_rfl) (fun _ _ _ h => h) (Or.inl ⟨by rfl, ?_⟩) hHeld ?_ ?_
         rotate_left
         ·
          rintro w' ⟨s0, s1, s2, s3⟩
          go_simp
          with_reducible rfl
         rotate_left
         ·
          simp only [Act.put, List.setIfInBounds_toArray, List.set_cons_zero, List.set_cons_succ, i64_w, i32_w]
          rfl
         refine one_ (i := 1) (N := some 32) #[true, true, true, false, false, false] rfl rfl (by kernel_rfl) (by decide) (fun K hK => ?_)
         refine goes_ Try.func68 (by kernel_rfl) rfl #[.pointer (some ⟨g, 0, none⟩), .int .i64 1] (by rfl) rfl rfl (by (try simp only [List.map_toArray, List.map_cons, List.map_nil]); first | done | rfl | (simp only [List.length_drop, List.length_take]; rfl)) ?_
         with_reducible refine (spec_l20Thing.calls kj16 g s0_0 x1001_16 1 t756 t757 t758 t759 t762 w0 _ ?side1 ?side2 A38.out).mono ?_
         (case side1 => exact sw81 HI0.out)
         (case side2 => exact bw HB.out)
         rintro e w40 ⟨v760, rfl, ho0, hi, hb, hk⟩
         refine ⟨_, rfl, ?_⟩
         have n0_ := Aside0.mk (Kd.V_mono (Kd.V_keep (Kd.V_mono (ok := fun k_ => (((w.heap.size ≤ k_)) ∧ (k_ ≠ gb724 ∧ (k_ ≠ gb734 ∧ k_ ≠ g)))) (by exact Kd.xV HO_735003.out) (fun k_ hk_ => (⟨hk_, hk_.2.2.2⟩ : _ ∧ k_ ≠ g))) hk (fun _ h => h.2)) (fun _ h => h.1))
         have n1_ := Aside0.mk (KeepBut.blk hk (g' := gb724) (o := .cells #[.int .i64 0, .int .i64 0, .string (⟨#[]⟩ : ByteArray), .slice none 0 0] 54 (0, 0)) (by exact bk BK724.out) NB724_0.out (by simp))
         have n2_ := Aside0.mk (KeepBut.blk hk (g' := gb734) (o := .cells #[.int .i64 t727, .int .i64 t728, .string t729, .slice Ao13 t730.length co13] 54 (0, 0)) (by exact bk BK734.out) NB734_0.out (by simp))
         have n3_ := Aside0.mk (Kd.V_lower (Kd.V_mono (ok' := fun k_ => (w.heap.size ≤ k_) ∧ k_ ≠ gb724 ∧ k_ ≠ gb734 ∧ k_ ≠ g) ho0 (fun k_ hk_ => ⟨(Nat.le_trans (keep_size (w := w) (g := g) (row := none) (by exact kw HK.out)) hk_), (Kd.freshB (g := gb724) (o := .cells #[.int .i64 0, .int .i64 0, .string (⟨#[]⟩ : ByteArray), .slice none 0 0] 54 (0, 0)) (by exact bk BK724.out) k_ hk_), (Kd.freshB (g := gb734) (o := .cells #[.int .i64 t727, .int .i64 t728, .string t729, .slice Ao13 t730.length co13] 54 (0, 0)) (by exact bk BK734.out) k_ hk_), (IsS81.fresh (by exact sw81 HI0.out) k_ hk_)⟩)) (keep_size (w := w) (g := g) (row := none) (by exact kw HK.out)))
         have n4_ := Aside0.mk (KeepBut.trans (by exact kw HK.out) hk (.inl rfl))
         have n5_ := Aside0.mk (hb)
         have n6_ := Aside0.mk (hi)
         clear HO_735003
         clear BK724
         clear BK734
         clear HK
         clear HB
         clear HI0
         have HO_735003 := n0_
         have BK724 := n1_
         have BK734 := n2_
         have HO761 := n3_
         have HK := n4_
         have HB := n5_
         have HI0 := n6_
         clear n0_ n1_ n2_ n3_ n4_ n5_ n6_
         (try clear hb)
         (try clear hb2)
         (try clear hk)
         (try clear hi)
         (try clear ho0)
         obtain ⟨Ao41, co41, eo41⟩ := Kd.V_slice HO761.out
         (first | subst eo41 | (injection eo41 with f1_ f2_ f3_; have f4_ := f1_.symm; have f5_ := f3_.symm; clear f1_ f2_ f3_; subst f4_; subst f5_))
         refine hK.out _ _ ⟨(blk_cell BK734.out 0).trans rfl, (blk_cell BK734.out 1).trans rfl, (blk_cell BK734.out 2).trans rfl, (blk_cell BK734.out 3).trans rfl⟩ (fun hHeld => ?_)
         clear hK K
         refine norm_ (a' := ?_) ?_ ?_
         rotate_left
         ·
          show Act.put _ (some 32) _ = _
          simp only [Act.put, List.setIfInBounds_toArray, List.set_cons_zero, List.set_cons_succ, i64_w, i32_w]
          rfl
         refine one_ (i := 3) (N := some 34) #[true, true, true, true, false, false] rfl rfl (by kernel_rfl) (by decide) (fun K hK => ?_)
         refine Kd.N_lit_step k54 _ 54 ?hg (N' := 34) ?hd (xs := ([(⟨t756, t757, t758, t759⟩ : S54), (⟨t727, t728, t729, t730⟩ : S54)] : List (S54))) (inner := [.int .i64 t756, .int .i64 t757, .string t758, .slice Ao41 t759.length co41, .int .i64 t727, .int .i64 t728, .string t729, .slice Ao13 t730.length co13]) (ok := (fun k_ => (w.heap.size ≤ k_) ∧ k_ ≠ gb724 ∧ k_ ≠ gb734 ∧ k_ ≠ g)) (okp := (fun k_ => (w.heap.size ≤ k_) ∧ k_ ≠ gb724 ∧ k_ ≠ gb734 ∧ k_ ≠ g)) ?hr ?hp (fun _ hk => hk) ((show ∀ k_, w40.heap.size ≤ k_ → (fun k_ => (w.heap.size ≤ k_) ∧ k_ ≠ gb724 ∧ k_ ≠ gb734 ∧ k_ ≠ g) k_ from fun k_ hk => ⟨(Nat.le_trans (keep_size (w := w) (g := g) (row := none) (by exact kw HK.out)) hk), Kd.freshB (g := gb724) (o := .cells #[.int .i64 0, .int .i64 0, .string (⟨#[]⟩ : ByteArray), .slice none 0 0] 54 (0, 0)) (by exact bk BK724.out) k_ hk, Kd.freshB (g := gb734) (o := .cells #[.int .i64 t727, .int .i64 t728, .string t729, .slice Ao13 t730.length co13] 54 (0, 0)) (by exact bk BK734.out) k_ hk, IsS81.fresh (by exact sw81 HI0.out) k_ hk⟩) _ (Nat.le_refl _)) (Below.refl _ _) (Nat.le_refl _) (by simp) ?_; (case hd => rfl); (case hg => rfl); (case hr => first | (go_simp; done) | (go_simp; rfl)); (case hp => exact (Reps.c4 (show Kd.FK k54 _ _ (⟨t756, t757, t758, t759⟩ : S54) [.int .i64 t756, .int .i64 t757, .string t758, .slice Ao41 t759.length co41] from (k54_mkF _ _ (⟨t756, t757, t758, t759⟩ : S54) (Kd.V_reads' (Kd.V_mono (ok' := (fun k_ => (w.heap.size ≤ k_) ∧ k_ ≠ gb724 ∧ k_ ≠ gb734 ∧ k_ ≠ g)) (HO761.out) (fun k_ hk => okp hk))).2.1 (Kd.V_F (Kd.V_mono (ok' := (fun k_ => (w.heap.size ≤ k_) ∧ k_ ≠ gb724 ∧ k_ ≠ gb734 ∧ k_ ≠ g)) (HO761.out) (fun k_ hk => okp hk))))) (Reps.c4 (show Kd.FK k54 _ _ (⟨t727, t728, t729, t730⟩ : S54) [.int .i64 t727, .int .i64 t728, .string t729, .slice Ao13 t730.length co13] from (k54_mkF _ _ (⟨t727, t728, t729, t730⟩ : S54) (Kd.V_reads' (Kd.V_mono (ok' := (fun k_ => (w.heap.size ≤ k_) ∧ k_ ≠ gb724 ∧ k_ ≠ gb734 ∧ k_ ≠ g)) (HO_735003.out) (fun k_ hk => okp hk))).2.1 (Kd.V_F (Kd.V_mono (ok' := (fun k_ => (w.heap.size ≤ k_) ∧ k_ ≠ gb724 ∧ k_ ≠ gb734 ∧ k_ ≠ g)) (HO_735003.out) (fun k_ hk => okp hk))))) (Reps.none _ _))))
         intro v764 w42 ho43 hb hg_ hnew_
         clear hg_ hnew_
         (first | rw [← Ny763.out] at ho43 | (simp only [Int.reduceToNat] at ho43; rw [← Ny763.out] at ho43))
         have n0_ := Aside0.mk (Kd.V_elder' (by exact Kd.xV HO_735003.out) (Kd.N_base ho43) hb)
         have n1_ := Aside0.mk (Kd.V_elder' (by exact Kd.xV HO761.out) (Kd.N_base ho43) hb)
         have n2_ := Aside0.mk (Kd.N_lower ho43 (keep_size (w := w) (g := g) (row := none) (by exact kw HK.out)))
         have n3_ := Aside0.mk (blk_below (g := gb724) (o := .cells #[.int .i64 0, .int .i64 0, .string (⟨#[]⟩ : ByteArray), .slice none 0 0] 54 (0, 0)) (by exact bk BK724.out) hb)
         have n4_ := Aside0.mk (blk_below (g := gb734) (o := .cells #[.int .i64 t727, .int .i64 t728, .string t729, .slice Ao13 t730.length co13] 54 (0, 0)) (by exact bk BK734.out) hb)
         have n5_ := Aside0.mk (IsS81.below (by exact sw81 HI0.out) hb)
         have n6_ := Aside0.mk (KeepBut.trans (by exact kw HK.out) (KeepBut.of_below hb g none) (.inl rfl))
         have n7_ := Aside0.mk (below_step (by exact bw HB.out) hb)
         clear HO_735003
         clear HO761
         clear BK724
         clear BK734
         clear HI0
         clear HK
         clear HB
         have HO_735003 := n0_
         have HO761 := n1_
         have HO765 := n2_
         have BK724 := n3_
         have BK734 := n4_
         have HI0 := n5_
         have HK := n6_
         have HB := n7_
         clear n0_ n1_ n2_ n3_ n4_ n5_ n6_ n7_
         clear hb ho43
         obtain ⟨Ao44, co44, eo44⟩ := Kd.N_slice HO765.out
         (first | subst eo44 | (injection eo44 with f1_ f2_ f3_; have f4_ := f1_.symm; have f5_ := f3_.symm; clear f1_ f2_ f3_; subst f4_; subst f5_))
         refine hK.out _ _ ⟨(blk_cell BK734.out 0).trans rfl, (blk_cell BK734.out 1).trans rfl, (blk_cell BK734.out 2).trans rfl, (blk_cell BK734.out 3).trans rfl⟩ (fun hHeld => ?_)
         clear hK K
         refine norm_ (a' := ?_) ?_ ?_
         rotate_left
         ·
          show Act.put _ (some 34) _ = _
          simp only [Act.put, List.setIfInBounds_toArray, List.set_cons_zero, List.set_cons_succ, i64_w, i32_w]
          rfl
         refine pure_ (i := 4) (N := some 35) (v := ?_) (a' := ?_) #[true, true, true, true, true, false] rfl rfl (by kernel_rfl) (fun _ _ _ h => h) (Or.inl ⟨by rfl, ?_⟩) ?_ ?_
         rotate_left
         ·
          intro w'
          go_simp
          with_reducible rfl
         rotate_left
         ·
          simp only [Act.put, List.setIfInBounds_toArray, List.set_cons_zero, List.set_cons_succ, i64_w, i32_w]
          rfl
         refine one_ (i := 5) (N := none) #[true, true, true, true, true, true] rfl rfl (by kernel_rfl) (by decide) (fun K hK => ?_)
         have hs45 : w42.cell? ⟨gb724, 0, none⟩ = some (.int .i64 0) := (blk_cell BK724.out 0).trans rfl
         have hfs45 := blk_frozen BK724.out 0
         have hns45_1 := NB734_724.out
         have hms45_1 := NB724_734.out
         have hs46 : w42.cell? ⟨gb724, 1, none⟩ = some (.int .i64 0) := (blk_cell BK724.out 1).trans rfl
         have hfs46 := blk_frozen BK724.out 1
         have hns46_1 := NB734_724.out
         have hms46_1 := NB724_734.out
         have hs47 : w42.cell? ⟨gb724, 2, none⟩ = some (.string (⟨#[]⟩ : ByteArray)) := (blk_cell BK724.out 2).trans rfl
         have hfs47 := blk_frozen BK724.out 2
         have hns47_1 := NB734_724.out
         have hms47_1 := NB724_734.out
         have hs48 : w42.cell? ⟨gb724, 3, none⟩ = some (.slice none 0 0) := (blk_cell BK724.out 3).trans rfl
         have hfs48 := blk_frozen BK724.out 3
         have hns48_1 := NB734_724.out
         have hms48_1 := NB724_734.out
         refine skip_ (w1 := ?_) (by rfl) rfl ?_ ?_
         rotate_left
         ·
          go_simp
          rfl
         refine hK.out _ _ ⟨((cell_far (p := ⟨gb724, _, none⟩) NB734_724.out _).trans (((cell_far (p := ⟨gb724, _, none⟩) NB734_724.out _).trans (((cell_far (p := ⟨gb724, _, none⟩) NB734_724.out _).trans (((cell_far (p := ⟨gb724, _, none⟩) NB734_724.out _).trans (hHeld.1)))))))), ((cell_far (p := ⟨gb724, _, none⟩) NB734_724.out _).trans (((cell_far (p := ⟨gb724, _, none⟩) NB734_724.out _).trans (((cell_far (p := ⟨gb724, _, none⟩) NB734_724.out _).trans (((cell_far (p := ⟨gb724, _, none⟩) NB734_724.out _).trans (hHeld.2.1)))))))), ((cell_far (p := ⟨gb724, _, none⟩) NB734_724.out _).trans (((cell_far (p := ⟨gb724, _, none⟩) NB734_724.out _).trans (((cell_far (p := ⟨gb724, _, none⟩) NB734_724.out _).trans (((cell_far (p := ⟨gb724, _, none⟩) NB734_724.out _).trans (hHeld.2.2.1)))))))), ((cell_far (p := ⟨gb724, _, none⟩) NB734_724.out _).trans (((cell_far (p := ⟨gb724, _, none⟩) NB734_724.out _).trans (((cell_far (p := ⟨gb724, _, none⟩) NB734_724.out _).trans (((cell_far (p := ⟨gb724, _, none⟩) NB734_724.out _).trans (hHeld.2.2.2))))))))⟩ (fun hHeld => ?_)
         clear hK K
         refine done_ (by kernel_rfl) ?_
         try go_wp2
         refine bodyPost_ret (results_cell_row rfl _ _ gb724 54 #[.int .i64 11, .int .i64 0, .string (⟨#[]⟩ : ByteArray), .slice Ao44 y763.length co44] (0, 0) _ rfl (by (with_reducible repeat (first | refine blk_drewN ?_ _ | refine blk_drew ?_ | refine blk_alloc ?_ _)); refine blk_put (cs := #[.int .i64 11, .int .i64 0, .string (⟨#[]⟩ : ByteArray), .slice none 0 0]) ?_ 3 _ rfl; (with_reducible repeat (first | refine blk_drewN ?_ _ | refine blk_drew ?_ | refine blk_alloc ?_ _)); refine blk_put (cs := #[.int .i64 11, .int .i64 0, .string (⟨#[]⟩ : ByteArray), .slice none 0 0]) ?_ 2 _ rfl; (with_reducible repeat (first | refine blk_drewN ?_ _ | refine blk_drew ?_ | refine blk_alloc ?_ _)); refine blk_put (cs := #[.int .i64 11, .int .i64 0, .string (⟨#[]⟩ : ByteArray), .slice none 0 0]) ?_ 1 _ rfl; (with_reducible repeat (first | refine blk_drewN ?_ _ | refine blk_drew ?_ | refine blk_alloc ?_ _)); refine blk_put (cs := #[.int .i64 0, .int .i64 0, .string (⟨#[]⟩ : ByteArray), .slice none 0 0]) ?_ 0 _ rfl; exact bk BK724.out) Try.underlying54 rfl (by kernel_rfl)) rfl ?_
         exact ⟨_, by first | rfl | (simp [errW_none, errW_some] <;> rfl) | (simp [*, errW_none, errW_some] <;> rfl), Kd.N_V (by (with_reducible repeat (first | apply Kd.N_alloc | apply Kd.N_drewN | apply Kd.N_drew)); exact Kd.N_mono (Kd.N_far (p := ⟨gb724, 3, none⟩) (Kd.N_far (p := ⟨gb724, 2, none⟩) (Kd.N_far (p := ⟨gb724, 1, none⟩) (Kd.N_far (p := ⟨gb724, 0, none⟩) (Kd.N_mono HO765.out (fun k_ hk => (⟨hk, okp hk⟩ : _ ∧ k_ ≠ gb724))) (fun _ hk => hk.2) (.int .i64 11)) (fun _ hk => hk.2) (.int .i64 0)) (fun _ hk => hk.2) (.string (⟨#[]⟩ : ByteArray))) (fun _ hk => hk.2) (.slice Ao44 y763.length co44)) (fun _ hk => hk.1.1)), by exact sw81 HI0.out, by exact bw HB.out, by exact kw HK.out⟩
        ·
         rw [if_neg c37] at H
         have c37b0 : (x15_16 == 2) = false := beq_eq_false_iff_ne.mpr c37
         have c37b1 : (x15_16 != 2) = true := bne_iff_ne.mpr c37
         by_cases c49 : x15_16 = 3
         ·
          rw [if_pos c49] at H
          have c49b0 : (x15_16 == 3) = true := beq_iff_eq.mpr c49
          have c49b1 : (x15_16 != 3) = false := bne_eq_false_iff_eq.mpr c49
          clear c49
          obtain ⟨y766, hy766⟩ : ∃ y_ : List Int, y_ = (([0, 16] : List Int)) := ⟨_, rfl⟩
          replace H : ((spec_l20Rd_pick.f kj16 s0_0 x1001_16 2).bind fun bt769 => (if 0 ≤ bt769.1 then (if bt769.1 < (y766.length : Int) then (some (rd y766 bt769.1, 0, (⟨#[]⟩ : ByteArray), ([] : List (S54)), bt769.2)) else (none)) else (none))) = some (r1, r2, r3, r4, r5) := by first | (rw [hy766]; with_reducible exact H) | (have H2_ := (Option.bind_some _ _).symm.trans H; rw [hy766]; with_reducible exact H2_) | (have H2_ := (Option.bind_some _ _).symm.trans H; with_reducible exact H2_) | with_reducible exact H | (rw [hy766]; exact H) | exact H
          have Ny766 := Aside0.mk hy766
          clear hy766
          replace H := Option.bind_eq_some_iff.mp H
          obtain ⟨⟨t769, t770⟩, A500, H⟩ := H
          replace H : (if 0 ≤ t769 then (if t769 < (y766.length : Int) then (some (rd y766 t769, 0, (⟨#[]⟩ : ByteArray), ([] : List (S54)), t770)) else (none)) else (none)) = some (r1, r2, r3, r4, r5) := H
          have A50 := Aside0.mk A500
          clear A500
          by_cases c51 : 0 ≤ t769
          ·
           rw [if_pos c51] at H
           have c51b0 : decide (0 ≤ t769) = true := decide_eq_true c51
           clear c51
           by_cases c52 : t769 < (y766.length : Int)
           ·
            rw [if_pos c52] at H
            have c52b0 : decide (t769 < (y766.length : Int)) = true := decide_eq_true c52
            clear c52
            simp only [Option.some.injEq, Prod.mk.injEq] at H
            obtain ⟨rfl, rfl, rfl, rfl, rfl⟩ := H
            go_wp2_with (first | ((with_reducible refine gate_dst (N := 38) rfl ?_); refine Kd.R_lit (Kd.int .i64) _ 3 ?hg (N := 38) ?hd (xs := ([0, 16] : List Int)) (inner := [.int .i64 0, .int .i64 16]) (ok := fun _ => True) (okp := fun _ => True) ?hr ?hp (fun _ hk => hk) trivial (Below.refl _ _) (Nat.le_refl _) (by simp) ?_; (case hd => rfl); (case hg => rfl); (case hr => first | (go_simp; done) | (go_simp; rfl)); (case hp => exact (Reps.one (show Kd.M (Kd.int .i64) _ _ _ 0 [.int .i64 0] from rfl) (Reps.one (show Kd.M (Kd.int .i64) _ _ _ 16 [.int .i64 16] from rfl) (Reps.none _ _)))); intro v767 w53 ho54 hb hg_ hnew_; clear hg_ hnew_; (first | rw [← Ny766.out] at ho54 | (simp only [Int.reduceToNat] at ho54; rw [← Ny766.out] at ho54)); have n0_ := Aside0.mk (Kd.V_elder' (by exact Kd.xV HO_735003.out) (Kd.R_base ho54) hb); have n1_ := Aside0.mk (Kd.R_lower (Kd.R_newM (M := fun k_ => (w.heap.size ≤ k_)) ho54 (keep_size (w := w) (g := g) (row := none) (by exact kw HK.out)) (fun k_ h_ => h_)) (keep_size (w := w) (g := g) (row := none) (by exact kw HK.out))); have n2_ := Aside0.mk (blk_below (g := gb724) (o := .cells #[.int .i64 0, .int .i64 0, .string (⟨#[]⟩ : ByteArray), .slice none 0 0] 54 (0, 0)) (by exact bk BK724.out) hb); have n3_ := Aside0.mk (blk_below (g := gb734) (o := .cells #[.int .i64 t727, .int .i64 t728, .string t729, .slice Ao13 t730.length co13] 54 (0, 0)) (by exact bk BK734.out) hb); have n4_ := Aside0.mk (IsS81.below (by exact sw81 HI0.out) hb); have n5_ := Aside0.mk (KeepBut.trans (by exact kw HK.out) (KeepBut.of_below hb g none) (.inl rfl)); have n6_ := Aside0.mk (below_step (by exact bw HB.out) hb); clear HO_735003; clear BK724; clear BK734; clear HI0; clear HK; clear HB; have HO_735003 := n0_; have HO768 := n1_; have BK724 := n2_; have BK734 := n3_; have HI0 := n4_; have HK := n5_; have HB := n6_; clear n0_ n1_ n2_ n3_ n4_ n5_ n6_; clear hb ho54) | ((with_reducible refine gate_callee (f := 46) rfl ?_); refine gl (some 40) Try.func46 #[.pointer (some ⟨g, 0, none⟩), .int .i64 2] ?_; (with_reducible refine (spec_l20Rd_pick.calls kj16 g s0_0 x1001_16 2 t769 t770 w0 _ ?side1 ?side2 A50.out).mono ?_); (case side1 => exact sw81 HI0.out); (case side2 => exact bw HB.out); rintro e w55 ⟨rfl, hi, hb, hk⟩; refine ⟨_, rfl, ?_⟩; have n0_ := Aside0.mk (Kd.V_mono (Kd.V_keep (Kd.V_mono (ok := fun k_ => ((((w.heap.size ≤ k_)) ∧ (k_ ≠ gb724 ∧ (k_ ≠ gb734 ∧ k_ ≠ g))) ∧ some k_ ≠ (v767 : Value).ownBlock)) (by exact Kd.xV HO_735003.out) (fun k_ hk_ => (⟨hk_, hk_.1.2.2.2⟩ : _ ∧ k_ ≠ g))) hk (fun _ h => h.2)) (fun _ h => h.1)); have n1_ := Aside0.mk (KeepBut.blk hk (g' := gb724) (o := .cells #[.int .i64 0, .int .i64 0, .string (⟨#[]⟩ : ByteArray), .slice none 0 0] 54 (0, 0)) (by exact bk BK724.out) NB724_0.out (by simp)); have n2_ := Aside0.mk (KeepBut.blk hk (g' := gb734) (o := .cells #[.int .i64 t727, .int .i64 t728, .string t729, .slice Ao13 t730.length co13] 54 (0, 0)) (by exact bk BK734.out) NB734_0.out (by simp)); have n3_ := Aside0.mk (Kd.R_mono (Kd.R_keep (IsS81.apart (show IsS81 w0 _ g s0_0 x1001_16 from by exact sw81 HI0.out) (by exact Kd.xR HO768.out) (by decide)) hk (fun _ h => h.2)) (fun _ h => h.1)); have n4_ := Aside0.mk (KeepBut.trans (by exact kw HK.out) hk (.inl rfl)); have n5_ := Aside0.mk (hb); have n6_ := Aside0.mk (hi); clear HO_735003; clear BK724; clear BK734; clear HO768; clear HK; clear HB; clear HI0; have HO_735003 := n0_; have BK724 := n1_; have BK734 := n2_; have HO768 := n3_; have HK := n4_; have HB := n5_; have HI0 := n6_; clear n0_ n1_ n2_ n3_ n4_ n5_ n6_; (try clear hb); (try clear hb2); (try clear hk); (try clear hi); obtain ⟨Ao56, co56, eo56⟩ := Kd.R_slice HO768.out; subst eo56; have p771 : 0 ≤ (t769 : Int) := of_decide_eq_true (by first | (with_reducible assumption) | assumption); have q771 : t769 < (y766.length : Int) := of_decide_eq_true (by first | (with_reducible assumption) | assumption); obtain ⟨ad771, e771, hx771_0⟩ := Kd.at_int (Kd.R_reads' HO768.out).2.2 t769 p771 q771; cases e771; replace p771 := eq_true p771; replace q771 := eq_true q771; have hnb57 := NB724_734.out; have hnc57 := NB734_724.out; have hnb58 := NB724_0.out; have hnc58 := NB0_724.out; have hcz59_0 : w55.cell? ⟨gb724, 0, none⟩ = some (.int .i64 0) := (blk_cell BK724.out 0).trans rfl; have hcz59_1 : w55.cell? ⟨gb724, 1, none⟩ = some (.int .i64 0) := (blk_cell BK724.out 1).trans rfl; have hcz59_2 : w55.cell? ⟨gb724, 2, none⟩ = some (.string (⟨#[]⟩ : ByteArray)) := (blk_cell BK724.out 2).trans rfl; have hcz59_3 : w55.cell? ⟨gb724, 3, none⟩ = some (.slice none 0 0) := (blk_cell BK724.out 3).trans rfl; have hfz59_0 := blk_frozen BK724.out 0; have hfz59_1 := blk_frozen BK724.out 1; have hfz59_2 := blk_frozen BK724.out 2; have hfz59_3 := blk_frozen BK724.out 3))
            refine bodyPost_ret (results_cell_row rfl _ _ gb724 54 #[.int .i64 (rd y766 t769), .int .i64 0, .string (⟨#[]⟩ : ByteArray), .slice none 0 0] (0, 0) _ rfl (by (with_reducible repeat (first | refine blk_drewN ?_ _ | refine blk_drew ?_ | refine blk_alloc ?_ _)); refine blk_put (cs := #[.int .i64 (rd y766 t769), .int .i64 0, .string (⟨#[]⟩ : ByteArray), .slice none 0 0]) ?_ 3 _ rfl; (with_reducible repeat (first | refine blk_drewN ?_ _ | refine blk_drew ?_ | refine blk_alloc ?_ _)); refine blk_put (cs := #[.int .i64 (rd y766 t769), .int .i64 0, .string (⟨#[]⟩ : ByteArray), .slice none 0 0]) ?_ 2 _ rfl; (with_reducible repeat (first | refine blk_drewN ?_ _ | refine blk_drew ?_ | refine blk_alloc ?_ _)); refine blk_put (cs := #[.int .i64 (rd y766 t769), .int .i64 0, .string (⟨#[]⟩ : ByteArray), .slice none 0 0]) ?_ 1 _ rfl; (with_reducible repeat (first | refine blk_drewN ?_ _ | refine blk_drew ?_ | refine blk_alloc ?_ _)); refine blk_put (cs := #[.int .i64 0, .int .i64 0, .string (⟨#[]⟩ : ByteArray), .slice none 0 0]) ?_ 0 _ rfl; exact bk BK724.out) Try.underlying54 rfl (by kernel_rfl)) rfl ?_
            exact ⟨_, by first | rfl | (simp [errW_none, errW_some] <;> rfl) | (simp [*, errW_none, errW_some] <;> rfl), by first | exact Kd.R_nil _ _ _ _ _ | exact Kd.N_nil _ _ _ _ _ | exact Kd.V_nil _ _ _ _ _ | exact Kd.Q_nil _ _ _ _ _ | exact Kd.S_nil _ _ _ _ _, by exact sw81 HI0.out, by exact bw HB.out, by exact kw HK.out⟩
           ·
            rw [if_neg c52] at H
            exact absurd H (by simp)
          ·
           rw [if_neg c51] at H
           exact absurd H (by simp)
         ·
          rw [if_neg c49] at H
          have c49b0 : (x15_16 == 3) = false := beq_eq_false_iff_ne.mpr c49
          have c49b1 : (x15_16 != 3) = true := bne_iff_ne.mpr c49
          by_cases c60 : x15_16 = 4
          ·
           rw [if_pos c60] at H
           have c60b0 : (x15_16 == 4) = true := beq_iff_eq.mpr c60
           have c60b1 : (x15_16 != 4) = false := bne_eq_false_iff_eq.mpr c60
           clear c60
           obtain ⟨y772, hy772⟩ : ∃ y_ : List (S54), y_ = (([(⟨t727, t728, t729, t730⟩ : S54)] : List (S54))) := ⟨_, rfl⟩
           replace H : (some (14, 0, (⟨#[]⟩ : ByteArray), y772, x1001_16)) = some (r1, r2, r3, r4, r5) := by first | (rw [hy772]; with_reducible exact H) | (have H2_ := (Option.bind_some _ _).symm.trans H; rw [hy772]; with_reducible exact H2_) | (have H2_ := (Option.bind_some _ _).symm.trans H; with_reducible exact H2_) | with_reducible exact H | (rw [hy772]; exact H) | exact H
           have Ny772 := Aside0.mk hy772
           clear hy772
           simp only [Option.some.injEq, Prod.mk.injEq] at H
           obtain ⟨rfl, rfl, rfl, rfl, rfl⟩ := H
           have hnb61 := NB734_724.out
           have hnc61 := NB724_734.out
           have hnb62 := NB734_0.out
           have hnc62 := NB0_734.out
           have hcz63_0 : wc.cell? ⟨gb734, 0, none⟩ = some (.int .i64 t727) := (blk_cell BK734.out 0).trans rfl
           have hcz63_1 : wc.cell? ⟨gb734, 1, none⟩ = some (.int .i64 t728) := (blk_cell BK734.out 1).trans rfl
           have hcz63_2 : wc.cell? ⟨gb734, 2, none⟩ = some (.string t729) := (blk_cell BK734.out 2).trans rfl
           have hcz63_3 : wc.cell? ⟨gb734, 3, none⟩ = some (.slice Ao13 t730.length co13) := (blk_cell BK734.out 3).trans rfl
           have hfz63_0 := blk_frozen BK734.out 0
           have hfz63_1 := blk_frozen BK734.out 1
           have hfz63_2 := blk_frozen BK734.out 2
           have hfz63_3 := blk_frozen BK734.out 3
           go_wp2_with (first | ((with_reducible refine gate_dst (N := 47) rfl ?_); refine Kd.N_lit k54 _ 54 ?hg (N' := 47) ?hd (xs := ([(⟨t727, t728, t729, t730⟩ : S54)] : List (S54))) (inner := [.int .i64 t727, .int .i64 t728, .string t729, .slice Ao13 t730.length co13]) (ok := (fun k_ => (w.heap.size ≤ k_) ∧ k_ ≠ gb724 ∧ k_ ≠ gb734 ∧ k_ ≠ g)) (okp := (fun k_ => (w.heap.size ≤ k_) ∧ k_ ≠ gb724 ∧ k_ ≠ gb734 ∧ k_ ≠ g)) ?hr ?hp (fun _ hk => hk) ((show ∀ k_, wc.heap.size ≤ k_ → (fun k_ => (w.heap.size ≤ k_) ∧ k_ ≠ gb724 ∧ k_ ≠ gb734 ∧ k_ ≠ g) k_ from fun k_ hk => ⟨(Nat.le_trans (keep_size (w := w) (g := g) (row := none) (by exact kw HK.out)) hk), Kd.freshB (g := gb724) (o := .cells #[.int .i64 0, .int .i64 0, .string (⟨#[]⟩ : ByteArray), .slice none 0 0] 54 (0, 0)) (by exact bk BK724.out) k_ hk, Kd.freshB (g := gb734) (o := .cells #[.int .i64 t727, .int .i64 t728, .string t729, .slice Ao13 t730.length co13] 54 (0, 0)) (by exact bk BK734.out) k_ hk, IsS81.fresh (by exact sw81 HI0.out) k_ hk⟩) _ (Nat.le_refl _)) (Below.refl _ _) (Nat.le_refl _) (by simp) ?_; (case hd => rfl); (case hg => rfl); (case hr => first | (go_simp; done) | (go_simp; rfl)); (case hp => exact (Reps.c4 (show Kd.FK k54 _ _ (⟨t727, t728, t729, t730⟩ : S54) [.int .i64 t727, .int .i64 t728, .string t729, .slice Ao13 t730.length co13] from (k54_mkF _ _ (⟨t727, t728, t729, t730⟩ : S54) (Kd.V_reads' (Kd.V_mono (ok' := (fun k_ => (w.heap.size ≤ k_) ∧ k_ ≠ gb724 ∧ k_ ≠ gb734 ∧ k_ ≠ g)) (HO_735003.out) (fun k_ hk => okp hk))).2.1 (Kd.V_F (Kd.V_mono (ok' := (fun k_ => (w.heap.size ≤ k_) ∧ k_ ≠ gb724 ∧ k_ ≠ gb734 ∧ k_ ≠ g)) (HO_735003.out) (fun k_ hk => okp hk))))) (Reps.none _ _))); intro v773 w64 ho65 hb hg_ hnew_; clear hg_ hnew_; (first | rw [← Ny772.out] at ho65 | (simp only [Int.reduceToNat] at ho65; rw [← Ny772.out] at ho65)); have n0_ := Aside0.mk (Kd.V_elder' (by exact Kd.xV HO_735003.out) (Kd.N_base ho65) hb); have n1_ := Aside0.mk (Kd.N_lower ho65 (keep_size (w := w) (g := g) (row := none) (by exact kw HK.out))); have n2_ := Aside0.mk (blk_below (g := gb724) (o := .cells #[.int .i64 0, .int .i64 0, .string (⟨#[]⟩ : ByteArray), .slice none 0 0] 54 (0, 0)) (by exact bk BK724.out) hb); have n3_ := Aside0.mk (blk_below (g := gb734) (o := .cells #[.int .i64 t727, .int .i64 t728, .string t729, .slice Ao13 t730.length co13] 54 (0, 0)) (by exact bk BK734.out) hb); have n4_ := Aside0.mk (IsS81.below (by exact sw81 HI0.out) hb); have n5_ := Aside0.mk (KeepBut.trans (by exact kw HK.out) (KeepBut.of_below hb g none) (.inl rfl)); have n6_ := Aside0.mk (below_step (by exact bw HB.out) hb); clear HO_735003; clear BK724; clear BK734; clear HI0; clear HK; clear HB; have HO_735003 := n0_; have HO774 := n1_; have BK724 := n2_; have BK734 := n3_; have HI0 := n4_; have HK := n5_; have HB := n6_; clear n0_ n1_ n2_ n3_ n4_ n5_ n6_; clear hb ho65; obtain ⟨Ao66, co66, eo66⟩ := Kd.N_slice HO774.out; subst eo66; have hnb67 := NB724_0.out; have hnc67 := NB0_724.out; have hcz68_0 : w64.cell? ⟨gb724, 0, none⟩ = some (.int .i64 0) := (blk_cell BK724.out 0).trans rfl; have hcz68_1 : w64.cell? ⟨gb724, 1, none⟩ = some (.int .i64 0) := (blk_cell BK724.out 1).trans rfl; have hcz68_2 : w64.cell? ⟨gb724, 2, none⟩ = some (.string (⟨#[]⟩ : ByteArray)) := (blk_cell BK724.out 2).trans rfl; have hcz68_3 : w64.cell? ⟨gb724, 3, none⟩ = some (.slice none 0 0) := (blk_cell BK724.out 3).trans rfl; have hfz68_0 := blk_frozen BK724.out 0; have hfz68_1 := blk_frozen BK724.out 1; have hfz68_2 := blk_frozen BK724.out 2; have hfz68_3 := blk_frozen BK724.out 3))
           refine bodyPost_ret (results_cell_row rfl _ _ gb724 54 #[.int .i64 14, .int .i64 0, .string (⟨#[]⟩ : ByteArray), .slice Ao66 y772.length co66] (0, 0) _ rfl (by (with_reducible repeat (first | refine blk_drewN ?_ _ | refine blk_drew ?_ | refine blk_alloc ?_ _)); refine blk_put (cs := #[.int .i64 14, .int .i64 0, .string (⟨#[]⟩ : ByteArray), .slice none 0 0]) ?_ 3 _ rfl; (with_reducible repeat (first | refine blk_drewN ?_ _ | refine blk_drew ?_ | refine blk_alloc ?_ _)); refine blk_put (cs := #[.int .i64 14, .int .i64 0, .string (⟨#[]⟩ : ByteArray), .slice none 0 0]) ?_ 2 _ rfl; (with_reducible repeat (first | refine blk_drewN ?_ _ | refine blk_drew ?_ | refine blk_alloc ?_ _)); refine blk_put (cs := #[.int .i64 14, .int .i64 0, .string (⟨#[]⟩ : ByteArray), .slice none 0 0]) ?_ 1 _ rfl; (with_reducible repeat (first | refine blk_drewN ?_ _ | refine blk_drew ?_ | refine blk_alloc ?_ _)); refine blk_put (cs := #[.int .i64 0, .int .i64 0, .string (⟨#[]⟩ : ByteArray), .slice none 0 0]) ?_ 0 _ rfl; exact bk BK724.out) Try.underlying54 rfl (by kernel_rfl)) rfl ?_
           exact ⟨_, by first | rfl | (simp [errW_none, errW_some] <;> rfl) | (simp [*, errW_none, errW_some] <;> rfl), Kd.N_V (by (with_reducible repeat (first | apply Kd.N_alloc | apply Kd.N_drewN | apply Kd.N_drew)); exact Kd.N_mono (Kd.N_far (p := ⟨gb724, 3, none⟩) (Kd.N_far (p := ⟨gb724, 2, none⟩) (Kd.N_far (p := ⟨gb724, 1, none⟩) (Kd.N_far (p := ⟨gb724, 0, none⟩) (Kd.N_mono HO774.out (fun k_ hk => (⟨hk, okp hk⟩ : _ ∧ k_ ≠ gb724))) (fun _ hk => hk.2) (.int .i64 14)) (fun _ hk => hk.2) (.int .i64 0)) (fun _ hk => hk.2) (.string (⟨#[]⟩ : ByteArray))) (fun _ hk => hk.2) (.slice Ao66 y772.length co66)) (fun _ hk => hk.1.1)), by exact sw81 HI0.out, by exact bw HB.out, by exact kw HK.out⟩
          ·
           rw [if_neg c60] at H
           have c60b0 : (x15_16 == 4) = false := beq_eq_false_iff_ne.mpr c60
           have c60b1 : (x15_16 != 4) = true := bne_iff_ne.mpr c60
           obtain ⟨y775, hy775⟩ : ∃ y_ : List (S54), y_ = (([(⟨t727, t728, t729, t730⟩ : S54)] : List (S54))) := ⟨_, rfl⟩
           replace H : (some (9, 0, (⟨#[65]⟩ : ByteArray), y775, x1001_16)) = some (r1, r2, r3, r4, r5) := by first | (rw [hy775]; with_reducible exact H) | (have H2_ := (Option.bind_some _ _).symm.trans H; rw [hy775]; with_reducible exact H2_) | (have H2_ := (Option.bind_some _ _).symm.trans H; with_reducible exact H2_) | with_reducible exact H | (rw [hy775]; exact H) | exact H
           have Ny775 := Aside0.mk hy775
           clear hy775
           simp only [Option.some.injEq, Prod.mk.injEq] at H
           obtain ⟨rfl, rfl, rfl, rfl, rfl⟩ := H
           have hnb69 := NB734_724.out
           have hnc69 := NB724_734.out
           have hnb70 := NB734_0.out
           have hnc70 := NB0_734.out
           have hcz71_0 : wc.cell? ⟨gb734, 0, none⟩ = some (.int .i64 t727) := (blk_cell BK734.out 0).trans rfl
           have hcz71_1 : wc.cell? ⟨gb734, 1, none⟩ = some (.int .i64 t728) := (blk_cell BK734.out 1).trans rfl
           have hcz71_2 : wc.cell? ⟨gb734, 2, none⟩ = some (.string t729) := (blk_cell BK734.out 2).trans rfl
           have hcz71_3 : wc.cell? ⟨gb734, 3, none⟩ = some (.slice Ao13 t730.length co13) := (blk_cell BK734.out 3).trans rfl
           have hfz71_0 := blk_frozen BK734.out 0
           have hfz71_1 := blk_frozen BK734.out 1
           have hfz71_2 := blk_frozen BK734.out 2
           have hfz71_3 := blk_frozen BK734.out 3
           go_wp2_with (first | ((with_reducible refine gate_dst (N := 17) rfl ?_); refine Kd.N_lit k54 _ 54 ?hg (N' := 17) ?hd (xs := ([(⟨t727, t728, t729, t730⟩ : S54)] : List (S54))) (inner := [.int .i64 t727, .int .i64 t728, .string t729, .slice Ao13 t730.length co13]) (ok := (fun k_ => (w.heap.size ≤ k_) ∧ k_ ≠ gb724 ∧ k_ ≠ gb734 ∧ k_ ≠ g)) (okp := (fun k_ => (w.heap.size ≤ k_) ∧ k_ ≠ gb724 ∧ k_ ≠ gb734 ∧ k_ ≠ g)) ?hr ?hp (fun _ hk => hk) ((show ∀ k_, wc.heap.size ≤ k_ → (fun k_ => (w.heap.size ≤ k_) ∧ k_ ≠ gb724 ∧ k_ ≠ gb734 ∧ k_ ≠ g) k_ from fun k_ hk => ⟨(Nat.le_trans (keep_size (w := w) (g := g) (row := none) (by exact kw HK.out)) hk), Kd.freshB (g := gb724) (o := .cells #[.int .i64 0, .int .i64 0, .string (⟨#[]⟩ : ByteArray), .slice none 0 0] 54 (0, 0)) (by exact bk BK724.out) k_ hk, Kd.freshB (g := gb734) (o := .cells #[.int .i64 t727, .int .i64 t728, .string t729, .slice Ao13 t730.length co13] 54 (0, 0)) (by exact bk BK734.out) k_ hk, IsS81.fresh (by exact sw81 HI0.out) k_ hk⟩) _ (Nat.le_refl _)) (Below.refl _ _) (Nat.le_refl _) (by simp) ?_; (case hd => rfl); (case hg => rfl); (case hr => first | (go_simp; done) | (go_simp; rfl)); (case hp => exact (Reps.c4 (show Kd.FK k54 _ _ (⟨t727, t728, t729, t730⟩ : S54) [.int .i64 t727, .int .i64 t728, .string t729, .slice Ao13 t730.length co13] from (k54_mkF _ _ (⟨t727, t728, t729, t730⟩ : S54) (Kd.V_reads' (Kd.V_mono (ok' := (fun k_ => (w.heap.size ≤ k_) ∧ k_ ≠ gb724 ∧ k_ ≠ gb734 ∧ k_ ≠ g)) (HO_735003.out) (fun k_ hk => okp hk))).2.1 (Kd.V_F (Kd.V_mono (ok' := (fun k_ => (w.heap.size ≤ k_) ∧ k_ ≠ gb724 ∧ k_ ≠ gb734 ∧ k_ ≠ g)) (HO_735003.out) (fun k_ hk => okp hk))))) (Reps.none _ _))); intro v776 w72 ho73 hb hg_ hnew_; clear hg_ hnew_; (first | rw [← Ny775.out] at ho73 | (simp only [Int.reduceToNat] at ho73; rw [← Ny775.out] at ho73)); have n0_ := Aside0.mk (Kd.V_elder' (by exact Kd.xV HO_735003.out) (Kd.N_base ho73) hb); have n1_ := Aside0.mk (Kd.N_lower ho73 (keep_size (w := w) (g := g) (row := none) (by exact kw HK.out))); have n2_ := Aside0.mk (blk_below (g := gb724) (o := .cells #[.int .i64 0, .int .i64 0, .string (⟨#[]⟩ : ByteArray), .slice none 0 0] 54 (0, 0)) (by exact bk BK724.out) hb); have n3_ := Aside0.mk (blk_below (g := gb734) (o := .cells #[.int .i64 t727, .int .i64 t728, .string t729, .slice Ao13 t730.length co13] 54 (0, 0)) (by exact bk BK734.out) hb); have n4_ := Aside0.mk (IsS81.below (by exact sw81 HI0.out) hb); have n5_ := Aside0.mk (KeepBut.trans (by exact kw HK.out) (KeepBut.of_below hb g none) (.inl rfl)); have n6_ := Aside0.mk (below_step (by exact bw HB.out) hb); clear HO_735003; clear BK724; clear BK734; clear HI0; clear HK; clear HB; have HO_735003 := n0_; have HO777 := n1_; have BK724 := n2_; have BK734 := n3_; have HI0 := n4_; have HK := n5_; have HB := n6_; clear n0_ n1_ n2_ n3_ n4_ n5_ n6_; clear hb ho73; obtain ⟨Ao74, co74, eo74⟩ := Kd.N_slice HO777.out; subst eo74; have hnb75 := NB724_0.out; have hnc75 := NB0_724.out; have hcz76_0 : w72.cell? ⟨gb724, 0, none⟩ = some (.int .i64 0) := (blk_cell BK724.out 0).trans rfl; have hcz76_1 : w72.cell? ⟨gb724, 1, none⟩ = some (.int .i64 0) := (blk_cell BK724.out 1).trans rfl; have hcz76_2 : w72.cell? ⟨gb724, 2, none⟩ = some (.string (⟨#[]⟩ : ByteArray)) := (blk_cell BK724.out 2).trans rfl; have hcz76_3 : w72.cell? ⟨gb724, 3, none⟩ = some (.slice none 0 0) := (blk_cell BK724.out 3).trans rfl; have hfz76_0 := blk_frozen BK724.out 0; have hfz76_1 := blk_frozen BK724.out 1; have hfz76_2 := blk_frozen BK724.out 2; have hfz76_3 := blk_frozen BK724.out 3))
           refine bodyPost_ret (results_cell_row rfl _ _ gb724 54 #[.int .i64 9, .int .i64 0, .string (⟨#[65]⟩ : ByteArray), .slice Ao74 y775.length co74] (0, 0) _ rfl (by (with_reducible repeat (first | refine blk_drewN ?_ _ | refine blk_drew ?_ | refine blk_alloc ?_ _)); refine blk_put (cs := #[.int .i64 9, .int .i64 0, .string (⟨#[65]⟩ : ByteArray), .slice none 0 0]) ?_ 3 _ rfl; (with_reducible repeat (first | refine blk_drewN ?_ _ | refine blk_drew ?_ | refine blk_alloc ?_ _)); refine blk_put (cs := #[.int .i64 9, .int .i64 0, .string (⟨#[]⟩ : ByteArray), .slice none 0 0]) ?_ 2 _ rfl; (with_reducible repeat (first | refine blk_drewN ?_ _ | refine blk_drew ?_ | refine blk_alloc ?_ _)); refine blk_put (cs := #[.int .i64 9, .int .i64 0, .string (⟨#[]⟩ : ByteArray), .slice none 0 0]) ?_ 1 _ rfl; (with_reducible repeat (first | refine blk_drewN ?_ _ | refine blk_drew ?_ | refine blk_alloc ?_ _)); refine blk_put (cs := #[.int .i64 0, .int .i64 0, .string (⟨#[]⟩ : ByteArray), .slice none 0 0]) ?_ 0 _ rfl; exact bk BK724.out) Try.underlying54 rfl (by kernel_rfl)) rfl ?_
           exact ⟨_, by first | rfl | (simp [errW_none, errW_some] <;> rfl) | (simp [*, errW_none, errW_some] <;> rfl), Kd.N_V (by (with_reducible repeat (first | apply Kd.N_alloc | apply Kd.N_drewN | apply Kd.N_drew)); exact Kd.N_mono (Kd.N_far (p := ⟨gb724, 3, none⟩) (Kd.N_far (p := ⟨gb724, 2, none⟩) (Kd.N_far (p := ⟨gb724, 1, none⟩) (Kd.N_far (p := ⟨gb724, 0, none⟩) (Kd.N_mono HO777.out (fun k_ hk => (⟨hk, okp hk⟩ : _ ∧ k_ ≠ gb724))) (fun _ hk => hk.2) (.int .i64 9)) (fun _ hk => hk.2) (.int .i64 0)) (fun _ hk => hk.2) (.string (⟨#[65]⟩ : ByteArray))) (fun _ hk => hk.2) (.slice Ao74 y775.length co74)) (fun _ hk => hk.1.1)), by exact sw81 HI0.out, by exact bw HB.out, by exact kw HK.out⟩
   ·
    replace c16 := Bool.eq_false_iff.mpr c16
    subst c16
    have H1 : (some (t727, t728, t729, t730, x1001_4)) = some (r1, r2, r3, r4, r5) := by rw [if_neg (show ¬ (false = true) by decide)] at H; exact H
    clear H
    have H := H1
    clear H1
    simp only [Option.some.injEq, Prod.mk.injEq] at H
    obtain ⟨rfl, rfl, rfl, rfl, rfl⟩ := H
    have hnb77 := NB734_724.out
    have hnc77 := NB724_734.out
    have hnb78 := NB734_0.out
    have hnc78 := NB0_734.out
    have hcz79_0 : wc.cell? ⟨gb734, 0, none⟩ = some (.int .i64 t727) := (blk_cell BK734.out 0).trans rfl
    have hcz79_1 : wc.cell? ⟨gb734, 1, none⟩ = some (.int .i64 t728) := (blk_cell BK734.out 1).trans rfl
    have hcz79_2 : wc.cell? ⟨gb734, 2, none⟩ = some (.string t729) := (blk_cell BK734.out 2).trans rfl
    have hcz79_3 : wc.cell? ⟨gb734, 3, none⟩ = some (.slice Ao13 t730.length co13) := (blk_cell BK734.out 3).trans rfl
    have hfz79_0 := blk_frozen BK734.out 0
    have hfz79_1 := blk_frozen BK734.out 1
    have hfz79_2 := blk_frozen BK734.out 2
    have hfz79_3 := blk_frozen BK734.out 3
    have hnb80 := NB724_0.out
    have hnc80 := NB0_724.out
    have hcz81_0 : wc.cell? ⟨gb724, 0, none⟩ = some (.int .i64 0) := (blk_cell BK724.out 0).trans rfl
    have hcz81_1 : wc.cell? ⟨gb724, 1, none⟩ = some (.int .i64 0) := (blk_cell BK724.out 1).trans rfl
    have hcz81_2 : wc.cell? ⟨gb724, 2, none⟩ = some (.string (⟨#[]⟩ : ByteArray)) := (blk_cell BK724.out 2).trans rfl
    have hcz81_3 : wc.cell? ⟨gb724, 3, none⟩ = some (.slice none 0 0) := (blk_cell BK724.out 3).trans rfl
    have hfz81_0 := blk_frozen BK724.out 0
    have hfz81_1 := blk_frozen BK724.out 1
    have hfz81_2 := blk_frozen BK724.out 2
    have hfz81_3 := blk_frozen BK724.out 3
    go_wp2
    refine bodyPost_ret (results_cell_row rfl _ _ gb724 54 #[.int .i64 t727, .int .i64 t728, .string t729, .slice Ao13 t730.length co13] (0, 0) _ rfl (by (with_reducible repeat (first | refine blk_drewN ?_ _ | refine blk_drew ?_ | refine blk_alloc ?_ _)); refine blk_put (cs := #[.int .i64 t727, .int .i64 t728, .string t729, .slice none 0 0]) ?_ 3 _ rfl; (with_reducible repeat (first | refine blk_drewN ?_ _ | refine blk_drew ?_ | refine blk_alloc ?_ _)); refine blk_put (cs := #[.int .i64 t727, .int .i64 t728, .string (⟨#[]⟩ : ByteArray), .slice none 0 0]) ?_ 2 _ rfl; (with_reducible repeat (first | refine blk_drewN ?_ _ | refine blk_drew ?_ | refine blk_alloc ?_ _)); refine blk_put (cs := #[.int .i64 t727, .int .i64 0, .string (⟨#[]⟩ : ByteArray), .slice none 0 0]) ?_ 1 _ rfl; (with_reducible repeat (first | refine blk_drewN ?_ _ | refine blk_drew ?_ | refine blk_alloc ?_ _)); refine blk_put (cs := #[.int .i64 0, .int .i64 0, .string (⟨#[]⟩ : ByteArray), .slice none 0 0]) ?_ 0 _ rfl; exact bk BK724.out) Try.underlying54 rfl (by kernel_rfl)) rfl ?_
    exact ⟨_, by first | rfl | (simp [errW_none, errW_some] <;> rfl) | (simp [*, errW_none, errW_some] <;> rfl), by (with_reducible repeat (first | apply Kd.V_alloc | apply Kd.V_drewN | apply Kd.V_drew)); exact Kd.V_mono (Kd.V_far (p := ⟨gb724, 3, none⟩) (Kd.V_far (p := ⟨gb724, 2, none⟩) (Kd.V_far (p := ⟨gb724, 1, none⟩) (Kd.V_far (p := ⟨gb724, 0, none⟩) (Kd.V_mono HO_735003.out (fun k_ hk => (⟨hk, okp hk⟩ : _ ∧ k_ ≠ gb724))) (fun _ hk => hk.2) (.int .i64 t727)) (fun _ hk => hk.2) (.int .i64 t728)) (fun _ hk => hk.2) (.string t729)) (fun _ hk => hk.2) (.slice Ao13 t730.length co13)) (fun _ hk => hk.1.1), by exact sw81 HI0.out, by exact bw HB.out, by exact kw HK.out⟩

end Go.Proofs.Ytefgbocbhohkeaa.P
