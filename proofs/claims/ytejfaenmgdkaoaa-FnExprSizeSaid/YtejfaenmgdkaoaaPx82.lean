-- Written by a program of this session (wip/tool).
import Derived.Test.YtejfaenmgdkaoaaPx0
import Derived.Test.YtejfaenmgdkaoaaPx1
import Derived.Test.YtejfaenmgdkaoaaPx2
import Derived.Test.YtejfaenmgdkaoaaPx78
import Derived.Test.YtejfaenmgdkaoaaPx79
import Derived.Test.YtejfaenmgdkaoaaPx81
namespace Go.Proofs.Ytejfaenmgdkaoaa.P
open Go.RowKit Go.Proofs.YtejfaenmgdkaoaaW.PrintWords Go.Proofs.YtejfaenmgdkaoaaW.PrintLast Go.Proofs.YtejfaenmgdkaoaaW.PrintMore
attribute [local go_sem] max2_int min2_int max_two min_two max_three min_three max_four min_four   -- for this text's walks alone
set_option linter.unusedVariables false
set_option linter.unusedSimpArgs false

/-! ### spec_l20Expr: function 69 -/
mutual
def spec_l20Expr.j0 : Nat → Bool → List Int → Int → Int → Int → ByteArray → List (S55) → Option (Int × Int × ByteArray × (List (S55)) × Int)
 | 0, _, _, _, _, _, _, _ => none
 | k + 1, x13, x1000, x1001, x899000, x899001, x899002, x899003 => if x13 = true then ((spec_l20Rd_pick.f k x1000 x1001 6).bind fun bt901 => (spec_l20Expr.j1 k bt901.1 x1000 bt901.2 x899000 x899001 x899002 x899003)) else (some (x899000, x899001, x899002, x899003, x1001))
def spec_l20Expr.j1 : Nat → Int → List Int → Int → Int → Int → ByteArray → List (S55) → Option (Int × Int × ByteArray × (List (S55)) × Int)
 | 0, _, _, _, _, _, _, _ => none
 | k + 1, x15, x1000, x1001, x899000, x899001, x899002, x899003 => if x15 = 0 then ((spec_l20Number.f k x1000 x1001 2).bind fun bt903 => (some (bt903.1, bt903.2.1, bt903.2.2.1, bt903.2.2.2.1, bt903.2.2.2.2))) else (if x15 = 1 then ((spec_l20Thing.f k x1000 x1001 1).bind fun bt910 => (some (13, 0, (⟨#[]⟩ : ByteArray), (([(⟨bt910.1, bt910.2.1, bt910.2.2.1, bt910.2.2.2.1⟩ : S55)] : List (S55))), bt910.2.2.2.2))) else (if x15 = 2 then ((spec_l20Thing.f k x1000 x1001 1).bind fun bt920 => (some (11, 0, (⟨#[]⟩ : ByteArray), (([(⟨bt920.1, bt920.2.1, bt920.2.2.1, bt920.2.2.2.1⟩ : S55), (⟨x899000, x899001, x899002, x899003⟩ : S55)] : List (S55))), bt920.2.2.2.2))) else (if x15 = 3 then ((some (([0, 16] : List Int) : List Int)).bind fun y930 => ((spec_l20Rd_pick.f k x1000 x1001 2).bind fun bt933 => (if 0 ≤ bt933.1 then (if bt933.1 < (y930.length : Int) then (some (rd y930 bt933.1, 0, (⟨#[]⟩ : ByteArray), ([] : List (S55)), bt933.2)) else (none)) else (none)))) else (if x15 = 4 then (some (14, 0, (⟨#[]⟩ : ByteArray), (([(⟨x899000, x899001, x899002, x899003⟩ : S55)] : List (S55))), x1001)) else (some (9, 0, (⟨#[65]⟩ : ByteArray), (([(⟨x899000, x899001, x899002, x899003⟩ : S55)] : List (S55))), x1001))))))
end
def spec_l20Expr.f (k : Nat) (s0_0 : List Int) (s0_1 : Int) (a1 : Int) : Option (Int × Int × ByteArray × (List (S55)) × Int) := (spec_l20Rd_pick.f k s0_0 s0_1 3).bind fun bt889 => ((spec_l20Truth.f k s0_0 bt889.2 (wrap64 (1 + bt889.1))).bind fun bt891 => ((spec_l20Rd_odd.f k s0_0 bt891.2.2.2.2 a1).bind fun bt899 => (spec_l20Expr.j0 k bt899.1 s0_0 bt899.2 bt891.1 bt891.2.1 bt891.2.2.1 bt891.2.2.2.1)))
theorem spec_l20Expr.mono_l : ∀ k, (∀ y0 y1 y2 y3 y4 y5 y6, LeO (spec_l20Expr.j0 k y0 y1 y2 y3 y4 y5 y6) (spec_l20Expr.j0 (k + 1) y0 y1 y2 y3 y4 y5 y6)) ∧ (∀ y0 y1 y2 y3 y4 y5 y6, LeO (spec_l20Expr.j1 k y0 y1 y2 y3 y4 y5 y6) (spec_l20Expr.j1 (k + 1) y0 y1 y2 y3 y4 y5 y6))
 | 0 => ⟨fun _ _ _ _ _ _ _ r h => by simp [spec_l20Expr.j0] at h, fun _ _ _ _ _ _ _ r h => by simp [spec_l20Expr.j1] at h⟩
 | k + 1 => by
  obtain ⟨ih0, ih1⟩ := spec_l20Expr.mono_l k
  refine ⟨?_, ?_⟩
  ·
   intro y0 y1 y2 y3 y4 y5 y6
   unfold spec_l20Expr.j0
   repeat' first
   | (with_reducible exact ih0 _ _ _ _ _ _ _)
   | (with_reducible exact ih1 _ _ _ _ _ _ _)
   | (with_reducible exact spec_l20Number.mono _ _ _ _)
   | (with_reducible exact spec_l20Rd_odd.mono _ _ _ _)
   | (with_reducible exact spec_l20Rd_pick.mono _ _ _ _)
   | (with_reducible exact spec_l20Thing.mono _ _ _ _)
   | (with_reducible exact spec_l20Truth.mono _ _ _ _)
   | (with_reducible exact LeO.refl _)
   | (with_reducible exact LeO.none _)
   | (with_reducible refine LeO.ite ?_ ?_)
   | (with_reducible refine LeO.bind ?_ (fun _ => ?_))
   | exact ih0 _ _ _ _ _ _ _
   | exact ih1 _ _ _ _ _ _ _
   | exact spec_l20Number.mono _ _ _ _
   | exact spec_l20Rd_odd.mono _ _ _ _
   | exact spec_l20Rd_pick.mono _ _ _ _
   | exact spec_l20Thing.mono _ _ _ _
   | exact spec_l20Truth.mono _ _ _ _
   | exact LeO.none _
   | refine LeO.ite ?_ ?_
   | refine LeO.bind ?_ (fun _ => ?_)
  ·
   intro y0 y1 y2 y3 y4 y5 y6
   unfold spec_l20Expr.j1
   repeat' first
   | (with_reducible exact ih0 _ _ _ _ _ _ _)
   | (with_reducible exact ih1 _ _ _ _ _ _ _)
   | (with_reducible exact spec_l20Number.mono _ _ _ _)
   | (with_reducible exact spec_l20Rd_odd.mono _ _ _ _)
   | (with_reducible exact spec_l20Rd_pick.mono _ _ _ _)
   | (with_reducible exact spec_l20Thing.mono _ _ _ _)
   | (with_reducible exact spec_l20Truth.mono _ _ _ _)
   | (with_reducible exact LeO.refl _)
   | (with_reducible exact LeO.none _)
   | (with_reducible refine LeO.ite ?_ ?_)
   | (with_reducible refine LeO.bind ?_ (fun _ => ?_))
   | exact ih0 _ _ _ _ _ _ _
   | exact ih1 _ _ _ _ _ _ _
   | exact spec_l20Number.mono _ _ _ _
   | exact spec_l20Rd_odd.mono _ _ _ _
   | exact spec_l20Rd_pick.mono _ _ _ _
   | exact spec_l20Thing.mono _ _ _ _
   | exact spec_l20Truth.mono _ _ _ _
   | exact LeO.none _
   | refine LeO.ite ?_ ?_
   | refine LeO.bind ?_ (fun _ => ?_)
theorem spec_l20Expr.mono : ∀ a0 a1 a2 k, LeO (spec_l20Expr.f k a0 a1 a2) (spec_l20Expr.f (k + 1) a0 a1 a2) := by
 intro a0 a1 a2 k
 obtain ⟨ih0, ih1⟩ := spec_l20Expr.mono_l k
 unfold spec_l20Expr.f
 repeat' first
   | (with_reducible exact ih0 _ _ _ _ _ _ _)
   | (with_reducible exact ih1 _ _ _ _ _ _ _)
   | (with_reducible exact spec_l20Number.mono _ _ _ _)
   | (with_reducible exact spec_l20Rd_odd.mono _ _ _ _)
   | (with_reducible exact spec_l20Rd_pick.mono _ _ _ _)
   | (with_reducible exact spec_l20Thing.mono _ _ _ _)
   | (with_reducible exact spec_l20Truth.mono _ _ _ _)
   | (with_reducible exact LeO.refl _)
   | (with_reducible exact LeO.none _)
   | (with_reducible refine LeO.ite ?_ ?_)
   | (with_reducible refine LeO.bind ?_ (fun _ => ?_))
   | exact ih0 _ _ _ _ _ _ _
   | exact ih1 _ _ _ _ _ _ _
   | exact spec_l20Number.mono _ _ _ _
   | exact spec_l20Rd_odd.mono _ _ _ _
   | exact spec_l20Rd_pick.mono _ _ _ _
   | exact spec_l20Thing.mono _ _ _ _
   | exact spec_l20Truth.mono _ _ _ _
   | exact LeO.none _
   | refine LeO.ite ?_ ?_
   | refine LeO.bind ?_ (fun _ => ?_)
set_option maxHeartbeats 8000000 in
set_option maxRecDepth 100000 in
theorem spec_l20Expr.calls (k : Nat) (g : Nat) (s0_0 : List Int) (s0_1 : Int) (a1 : Int) (r1 : Int) (r2 : Int) (r3 : ByteArray) (r4 : List (S55)) (r5 : Int) (w0 w : World) (hI : IsS105 w0 w g s0_0 s0_1) (hB : Below w0.heap.size w0 w) (h : spec_l20Expr.f k s0_0 s0_1 a1 = some (r1, r2, r3, r4, r5)) :
  Calls Try.prog 69 #[.pointer (some ⟨g, 0, none⟩), .int .i64 a1] w fun e w' => ∃ v3_ : Value, e = .returned (.agg #[.int .i64 r1, .int .i64 r2, .string r3, v3_]) ∧ Kd.V k55 55 w' w.heap.size (fun k_ => (w.heap.size ≤ k_)) v3_ r4 ∧ IsS105 w0 w' g s0_0 r5 ∧ Below w0.heap.size w0 w' ∧ KeepBut w w' g none := by
 have hu55 := Try.underlying55
 have HI0 := Aside0.mk hI
 have HK := Aside0.mk (KeepBut.refl w g none)
 have HL := Aside0.mk hB.size
 have HG0 := Aside0.mk (IsS105.ge hI)
 clear hI
 have HW0 := Aside0.mk hB.size
 have HB := Aside0.mk hB
 clear hB
 have H : ((spec_l20Rd_pick.f k s0_0 s0_1 3).bind fun bt889 => ((spec_l20Truth.f k s0_0 bt889.2 (wrap64 (1 + bt889.1))).bind fun bt891 => ((spec_l20Rd_odd.f k s0_0 bt891.2.2.2.2 a1).bind fun bt899 => (spec_l20Expr.j0 k bt899.1 s0_0 bt899.2 bt891.1 bt891.2.1 bt891.2.2.1 bt891.2.2.2.1)))) = some (r1, r2, r3, r4, r5) := h
 clear h
 replace H := Option.bind_eq_some_iff.mp H
 obtain ⟨⟨t889, t890⟩, A30, H⟩ := H
 replace H : ((spec_l20Truth.f k s0_0 t890 (wrap64 (1 + t889))).bind fun bt891 => ((spec_l20Rd_odd.f k s0_0 bt891.2.2.2.2 a1).bind fun bt899 => (spec_l20Expr.j0 k bt899.1 s0_0 bt899.2 bt891.1 bt891.2.1 bt891.2.2.1 bt891.2.2.2.1))) = some (r1, r2, r3, r4, r5) := H
 have A3 := Aside0.mk A30
 clear A30
 replace H := Option.bind_eq_some_iff.mp H
 obtain ⟨⟨t891, t892, t893, t894, t897⟩, A40, H⟩ := H
 replace H : ((spec_l20Rd_odd.f k s0_0 t897 a1).bind fun bt899 => (spec_l20Expr.j0 k bt899.1 s0_0 bt899.2 t891 t892 t893 t894)) = some (r1, r2, r3, r4, r5) := H
 have A4 := Aside0.mk A40
 clear A40
 have HC5 := Aside0.mk H
 clear H
 go_enter Try.func69, Try.ntmps69
 go_upto_region 2 with (first | ((with_reducible refine gate_dst (N := 4) rfl ?_); refine box_event ?hg (N := 4) ?hd (cs := #[.int .i64 0, .int .i64 0, .string (⟨#[]⟩ : ByteArray), .slice none 0 0]) (t := 55) ?hr ?_; (case hd => rfl); (case hg => rfl); (case hr => first | (go_simp; done) | (go_simp; rfl)); intro gb888 hg w6 hbox hb; have n0_ := Aside0.mk (IsS105.below (by exact sw105 HI0.out) hb); have n1_ := Aside0.mk (KeepBut.trans (by exact kw HK.out) (KeepBut.of_below hb g none) (.inl rfl)); have n2_ := Aside0.mk (below_step (by exact bw HB.out) hb); have n3_ := Aside0.mk (hbox); have n4_ := Aside0.mk ((by rw [hg]; exact (keep_size (w := w) (g := g) (row := none) (by exact kw HK.out)) : w.heap.size ≤ gb888)); have n5_ := Aside0.mk ((Nat.le_trans HW0.out (by rw [hg]; exact (keep_size (w := w) (g := g) (row := none) (by exact kw HK.out)) : w.heap.size ≤ gb888) : w0.heap.size ≤ gb888)); have n6_ := Aside0.mk ((by rw [hg]; exact Nat.ne_of_lt (IsS105.lt (show IsS105 w0 _ g s0_0 s0_1 from by exact sw105 HI0.out)) : g ≠ gb888)); have n7_ := Aside0.mk ((by rw [hg]; exact Nat.ne_of_gt (IsS105.lt (show IsS105 w0 _ g s0_0 s0_1 from by exact sw105 HI0.out)) : gb888 ≠ g)); clear HI0; clear HK; clear HB; have HI0 := n0_; have HK := n1_; have HB := n2_; have BK888 := n3_; have GW888 := n4_; have GE888 := n5_; have NB0_888 := n6_; have NB888_0 := n7_; clear n0_ n1_ n2_ n3_ n4_ n5_ n6_ n7_; clear hb hbox hg) | ((with_reducible refine gate_callee (f := 62) rfl ?_); refine gl (some 8) Try.func62 #[.pointer (some ⟨g, 0, none⟩), .int .i64 3] ?_; (with_reducible refine (spec_l20Rd_pick.calls k g s0_0 s0_1 3 t889 t890 w0 _ ?side1 ?side2 A3.out).mono ?_); (case side1 => exact sw105 HI0.out); (case side2 => exact bw HB.out); rintro e w7 ⟨rfl, hi, hb, hk⟩; refine ⟨_, rfl, ?_⟩; have n0_ := Aside0.mk (KeepBut.blk hk (g' := gb888) (o := .cells #[.int .i64 0, .int .i64 0, .string (⟨#[]⟩ : ByteArray), .slice none 0 0] 55 (0, 0)) (by exact bk BK888.out) NB888_0.out (by simp)); have n1_ := Aside0.mk (KeepBut.trans (by exact kw HK.out) hk (.inl rfl)); have n2_ := Aside0.mk (hb); have n3_ := Aside0.mk (hi); clear BK888; clear HK; clear HB; clear HI0; have BK888 := n0_; have HK := n1_; have HB := n2_; have HI0 := n3_; clear n0_ n1_ n2_ n3_; (try clear hb); (try clear hb2); (try clear hk); (try clear hi)) | ((with_reducible refine gate_callee (f := 85) rfl ?_); refine gl (some 10) Try.func85 #[.pointer (some ⟨g, 0, none⟩), .int .i64 (wrap64 (1 + t889))] ?_; (with_reducible refine (spec_l20Truth.calls k g s0_0 t890 (wrap64 (1 + t889)) t891 t892 t893 t894 t897 w0 _ ?side1 ?side2 A4.out).mono ?_); (case side1 => exact sw105 HI0.out); (case side2 => exact bw HB.out); rintro e w8 ⟨v895, rfl, ho0, hi, hb, hk⟩; refine ⟨_, rfl, ?_⟩; have n0_ := Aside0.mk (KeepBut.blk hk (g' := gb888) (o := .cells #[.int .i64 0, .int .i64 0, .string (⟨#[]⟩ : ByteArray), .slice none 0 0] 55 (0, 0)) (by exact bk BK888.out) NB888_0.out (by simp)); have n1_ := Aside0.mk (Kd.V_lower (Kd.V_mono (ok' := fun k_ => (w.heap.size ≤ k_) ∧ k_ ≠ gb888 ∧ k_ ≠ g) ho0 (fun k_ hk_ => ⟨(Nat.le_trans (keep_size (w := w) (g := g) (row := none) (by exact kw HK.out)) hk_), (Kd.freshB (g := gb888) (o := .cells #[.int .i64 0, .int .i64 0, .string (⟨#[]⟩ : ByteArray), .slice none 0 0] 55 (0, 0)) (by exact bk BK888.out) k_ hk_), (IsS105.fresh (by exact sw105 HI0.out) k_ hk_)⟩)) (keep_size (w := w) (g := g) (row := none) (by exact kw HK.out))); have n2_ := Aside0.mk (KeepBut.trans (by exact kw HK.out) hk (.inl rfl)); have n3_ := Aside0.mk (hb); have n4_ := Aside0.mk (hi); clear BK888; clear HK; clear HB; clear HI0; have BK888 := n0_; have HO896 := n1_; have HK := n2_; have HB := n3_; have HI0 := n4_; clear n0_ n1_ n2_ n3_ n4_; (try clear hb); (try clear hb2); (try clear hk); (try clear hi); (try clear ho0)) | ((with_reducible refine gate_dst (N := 5) rfl ?_); refine box_event ?hg (N := 5) ?hd (cs := #[.int .i64 0, .int .i64 0, .string (⟨#[]⟩ : ByteArray), .slice none 0 0]) (t := 55) ?hr ?_; (case hd => rfl); (case hg => rfl); (case hr => first | (go_simp; done) | (go_simp; rfl)); intro gb898 hg w9 hbox hb; have n0_ := Aside0.mk (Kd.V_below (Kd.V_elderB (by exact Kd.xV HO896.out) gb898 (Nat.le_of_eq hg.symm)) hb); have n1_ := Aside0.mk (IsS105.below (by exact sw105 HI0.out) hb); have n2_ := Aside0.mk (blk_below (g := gb888) (o := .cells #[.int .i64 0, .int .i64 0, .string (⟨#[]⟩ : ByteArray), .slice none 0 0] 55 (0, 0)) (by exact bk BK888.out) hb); have n3_ := Aside0.mk (KeepBut.trans (by exact kw HK.out) (KeepBut.of_below hb g none) (.inl rfl)); have n4_ := Aside0.mk (below_step (by exact bw HB.out) hb); have n5_ := Aside0.mk (hbox); have n6_ := Aside0.mk ((by rw [hg]; exact (keep_size (w := w) (g := g) (row := none) (by exact kw HK.out)) : w.heap.size ≤ gb898)); have n7_ := Aside0.mk ((Nat.le_trans HW0.out (by rw [hg]; exact (keep_size (w := w) (g := g) (row := none) (by exact kw HK.out)) : w.heap.size ≤ gb898) : w0.heap.size ≤ gb898)); have n8_ := Aside0.mk ((by rw [hg]; exact Nat.ne_of_lt (blk_lt (g := gb888) (o := .cells #[.int .i64 0, .int .i64 0, .string (⟨#[]⟩ : ByteArray), .slice none 0 0] 55 (0, 0)) (by exact bk BK888.out)) : gb888 ≠ gb898)); have n9_ := Aside0.mk ((by rw [hg]; exact Nat.ne_of_gt (blk_lt (g := gb888) (o := .cells #[.int .i64 0, .int .i64 0, .string (⟨#[]⟩ : ByteArray), .slice none 0 0] 55 (0, 0)) (by exact bk BK888.out)) : gb898 ≠ gb888)); have n10_ := Aside0.mk ((by rw [hg]; exact Nat.ne_of_lt (IsS105.lt (show IsS105 w0 _ g s0_0 t897 from by exact sw105 HI0.out)) : g ≠ gb898)); have n11_ := Aside0.mk ((by rw [hg]; exact Nat.ne_of_gt (IsS105.lt (show IsS105 w0 _ g s0_0 t897 from by exact sw105 HI0.out)) : gb898 ≠ g)); clear HO896; clear HI0; clear BK888; clear HK; clear HB; have HO896 := n0_; have HI0 := n1_; have BK888 := n2_; have HK := n3_; have HB := n4_; have BK898 := n5_; have GW898 := n6_; have GE898 := n7_; have NB888_898 := n8_; have NB898_888 := n9_; have NB0_898 := n10_; have NB898_0 := n11_; clear n0_ n1_ n2_ n3_ n4_ n5_ n6_ n7_ n8_ n9_ n10_ n11_; clear hb hbox hg; have hnb10 := NB898_888.out; have hnc10 := NB888_898.out; have hnb11 := NB898_0.out; have hnc11 := NB0_898.out; have hcz12_0 : w9.cell? ⟨gb898, 0, none⟩ = some (.int .i64 0) := (blk_cell BK898.out 0).trans rfl; have hcz12_1 : w9.cell? ⟨gb898, 1, none⟩ = some (.int .i64 0) := (blk_cell BK898.out 1).trans rfl; have hcz12_2 : w9.cell? ⟨gb898, 2, none⟩ = some (.string (⟨#[]⟩ : ByteArray)) := (blk_cell BK898.out 2).trans rfl; have hcz12_3 : w9.cell? ⟨gb898, 3, none⟩ = some (.slice none 0 0) := (blk_cell BK898.out 3).trans rfl; have hfz12_0 := blk_frozen BK898.out 0; have hfz12_1 := blk_frozen BK898.out 1; have hfz12_2 := blk_frozen BK898.out 2; have hfz12_3 := blk_frozen BK898.out 3; obtain ⟨Ao13, co13, eo13⟩ := Kd.V_slice HO896.out; subst eo13))
 (try simp only [Act.put, List.setIfInBounds_toArray, List.set_cons_zero, List.set_cons_succ])
 go_cut [13] (fun v13 wc => ∃ (kq : Nat) (x13_4 : Bool) (x1001_4 : Int), v13 = .bool x13_4 ∧ Aside0 (spec_l20Expr.j0 kq x13_4 s0_0 x1001_4 t891 t892 t893 t894 = some (r1, r2, r3, r4, r5)) ∧ Aside0 (kq ≤ k) ∧ Aside0 (Kd.V k55 55 wc w.heap.size (fun k_ => (w.heap.size ≤ k_) ∧ k_ ≠ gb888 ∧ k_ ≠ gb898 ∧ k_ ≠ g) (.slice Ao13 t894.length co13) t894) ∧ Aside0 (wc.heap[gb888]? = some (.cells #[.int .i64 0, .int .i64 0, .string (⟨#[]⟩ : ByteArray), (.slice none 0 0)] 55 (0, 0))) ∧ Aside0 (wc.heap[gb898]? = some (.cells #[.int .i64 t891, .int .i64 t892, .string t893, (.slice Ao13 t894.length co13)] 55 (0, 0))) ∧ Aside0 (IsS105 w0 wc g s0_0 x1001_4) ∧ Aside0 (KeepBut w wc g none) ∧ Aside0 (Below w0.heap.size w0 wc))
 case first =>
  have H := HC5.out
  clear HC5
  replace H := Option.bind_eq_some_iff.mp H
  obtain ⟨⟨t899, t900⟩, A140, H⟩ := H
  replace H : (spec_l20Expr.j0 k t899 s0_0 t900 t891 t892 t893 t894) = some (r1, r2, r3, r4, r5) := H
  have A14 := Aside0.mk A140
  clear A140
  have H' := Aside0.mk H
  clear H
  go_wp2_with (first | ((with_reducible refine gate_callee (f := 72) rfl ?_); refine gl (some 13) Try.func72 #[.pointer (some ⟨g, 0, none⟩), .int .i64 a1] ?_; (with_reducible refine (spec_l20Rd_odd.calls k g s0_0 t897 a1 t899 t900 w0 _ ?side1 ?side2 A14.out).mono ?_); (case side1 => exact sw105 HI0.out); (case side2 => exact bw HB.out); rintro e w15 ⟨rfl, hi, hb, hk⟩; refine ⟨_, rfl, ?_⟩; have n0_ := Aside0.mk (KeepBut.blk hk (g' := gb888) (o := .cells #[.int .i64 0, .int .i64 0, .string (⟨#[]⟩ : ByteArray), .slice none 0 0] 55 (0, 0)) (by (with_reducible repeat (first | refine blk_drewN ?_ _ | refine blk_drew ?_ | refine blk_alloc ?_ _)); refine blk_far ?_ NB888_898.out _; (with_reducible repeat (first | refine blk_drewN ?_ _ | refine blk_drew ?_ | refine blk_alloc ?_ _)); refine blk_far ?_ NB888_898.out _; (with_reducible repeat (first | refine blk_drewN ?_ _ | refine blk_drew ?_ | refine blk_alloc ?_ _)); refine blk_far ?_ NB888_898.out _; (with_reducible repeat (first | refine blk_drewN ?_ _ | refine blk_drew ?_ | refine blk_alloc ?_ _)); refine blk_far ?_ NB888_898.out _; exact bk BK888.out) NB888_0.out (by simp)); have n1_ := Aside0.mk (Kd.V_mono (Kd.V_keep (Kd.V_mono (ok := fun k_ => ((((w.heap.size ≤ k_)) ∧ (k_ ≠ gb888 ∧ k_ ≠ g)) ∧ k_ ≠ gb898)) (by (with_reducible repeat (first | apply Kd.V_alloc | apply Kd.V_drewN | apply Kd.V_drew)); exact (Kd.V_mono (Kd.V_far (p := ⟨gb898, 3, none⟩) (Kd.V_far (p := ⟨gb898, 2, none⟩) (Kd.V_far (p := ⟨gb898, 1, none⟩) (Kd.V_far (p := ⟨gb898, 0, none⟩) (Kd.V_mono HO896.out (fun k_ hk => (⟨hk, okp hk⟩ : _ ∧ k_ ≠ gb898))) (fun _ hk => hk.2) (.int .i64 t891)) (fun _ hk => hk.2) (.int .i64 t892)) (fun _ hk => hk.2) (.string t893)) (fun _ hk => hk.2) (.slice Ao13 t894.length co13)) (fun _ h_ => h_.1))) (fun k_ hk_ => (⟨hk_, hk_.1.2.2⟩ : _ ∧ k_ ≠ g))) hk (fun _ h => h.2)) (fun _ h => h.1)); have n2_ := Aside0.mk (KeepBut.blk hk (g' := gb898) (o := .cells #[.int .i64 t891, .int .i64 t892, .string t893, .slice Ao13 t894.length co13] 55 (0, 0)) (by (with_reducible repeat (first | refine blk_drewN ?_ _ | refine blk_drew ?_ | refine blk_alloc ?_ _)); refine blk_put (cs := #[.int .i64 t891, .int .i64 t892, .string t893, .slice none 0 0]) ?_ 3 _ rfl; (with_reducible repeat (first | refine blk_drewN ?_ _ | refine blk_drew ?_ | refine blk_alloc ?_ _)); refine blk_put (cs := #[.int .i64 t891, .int .i64 t892, .string (⟨#[]⟩ : ByteArray), .slice none 0 0]) ?_ 2 _ rfl; (with_reducible repeat (first | refine blk_drewN ?_ _ | refine blk_drew ?_ | refine blk_alloc ?_ _)); refine blk_put (cs := #[.int .i64 t891, .int .i64 0, .string (⟨#[]⟩ : ByteArray), .slice none 0 0]) ?_ 1 _ rfl; (with_reducible repeat (first | refine blk_drewN ?_ _ | refine blk_drew ?_ | refine blk_alloc ?_ _)); refine blk_put (cs := #[.int .i64 0, .int .i64 0, .string (⟨#[]⟩ : ByteArray), .slice none 0 0]) ?_ 0 _ rfl; exact bk BK898.out) NB898_0.out (by simp)); have n3_ := Aside0.mk (KeepBut.trans (by exact kw HK.out) hk (.inl rfl)); have n4_ := Aside0.mk (hb); have n5_ := Aside0.mk (hi); clear BK888; clear HO896; clear BK898; clear HK; clear HB; clear HI0; have BK888 := n0_; have HO896 := n1_; have BK898 := n2_; have HK := n3_; have HB := n4_; have HI0 := n5_; clear n0_ n1_ n2_ n3_ n4_ n5_; (try clear hb); (try clear hb2); (try clear hk); (try clear hi)))
  go_meet
  case rel => exact ⟨_, (t899), (t900), (by first | rfl | (simp; done) | (simp [*]; done)), H', ⟨by first | omega | exact Nat.le_refl _⟩, ⟨by (with_reducible repeat (first | apply Kd.V_alloc | apply Kd.V_drewN | apply Kd.V_drew)); exact Kd.V_mono HO896.out (fun _ hk => okp hk)⟩, ⟨by exact bk BK888.out⟩, ⟨by exact bk BK898.out⟩, ⟨by exact sw105 HI0.out⟩, ⟨by exact kw HK.out⟩, ⟨by exact bw HB.out⟩⟩
 case rest =>
  clear HC5
  try clear c1
  try clear p2
  try clear c6
  try clear p6
  try clear c7
  try clear c8
  try clear c10
  try clear c11
  try clear hcz12_0
  try clear hcz12_1
  try clear hcz12_2
  try clear hcz12_3
  try clear hfz12_0
  try clear hfz12_1
  try clear hfz12_2
  try clear hfz12_3
  obtain ⟨kq, x13_4, x1001_4, rfl, HA, HJ4, HO_899003, BK888, BK898, HI0, HK, HB⟩ := hcut
  cases kq with
  | zero => exact absurd HA.out (by simp [spec_l20Expr.j0])
  | succ kj4 =>
   have H := HA.out
   clear HA
   simp only [spec_l20Expr.j0] at H
   by_cases c16 : x13_4 = true
   ·
    subst c16
    have H1 : ((spec_l20Rd_pick.f kj4 s0_0 x1001_4 6).bind fun bt901 => (spec_l20Expr.j1 kj4 bt901.1 s0_0 bt901.2 t891 t892 t893 t894)) = some (r1, r2, r3, r4, r5) := by rw [if_pos rfl] at H; exact H
    clear H
    have H := H1
    clear H1
    have HC17 := Aside0.mk H
    clear H
    go_upto_region 3 with (fail)
    go_cut [15] (fun v15 wc => ∃ (kq : Nat) (x15_16 : Int) (x1001_16 : Int), v15 = .int .i64 x15_16 ∧ Aside0 (spec_l20Expr.j1 kq x15_16 s0_0 x1001_16 t891 t892 t893 t894 = some (r1, r2, r3, r4, r5)) ∧ Aside0 (kq ≤ kj4) ∧ Aside0 (Kd.V k55 55 wc w.heap.size (fun k_ => (w.heap.size ≤ k_) ∧ k_ ≠ gb888 ∧ k_ ≠ gb898 ∧ k_ ≠ g) (.slice Ao13 t894.length co13) t894) ∧ Aside0 (wc.heap[gb888]? = some (.cells #[.int .i64 0, .int .i64 0, .string (⟨#[]⟩ : ByteArray), (.slice none 0 0)] 55 (0, 0))) ∧ Aside0 (wc.heap[gb898]? = some (.cells #[.int .i64 t891, .int .i64 t892, .string t893, (.slice Ao13 t894.length co13)] 55 (0, 0))) ∧ Aside0 (IsS105 w0 wc g s0_0 x1001_16) ∧ Aside0 (KeepBut w wc g none) ∧ Aside0 (Below w0.heap.size w0 wc))
    case first =>
     have H := HC17.out
     clear HC17
     replace H := Option.bind_eq_some_iff.mp H
     obtain ⟨⟨t901, t902⟩, A180, H⟩ := H
     replace H : (spec_l20Expr.j1 kj4 t901 s0_0 t902 t891 t892 t893 t894) = some (r1, r2, r3, r4, r5) := H
     have A18 := Aside0.mk A180
     clear A180
     have H' := Aside0.mk H
     clear H
     go_wp2_with (first | ((with_reducible refine gate_callee (f := 62) rfl ?_); refine gl (some 15) Try.func62 #[.pointer (some ⟨g, 0, none⟩), .int .i64 6] ?_; (with_reducible refine (spec_l20Rd_pick.calls kj4 g s0_0 x1001_4 6 t901 t902 w0 _ ?side1 ?side2 A18.out).mono ?_); (case side1 => exact sw105 HI0.out); (case side2 => exact bw HB.out); rintro e w19 ⟨rfl, hi, hb, hk⟩; refine ⟨_, rfl, ?_⟩; have n0_ := Aside0.mk (Kd.V_mono (Kd.V_keep (Kd.V_mono (ok := fun k_ => (((w.heap.size ≤ k_)) ∧ (k_ ≠ gb888 ∧ (k_ ≠ gb898 ∧ k_ ≠ g)))) (by exact Kd.xV HO_899003.out) (fun k_ hk_ => (⟨hk_, hk_.2.2.2⟩ : _ ∧ k_ ≠ g))) hk (fun _ h => h.2)) (fun _ h => h.1)); have n1_ := Aside0.mk (KeepBut.blk hk (g' := gb888) (o := .cells #[.int .i64 0, .int .i64 0, .string (⟨#[]⟩ : ByteArray), .slice none 0 0] 55 (0, 0)) (by exact bk BK888.out) NB888_0.out (by simp)); have n2_ := Aside0.mk (KeepBut.blk hk (g' := gb898) (o := .cells #[.int .i64 t891, .int .i64 t892, .string t893, .slice Ao13 t894.length co13] 55 (0, 0)) (by exact bk BK898.out) NB898_0.out (by simp)); have n3_ := Aside0.mk (KeepBut.trans (by exact kw HK.out) hk (.inl rfl)); have n4_ := Aside0.mk (hb); have n5_ := Aside0.mk (hi); clear HO_899003; clear BK888; clear BK898; clear HK; clear HB; clear HI0; have HO_899003 := n0_; have BK888 := n1_; have BK898 := n2_; have HK := n3_; have HB := n4_; have HI0 := n5_; clear n0_ n1_ n2_ n3_ n4_ n5_; (try clear hb); (try clear hb2); (try clear hk); (try clear hi)))
     go_meet
     case rel => exact ⟨_, (t901), (t902), (by first | rfl | (simp; done) | (simp [*]; done)), H', ⟨by have := HJ4.out; first | omega | exact Nat.le_refl _⟩, ⟨by exact Kd.xV HO_899003.out⟩, ⟨by exact bk BK888.out⟩, ⟨by exact bk BK898.out⟩, ⟨by exact sw105 HI0.out⟩, ⟨by exact kw HK.out⟩, ⟨by exact bw HB.out⟩⟩
    case rest =>
     clear HC17
     try clear c1
     try clear p2
     try clear c6
     try clear p6
     try clear c7
     try clear c8
     try clear c10
     try clear c11
     try clear c16
     try clear hcz12_0
     try clear hcz12_1
     try clear hcz12_2
     try clear hcz12_3
     try clear hfz12_0
     try clear hfz12_1
     try clear hfz12_2
     try clear hfz12_3
     try clear p2
     try clear p6
     obtain ⟨kq, x15_16, x1001_16, rfl, HA, HJ16, HO_899003, BK888, BK898, HI0, HK, HB⟩ := hcut
     cases kq with
     | zero => exact absurd HA.out (by simp [spec_l20Expr.j1])
     | succ kj16 =>
      have H := HA.out
      clear HA
      simp only [spec_l20Expr.j1] at H
      by_cases c20 : x15_16 = 0
      ·
       rw [if_pos c20] at H
       have c20b0 : (x15_16 == 0) = true := beq_iff_eq.mpr c20
       have c20b1 : (x15_16 != 0) = false := bne_eq_false_iff_eq.mpr c20
       clear c20
       replace H := Option.bind_eq_some_iff.mp H
       obtain ⟨⟨t903, t904, t905, t906, t909⟩, A210, H⟩ := H
       replace H : (some (t903, t904, t905, t906, t909)) = some (r1, r2, r3, r4, r5) := H
       have A21 := Aside0.mk A210
       clear A210
       simp only [Option.some.injEq, Prod.mk.injEq] at H
       obtain ⟨rfl, rfl, rfl, rfl, rfl⟩ := H
       go_wp2_with (first | ((with_reducible refine gate_callee (f := 86) rfl ?_); refine gl (some 22) Try.func86 #[.pointer (some ⟨g, 0, none⟩), .int .i64 2] ?_; (with_reducible refine (spec_l20Number.calls kj16 g s0_0 x1001_16 2 t903 t904 t905 t906 t909 w0 _ ?side1 ?side2 A21.out).mono ?_); (case side1 => exact sw105 HI0.out); (case side2 => exact bw HB.out); rintro e w22 ⟨v907, rfl, ho0, hi, hb, hk⟩; refine ⟨_, rfl, ?_⟩; have n0_ := Aside0.mk (Kd.V_mono (Kd.V_told (Kd.V_oldK (Kd.V_mono (ok := fun k_ => (((w.heap.size ≤ k_)) ∧ (k_ ≠ gb888 ∧ (k_ ≠ gb898 ∧ k_ ≠ g)))) (by exact Kd.xV HO_899003.out) (fun k_ hk_ => (⟨hk_, hk_.2.2.2⟩ : _ ∧ k_ ≠ g))) hk) (Kd.N_base ho0)) (fun _ h_ => h_.1)); have n1_ := Aside0.mk (KeepBut.blk hk (g' := gb888) (o := .cells #[.int .i64 0, .int .i64 0, .string (⟨#[]⟩ : ByteArray), .slice none 0 0] 55 (0, 0)) (by exact bk BK888.out) NB888_0.out (by simp)); have n2_ := Aside0.mk (KeepBut.blk hk (g' := gb898) (o := .cells #[.int .i64 t891, .int .i64 t892, .string t893, .slice Ao13 t894.length co13] 55 (0, 0)) (by exact bk BK898.out) NB898_0.out (by simp)); have n3_ := Aside0.mk (Kd.N_lower (Kd.N_mono (ok' := fun k_ => (w.heap.size ≤ k_) ∧ k_ ≠ gb888 ∧ k_ ≠ gb898 ∧ k_ ≠ g) ho0 (fun k_ hk_ => ⟨(Nat.le_trans (keep_size (w := w) (g := g) (row := none) (by exact kw HK.out)) hk_), (Kd.freshB (g := gb888) (o := .cells #[.int .i64 0, .int .i64 0, .string (⟨#[]⟩ : ByteArray), .slice none 0 0] 55 (0, 0)) (by exact bk BK888.out) k_ hk_), (Kd.freshB (g := gb898) (o := .cells #[.int .i64 t891, .int .i64 t892, .string t893, .slice Ao13 t894.length co13] 55 (0, 0)) (by exact bk BK898.out) k_ hk_), (IsS105.fresh (by exact sw105 HI0.out) k_ hk_)⟩)) (keep_size (w := w) (g := g) (row := none) (by exact kw HK.out))); have n4_ := Aside0.mk (KeepBut.trans (by exact kw HK.out) hk (.inl rfl)); have n5_ := Aside0.mk (hb); have n6_ := Aside0.mk (hi); clear HO_899003; clear BK888; clear BK898; clear HK; clear HB; clear HI0; have HO_899003 := n0_; have BK888 := n1_; have BK898 := n2_; have HO908 := n3_; have HK := n4_; have HB := n5_; have HI0 := n6_; clear n0_ n1_ n2_ n3_ n4_ n5_ n6_; (try clear hb); (try clear hb2); (try clear hk); (try clear hi); (try clear ho0); have hnb23 := NB888_898.out; have hnc23 := NB898_888.out; have hnb24 := NB888_0.out; have hnc24 := NB0_888.out; have hcz25_0 : w22.cell? ⟨gb888, 0, none⟩ = some (.int .i64 0) := (blk_cell BK888.out 0).trans rfl; have hcz25_1 : w22.cell? ⟨gb888, 1, none⟩ = some (.int .i64 0) := (blk_cell BK888.out 1).trans rfl; have hcz25_2 : w22.cell? ⟨gb888, 2, none⟩ = some (.string (⟨#[]⟩ : ByteArray)) := (blk_cell BK888.out 2).trans rfl; have hcz25_3 : w22.cell? ⟨gb888, 3, none⟩ = some (.slice none 0 0) := (blk_cell BK888.out 3).trans rfl; have hfz25_0 := blk_frozen BK888.out 0; have hfz25_1 := blk_frozen BK888.out 1; have hfz25_2 := blk_frozen BK888.out 2; have hfz25_3 := blk_frozen BK888.out 3; obtain ⟨Ao26, co26, eo26⟩ := Kd.N_slice HO908.out; subst eo26))
       refine bodyPost_ret (results_cell_row rfl _ _ gb888 55 #[.int .i64 t903, .int .i64 t904, .string t905, .slice Ao26 t906.length co26] (0, 0) _ rfl (by (with_reducible repeat (first | refine blk_drewN ?_ _ | refine blk_drew ?_ | refine blk_alloc ?_ _)); refine blk_put (cs := #[.int .i64 t903, .int .i64 t904, .string t905, .slice none 0 0]) ?_ 3 _ rfl; (with_reducible repeat (first | refine blk_drewN ?_ _ | refine blk_drew ?_ | refine blk_alloc ?_ _)); refine blk_put (cs := #[.int .i64 t903, .int .i64 t904, .string (⟨#[]⟩ : ByteArray), .slice none 0 0]) ?_ 2 _ rfl; (with_reducible repeat (first | refine blk_drewN ?_ _ | refine blk_drew ?_ | refine blk_alloc ?_ _)); refine blk_put (cs := #[.int .i64 t903, .int .i64 0, .string (⟨#[]⟩ : ByteArray), .slice none 0 0]) ?_ 1 _ rfl; (with_reducible repeat (first | refine blk_drewN ?_ _ | refine blk_drew ?_ | refine blk_alloc ?_ _)); refine blk_put (cs := #[.int .i64 0, .int .i64 0, .string (⟨#[]⟩ : ByteArray), .slice none 0 0]) ?_ 0 _ rfl; exact bk BK888.out) Try.underlying55 rfl (by kernel_rfl)) rfl ?_
       exact ⟨_, by first | rfl | (simp [errW_none, errW_some] <;> rfl) | (simp [*, errW_none, errW_some] <;> rfl), Kd.N_V (by (with_reducible repeat (first | apply Kd.N_alloc | apply Kd.N_drewN | apply Kd.N_drew)); exact Kd.N_mono (Kd.N_far (p := ⟨gb888, 3, none⟩) (Kd.N_far (p := ⟨gb888, 2, none⟩) (Kd.N_far (p := ⟨gb888, 1, none⟩) (Kd.N_far (p := ⟨gb888, 0, none⟩) (Kd.N_mono HO908.out (fun k_ hk => (⟨hk, okp hk⟩ : _ ∧ k_ ≠ gb888))) (fun _ hk => hk.2) (.int .i64 t903)) (fun _ hk => hk.2) (.int .i64 t904)) (fun _ hk => hk.2) (.string t905)) (fun _ hk => hk.2) (.slice Ao26 t906.length co26)) (fun _ hk => hk.1.1)), by exact sw105 HI0.out, by exact bw HB.out, by exact kw HK.out⟩
      ·
       rw [if_neg c20] at H
       have c20b0 : (x15_16 == 0) = false := beq_eq_false_iff_ne.mpr c20
       have c20b1 : (x15_16 != 0) = true := bne_iff_ne.mpr c20
       by_cases c27 : x15_16 = 1
       ·
        rw [if_pos c27] at H
        have c27b0 : (x15_16 == 1) = true := beq_iff_eq.mpr c27
        have c27b1 : (x15_16 != 1) = false := bne_eq_false_iff_eq.mpr c27
        clear c27
        replace H := Option.bind_eq_some_iff.mp H
        obtain ⟨⟨t910, t911, t912, t913, t916⟩, A280, H⟩ := H
        replace H : (some (13, 0, (⟨#[]⟩ : ByteArray), (([(⟨t910, t911, t912, t913⟩ : S55)] : List (S55))), t916)) = some (r1, r2, r3, r4, r5) := H
        have A28 := Aside0.mk A280
        clear A280
        obtain ⟨y917, hy917⟩ : ∃ y_ : List (S55), y_ = (([(⟨t910, t911, t912, t913⟩ : S55)] : List (S55))) := ⟨_, rfl⟩
        replace H : (some (13, 0, (⟨#[]⟩ : ByteArray), y917, t916)) = some (r1, r2, r3, r4, r5) := by first | (rw [hy917]; with_reducible exact H) | (have H2_ := (Option.bind_some _ _).symm.trans H; rw [hy917]; with_reducible exact H2_) | (have H2_ := (Option.bind_some _ _).symm.trans H; with_reducible exact H2_) | with_reducible exact H | (rw [hy917]; exact H) | exact H
        have Ny917 := Aside0.mk hy917
        clear hy917
        simp only [Option.some.injEq, Prod.mk.injEq] at H
        obtain ⟨rfl, rfl, rfl, rfl, rfl⟩ := H
        go_wp2_with (first | ((with_reducible refine gate_callee (f := 87) rfl ?_); refine gl (some 26) Try.func87 #[.pointer (some ⟨g, 0, none⟩), .int .i64 1] ?_; (with_reducible refine (spec_l20Thing.calls kj16 g s0_0 x1001_16 1 t910 t911 t912 t913 t916 w0 _ ?side1 ?side2 A28.out).mono ?_); (case side1 => exact sw105 HI0.out); (case side2 => exact bw HB.out); rintro e w29 ⟨v914, rfl, ho0, hi, hb, hk⟩; refine ⟨_, rfl, ?_⟩; have n0_ := Aside0.mk (Kd.V_mono (Kd.V_keep (Kd.V_mono (ok := fun k_ => (((w.heap.size ≤ k_)) ∧ (k_ ≠ gb888 ∧ (k_ ≠ gb898 ∧ k_ ≠ g)))) (by exact Kd.xV HO_899003.out) (fun k_ hk_ => (⟨hk_, hk_.2.2.2⟩ : _ ∧ k_ ≠ g))) hk (fun _ h => h.2)) (fun _ h => h.1)); have n1_ := Aside0.mk (KeepBut.blk hk (g' := gb888) (o := .cells #[.int .i64 0, .int .i64 0, .string (⟨#[]⟩ : ByteArray), .slice none 0 0] 55 (0, 0)) (by exact bk BK888.out) NB888_0.out (by simp)); have n2_ := Aside0.mk (KeepBut.blk hk (g' := gb898) (o := .cells #[.int .i64 t891, .int .i64 t892, .string t893, .slice Ao13 t894.length co13] 55 (0, 0)) (by exact bk BK898.out) NB898_0.out (by simp)); have n3_ := Aside0.mk (Kd.V_lower (Kd.V_mono (ok' := fun k_ => (w.heap.size ≤ k_) ∧ k_ ≠ gb888 ∧ k_ ≠ gb898 ∧ k_ ≠ g) ho0 (fun k_ hk_ => ⟨(Nat.le_trans (keep_size (w := w) (g := g) (row := none) (by exact kw HK.out)) hk_), (Kd.freshB (g := gb888) (o := .cells #[.int .i64 0, .int .i64 0, .string (⟨#[]⟩ : ByteArray), .slice none 0 0] 55 (0, 0)) (by exact bk BK888.out) k_ hk_), (Kd.freshB (g := gb898) (o := .cells #[.int .i64 t891, .int .i64 t892, .string t893, .slice Ao13 t894.length co13] 55 (0, 0)) (by exact bk BK898.out) k_ hk_), (IsS105.fresh (by exact sw105 HI0.out) k_ hk_)⟩)) (keep_size (w := w) (g := g) (row := none) (by exact kw HK.out))); have n4_ := Aside0.mk (KeepBut.trans (by exact kw HK.out) hk (.inl rfl)); have n5_ := Aside0.mk (hb); have n6_ := Aside0.mk (hi); clear HO_899003; clear BK888; clear BK898; clear HK; clear HB; clear HI0; have HO_899003 := n0_; have BK888 := n1_; have BK898 := n2_; have HO915 := n3_; have HK := n4_; have HB := n5_; have HI0 := n6_; clear n0_ n1_ n2_ n3_ n4_ n5_ n6_; (try clear hb); (try clear hb2); (try clear hk); (try clear hi); (try clear ho0); obtain ⟨Ao30, co30, eo30⟩ := Kd.V_slice HO915.out; subst eo30) | ((with_reducible refine gate_dst (N := 27) rfl ?_); refine Kd.N_lit k55 _ 55 ?hg (N' := 27) ?hd (xs := ([(⟨t910, t911, t912, t913⟩ : S55)] : List (S55))) (inner := [.int .i64 t910, .int .i64 t911, .string t912, .slice Ao30 t913.length co30]) (ok := (fun k_ => (w.heap.size ≤ k_) ∧ k_ ≠ gb888 ∧ k_ ≠ gb898 ∧ k_ ≠ g)) (okp := (fun k_ => (w.heap.size ≤ k_) ∧ k_ ≠ gb888 ∧ k_ ≠ gb898 ∧ k_ ≠ g)) ?hr ?hp (fun _ hk => hk) ((show ∀ k_, w29.heap.size ≤ k_ → (fun k_ => (w.heap.size ≤ k_) ∧ k_ ≠ gb888 ∧ k_ ≠ gb898 ∧ k_ ≠ g) k_ from fun k_ hk => ⟨(Nat.le_trans (keep_size (w := w) (g := g) (row := none) (by exact kw HK.out)) hk), Kd.freshB (g := gb888) (o := .cells #[.int .i64 0, .int .i64 0, .string (⟨#[]⟩ : ByteArray), .slice none 0 0] 55 (0, 0)) (by exact bk BK888.out) k_ hk, Kd.freshB (g := gb898) (o := .cells #[.int .i64 t891, .int .i64 t892, .string t893, .slice Ao13 t894.length co13] 55 (0, 0)) (by exact bk BK898.out) k_ hk, IsS105.fresh (by exact sw105 HI0.out) k_ hk⟩) _ (Nat.le_refl _)) (Below.refl _ _) (Nat.le_refl _) (by simp) ?_; (case hd => rfl); (case hg => rfl); (case hr => first | (go_simp; done) | (go_simp; rfl)); (case hp => exact (Reps.c4 (show Kd.FK k55 _ _ (⟨t910, t911, t912, t913⟩ : S55) [.int .i64 t910, .int .i64 t911, .string t912, .slice Ao30 t913.length co30] from (k55_mkF _ _ (⟨t910, t911, t912, t913⟩ : S55) (Kd.V_reads' (Kd.V_mono (ok' := (fun k_ => (w.heap.size ≤ k_) ∧ k_ ≠ gb888 ∧ k_ ≠ gb898 ∧ k_ ≠ g)) (HO915.out) (fun k_ hk => okp hk))).2.1 (Kd.V_F (Kd.V_mono (ok' := (fun k_ => (w.heap.size ≤ k_) ∧ k_ ≠ gb888 ∧ k_ ≠ gb898 ∧ k_ ≠ g)) (HO915.out) (fun k_ hk => okp hk))))) (Reps.none _ _))); intro v918 w31 ho32 hb hg_ hnew_; clear hg_ hnew_; (first | rw [← Ny917.out] at ho32 | (simp only [Int.reduceToNat] at ho32; rw [← Ny917.out] at ho32)); have n0_ := Aside0.mk (Kd.V_elder' (by exact Kd.xV HO_899003.out) (Kd.N_base ho32) hb); have n1_ := Aside0.mk (Kd.V_elder' (by exact Kd.xV HO915.out) (Kd.N_base ho32) hb); have n2_ := Aside0.mk (Kd.N_lower ho32 (keep_size (w := w) (g := g) (row := none) (by exact kw HK.out))); have n3_ := Aside0.mk (blk_below (g := gb888) (o := .cells #[.int .i64 0, .int .i64 0, .string (⟨#[]⟩ : ByteArray), .slice none 0 0] 55 (0, 0)) (by exact bk BK888.out) hb); have n4_ := Aside0.mk (blk_below (g := gb898) (o := .cells #[.int .i64 t891, .int .i64 t892, .string t893, .slice Ao13 t894.length co13] 55 (0, 0)) (by exact bk BK898.out) hb); have n5_ := Aside0.mk (IsS105.below (by exact sw105 HI0.out) hb); have n6_ := Aside0.mk (KeepBut.trans (by exact kw HK.out) (KeepBut.of_below hb g none) (.inl rfl)); have n7_ := Aside0.mk (below_step (by exact bw HB.out) hb); clear HO_899003; clear HO915; clear BK888; clear BK898; clear HI0; clear HK; clear HB; have HO_899003 := n0_; have HO915 := n1_; have HO919 := n2_; have BK888 := n3_; have BK898 := n4_; have HI0 := n5_; have HK := n6_; have HB := n7_; clear n0_ n1_ n2_ n3_ n4_ n5_ n6_ n7_; clear hb ho32; obtain ⟨Ao33, co33, eo33⟩ := Kd.N_slice HO919.out; subst eo33; have hnb34 := NB888_898.out; have hnc34 := NB898_888.out; have hnb35 := NB888_0.out; have hnc35 := NB0_888.out; have hcz36_0 : w31.cell? ⟨gb888, 0, none⟩ = some (.int .i64 0) := (blk_cell BK888.out 0).trans rfl; have hcz36_1 : w31.cell? ⟨gb888, 1, none⟩ = some (.int .i64 0) := (blk_cell BK888.out 1).trans rfl; have hcz36_2 : w31.cell? ⟨gb888, 2, none⟩ = some (.string (⟨#[]⟩ : ByteArray)) := (blk_cell BK888.out 2).trans rfl; have hcz36_3 : w31.cell? ⟨gb888, 3, none⟩ = some (.slice none 0 0) := (blk_cell BK888.out 3).trans rfl; have hfz36_0 := blk_frozen BK888.out 0; have hfz36_1 := blk_frozen BK888.out 1; have hfz36_2 := blk_frozen BK888.out 2; have hfz36_3 := blk_frozen BK888.out 3))
        refine bodyPost_ret (results_cell_row rfl _ _ gb888 55 #[.int .i64 13, .int .i64 0, .string (⟨#[]⟩ : ByteArray), .slice Ao33 y917.length co33] (0, 0) _ rfl (by (with_reducible repeat (first | refine blk_drewN ?_ _ | refine blk_drew ?_ | refine blk_alloc ?_ _)); refine blk_put (cs := #[.int .i64 13, .int .i64 0, .string (⟨#[]⟩ : ByteArray), .slice none 0 0]) ?_ 3 _ rfl; (with_reducible repeat (first | refine blk_drewN ?_ _ | refine blk_drew ?_ | refine blk_alloc ?_ _)); refine blk_put (cs := #[.int .i64 13, .int .i64 0, .string (⟨#[]⟩ : ByteArray), .slice none 0 0]) ?_ 2 _ rfl; (with_reducible repeat (first | refine blk_drewN ?_ _ | refine blk_drew ?_ | refine blk_alloc ?_ _)); refine blk_put (cs := #[.int .i64 13, .int .i64 0, .string (⟨#[]⟩ : ByteArray), .slice none 0 0]) ?_ 1 _ rfl; (with_reducible repeat (first | refine blk_drewN ?_ _ | refine blk_drew ?_ | refine blk_alloc ?_ _)); refine blk_put (cs := #[.int .i64 0, .int .i64 0, .string (⟨#[]⟩ : ByteArray), .slice none 0 0]) ?_ 0 _ rfl; exact bk BK888.out) Try.underlying55 rfl (by kernel_rfl)) rfl ?_
        exact ⟨_, by first | rfl | (simp [errW_none, errW_some] <;> rfl) | (simp [*, errW_none, errW_some] <;> rfl), Kd.N_V (by (with_reducible repeat (first | apply Kd.N_alloc | apply Kd.N_drewN | apply Kd.N_drew)); exact Kd.N_mono (Kd.N_far (p := ⟨gb888, 3, none⟩) (Kd.N_far (p := ⟨gb888, 2, none⟩) (Kd.N_far (p := ⟨gb888, 1, none⟩) (Kd.N_far (p := ⟨gb888, 0, none⟩) (Kd.N_mono HO919.out (fun k_ hk => (⟨hk, okp hk⟩ : _ ∧ k_ ≠ gb888))) (fun _ hk => hk.2) (.int .i64 13)) (fun _ hk => hk.2) (.int .i64 0)) (fun _ hk => hk.2) (.string (⟨#[]⟩ : ByteArray))) (fun _ hk => hk.2) (.slice Ao33 y917.length co33)) (fun _ hk => hk.1.1)), by exact sw105 HI0.out, by exact bw HB.out, by exact kw HK.out⟩
       ·
        rw [if_neg c27] at H
        have c27b0 : (x15_16 == 1) = false := beq_eq_false_iff_ne.mpr c27
        have c27b1 : (x15_16 != 1) = true := bne_iff_ne.mpr c27
        by_cases c37 : x15_16 = 2
        ·
         rw [if_pos c37] at H
         have c37b0 : (x15_16 == 2) = true := beq_iff_eq.mpr c37
         have c37b1 : (x15_16 != 2) = false := bne_eq_false_iff_eq.mpr c37
         clear c37
         replace H := Option.bind_eq_some_iff.mp H
         obtain ⟨⟨t920, t921, t922, t923, t926⟩, A380, H⟩ := H
         replace H : (some (11, 0, (⟨#[]⟩ : ByteArray), (([(⟨t920, t921, t922, t923⟩ : S55), (⟨t891, t892, t893, t894⟩ : S55)] : List (S55))), t926)) = some (r1, r2, r3, r4, r5) := H
         have A38 := Aside0.mk A380
         clear A380
         obtain ⟨y927, hy927⟩ : ∃ y_ : List (S55), y_ = (([(⟨t920, t921, t922, t923⟩ : S55), (⟨t891, t892, t893, t894⟩ : S55)] : List (S55))) := ⟨_, rfl⟩
         replace H : (some (11, 0, (⟨#[]⟩ : ByteArray), y927, t926)) = some (r1, r2, r3, r4, r5) := by first | (rw [hy927]; with_reducible exact H) | (have H2_ := (Option.bind_some _ _).symm.trans H; rw [hy927]; with_reducible exact H2_) | (have H2_ := (Option.bind_some _ _).symm.trans H; with_reducible exact H2_) | with_reducible exact H | (rw [hy927]; exact H) | exact H
         have Ny927 := Aside0.mk hy927
         clear hy927
         simp only [Option.some.injEq, Prod.mk.injEq] at H
         obtain ⟨rfl, rfl, rfl, rfl, rfl⟩ := H
         try go_wp2
         have n0_ := Aside0.mk (Kd.V_drew HO_899003.out)
         have n1_ := Aside0.mk (blk_drew BK888.out)
         have n2_ := Aside0.mk (blk_drew BK898.out)
         have n3_ := Aside0.mk (IsS105.drew HI0.out)
         have n4_ := Aside0.mk (keep_drew HK.out)
         have n5_ := Aside0.mk (below_drew1 HB.out)
         clear HO_899003
         clear BK888
         clear BK898
         clear HI0
         clear HK
         clear HB
         have HO_899003 := n0_
         have BK888 := n1_
         have BK898 := n2_
         have HI0 := n3_
         have HK := n4_
         have HB := n5_
         clear n0_ n1_ n2_ n3_ n4_ n5_
         refine start_ (n := 6) (S := fun w' => w'.cell? ⟨gb898, 0, none⟩ = some (.int .i64 t891) ∧ w'.cell? ⟨gb898, 1, none⟩ = some (.int .i64 t892) ∧ w'.cell? ⟨gb898, 2, none⟩ = some (.string t893) ∧ w'.cell? ⟨gb898, 3, none⟩ = some (.slice Ao13 t894.length co13)) (ds := []) #[false, false, false, false, false, false] (by kernel_rfl) rfl rfl ⟨(blk_cell BK898.out 0).trans rfl, (blk_cell BK898.out 1).trans rfl, (blk_cell BK898.out 2).trans rfl, (blk_cell BK898.out 3).trans rfl⟩ (fun hHeld => ?_)
         generalize wc.drew = w39 at HO_899003 BK888 BK898 HI0 HK HB hHeld ⊢
         refine pure_ (i := 0) (N := some 31) (v := ?_) (a' := ?_) #[true, false, false, false, false, false] rfl rfl (by kernel_rfl) (fun _ _ _ h => h) (Or.inl ⟨by rfl, ?_⟩) ?_ ?_
         rotate_left
         ·
          intro w'
          go_simp
          with_reducible rfl
         rotate_left
         ·
          simp only [Act.put, List.setIfInBounds_toArray, List.set_cons_zero, List.set_cons_succ, i64_w, i32_w]
          rfl
         refine take_ (i := 2) (N := some 33) (v := ?_) (a' := ?_) #[true, false, true, false, false, false] rfl rfl (by kernel_rfl) (fun _ _ _ h => h) (Or.inl ⟨by rfl, ?_⟩) hHeld ?_ ?_
         rotate_left
         ·
          rintro w' ⟨s0, s1, s2, s3⟩
          go_simp
          with_reducible rfl
         rotate_left
         ·
          simp only [Act.put, List.setIfInBounds_toArray, List.set_cons_zero, List.set_cons_succ, i64_w, i32_w]
          rfl
         refine one_ (i := 1) (N := some 32) #[true, true, true, false, false, false] rfl rfl (by kernel_rfl) (by decide) (fun K hK => ?_)
         refine goes_ Try.func87 (by kernel_rfl) rfl #[.pointer (some ⟨g, 0, none⟩), .int .i64 1] (by rfl) rfl rfl (by (try simp only [List.map_toArray, List.map_cons, List.map_nil]); first | done | rfl | (simp only [List.length_drop, List.length_take]; rfl)) ?_
         with_reducible refine (spec_l20Thing.calls kj16 g s0_0 x1001_16 1 t920 t921 t922 t923 t926 w0 _ ?side1 ?side2 A38.out).mono ?_
         (case side1 => exact sw105 HI0.out)
         (case side2 => exact bw HB.out)
         rintro e w40 ⟨v924, rfl, ho0, hi, hb, hk⟩
         refine ⟨_, rfl, ?_⟩
         have n0_ := Aside0.mk (Kd.V_mono (Kd.V_keep (Kd.V_mono (ok := fun k_ => (((w.heap.size ≤ k_)) ∧ (k_ ≠ gb888 ∧ (k_ ≠ gb898 ∧ k_ ≠ g)))) (by exact Kd.xV HO_899003.out) (fun k_ hk_ => (⟨hk_, hk_.2.2.2⟩ : _ ∧ k_ ≠ g))) hk (fun _ h => h.2)) (fun _ h => h.1))
         have n1_ := Aside0.mk (KeepBut.blk hk (g' := gb888) (o := .cells #[.int .i64 0, .int .i64 0, .string (⟨#[]⟩ : ByteArray), .slice none 0 0] 55 (0, 0)) (by exact bk BK888.out) NB888_0.out (by simp))
         have n2_ := Aside0.mk (KeepBut.blk hk (g' := gb898) (o := .cells #[.int .i64 t891, .int .i64 t892, .string t893, .slice Ao13 t894.length co13] 55 (0, 0)) (by exact bk BK898.out) NB898_0.out (by simp))
         have n3_ := Aside0.mk (Kd.V_lower (Kd.V_mono (ok' := fun k_ => (w.heap.size ≤ k_) ∧ k_ ≠ gb888 ∧ k_ ≠ gb898 ∧ k_ ≠ g) ho0 (fun k_ hk_ => ⟨(Nat.le_trans (keep_size (w := w) (g := g) (row := none) (by exact kw HK.out)) hk_), (Kd.freshB (g := gb888) (o := .cells #[.int .i64 0, .int .i64 0, .string (⟨#[]⟩ : ByteArray), .slice none 0 0] 55 (0, 0)) (by exact bk BK888.out) k_ hk_), (Kd.freshB (g := gb898) (o := .cells #[.int .i64 t891, .int .i64 t892, .string t893, .slice Ao13 t894.length co13] 55 (0, 0)) (by exact bk BK898.out) k_ hk_), (IsS105.fresh (by exact sw105 HI0.out) k_ hk_)⟩)) (keep_size (w := w) (g := g) (row := none) (by exact kw HK.out)))
         have n4_ := Aside0.mk (KeepBut.trans (by exact kw HK.out) hk (.inl rfl))
         have n5_ := Aside0.mk (hb)
         have n6_ := Aside0.mk (hi)
         clear HO_899003
         clear BK888
         clear BK898
         clear HK
         clear HB
         clear HI0
         have HO_899003 := n0_
         have BK888 := n1_
         have BK898 := n2_
         have HO925 := n3_
         have HK := n4_
         have HB := n5_
         have HI0 := n6_
         clear n0_ n1_ n2_ n3_ n4_ n5_ n6_
         (try clear hb)
         (try clear hb2)
         (try clear hk)
         (try clear hi)
         (try clear ho0)
         obtain ⟨Ao41, co41, eo41⟩ := Kd.V_slice HO925.out
         (first | subst eo41 | (injection eo41 with f1_ f2_ f3_; have f4_ := f1_.symm; have f5_ := f3_.symm; clear f1_ f2_ f3_; subst f4_; subst f5_))
         refine hK.out _ _ ⟨(blk_cell BK898.out 0).trans rfl, (blk_cell BK898.out 1).trans rfl, (blk_cell BK898.out 2).trans rfl, (blk_cell BK898.out 3).trans rfl⟩ (fun hHeld => ?_)
         clear hK K
         refine norm_ (a' := ?_) ?_ ?_
         rotate_left
         ·
          show Act.put _ (some 32) _ = _
          simp only [Act.put, List.setIfInBounds_toArray, List.set_cons_zero, List.set_cons_succ, i64_w, i32_w]
          rfl
         refine one_ (i := 3) (N := some 34) #[true, true, true, true, false, false] rfl rfl (by kernel_rfl) (by decide) (fun K hK => ?_)
         refine Kd.N_lit_step k55 _ 55 ?hg (N' := 34) ?hd (xs := ([(⟨t920, t921, t922, t923⟩ : S55), (⟨t891, t892, t893, t894⟩ : S55)] : List (S55))) (inner := [.int .i64 t920, .int .i64 t921, .string t922, .slice Ao41 t923.length co41, .int .i64 t891, .int .i64 t892, .string t893, .slice Ao13 t894.length co13]) (ok := (fun k_ => (w.heap.size ≤ k_) ∧ k_ ≠ gb888 ∧ k_ ≠ gb898 ∧ k_ ≠ g)) (okp := (fun k_ => (w.heap.size ≤ k_) ∧ k_ ≠ gb888 ∧ k_ ≠ gb898 ∧ k_ ≠ g)) ?hr ?hp (fun _ hk => hk) ((show ∀ k_, w40.heap.size ≤ k_ → (fun k_ => (w.heap.size ≤ k_) ∧ k_ ≠ gb888 ∧ k_ ≠ gb898 ∧ k_ ≠ g) k_ from fun k_ hk => ⟨(Nat.le_trans (keep_size (w := w) (g := g) (row := none) (by exact kw HK.out)) hk), Kd.freshB (g := gb888) (o := .cells #[.int .i64 0, .int .i64 0, .string (⟨#[]⟩ : ByteArray), .slice none 0 0] 55 (0, 0)) (by exact bk BK888.out) k_ hk, Kd.freshB (g := gb898) (o := .cells #[.int .i64 t891, .int .i64 t892, .string t893, .slice Ao13 t894.length co13] 55 (0, 0)) (by exact bk BK898.out) k_ hk, IsS105.fresh (by exact sw105 HI0.out) k_ hk⟩) _ (Nat.le_refl _)) (Below.refl _ _) (Nat.le_refl _) (by simp) ?_; (case hd => rfl); (case hg => rfl); (case hr => first | (go_simp; done) | (go_simp; rfl)); (case hp => exact (Reps.c4 (show Kd.FK k55 _ _ (⟨t920, t921, t922, t923⟩ : S55) [.int .i64 t920, .int .i64 t921, .string t922, .slice Ao41 t923.length co41] from (k55_mkF _ _ (⟨t920, t921, t922, t923⟩ : S55) (Kd.V_reads' (Kd.V_mono (ok' := (fun k_ => (w.heap.size ≤ k_) ∧ k_ ≠ gb888 ∧ k_ ≠ gb898 ∧ k_ ≠ g)) (HO925.out) (fun k_ hk => okp hk))).2.1 (Kd.V_F (Kd.V_mono (ok' := (fun k_ => (w.heap.size ≤ k_) ∧ k_ ≠ gb888 ∧ k_ ≠ gb898 ∧ k_ ≠ g)) (HO925.out) (fun k_ hk => okp hk))))) (Reps.c4 (show Kd.FK k55 _ _ (⟨t891, t892, t893, t894⟩ : S55) [.int .i64 t891, .int .i64 t892, .string t893, .slice Ao13 t894.length co13] from (k55_mkF _ _ (⟨t891, t892, t893, t894⟩ : S55) (Kd.V_reads' (Kd.V_mono (ok' := (fun k_ => (w.heap.size ≤ k_) ∧ k_ ≠ gb888 ∧ k_ ≠ gb898 ∧ k_ ≠ g)) (HO_899003.out) (fun k_ hk => okp hk))).2.1 (Kd.V_F (Kd.V_mono (ok' := (fun k_ => (w.heap.size ≤ k_) ∧ k_ ≠ gb888 ∧ k_ ≠ gb898 ∧ k_ ≠ g)) (HO_899003.out) (fun k_ hk => okp hk))))) (Reps.none _ _))))
         intro v928 w42 ho43 hb hg_ hnew_
         clear hg_ hnew_
         (first | rw [← Ny927.out] at ho43 | (simp only [Int.reduceToNat] at ho43; rw [← Ny927.out] at ho43))
         have n0_ := Aside0.mk (Kd.V_elder' (by exact Kd.xV HO_899003.out) (Kd.N_base ho43) hb)
         have n1_ := Aside0.mk (Kd.V_elder' (by exact Kd.xV HO925.out) (Kd.N_base ho43) hb)
         have n2_ := Aside0.mk (Kd.N_lower ho43 (keep_size (w := w) (g := g) (row := none) (by exact kw HK.out)))
         have n3_ := Aside0.mk (blk_below (g := gb888) (o := .cells #[.int .i64 0, .int .i64 0, .string (⟨#[]⟩ : ByteArray), .slice none 0 0] 55 (0, 0)) (by exact bk BK888.out) hb)
         have n4_ := Aside0.mk (blk_below (g := gb898) (o := .cells #[.int .i64 t891, .int .i64 t892, .string t893, .slice Ao13 t894.length co13] 55 (0, 0)) (by exact bk BK898.out) hb)
         have n5_ := Aside0.mk (IsS105.below (by exact sw105 HI0.out) hb)
         have n6_ := Aside0.mk (KeepBut.trans (by exact kw HK.out) (KeepBut.of_below hb g none) (.inl rfl))
         have n7_ := Aside0.mk (below_step (by exact bw HB.out) hb)
         clear HO_899003
         clear HO925
         clear BK888
         clear BK898
         clear HI0
         clear HK
         clear HB
         have HO_899003 := n0_
         have HO925 := n1_
         have HO929 := n2_
         have BK888 := n3_
         have BK898 := n4_
         have HI0 := n5_
         have HK := n6_
         have HB := n7_
         clear n0_ n1_ n2_ n3_ n4_ n5_ n6_ n7_
         clear hb ho43
         obtain ⟨Ao44, co44, eo44⟩ := Kd.N_slice HO929.out
         (first | subst eo44 | (injection eo44 with f1_ f2_ f3_; have f4_ := f1_.symm; have f5_ := f3_.symm; clear f1_ f2_ f3_; subst f4_; subst f5_))
         refine hK.out _ _ ⟨(blk_cell BK898.out 0).trans rfl, (blk_cell BK898.out 1).trans rfl, (blk_cell BK898.out 2).trans rfl, (blk_cell BK898.out 3).trans rfl⟩ (fun hHeld => ?_)
         clear hK K
         refine norm_ (a' := ?_) ?_ ?_
         rotate_left
         ·
          show Act.put _ (some 34) _ = _
          simp only [Act.put, List.setIfInBounds_toArray, List.set_cons_zero, List.set_cons_succ, i64_w, i32_w]
          rfl
         refine pure_ (i := 4) (N := some 35) (v := ?_) (a' := ?_) #[true, true, true, true, true, false] rfl rfl (by kernel_rfl) (fun _ _ _ h => h) (Or.inl ⟨by rfl, ?_⟩) ?_ ?_
         rotate_left
         ·
          intro w'
          go_simp
          with_reducible rfl
         rotate_left
         ·
          simp only [Act.put, List.setIfInBounds_toArray, List.set_cons_zero, List.set_cons_succ, i64_w, i32_w]
          rfl
         refine one_ (i := 5) (N := none) #[true, true, true, true, true, true] rfl rfl (by kernel_rfl) (by decide) (fun K hK => ?_)
         have hs45 : w42.cell? ⟨gb888, 0, none⟩ = some (.int .i64 0) := (blk_cell BK888.out 0).trans rfl
         have hfs45 := blk_frozen BK888.out 0
         have hns45_1 := NB898_888.out
         have hms45_1 := NB888_898.out
         have hs46 : w42.cell? ⟨gb888, 1, none⟩ = some (.int .i64 0) := (blk_cell BK888.out 1).trans rfl
         have hfs46 := blk_frozen BK888.out 1
         have hns46_1 := NB898_888.out
         have hms46_1 := NB888_898.out
         have hs47 : w42.cell? ⟨gb888, 2, none⟩ = some (.string (⟨#[]⟩ : ByteArray)) := (blk_cell BK888.out 2).trans rfl
         have hfs47 := blk_frozen BK888.out 2
         have hns47_1 := NB898_888.out
         have hms47_1 := NB888_898.out
         have hs48 : w42.cell? ⟨gb888, 3, none⟩ = some (.slice none 0 0) := (blk_cell BK888.out 3).trans rfl
         have hfs48 := blk_frozen BK888.out 3
         have hns48_1 := NB898_888.out
         have hms48_1 := NB888_898.out
         refine skip_ (w1 := ?_) (by rfl) rfl ?_ ?_
         rotate_left
         ·
          go_simp
          rfl
         refine hK.out _ _ ⟨((cell_far (p := ⟨gb888, _, none⟩) NB898_888.out _).trans (((cell_far (p := ⟨gb888, _, none⟩) NB898_888.out _).trans (((cell_far (p := ⟨gb888, _, none⟩) NB898_888.out _).trans (((cell_far (p := ⟨gb888, _, none⟩) NB898_888.out _).trans (hHeld.1)))))))), ((cell_far (p := ⟨gb888, _, none⟩) NB898_888.out _).trans (((cell_far (p := ⟨gb888, _, none⟩) NB898_888.out _).trans (((cell_far (p := ⟨gb888, _, none⟩) NB898_888.out _).trans (((cell_far (p := ⟨gb888, _, none⟩) NB898_888.out _).trans (hHeld.2.1)))))))), ((cell_far (p := ⟨gb888, _, none⟩) NB898_888.out _).trans (((cell_far (p := ⟨gb888, _, none⟩) NB898_888.out _).trans (((cell_far (p := ⟨gb888, _, none⟩) NB898_888.out _).trans (((cell_far (p := ⟨gb888, _, none⟩) NB898_888.out _).trans (hHeld.2.2.1)))))))), ((cell_far (p := ⟨gb888, _, none⟩) NB898_888.out _).trans (((cell_far (p := ⟨gb888, _, none⟩) NB898_888.out _).trans (((cell_far (p := ⟨gb888, _, none⟩) NB898_888.out _).trans (((cell_far (p := ⟨gb888, _, none⟩) NB898_888.out _).trans (hHeld.2.2.2))))))))⟩ (fun hHeld => ?_)
         clear hK K
         refine done_ (by kernel_rfl) ?_
         try go_wp2
         refine bodyPost_ret (results_cell_row rfl _ _ gb888 55 #[.int .i64 11, .int .i64 0, .string (⟨#[]⟩ : ByteArray), .slice Ao44 y927.length co44] (0, 0) _ rfl (by (with_reducible repeat (first | refine blk_drewN ?_ _ | refine blk_drew ?_ | refine blk_alloc ?_ _)); refine blk_put (cs := #[.int .i64 11, .int .i64 0, .string (⟨#[]⟩ : ByteArray), .slice none 0 0]) ?_ 3 _ rfl; (with_reducible repeat (first | refine blk_drewN ?_ _ | refine blk_drew ?_ | refine blk_alloc ?_ _)); refine blk_put (cs := #[.int .i64 11, .int .i64 0, .string (⟨#[]⟩ : ByteArray), .slice none 0 0]) ?_ 2 _ rfl; (with_reducible repeat (first | refine blk_drewN ?_ _ | refine blk_drew ?_ | refine blk_alloc ?_ _)); refine blk_put (cs := #[.int .i64 11, .int .i64 0, .string (⟨#[]⟩ : ByteArray), .slice none 0 0]) ?_ 1 _ rfl; (with_reducible repeat (first | refine blk_drewN ?_ _ | refine blk_drew ?_ | refine blk_alloc ?_ _)); refine blk_put (cs := #[.int .i64 0, .int .i64 0, .string (⟨#[]⟩ : ByteArray), .slice none 0 0]) ?_ 0 _ rfl; exact bk BK888.out) Try.underlying55 rfl (by kernel_rfl)) rfl ?_
         exact ⟨_, by first | rfl | (simp [errW_none, errW_some] <;> rfl) | (simp [*, errW_none, errW_some] <;> rfl), Kd.N_V (by (with_reducible repeat (first | apply Kd.N_alloc | apply Kd.N_drewN | apply Kd.N_drew)); exact Kd.N_mono (Kd.N_far (p := ⟨gb888, 3, none⟩) (Kd.N_far (p := ⟨gb888, 2, none⟩) (Kd.N_far (p := ⟨gb888, 1, none⟩) (Kd.N_far (p := ⟨gb888, 0, none⟩) (Kd.N_mono HO929.out (fun k_ hk => (⟨hk, okp hk⟩ : _ ∧ k_ ≠ gb888))) (fun _ hk => hk.2) (.int .i64 11)) (fun _ hk => hk.2) (.int .i64 0)) (fun _ hk => hk.2) (.string (⟨#[]⟩ : ByteArray))) (fun _ hk => hk.2) (.slice Ao44 y927.length co44)) (fun _ hk => hk.1.1)), by exact sw105 HI0.out, by exact bw HB.out, by exact kw HK.out⟩
        ·
         rw [if_neg c37] at H
         have c37b0 : (x15_16 == 2) = false := beq_eq_false_iff_ne.mpr c37
         have c37b1 : (x15_16 != 2) = true := bne_iff_ne.mpr c37
         by_cases c49 : x15_16 = 3
         ·
          rw [if_pos c49] at H
          have c49b0 : (x15_16 == 3) = true := beq_iff_eq.mpr c49
          have c49b1 : (x15_16 != 3) = false := bne_eq_false_iff_eq.mpr c49
          clear c49
          obtain ⟨y930, hy930⟩ : ∃ y_ : List Int, y_ = (([0, 16] : List Int)) := ⟨_, rfl⟩
          replace H : ((spec_l20Rd_pick.f kj16 s0_0 x1001_16 2).bind fun bt933 => (if 0 ≤ bt933.1 then (if bt933.1 < (y930.length : Int) then (some (rd y930 bt933.1, 0, (⟨#[]⟩ : ByteArray), ([] : List (S55)), bt933.2)) else (none)) else (none))) = some (r1, r2, r3, r4, r5) := by first | (rw [hy930]; with_reducible exact H) | (have H2_ := (Option.bind_some _ _).symm.trans H; rw [hy930]; with_reducible exact H2_) | (have H2_ := (Option.bind_some _ _).symm.trans H; with_reducible exact H2_) | with_reducible exact H | (rw [hy930]; exact H) | exact H
          have Ny930 := Aside0.mk hy930
          clear hy930
          replace H := Option.bind_eq_some_iff.mp H
          obtain ⟨⟨t933, t934⟩, A500, H⟩ := H
          replace H : (if 0 ≤ t933 then (if t933 < (y930.length : Int) then (some (rd y930 t933, 0, (⟨#[]⟩ : ByteArray), ([] : List (S55)), t934)) else (none)) else (none)) = some (r1, r2, r3, r4, r5) := H
          have A50 := Aside0.mk A500
          clear A500
          by_cases c51 : 0 ≤ t933
          ·
           rw [if_pos c51] at H
           have c51b0 : decide (0 ≤ t933) = true := decide_eq_true c51
           clear c51
           by_cases c52 : t933 < (y930.length : Int)
           ·
            rw [if_pos c52] at H
            have c52b0 : decide (t933 < (y930.length : Int)) = true := decide_eq_true c52
            clear c52
            simp only [Option.some.injEq, Prod.mk.injEq] at H
            obtain ⟨rfl, rfl, rfl, rfl, rfl⟩ := H
            go_wp2_with (first | ((with_reducible refine gate_dst (N := 38) rfl ?_); refine Kd.R_lit (Kd.int .i64) _ 3 ?hg (N := 38) ?hd (xs := ([0, 16] : List Int)) (inner := [.int .i64 0, .int .i64 16]) (ok := fun _ => True) (okp := fun _ => True) ?hr ?hp (fun _ hk => hk) trivial (Below.refl _ _) (Nat.le_refl _) (by simp) ?_; (case hd => rfl); (case hg => rfl); (case hr => first | (go_simp; done) | (go_simp; rfl)); (case hp => exact (Reps.one (show Kd.M (Kd.int .i64) _ _ _ 0 [.int .i64 0] from rfl) (Reps.one (show Kd.M (Kd.int .i64) _ _ _ 16 [.int .i64 16] from rfl) (Reps.none _ _)))); intro v931 w53 ho54 hb hg_ hnew_; clear hg_ hnew_; (first | rw [← Ny930.out] at ho54 | (simp only [Int.reduceToNat] at ho54; rw [← Ny930.out] at ho54)); have n0_ := Aside0.mk (Kd.V_elder' (by exact Kd.xV HO_899003.out) (Kd.R_base ho54) hb); have n1_ := Aside0.mk (Kd.R_lower (Kd.R_newM (M := fun k_ => (w.heap.size ≤ k_)) ho54 (keep_size (w := w) (g := g) (row := none) (by exact kw HK.out)) (fun k_ h_ => h_)) (keep_size (w := w) (g := g) (row := none) (by exact kw HK.out))); have n2_ := Aside0.mk (blk_below (g := gb888) (o := .cells #[.int .i64 0, .int .i64 0, .string (⟨#[]⟩ : ByteArray), .slice none 0 0] 55 (0, 0)) (by exact bk BK888.out) hb); have n3_ := Aside0.mk (blk_below (g := gb898) (o := .cells #[.int .i64 t891, .int .i64 t892, .string t893, .slice Ao13 t894.length co13] 55 (0, 0)) (by exact bk BK898.out) hb); have n4_ := Aside0.mk (IsS105.below (by exact sw105 HI0.out) hb); have n5_ := Aside0.mk (KeepBut.trans (by exact kw HK.out) (KeepBut.of_below hb g none) (.inl rfl)); have n6_ := Aside0.mk (below_step (by exact bw HB.out) hb); clear HO_899003; clear BK888; clear BK898; clear HI0; clear HK; clear HB; have HO_899003 := n0_; have HO932 := n1_; have BK888 := n2_; have BK898 := n3_; have HI0 := n4_; have HK := n5_; have HB := n6_; clear n0_ n1_ n2_ n3_ n4_ n5_ n6_; clear hb ho54) | ((with_reducible refine gate_callee (f := 62) rfl ?_); refine gl (some 40) Try.func62 #[.pointer (some ⟨g, 0, none⟩), .int .i64 2] ?_; (with_reducible refine (spec_l20Rd_pick.calls kj16 g s0_0 x1001_16 2 t933 t934 w0 _ ?side1 ?side2 A50.out).mono ?_); (case side1 => exact sw105 HI0.out); (case side2 => exact bw HB.out); rintro e w55 ⟨rfl, hi, hb, hk⟩; refine ⟨_, rfl, ?_⟩; have n0_ := Aside0.mk (Kd.V_mono (Kd.V_keep (Kd.V_mono (ok := fun k_ => ((((w.heap.size ≤ k_)) ∧ (k_ ≠ gb888 ∧ (k_ ≠ gb898 ∧ k_ ≠ g))) ∧ some k_ ≠ (v931 : Value).ownBlock)) (by exact Kd.xV HO_899003.out) (fun k_ hk_ => (⟨hk_, hk_.1.2.2.2⟩ : _ ∧ k_ ≠ g))) hk (fun _ h => h.2)) (fun _ h => h.1)); have n1_ := Aside0.mk (KeepBut.blk hk (g' := gb888) (o := .cells #[.int .i64 0, .int .i64 0, .string (⟨#[]⟩ : ByteArray), .slice none 0 0] 55 (0, 0)) (by exact bk BK888.out) NB888_0.out (by simp)); have n2_ := Aside0.mk (KeepBut.blk hk (g' := gb898) (o := .cells #[.int .i64 t891, .int .i64 t892, .string t893, .slice Ao13 t894.length co13] 55 (0, 0)) (by exact bk BK898.out) NB898_0.out (by simp)); have n3_ := Aside0.mk (Kd.R_mono (Kd.R_keep (IsS105.apart (show IsS105 w0 _ g s0_0 x1001_16 from by exact sw105 HI0.out) (by exact Kd.xR HO932.out) (by decide)) hk (fun _ h => h.2)) (fun _ h => h.1)); have n4_ := Aside0.mk (KeepBut.trans (by exact kw HK.out) hk (.inl rfl)); have n5_ := Aside0.mk (hb); have n6_ := Aside0.mk (hi); clear HO_899003; clear BK888; clear BK898; clear HO932; clear HK; clear HB; clear HI0; have HO_899003 := n0_; have BK888 := n1_; have BK898 := n2_; have HO932 := n3_; have HK := n4_; have HB := n5_; have HI0 := n6_; clear n0_ n1_ n2_ n3_ n4_ n5_ n6_; (try clear hb); (try clear hb2); (try clear hk); (try clear hi); obtain ⟨Ao56, co56, eo56⟩ := Kd.R_slice HO932.out; subst eo56; have p935 : 0 ≤ (t933 : Int) := of_decide_eq_true (by first | (with_reducible assumption) | assumption); have q935 : t933 < (y930.length : Int) := of_decide_eq_true (by first | (with_reducible assumption) | assumption); obtain ⟨ad935, e935, hx935_0⟩ := Kd.at_int (Kd.R_reads' HO932.out).2.2 t933 p935 q935; cases e935; replace p935 := eq_true p935; replace q935 := eq_true q935; have hnb57 := NB888_898.out; have hnc57 := NB898_888.out; have hnb58 := NB888_0.out; have hnc58 := NB0_888.out; have hcz59_0 : w55.cell? ⟨gb888, 0, none⟩ = some (.int .i64 0) := (blk_cell BK888.out 0).trans rfl; have hcz59_1 : w55.cell? ⟨gb888, 1, none⟩ = some (.int .i64 0) := (blk_cell BK888.out 1).trans rfl; have hcz59_2 : w55.cell? ⟨gb888, 2, none⟩ = some (.string (⟨#[]⟩ : ByteArray)) := (blk_cell BK888.out 2).trans rfl; have hcz59_3 : w55.cell? ⟨gb888, 3, none⟩ = some (.slice none 0 0) := (blk_cell BK888.out 3).trans rfl; have hfz59_0 := blk_frozen BK888.out 0; have hfz59_1 := blk_frozen BK888.out 1; have hfz59_2 := blk_frozen BK888.out 2; have hfz59_3 := blk_frozen BK888.out 3))
            refine bodyPost_ret (results_cell_row rfl _ _ gb888 55 #[.int .i64 (rd y930 t933), .int .i64 0, .string (⟨#[]⟩ : ByteArray), .slice none 0 0] (0, 0) _ rfl (by (with_reducible repeat (first | refine blk_drewN ?_ _ | refine blk_drew ?_ | refine blk_alloc ?_ _)); refine blk_put (cs := #[.int .i64 (rd y930 t933), .int .i64 0, .string (⟨#[]⟩ : ByteArray), .slice none 0 0]) ?_ 3 _ rfl; (with_reducible repeat (first | refine blk_drewN ?_ _ | refine blk_drew ?_ | refine blk_alloc ?_ _)); refine blk_put (cs := #[.int .i64 (rd y930 t933), .int .i64 0, .string (⟨#[]⟩ : ByteArray), .slice none 0 0]) ?_ 2 _ rfl; (with_reducible repeat (first | refine blk_drewN ?_ _ | refine blk_drew ?_ | refine blk_alloc ?_ _)); refine blk_put (cs := #[.int .i64 (rd y930 t933), .int .i64 0, .string (⟨#[]⟩ : ByteArray), .slice none 0 0]) ?_ 1 _ rfl; (with_reducible repeat (first | refine blk_drewN ?_ _ | refine blk_drew ?_ | refine blk_alloc ?_ _)); refine blk_put (cs := #[.int .i64 0, .int .i64 0, .string (⟨#[]⟩ : ByteArray), .slice none 0 0]) ?_ 0 _ rfl; exact bk BK888.out) Try.underlying55 rfl (by kernel_rfl)) rfl ?_
            exact ⟨_, by first | rfl | (simp [errW_none, errW_some] <;> rfl) | (simp [*, errW_none, errW_some] <;> rfl), by first | exact Kd.R_nil _ _ _ _ _ | exact Kd.N_nil _ _ _ _ _ | exact Kd.V_nil _ _ _ _ _ | exact Kd.Q_nil _ _ _ _ _ | exact Kd.S_nil _ _ _ _ _, by exact sw105 HI0.out, by exact bw HB.out, by exact kw HK.out⟩
           ·
            rw [if_neg c52] at H
            exact absurd H (by simp)
          ·
           rw [if_neg c51] at H
           exact absurd H (by simp)
         ·
          rw [if_neg c49] at H
          have c49b0 : (x15_16 == 3) = false := beq_eq_false_iff_ne.mpr c49
          have c49b1 : (x15_16 != 3) = true := bne_iff_ne.mpr c49
          by_cases c60 : x15_16 = 4
          ·
           rw [if_pos c60] at H
           have c60b0 : (x15_16 == 4) = true := beq_iff_eq.mpr c60
           have c60b1 : (x15_16 != 4) = false := bne_eq_false_iff_eq.mpr c60
           clear c60
           obtain ⟨y936, hy936⟩ : ∃ y_ : List (S55), y_ = (([(⟨t891, t892, t893, t894⟩ : S55)] : List (S55))) := ⟨_, rfl⟩
           replace H : (some (14, 0, (⟨#[]⟩ : ByteArray), y936, x1001_16)) = some (r1, r2, r3, r4, r5) := by first | (rw [hy936]; with_reducible exact H) | (have H2_ := (Option.bind_some _ _).symm.trans H; rw [hy936]; with_reducible exact H2_) | (have H2_ := (Option.bind_some _ _).symm.trans H; with_reducible exact H2_) | with_reducible exact H | (rw [hy936]; exact H) | exact H
           have Ny936 := Aside0.mk hy936
           clear hy936
           simp only [Option.some.injEq, Prod.mk.injEq] at H
           obtain ⟨rfl, rfl, rfl, rfl, rfl⟩ := H
           have hnb61 := NB898_888.out
           have hnc61 := NB888_898.out
           have hnb62 := NB898_0.out
           have hnc62 := NB0_898.out
           have hcz63_0 : wc.cell? ⟨gb898, 0, none⟩ = some (.int .i64 t891) := (blk_cell BK898.out 0).trans rfl
           have hcz63_1 : wc.cell? ⟨gb898, 1, none⟩ = some (.int .i64 t892) := (blk_cell BK898.out 1).trans rfl
           have hcz63_2 : wc.cell? ⟨gb898, 2, none⟩ = some (.string t893) := (blk_cell BK898.out 2).trans rfl
           have hcz63_3 : wc.cell? ⟨gb898, 3, none⟩ = some (.slice Ao13 t894.length co13) := (blk_cell BK898.out 3).trans rfl
           have hfz63_0 := blk_frozen BK898.out 0
           have hfz63_1 := blk_frozen BK898.out 1
           have hfz63_2 := blk_frozen BK898.out 2
           have hfz63_3 := blk_frozen BK898.out 3
           go_wp2_with (first | ((with_reducible refine gate_dst (N := 47) rfl ?_); refine Kd.N_lit k55 _ 55 ?hg (N' := 47) ?hd (xs := ([(⟨t891, t892, t893, t894⟩ : S55)] : List (S55))) (inner := [.int .i64 t891, .int .i64 t892, .string t893, .slice Ao13 t894.length co13]) (ok := (fun k_ => (w.heap.size ≤ k_) ∧ k_ ≠ gb888 ∧ k_ ≠ gb898 ∧ k_ ≠ g)) (okp := (fun k_ => (w.heap.size ≤ k_) ∧ k_ ≠ gb888 ∧ k_ ≠ gb898 ∧ k_ ≠ g)) ?hr ?hp (fun _ hk => hk) ((show ∀ k_, wc.heap.size ≤ k_ → (fun k_ => (w.heap.size ≤ k_) ∧ k_ ≠ gb888 ∧ k_ ≠ gb898 ∧ k_ ≠ g) k_ from fun k_ hk => ⟨(Nat.le_trans (keep_size (w := w) (g := g) (row := none) (by exact kw HK.out)) hk), Kd.freshB (g := gb888) (o := .cells #[.int .i64 0, .int .i64 0, .string (⟨#[]⟩ : ByteArray), .slice none 0 0] 55 (0, 0)) (by exact bk BK888.out) k_ hk, Kd.freshB (g := gb898) (o := .cells #[.int .i64 t891, .int .i64 t892, .string t893, .slice Ao13 t894.length co13] 55 (0, 0)) (by exact bk BK898.out) k_ hk, IsS105.fresh (by exact sw105 HI0.out) k_ hk⟩) _ (Nat.le_refl _)) (Below.refl _ _) (Nat.le_refl _) (by simp) ?_; (case hd => rfl); (case hg => rfl); (case hr => first | (go_simp; done) | (go_simp; rfl)); (case hp => exact (Reps.c4 (show Kd.FK k55 _ _ (⟨t891, t892, t893, t894⟩ : S55) [.int .i64 t891, .int .i64 t892, .string t893, .slice Ao13 t894.length co13] from (k55_mkF _ _ (⟨t891, t892, t893, t894⟩ : S55) (Kd.V_reads' (Kd.V_mono (ok' := (fun k_ => (w.heap.size ≤ k_) ∧ k_ ≠ gb888 ∧ k_ ≠ gb898 ∧ k_ ≠ g)) (HO_899003.out) (fun k_ hk => okp hk))).2.1 (Kd.V_F (Kd.V_mono (ok' := (fun k_ => (w.heap.size ≤ k_) ∧ k_ ≠ gb888 ∧ k_ ≠ gb898 ∧ k_ ≠ g)) (HO_899003.out) (fun k_ hk => okp hk))))) (Reps.none _ _))); intro v937 w64 ho65 hb hg_ hnew_; clear hg_ hnew_; (first | rw [← Ny936.out] at ho65 | (simp only [Int.reduceToNat] at ho65; rw [← Ny936.out] at ho65)); have n0_ := Aside0.mk (Kd.V_elder' (by exact Kd.xV HO_899003.out) (Kd.N_base ho65) hb); have n1_ := Aside0.mk (Kd.N_lower ho65 (keep_size (w := w) (g := g) (row := none) (by exact kw HK.out))); have n2_ := Aside0.mk (blk_below (g := gb888) (o := .cells #[.int .i64 0, .int .i64 0, .string (⟨#[]⟩ : ByteArray), .slice none 0 0] 55 (0, 0)) (by exact bk BK888.out) hb); have n3_ := Aside0.mk (blk_below (g := gb898) (o := .cells #[.int .i64 t891, .int .i64 t892, .string t893, .slice Ao13 t894.length co13] 55 (0, 0)) (by exact bk BK898.out) hb); have n4_ := Aside0.mk (IsS105.below (by exact sw105 HI0.out) hb); have n5_ := Aside0.mk (KeepBut.trans (by exact kw HK.out) (KeepBut.of_below hb g none) (.inl rfl)); have n6_ := Aside0.mk (below_step (by exact bw HB.out) hb); clear HO_899003; clear BK888; clear BK898; clear HI0; clear HK; clear HB; have HO_899003 := n0_; have HO938 := n1_; have BK888 := n2_; have BK898 := n3_; have HI0 := n4_; have HK := n5_; have HB := n6_; clear n0_ n1_ n2_ n3_ n4_ n5_ n6_; clear hb ho65; obtain ⟨Ao66, co66, eo66⟩ := Kd.N_slice HO938.out; subst eo66; have hnb67 := NB888_0.out; have hnc67 := NB0_888.out; have hcz68_0 : w64.cell? ⟨gb888, 0, none⟩ = some (.int .i64 0) := (blk_cell BK888.out 0).trans rfl; have hcz68_1 : w64.cell? ⟨gb888, 1, none⟩ = some (.int .i64 0) := (blk_cell BK888.out 1).trans rfl; have hcz68_2 : w64.cell? ⟨gb888, 2, none⟩ = some (.string (⟨#[]⟩ : ByteArray)) := (blk_cell BK888.out 2).trans rfl; have hcz68_3 : w64.cell? ⟨gb888, 3, none⟩ = some (.slice none 0 0) := (blk_cell BK888.out 3).trans rfl; have hfz68_0 := blk_frozen BK888.out 0; have hfz68_1 := blk_frozen BK888.out 1; have hfz68_2 := blk_frozen BK888.out 2; have hfz68_3 := blk_frozen BK888.out 3))
           refine bodyPost_ret (results_cell_row rfl _ _ gb888 55 #[.int .i64 14, .int .i64 0, .string (⟨#[]⟩ : ByteArray), .slice Ao66 y936.length co66] (0, 0) _ rfl (by (with_reducible repeat (first | refine blk_drewN ?_ _ | refine blk_drew ?_ | refine blk_alloc ?_ _)); refine blk_put (cs := #[.int .i64 14, .int .i64 0, .string (⟨#[]⟩ : ByteArray), .slice none 0 0]) ?_ 3 _ rfl; (with_reducible repeat (first | refine blk_drewN ?_ _ | refine blk_drew ?_ | refine blk_alloc ?_ _)); refine blk_put (cs := #[.int .i64 14, .int .i64 0, .string (⟨#[]⟩ : ByteArray), .slice none 0 0]) ?_ 2 _ rfl; (with_reducible repeat (first | refine blk_drewN ?_ _ | refine blk_drew ?_ | refine blk_alloc ?_ _)); refine blk_put (cs := #[.int .i64 14, .int .i64 0, .string (⟨#[]⟩ : ByteArray), .slice none 0 0]) ?_ 1 _ rfl; (with_reducible repeat (first | refine blk_drewN ?_ _ | refine blk_drew ?_ | refine blk_alloc ?_ _)); refine blk_put (cs := #[.int .i64 0, .int .i64 0, .string (⟨#[]⟩ : ByteArray), .slice none 0 0]) ?_ 0 _ rfl; exact bk BK888.out) Try.underlying55 rfl (by kernel_rfl)) rfl ?_
           exact ⟨_, by first | rfl | (simp [errW_none, errW_some] <;> rfl) | (simp [*, errW_none, errW_some] <;> rfl), Kd.N_V (by (with_reducible repeat (first | apply Kd.N_alloc | apply Kd.N_drewN | apply Kd.N_drew)); exact Kd.N_mono (Kd.N_far (p := ⟨gb888, 3, none⟩) (Kd.N_far (p := ⟨gb888, 2, none⟩) (Kd.N_far (p := ⟨gb888, 1, none⟩) (Kd.N_far (p := ⟨gb888, 0, none⟩) (Kd.N_mono HO938.out (fun k_ hk => (⟨hk, okp hk⟩ : _ ∧ k_ ≠ gb888))) (fun _ hk => hk.2) (.int .i64 14)) (fun _ hk => hk.2) (.int .i64 0)) (fun _ hk => hk.2) (.string (⟨#[]⟩ : ByteArray))) (fun _ hk => hk.2) (.slice Ao66 y936.length co66)) (fun _ hk => hk.1.1)), by exact sw105 HI0.out, by exact bw HB.out, by exact kw HK.out⟩
          ·
           rw [if_neg c60] at H
           have c60b0 : (x15_16 == 4) = false := beq_eq_false_iff_ne.mpr c60
           have c60b1 : (x15_16 != 4) = true := bne_iff_ne.mpr c60
           obtain ⟨y939, hy939⟩ : ∃ y_ : List (S55), y_ = (([(⟨t891, t892, t893, t894⟩ : S55)] : List (S55))) := ⟨_, rfl⟩
           replace H : (some (9, 0, (⟨#[65]⟩ : ByteArray), y939, x1001_16)) = some (r1, r2, r3, r4, r5) := by first | (rw [hy939]; with_reducible exact H) | (have H2_ := (Option.bind_some _ _).symm.trans H; rw [hy939]; with_reducible exact H2_) | (have H2_ := (Option.bind_some _ _).symm.trans H; with_reducible exact H2_) | with_reducible exact H | (rw [hy939]; exact H) | exact H
           have Ny939 := Aside0.mk hy939
           clear hy939
           simp only [Option.some.injEq, Prod.mk.injEq] at H
           obtain ⟨rfl, rfl, rfl, rfl, rfl⟩ := H
           have hnb69 := NB898_888.out
           have hnc69 := NB888_898.out
           have hnb70 := NB898_0.out
           have hnc70 := NB0_898.out
           have hcz71_0 : wc.cell? ⟨gb898, 0, none⟩ = some (.int .i64 t891) := (blk_cell BK898.out 0).trans rfl
           have hcz71_1 : wc.cell? ⟨gb898, 1, none⟩ = some (.int .i64 t892) := (blk_cell BK898.out 1).trans rfl
           have hcz71_2 : wc.cell? ⟨gb898, 2, none⟩ = some (.string t893) := (blk_cell BK898.out 2).trans rfl
           have hcz71_3 : wc.cell? ⟨gb898, 3, none⟩ = some (.slice Ao13 t894.length co13) := (blk_cell BK898.out 3).trans rfl
           have hfz71_0 := blk_frozen BK898.out 0
           have hfz71_1 := blk_frozen BK898.out 1
           have hfz71_2 := blk_frozen BK898.out 2
           have hfz71_3 := blk_frozen BK898.out 3
           go_wp2_with (first | ((with_reducible refine gate_dst (N := 17) rfl ?_); refine Kd.N_lit k55 _ 55 ?hg (N' := 17) ?hd (xs := ([(⟨t891, t892, t893, t894⟩ : S55)] : List (S55))) (inner := [.int .i64 t891, .int .i64 t892, .string t893, .slice Ao13 t894.length co13]) (ok := (fun k_ => (w.heap.size ≤ k_) ∧ k_ ≠ gb888 ∧ k_ ≠ gb898 ∧ k_ ≠ g)) (okp := (fun k_ => (w.heap.size ≤ k_) ∧ k_ ≠ gb888 ∧ k_ ≠ gb898 ∧ k_ ≠ g)) ?hr ?hp (fun _ hk => hk) ((show ∀ k_, wc.heap.size ≤ k_ → (fun k_ => (w.heap.size ≤ k_) ∧ k_ ≠ gb888 ∧ k_ ≠ gb898 ∧ k_ ≠ g) k_ from fun k_ hk => ⟨(Nat.le_trans (keep_size (w := w) (g := g) (row := none) (by exact kw HK.out)) hk), Kd.freshB (g := gb888) (o := .cells #[.int .i64 0, .int .i64 0, .string (⟨#[]⟩ : ByteArray), .slice none 0 0] 55 (0, 0)) (by exact bk BK888.out) k_ hk, Kd.freshB (g := gb898) (o := .cells #[.int .i64 t891, .int .i64 t892, .string t893, .slice Ao13 t894.length co13] 55 (0, 0)) (by exact bk BK898.out) k_ hk, IsS105.fresh (by exact sw105 HI0.out) k_ hk⟩) _ (Nat.le_refl _)) (Below.refl _ _) (Nat.le_refl _) (by simp) ?_; (case hd => rfl); (case hg => rfl); (case hr => first | (go_simp; done) | (go_simp; rfl)); (case hp => exact (Reps.c4 (show Kd.FK k55 _ _ (⟨t891, t892, t893, t894⟩ : S55) [.int .i64 t891, .int .i64 t892, .string t893, .slice Ao13 t894.length co13] from (k55_mkF _ _ (⟨t891, t892, t893, t894⟩ : S55) (Kd.V_reads' (Kd.V_mono (ok' := (fun k_ => (w.heap.size ≤ k_) ∧ k_ ≠ gb888 ∧ k_ ≠ gb898 ∧ k_ ≠ g)) (HO_899003.out) (fun k_ hk => okp hk))).2.1 (Kd.V_F (Kd.V_mono (ok' := (fun k_ => (w.heap.size ≤ k_) ∧ k_ ≠ gb888 ∧ k_ ≠ gb898 ∧ k_ ≠ g)) (HO_899003.out) (fun k_ hk => okp hk))))) (Reps.none _ _))); intro v940 w72 ho73 hb hg_ hnew_; clear hg_ hnew_; (first | rw [← Ny939.out] at ho73 | (simp only [Int.reduceToNat] at ho73; rw [← Ny939.out] at ho73)); have n0_ := Aside0.mk (Kd.V_elder' (by exact Kd.xV HO_899003.out) (Kd.N_base ho73) hb); have n1_ := Aside0.mk (Kd.N_lower ho73 (keep_size (w := w) (g := g) (row := none) (by exact kw HK.out))); have n2_ := Aside0.mk (blk_below (g := gb888) (o := .cells #[.int .i64 0, .int .i64 0, .string (⟨#[]⟩ : ByteArray), .slice none 0 0] 55 (0, 0)) (by exact bk BK888.out) hb); have n3_ := Aside0.mk (blk_below (g := gb898) (o := .cells #[.int .i64 t891, .int .i64 t892, .string t893, .slice Ao13 t894.length co13] 55 (0, 0)) (by exact bk BK898.out) hb); have n4_ := Aside0.mk (IsS105.below (by exact sw105 HI0.out) hb); have n5_ := Aside0.mk (KeepBut.trans (by exact kw HK.out) (KeepBut.of_below hb g none) (.inl rfl)); have n6_ := Aside0.mk (below_step (by exact bw HB.out) hb); clear HO_899003; clear BK888; clear BK898; clear HI0; clear HK; clear HB; have HO_899003 := n0_; have HO941 := n1_; have BK888 := n2_; have BK898 := n3_; have HI0 := n4_; have HK := n5_; have HB := n6_; clear n0_ n1_ n2_ n3_ n4_ n5_ n6_; clear hb ho73; obtain ⟨Ao74, co74, eo74⟩ := Kd.N_slice HO941.out; subst eo74; have hnb75 := NB888_0.out; have hnc75 := NB0_888.out; have hcz76_0 : w72.cell? ⟨gb888, 0, none⟩ = some (.int .i64 0) := (blk_cell BK888.out 0).trans rfl; have hcz76_1 : w72.cell? ⟨gb888, 1, none⟩ = some (.int .i64 0) := (blk_cell BK888.out 1).trans rfl; have hcz76_2 : w72.cell? ⟨gb888, 2, none⟩ = some (.string (⟨#[]⟩ : ByteArray)) := (blk_cell BK888.out 2).trans rfl; have hcz76_3 : w72.cell? ⟨gb888, 3, none⟩ = some (.slice none 0 0) := (blk_cell BK888.out 3).trans rfl; have hfz76_0 := blk_frozen BK888.out 0; have hfz76_1 := blk_frozen BK888.out 1; have hfz76_2 := blk_frozen BK888.out 2; have hfz76_3 := blk_frozen BK888.out 3))
           refine bodyPost_ret (results_cell_row rfl _ _ gb888 55 #[.int .i64 9, .int .i64 0, .string (⟨#[65]⟩ : ByteArray), .slice Ao74 y939.length co74] (0, 0) _ rfl (by (with_reducible repeat (first | refine blk_drewN ?_ _ | refine blk_drew ?_ | refine blk_alloc ?_ _)); refine blk_put (cs := #[.int .i64 9, .int .i64 0, .string (⟨#[65]⟩ : ByteArray), .slice none 0 0]) ?_ 3 _ rfl; (with_reducible repeat (first | refine blk_drewN ?_ _ | refine blk_drew ?_ | refine blk_alloc ?_ _)); refine blk_put (cs := #[.int .i64 9, .int .i64 0, .string (⟨#[]⟩ : ByteArray), .slice none 0 0]) ?_ 2 _ rfl; (with_reducible repeat (first | refine blk_drewN ?_ _ | refine blk_drew ?_ | refine blk_alloc ?_ _)); refine blk_put (cs := #[.int .i64 9, .int .i64 0, .string (⟨#[]⟩ : ByteArray), .slice none 0 0]) ?_ 1 _ rfl; (with_reducible repeat (first | refine blk_drewN ?_ _ | refine blk_drew ?_ | refine blk_alloc ?_ _)); refine blk_put (cs := #[.int .i64 0, .int .i64 0, .string (⟨#[]⟩ : ByteArray), .slice none 0 0]) ?_ 0 _ rfl; exact bk BK888.out) Try.underlying55 rfl (by kernel_rfl)) rfl ?_
           exact ⟨_, by first | rfl | (simp [errW_none, errW_some] <;> rfl) | (simp [*, errW_none, errW_some] <;> rfl), Kd.N_V (by (with_reducible repeat (first | apply Kd.N_alloc | apply Kd.N_drewN | apply Kd.N_drew)); exact Kd.N_mono (Kd.N_far (p := ⟨gb888, 3, none⟩) (Kd.N_far (p := ⟨gb888, 2, none⟩) (Kd.N_far (p := ⟨gb888, 1, none⟩) (Kd.N_far (p := ⟨gb888, 0, none⟩) (Kd.N_mono HO941.out (fun k_ hk => (⟨hk, okp hk⟩ : _ ∧ k_ ≠ gb888))) (fun _ hk => hk.2) (.int .i64 9)) (fun _ hk => hk.2) (.int .i64 0)) (fun _ hk => hk.2) (.string (⟨#[65]⟩ : ByteArray))) (fun _ hk => hk.2) (.slice Ao74 y939.length co74)) (fun _ hk => hk.1.1)), by exact sw105 HI0.out, by exact bw HB.out, by exact kw HK.out⟩
   ·
    replace c16 := Bool.eq_false_iff.mpr c16
    subst c16
    have H1 : (some (t891, t892, t893, t894, x1001_4)) = some (r1, r2, r3, r4, r5) := by rw [if_neg (show ¬ (false = true) by decide)] at H; exact H
    clear H
    have H := H1
    clear H1
    simp only [Option.some.injEq, Prod.mk.injEq] at H
    obtain ⟨rfl, rfl, rfl, rfl, rfl⟩ := H
    have hnb77 := NB898_888.out
    have hnc77 := NB888_898.out
    have hnb78 := NB898_0.out
    have hnc78 := NB0_898.out
    have hcz79_0 : wc.cell? ⟨gb898, 0, none⟩ = some (.int .i64 t891) := (blk_cell BK898.out 0).trans rfl
    have hcz79_1 : wc.cell? ⟨gb898, 1, none⟩ = some (.int .i64 t892) := (blk_cell BK898.out 1).trans rfl
    have hcz79_2 : wc.cell? ⟨gb898, 2, none⟩ = some (.string t893) := (blk_cell BK898.out 2).trans rfl
    have hcz79_3 : wc.cell? ⟨gb898, 3, none⟩ = some (.slice Ao13 t894.length co13) := (blk_cell BK898.out 3).trans rfl
    have hfz79_0 := blk_frozen BK898.out 0
    have hfz79_1 := blk_frozen BK898.out 1
    have hfz79_2 := blk_frozen BK898.out 2
    have hfz79_3 := blk_frozen BK898.out 3
    have hnb80 := NB888_0.out
    have hnc80 := NB0_888.out
    have hcz81_0 : wc.cell? ⟨gb888, 0, none⟩ = some (.int .i64 0) := (blk_cell BK888.out 0).trans rfl
    have hcz81_1 : wc.cell? ⟨gb888, 1, none⟩ = some (.int .i64 0) := (blk_cell BK888.out 1).trans rfl
    have hcz81_2 : wc.cell? ⟨gb888, 2, none⟩ = some (.string (⟨#[]⟩ : ByteArray)) := (blk_cell BK888.out 2).trans rfl
    have hcz81_3 : wc.cell? ⟨gb888, 3, none⟩ = some (.slice none 0 0) := (blk_cell BK888.out 3).trans rfl
    have hfz81_0 := blk_frozen BK888.out 0
    have hfz81_1 := blk_frozen BK888.out 1
    have hfz81_2 := blk_frozen BK888.out 2
    have hfz81_3 := blk_frozen BK888.out 3
    go_wp2
    refine bodyPost_ret (results_cell_row rfl _ _ gb888 55 #[.int .i64 t891, .int .i64 t892, .string t893, .slice Ao13 t894.length co13] (0, 0) _ rfl (by (with_reducible repeat (first | refine blk_drewN ?_ _ | refine blk_drew ?_ | refine blk_alloc ?_ _)); refine blk_put (cs := #[.int .i64 t891, .int .i64 t892, .string t893, .slice none 0 0]) ?_ 3 _ rfl; (with_reducible repeat (first | refine blk_drewN ?_ _ | refine blk_drew ?_ | refine blk_alloc ?_ _)); refine blk_put (cs := #[.int .i64 t891, .int .i64 t892, .string (⟨#[]⟩ : ByteArray), .slice none 0 0]) ?_ 2 _ rfl; (with_reducible repeat (first | refine blk_drewN ?_ _ | refine blk_drew ?_ | refine blk_alloc ?_ _)); refine blk_put (cs := #[.int .i64 t891, .int .i64 0, .string (⟨#[]⟩ : ByteArray), .slice none 0 0]) ?_ 1 _ rfl; (with_reducible repeat (first | refine blk_drewN ?_ _ | refine blk_drew ?_ | refine blk_alloc ?_ _)); refine blk_put (cs := #[.int .i64 0, .int .i64 0, .string (⟨#[]⟩ : ByteArray), .slice none 0 0]) ?_ 0 _ rfl; exact bk BK888.out) Try.underlying55 rfl (by kernel_rfl)) rfl ?_
    exact ⟨_, by first | rfl | (simp [errW_none, errW_some] <;> rfl) | (simp [*, errW_none, errW_some] <;> rfl), by (with_reducible repeat (first | apply Kd.V_alloc | apply Kd.V_drewN | apply Kd.V_drew)); exact Kd.V_mono (Kd.V_far (p := ⟨gb888, 3, none⟩) (Kd.V_far (p := ⟨gb888, 2, none⟩) (Kd.V_far (p := ⟨gb888, 1, none⟩) (Kd.V_far (p := ⟨gb888, 0, none⟩) (Kd.V_mono HO_899003.out (fun k_ hk => (⟨hk, okp hk⟩ : _ ∧ k_ ≠ gb888))) (fun _ hk => hk.2) (.int .i64 t891)) (fun _ hk => hk.2) (.int .i64 t892)) (fun _ hk => hk.2) (.string t893)) (fun _ hk => hk.2) (.slice Ao13 t894.length co13)) (fun _ hk => hk.1.1), by exact sw105 HI0.out, by exact bw HB.out, by exact kw HK.out⟩

end Go.Proofs.Ytejfaenmgdkaoaa.P
