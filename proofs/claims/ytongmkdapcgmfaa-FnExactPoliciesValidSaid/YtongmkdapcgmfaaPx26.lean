-- Written by a program of this session (wip/tool).
import Derived.Test.YtongmkdapcgmfaaPx0
import Derived.Test.YtongmkdapcgmfaaPx19
import Derived.Test.YtongmkdapcgmfaaPx20
import Derived.Test.YtongmkdapcgmfaaPx25
namespace Go.Proofs.Ytongmkdapcgmfaa.P
open Go.RowKit Go.Proofs.YtongmkdapcgmfaaW.PrintWords Go.Proofs.YtongmkdapcgmfaaW.PrintLast Go.Proofs.YtongmkdapcgmfaaW.PrintMore
attribute [local go_sem] max2_int min2_int max_two min_two max_three min_three max_four min_four   -- for this text's walks alone
set_option linter.unusedVariables false
set_option linter.unusedSimpArgs false

/-! ### spec_PolicyValid: function 13 -/
def spec_PolicyValid.f (k : Nat) (a0_0 : ByteArray) (a0_1 : Bool) (a0_2 : Int) (a0_3 : Int) (a0_4 : Int) (a0_5 : Int) (a0_6 : Int) (a0_7 : ByteArray) (l0_8 : List (S25)) : Option (Bool) := (spec_NameValid.f k a0_0).bind fun t492 => (if t492 = true then ((spec_l1In.f a0_2 (-2) 6).bind fun t493 => (if t493 = true then ((spec_l1In.f a0_3 (-1) 6).bind fun t494 => (if t494 = true then ((spec_l1In.f a0_4 1 15).bind fun t495 => (if t495 = true then ((spec_ExprValid.f k a0_5 a0_6 a0_7 l0_8).bind fun t496 => (some t496)) else (some false))) else (some false))) else (some false))) else (some false))
theorem spec_PolicyValid.mono : ∀ a0 a1 a2 a3 a4 a5 a6 a7 a8 k, LeO (spec_PolicyValid.f k a0 a1 a2 a3 a4 a5 a6 a7 a8) (spec_PolicyValid.f (k + 1) a0 a1 a2 a3 a4 a5 a6 a7 a8) := by
 intro a0 a1 a2 a3 a4 a5 a6 a7 a8 k
 unfold spec_PolicyValid.f
 repeat' first
   | (with_reducible exact spec_ExprValid.mono _ _ _ _ _)
   | (with_reducible exact spec_NameValid.mono _ _)
   | (with_reducible exact LeO.refl _)
   | (with_reducible exact LeO.none _)
   | (with_reducible refine LeO.ite ?_ ?_)
   | (with_reducible refine LeO.bind ?_ (fun _ => ?_))
   | exact spec_ExprValid.mono _ _ _ _ _
   | exact spec_NameValid.mono _ _
   | exact LeO.none _
   | refine LeO.ite ?_ ?_
   | refine LeO.bind ?_ (fun _ => ?_)
set_option maxHeartbeats 8000000 in
set_option maxRecDepth 100000 in
theorem spec_PolicyValid.calls (k : Nat) (a0_0 : ByteArray) (a0_1 : Bool) (a0_2 : Int) (a0_3 : Int) (a0_4 : Int) (a0_5 : Int) (a0_6 : Int) (a0_7 : ByteArray) (A0_8 : Option Addr) (c0_8 : Nat) (l0_8 : List (S25)) (r : Bool) (w : World) (hr0_8 : Kd.C k25 w A0_8 l0_8.length l0_8) (hc0_8 : l0_8.length ≤ c0_8) (h : spec_PolicyValid.f k a0_0 a0_1 a0_2 a0_3 a0_4 a0_5 a0_6 a0_7 l0_8 = some r) :
  Calls Try.prog 13 #[.agg #[.string a0_0, .bool a0_1, .int .i64 a0_2, .int .i64 a0_3, .int .i64 a0_4, .int .i64 a0_5, .int .i64 a0_6, .string a0_7, .slice A0_8 l0_8.length c0_8]] w fun e w' => e = .returned (.bool r) ∧ Below w.heap.size w w' := by
 have hu27 := Try.underlying27
 have hu25 := Try.underlying25
 have HR0_8 := Aside0.mk hr0_8
 have HC0_8 := Aside0.mk hc0_8
 clear hr0_8 hc0_8
 have HB := Aside0.mk (Below.refl w.heap.size w)
 have H : ((spec_NameValid.f k a0_0).bind fun t492 => (if t492 = true then ((spec_l1In.f a0_2 (-2) 6).bind fun t493 => (if t493 = true then ((spec_l1In.f a0_3 (-1) 6).bind fun t494 => (if t494 = true then ((spec_l1In.f a0_4 1 15).bind fun t495 => (if t495 = true then ((spec_ExprValid.f k a0_5 a0_6 a0_7 l0_8).bind fun t496 => (some t496)) else (some false))) else (some false))) else (some false))) else (some false))) = some r := h
 clear h
 replace H := Option.bind_eq_some_iff.mp H
 obtain ⟨t492, A20, H⟩ := H
 replace H : (if t492 = true then ((spec_l1In.f a0_2 (-2) 6).bind fun t493 => (if t493 = true then ((spec_l1In.f a0_3 (-1) 6).bind fun t494 => (if t494 = true then ((spec_l1In.f a0_4 1 15).bind fun t495 => (if t495 = true then ((spec_ExprValid.f k a0_5 a0_6 a0_7 l0_8).bind fun t496 => (some t496)) else (some false))) else (some false))) else (some false))) else (some false)) = some r := H
 have A2 := Aside0.mk A20
 clear A20
 by_cases c3 : t492 = true
 ·
  subst c3
  have H1 : ((spec_l1In.f a0_2 (-2) 6).bind fun t493 => (if t493 = true then ((spec_l1In.f a0_3 (-1) 6).bind fun t494 => (if t494 = true then ((spec_l1In.f a0_4 1 15).bind fun t495 => (if t495 = true then ((spec_ExprValid.f k a0_5 a0_6 a0_7 l0_8).bind fun t496 => (some t496)) else (some false))) else (some false))) else (some false))) = some r := by rw [if_pos rfl] at H; exact H
  clear H
  have H := H1
  clear H1
  replace H := Option.bind_eq_some_iff.mp H
  obtain ⟨t493, A40, H⟩ := H
  replace H : (if t493 = true then ((spec_l1In.f a0_3 (-1) 6).bind fun t494 => (if t494 = true then ((spec_l1In.f a0_4 1 15).bind fun t495 => (if t495 = true then ((spec_ExprValid.f k a0_5 a0_6 a0_7 l0_8).bind fun t496 => (some t496)) else (some false))) else (some false))) else (some false)) = some r := H
  have A4 := Aside0.mk A40
  clear A40
  by_cases c5 : t493 = true
  ·
   subst c5
   have H1 : ((spec_l1In.f a0_3 (-1) 6).bind fun t494 => (if t494 = true then ((spec_l1In.f a0_4 1 15).bind fun t495 => (if t495 = true then ((spec_ExprValid.f k a0_5 a0_6 a0_7 l0_8).bind fun t496 => (some t496)) else (some false))) else (some false))) = some r := by rw [if_pos rfl] at H; exact H
   clear H
   have H := H1
   clear H1
   replace H := Option.bind_eq_some_iff.mp H
   obtain ⟨t494, A60, H⟩ := H
   replace H : (if t494 = true then ((spec_l1In.f a0_4 1 15).bind fun t495 => (if t495 = true then ((spec_ExprValid.f k a0_5 a0_6 a0_7 l0_8).bind fun t496 => (some t496)) else (some false))) else (some false)) = some r := H
   have A6 := Aside0.mk A60
   clear A60
   by_cases c7 : t494 = true
   ·
    subst c7
    have H1 : ((spec_l1In.f a0_4 1 15).bind fun t495 => (if t495 = true then ((spec_ExprValid.f k a0_5 a0_6 a0_7 l0_8).bind fun t496 => (some t496)) else (some false))) = some r := by rw [if_pos rfl] at H; exact H
    clear H
    have H := H1
    clear H1
    replace H := Option.bind_eq_some_iff.mp H
    obtain ⟨t495, A80, H⟩ := H
    replace H : (if t495 = true then ((spec_ExprValid.f k a0_5 a0_6 a0_7 l0_8).bind fun t496 => (some t496)) else (some false)) = some r := H
    have A8 := Aside0.mk A80
    clear A80
    by_cases c9 : t495 = true
    ·
     subst c9
     have H1 : ((spec_ExprValid.f k a0_5 a0_6 a0_7 l0_8).bind fun t496 => (some t496)) = some r := by rw [if_pos rfl] at H; exact H
     clear H
     have H := H1
     clear H1
     replace H := Option.bind_eq_some_iff.mp H
     obtain ⟨t496, A100, H⟩ := H
     replace H : (some t496) = some r := H
     have A10 := Aside0.mk A100
     clear A100
     obtain rfl := Option.some.inj H
     go_enter Try.func13, Try.ntmps13
     go_wp2_with (first | ((with_reducible refine gate_dst (N := 1) rfl ?_); refine box_event ?hg (N := 1) ?hd (cs := #[.string a0_0, .bool a0_1, .int .i64 a0_2, .int .i64 a0_3, .int .i64 a0_4, .int .i64 a0_5, .int .i64 a0_6, .string a0_7, .slice A0_8 l0_8.length c0_8]) (t := 27) ?hr ?_; (case hd => rfl); (case hg => rfl); (case hr => first | (go_simp; done) | (go_simp; rfl)); intro gb491 hg w11 hbox hb; have n0_ := Aside0.mk (below_step (by exact bw HB.out) hb); have n1_ := Aside0.mk (hbox); have n2_ := Aside0.mk ((by rw [hg]; exact (below_size (by exact bw HB.out)) : w.heap.size ≤ gb491)); have n3_ := Aside0.mk ((by rw [hg]; exact (below_size (by exact bw HB.out)) : w.heap.size ≤ gb491)); clear HB; have HB := n0_; have BK491 := n1_; have GW491 := n2_; have GE491 := n3_; clear n0_ n1_ n2_ n3_; clear hb hbox hg; have hcz12_0 : w11.cell? ⟨gb491, 0, none⟩ = some (.string a0_0) := (blk_cell BK491.out 0).trans rfl; have hcz12_1 : w11.cell? ⟨gb491, 1, none⟩ = some (.bool a0_1) := (blk_cell BK491.out 1).trans rfl; have hcz12_2 : w11.cell? ⟨gb491, 2, none⟩ = some (.int .i64 a0_2) := (blk_cell BK491.out 2).trans rfl; have hcz12_3 : w11.cell? ⟨gb491, 3, none⟩ = some (.int .i64 a0_3) := (blk_cell BK491.out 3).trans rfl; have hcz12_4 : w11.cell? ⟨gb491, 4, none⟩ = some (.int .i64 a0_4) := (blk_cell BK491.out 4).trans rfl; have hcz12_5 : w11.cell? ⟨gb491, 5, none⟩ = some (.int .i64 a0_5) := (blk_cell BK491.out 5).trans rfl; have hcz12_6 : w11.cell? ⟨gb491, 6, none⟩ = some (.int .i64 a0_6) := (blk_cell BK491.out 6).trans rfl; have hcz12_7 : w11.cell? ⟨gb491, 7, none⟩ = some (.string a0_7) := (blk_cell BK491.out 7).trans rfl; have hcz12_8 : w11.cell? ⟨gb491, 8, none⟩ = some (.slice A0_8 l0_8.length c0_8) := (blk_cell BK491.out 8).trans rfl; have hfz12_0 := blk_frozen BK491.out 0; have hfz12_1 := blk_frozen BK491.out 1; have hfz12_2 := blk_frozen BK491.out 2; have hfz12_3 := blk_frozen BK491.out 3; have hfz12_4 := blk_frozen BK491.out 4; have hfz12_5 := blk_frozen BK491.out 5; have hfz12_6 := blk_frozen BK491.out 6; have hfz12_7 := blk_frozen BK491.out 7; have hfz12_8 := blk_frozen BK491.out 8) | ((with_reducible refine gate_callee (f := 49) rfl ?_); refine gl (some 5) Try.func49 #[.string a0_0] ?_; (with_reducible refine (spec_NameValid.calls k a0_0 true _ A2.out).mono ?_); rintro e w' ⟨rfl, ⟨nd, rfl⟩⟩; refine ⟨_, rfl, ?_⟩) | (go_at_call 50; (with_reducible refine (spec_l1In.calls a0_2 (-2) 6 true _ A4.out).mono ?_); rintro e w' ⟨rfl, ⟨nd, rfl⟩⟩) | (go_at_call 50; (with_reducible refine (spec_l1In.calls a0_3 (-1) 6 true _ A6.out).mono ?_); rintro e w' ⟨rfl, ⟨nd, rfl⟩⟩) | (go_at_call 50; (with_reducible refine (spec_l1In.calls a0_4 1 15 true _ A8.out).mono ?_); rintro e w' ⟨rfl, ⟨nd, rfl⟩⟩) | (go_at_call 51; (with_reducible refine (spec_ExprValid.calls k a0_5 a0_6 a0_7 _ _ l0_8 t496 _ ?side1 ?side2 A10.out).mono ?_); (case side1 => repeat (first | exact (Kd.C_below HR0_8.out (by exact bw HB.out)) | exact HR0_8.out | (with_reducible refine Kd.C_alloc ?_ _) | (with_reducible refine Kd.C_drewN ?_ _) | (with_reducible refine Kd.C_drew ?_))); (case side2 => exact HC0_8.out); rintro e w13 ⟨rfl, hb⟩; have n0_ := Aside0.mk (blk_below (g := gb491) (o := .cells #[.string a0_0, .bool a0_1, .int .i64 a0_2, .int .i64 a0_3, .int .i64 a0_4, .int .i64 a0_5, .int .i64 a0_6, .string a0_7, .slice A0_8 l0_8.length c0_8] 27 (0, 0)) (by exact bk BK491.out) hb); have n1_ := Aside0.mk (below_step (by exact bw HB.out) hb); clear BK491; clear HB; have BK491 := n0_; have HB := n1_; clear n0_ n1_; (try clear hb); (try clear hb2); (try clear hk); (try clear hi)))
     go_ret
     exact ⟨by first | rfl | (simp [errW_none, errW_some] <;> rfl) | (simp [*, errW_none, errW_some] <;> rfl), by exact bw HB.out⟩
    ·
     replace c9 := Bool.eq_false_iff.mpr c9
     subst c9
     have H1 : (some false) = some r := by rw [if_neg (show ¬ (false = true) by decide)] at H; exact H
     clear H
     have H := H1
     clear H1
     obtain rfl := Option.some.inj H
     go_enter Try.func13, Try.ntmps13
     go_wp2_with (first | ((with_reducible refine gate_dst (N := 1) rfl ?_); refine box_event ?hg (N := 1) ?hd (cs := #[.string a0_0, .bool a0_1, .int .i64 a0_2, .int .i64 a0_3, .int .i64 a0_4, .int .i64 a0_5, .int .i64 a0_6, .string a0_7, .slice A0_8 l0_8.length c0_8]) (t := 27) ?hr ?_; (case hd => rfl); (case hg => rfl); (case hr => first | (go_simp; done) | (go_simp; rfl)); intro gb491 hg w14 hbox hb; have n0_ := Aside0.mk (below_step (by exact bw HB.out) hb); have n1_ := Aside0.mk (hbox); have n2_ := Aside0.mk ((by rw [hg]; exact (below_size (by exact bw HB.out)) : w.heap.size ≤ gb491)); have n3_ := Aside0.mk ((by rw [hg]; exact (below_size (by exact bw HB.out)) : w.heap.size ≤ gb491)); clear HB; have HB := n0_; have BK491 := n1_; have GW491 := n2_; have GE491 := n3_; clear n0_ n1_ n2_ n3_; clear hb hbox hg; have hcz15_0 : w14.cell? ⟨gb491, 0, none⟩ = some (.string a0_0) := (blk_cell BK491.out 0).trans rfl; have hcz15_1 : w14.cell? ⟨gb491, 1, none⟩ = some (.bool a0_1) := (blk_cell BK491.out 1).trans rfl; have hcz15_2 : w14.cell? ⟨gb491, 2, none⟩ = some (.int .i64 a0_2) := (blk_cell BK491.out 2).trans rfl; have hcz15_3 : w14.cell? ⟨gb491, 3, none⟩ = some (.int .i64 a0_3) := (blk_cell BK491.out 3).trans rfl; have hcz15_4 : w14.cell? ⟨gb491, 4, none⟩ = some (.int .i64 a0_4) := (blk_cell BK491.out 4).trans rfl; have hcz15_5 : w14.cell? ⟨gb491, 5, none⟩ = some (.int .i64 a0_5) := (blk_cell BK491.out 5).trans rfl; have hcz15_6 : w14.cell? ⟨gb491, 6, none⟩ = some (.int .i64 a0_6) := (blk_cell BK491.out 6).trans rfl; have hcz15_7 : w14.cell? ⟨gb491, 7, none⟩ = some (.string a0_7) := (blk_cell BK491.out 7).trans rfl; have hcz15_8 : w14.cell? ⟨gb491, 8, none⟩ = some (.slice A0_8 l0_8.length c0_8) := (blk_cell BK491.out 8).trans rfl; have hfz15_0 := blk_frozen BK491.out 0; have hfz15_1 := blk_frozen BK491.out 1; have hfz15_2 := blk_frozen BK491.out 2; have hfz15_3 := blk_frozen BK491.out 3; have hfz15_4 := blk_frozen BK491.out 4; have hfz15_5 := blk_frozen BK491.out 5; have hfz15_6 := blk_frozen BK491.out 6; have hfz15_7 := blk_frozen BK491.out 7; have hfz15_8 := blk_frozen BK491.out 8) | ((with_reducible refine gate_callee (f := 49) rfl ?_); refine gl (some 5) Try.func49 #[.string a0_0] ?_; (with_reducible refine (spec_NameValid.calls k a0_0 true _ A2.out).mono ?_); rintro e w' ⟨rfl, ⟨nd, rfl⟩⟩; refine ⟨_, rfl, ?_⟩) | (go_at_call 50; (with_reducible refine (spec_l1In.calls a0_2 (-2) 6 true _ A4.out).mono ?_); rintro e w' ⟨rfl, ⟨nd, rfl⟩⟩) | (go_at_call 50; (with_reducible refine (spec_l1In.calls a0_3 (-1) 6 true _ A6.out).mono ?_); rintro e w' ⟨rfl, ⟨nd, rfl⟩⟩) | (go_at_call 50; (with_reducible refine (spec_l1In.calls a0_4 1 15 false _ A8.out).mono ?_); rintro e w' ⟨rfl, ⟨nd, rfl⟩⟩))
     go_ret
     exact ⟨by first | rfl | (simp [errW_none, errW_some] <;> rfl) | (simp [*, errW_none, errW_some] <;> rfl), by exact bw HB.out⟩
   ·
    replace c7 := Bool.eq_false_iff.mpr c7
    subst c7
    have H1 : (some false) = some r := by rw [if_neg (show ¬ (false = true) by decide)] at H; exact H
    clear H
    have H := H1
    clear H1
    obtain rfl := Option.some.inj H
    go_enter Try.func13, Try.ntmps13
    go_wp2_with (first | ((with_reducible refine gate_dst (N := 1) rfl ?_); refine box_event ?hg (N := 1) ?hd (cs := #[.string a0_0, .bool a0_1, .int .i64 a0_2, .int .i64 a0_3, .int .i64 a0_4, .int .i64 a0_5, .int .i64 a0_6, .string a0_7, .slice A0_8 l0_8.length c0_8]) (t := 27) ?hr ?_; (case hd => rfl); (case hg => rfl); (case hr => first | (go_simp; done) | (go_simp; rfl)); intro gb491 hg w16 hbox hb; have n0_ := Aside0.mk (below_step (by exact bw HB.out) hb); have n1_ := Aside0.mk (hbox); have n2_ := Aside0.mk ((by rw [hg]; exact (below_size (by exact bw HB.out)) : w.heap.size ≤ gb491)); have n3_ := Aside0.mk ((by rw [hg]; exact (below_size (by exact bw HB.out)) : w.heap.size ≤ gb491)); clear HB; have HB := n0_; have BK491 := n1_; have GW491 := n2_; have GE491 := n3_; clear n0_ n1_ n2_ n3_; clear hb hbox hg; have hcz17_0 : w16.cell? ⟨gb491, 0, none⟩ = some (.string a0_0) := (blk_cell BK491.out 0).trans rfl; have hcz17_1 : w16.cell? ⟨gb491, 1, none⟩ = some (.bool a0_1) := (blk_cell BK491.out 1).trans rfl; have hcz17_2 : w16.cell? ⟨gb491, 2, none⟩ = some (.int .i64 a0_2) := (blk_cell BK491.out 2).trans rfl; have hcz17_3 : w16.cell? ⟨gb491, 3, none⟩ = some (.int .i64 a0_3) := (blk_cell BK491.out 3).trans rfl; have hcz17_4 : w16.cell? ⟨gb491, 4, none⟩ = some (.int .i64 a0_4) := (blk_cell BK491.out 4).trans rfl; have hcz17_5 : w16.cell? ⟨gb491, 5, none⟩ = some (.int .i64 a0_5) := (blk_cell BK491.out 5).trans rfl; have hcz17_6 : w16.cell? ⟨gb491, 6, none⟩ = some (.int .i64 a0_6) := (blk_cell BK491.out 6).trans rfl; have hcz17_7 : w16.cell? ⟨gb491, 7, none⟩ = some (.string a0_7) := (blk_cell BK491.out 7).trans rfl; have hcz17_8 : w16.cell? ⟨gb491, 8, none⟩ = some (.slice A0_8 l0_8.length c0_8) := (blk_cell BK491.out 8).trans rfl; have hfz17_0 := blk_frozen BK491.out 0; have hfz17_1 := blk_frozen BK491.out 1; have hfz17_2 := blk_frozen BK491.out 2; have hfz17_3 := blk_frozen BK491.out 3; have hfz17_4 := blk_frozen BK491.out 4; have hfz17_5 := blk_frozen BK491.out 5; have hfz17_6 := blk_frozen BK491.out 6; have hfz17_7 := blk_frozen BK491.out 7; have hfz17_8 := blk_frozen BK491.out 8) | ((with_reducible refine gate_callee (f := 49) rfl ?_); refine gl (some 5) Try.func49 #[.string a0_0] ?_; (with_reducible refine (spec_NameValid.calls k a0_0 true _ A2.out).mono ?_); rintro e w' ⟨rfl, ⟨nd, rfl⟩⟩; refine ⟨_, rfl, ?_⟩) | (go_at_call 50; (with_reducible refine (spec_l1In.calls a0_2 (-2) 6 true _ A4.out).mono ?_); rintro e w' ⟨rfl, ⟨nd, rfl⟩⟩) | (go_at_call 50; (with_reducible refine (spec_l1In.calls a0_3 (-1) 6 false _ A6.out).mono ?_); rintro e w' ⟨rfl, ⟨nd, rfl⟩⟩))
    go_ret
    exact ⟨by first | rfl | (simp [errW_none, errW_some] <;> rfl) | (simp [*, errW_none, errW_some] <;> rfl), by exact bw HB.out⟩
  ·
   replace c5 := Bool.eq_false_iff.mpr c5
   subst c5
   have H1 : (some false) = some r := by rw [if_neg (show ¬ (false = true) by decide)] at H; exact H
   clear H
   have H := H1
   clear H1
   obtain rfl := Option.some.inj H
   go_enter Try.func13, Try.ntmps13
   go_wp2_with (first | ((with_reducible refine gate_dst (N := 1) rfl ?_); refine box_event ?hg (N := 1) ?hd (cs := #[.string a0_0, .bool a0_1, .int .i64 a0_2, .int .i64 a0_3, .int .i64 a0_4, .int .i64 a0_5, .int .i64 a0_6, .string a0_7, .slice A0_8 l0_8.length c0_8]) (t := 27) ?hr ?_; (case hd => rfl); (case hg => rfl); (case hr => first | (go_simp; done) | (go_simp; rfl)); intro gb491 hg w18 hbox hb; have n0_ := Aside0.mk (below_step (by exact bw HB.out) hb); have n1_ := Aside0.mk (hbox); have n2_ := Aside0.mk ((by rw [hg]; exact (below_size (by exact bw HB.out)) : w.heap.size ≤ gb491)); have n3_ := Aside0.mk ((by rw [hg]; exact (below_size (by exact bw HB.out)) : w.heap.size ≤ gb491)); clear HB; have HB := n0_; have BK491 := n1_; have GW491 := n2_; have GE491 := n3_; clear n0_ n1_ n2_ n3_; clear hb hbox hg; have hcz19_0 : w18.cell? ⟨gb491, 0, none⟩ = some (.string a0_0) := (blk_cell BK491.out 0).trans rfl; have hcz19_1 : w18.cell? ⟨gb491, 1, none⟩ = some (.bool a0_1) := (blk_cell BK491.out 1).trans rfl; have hcz19_2 : w18.cell? ⟨gb491, 2, none⟩ = some (.int .i64 a0_2) := (blk_cell BK491.out 2).trans rfl; have hcz19_3 : w18.cell? ⟨gb491, 3, none⟩ = some (.int .i64 a0_3) := (blk_cell BK491.out 3).trans rfl; have hcz19_4 : w18.cell? ⟨gb491, 4, none⟩ = some (.int .i64 a0_4) := (blk_cell BK491.out 4).trans rfl; have hcz19_5 : w18.cell? ⟨gb491, 5, none⟩ = some (.int .i64 a0_5) := (blk_cell BK491.out 5).trans rfl; have hcz19_6 : w18.cell? ⟨gb491, 6, none⟩ = some (.int .i64 a0_6) := (blk_cell BK491.out 6).trans rfl; have hcz19_7 : w18.cell? ⟨gb491, 7, none⟩ = some (.string a0_7) := (blk_cell BK491.out 7).trans rfl; have hcz19_8 : w18.cell? ⟨gb491, 8, none⟩ = some (.slice A0_8 l0_8.length c0_8) := (blk_cell BK491.out 8).trans rfl; have hfz19_0 := blk_frozen BK491.out 0; have hfz19_1 := blk_frozen BK491.out 1; have hfz19_2 := blk_frozen BK491.out 2; have hfz19_3 := blk_frozen BK491.out 3; have hfz19_4 := blk_frozen BK491.out 4; have hfz19_5 := blk_frozen BK491.out 5; have hfz19_6 := blk_frozen BK491.out 6; have hfz19_7 := blk_frozen BK491.out 7; have hfz19_8 := blk_frozen BK491.out 8) | ((with_reducible refine gate_callee (f := 49) rfl ?_); refine gl (some 5) Try.func49 #[.string a0_0] ?_; (with_reducible refine (spec_NameValid.calls k a0_0 true _ A2.out).mono ?_); rintro e w' ⟨rfl, ⟨nd, rfl⟩⟩; refine ⟨_, rfl, ?_⟩) | (go_at_call 50; (with_reducible refine (spec_l1In.calls a0_2 (-2) 6 false _ A4.out).mono ?_); rintro e w' ⟨rfl, ⟨nd, rfl⟩⟩))
   go_ret
   exact ⟨by first | rfl | (simp [errW_none, errW_some] <;> rfl) | (simp [*, errW_none, errW_some] <;> rfl), by exact bw HB.out⟩
 ·
  replace c3 := Bool.eq_false_iff.mpr c3
  subst c3
  have H1 : (some false) = some r := by rw [if_neg (show ¬ (false = true) by decide)] at H; exact H
  clear H
  have H := H1
  clear H1
  obtain rfl := Option.some.inj H
  go_enter Try.func13, Try.ntmps13
  go_wp2_with (first | ((with_reducible refine gate_dst (N := 1) rfl ?_); refine box_event ?hg (N := 1) ?hd (cs := #[.string a0_0, .bool a0_1, .int .i64 a0_2, .int .i64 a0_3, .int .i64 a0_4, .int .i64 a0_5, .int .i64 a0_6, .string a0_7, .slice A0_8 l0_8.length c0_8]) (t := 27) ?hr ?_; (case hd => rfl); (case hg => rfl); (case hr => first | (go_simp; done) | (go_simp; rfl)); intro gb491 hg w20 hbox hb; have n0_ := Aside0.mk (below_step (by exact bw HB.out) hb); have n1_ := Aside0.mk (hbox); have n2_ := Aside0.mk ((by rw [hg]; exact (below_size (by exact bw HB.out)) : w.heap.size ≤ gb491)); have n3_ := Aside0.mk ((by rw [hg]; exact (below_size (by exact bw HB.out)) : w.heap.size ≤ gb491)); clear HB; have HB := n0_; have BK491 := n1_; have GW491 := n2_; have GE491 := n3_; clear n0_ n1_ n2_ n3_; clear hb hbox hg; have hcz21_0 : w20.cell? ⟨gb491, 0, none⟩ = some (.string a0_0) := (blk_cell BK491.out 0).trans rfl; have hcz21_1 : w20.cell? ⟨gb491, 1, none⟩ = some (.bool a0_1) := (blk_cell BK491.out 1).trans rfl; have hcz21_2 : w20.cell? ⟨gb491, 2, none⟩ = some (.int .i64 a0_2) := (blk_cell BK491.out 2).trans rfl; have hcz21_3 : w20.cell? ⟨gb491, 3, none⟩ = some (.int .i64 a0_3) := (blk_cell BK491.out 3).trans rfl; have hcz21_4 : w20.cell? ⟨gb491, 4, none⟩ = some (.int .i64 a0_4) := (blk_cell BK491.out 4).trans rfl; have hcz21_5 : w20.cell? ⟨gb491, 5, none⟩ = some (.int .i64 a0_5) := (blk_cell BK491.out 5).trans rfl; have hcz21_6 : w20.cell? ⟨gb491, 6, none⟩ = some (.int .i64 a0_6) := (blk_cell BK491.out 6).trans rfl; have hcz21_7 : w20.cell? ⟨gb491, 7, none⟩ = some (.string a0_7) := (blk_cell BK491.out 7).trans rfl; have hcz21_8 : w20.cell? ⟨gb491, 8, none⟩ = some (.slice A0_8 l0_8.length c0_8) := (blk_cell BK491.out 8).trans rfl; have hfz21_0 := blk_frozen BK491.out 0; have hfz21_1 := blk_frozen BK491.out 1; have hfz21_2 := blk_frozen BK491.out 2; have hfz21_3 := blk_frozen BK491.out 3; have hfz21_4 := blk_frozen BK491.out 4; have hfz21_5 := blk_frozen BK491.out 5; have hfz21_6 := blk_frozen BK491.out 6; have hfz21_7 := blk_frozen BK491.out 7; have hfz21_8 := blk_frozen BK491.out 8) | ((with_reducible refine gate_callee (f := 49) rfl ?_); refine gl (some 5) Try.func49 #[.string a0_0] ?_; (with_reducible refine (spec_NameValid.calls k a0_0 false _ A2.out).mono ?_); rintro e w' ⟨rfl, ⟨nd, rfl⟩⟩; refine ⟨_, rfl, ?_⟩))
  go_ret
  exact ⟨by first | rfl | (simp [errW_none, errW_some] <;> rfl) | (simp [*, errW_none, errW_some] <;> rfl), by exact bw HB.out⟩

end Go.Proofs.Ytongmkdapcgmfaa.P
