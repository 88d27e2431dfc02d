-- Written by a program of this session (wip/tool).
import Derived.Shelf.Abstract
import Derived.Test.YtipoeghieeafjaaPx0
import Derived.Test.YtipoeghieeafjaaPx1014
import Derived.Test.YtipoeghieeafjaaPx1079
import Derived.Test.YtipoeghieeafjaaPx1085
namespace Go.Proofs.Ytipoeghieeafjaa.P
open Go.RowKit Go.Proofs.YtipoeghieeafjaaW.PrintWords Go.Proofs.YtipoeghieeafjaaW.PrintLast Go.Proofs.YtipoeghieeafjaaW.PrintMore
attribute [local go_sem] max2_int min2_int max_two min_two max_three min_three max_four min_four   -- for this text's walks alone
set_option linter.unusedVariables false
set_option linter.unusedSimpArgs false

/-! ### impl_ExprValid: function 51 -/
def impl_ExprValid.f (k : Nat) (a0_0 : Int) (a0_1 : Int) (a0_2 : ByteArray) (l0_3 : List (S43)) : Option (Bool) := (impl_Expr_size.f k a0_0 a0_1 a0_2 l0_3 7).bind fun t311 => ((impl_in.f t311 1 40).bind fun t312 => (some t312))
theorem impl_ExprValid.mono : ∀ a0 a1 a2 a3 k, LeO (impl_ExprValid.f k a0 a1 a2 a3) (impl_ExprValid.f (k + 1) a0 a1 a2 a3) := by
 intro a0 a1 a2 a3 k
 unfold impl_ExprValid.f
 repeat' first
   | (with_reducible exact impl_Expr_size.mono _ _ _ _ _ _)
   | (with_reducible exact LeO.refl _)
   | (with_reducible exact LeO.none _)
   | (with_reducible refine LeO.ite ?_ ?_)
   | (with_reducible refine LeO.bind ?_ (fun _ => ?_))
   | exact impl_Expr_size.mono _ _ _ _ _ _
   | exact LeO.none _
   | refine LeO.ite ?_ ?_
   | refine LeO.bind ?_ (fun _ => ?_)
set_option maxHeartbeats 8000000 in
set_option maxRecDepth 100000 in
theorem impl_ExprValid.calls (k : Nat) (a0_0 : Int) (a0_1 : Int) (a0_2 : ByteArray) (A0_3 : Option Addr) (c0_3 : Nat) (l0_3 : List (S43)) (r : Bool) (w : World) (hr0_3 : Kd.C k43 w A0_3 l0_3.length l0_3) (hc0_3 : l0_3.length ≤ c0_3) (h : impl_ExprValid.f k a0_0 a0_1 a0_2 l0_3 = some r) :
  Calls Try.prog 51 #[.agg #[.int .i64 a0_0, .int .i64 a0_1, .string a0_2, .slice A0_3 l0_3.length c0_3]] w fun e w' => e = .returned (.bool r) ∧ Below w.heap.size w w' := by
 have hu43 := Try.underlying43
 have HR0_3 := Aside0.mk hr0_3
 have HC0_3 := Aside0.mk hc0_3
 clear hr0_3 hc0_3
 have HB := Aside0.mk (Below.refl w.heap.size w)
 have H : ((impl_Expr_size.f k a0_0 a0_1 a0_2 l0_3 7).bind fun t311 => ((impl_in.f t311 1 40).bind fun t312 => (some t312))) = some r := h
 clear h
 replace H := Option.bind_eq_some_iff.mp H
 obtain ⟨t311, A20, H⟩ := H
 replace H : ((impl_in.f t311 1 40).bind fun t312 => (some t312)) = some r := H
 have A2 := Aside0.mk A20
 clear A20
 replace H := Option.bind_eq_some_iff.mp H
 obtain ⟨t312, A30, H⟩ := H
 replace H : (some t312) = some r := H
 have A3 := Aside0.mk A30
 clear A30
 obtain rfl := Option.some.inj H
 go_enter Try.func51, Try.ntmps51
 go_wp2_with (first | ((with_reducible refine gate_dst (N := 1) rfl ?_); refine bx 1 #[.int .i64 a0_0, .int .i64 a0_1, .string a0_2, .slice A0_3 l0_3.length c0_3] 43 ?_; intro gb310 hg w4 hbox hb; have BK310 := Aside0.mk (hbox); have GW310 := gwB HB hg; have GE310 := gwB HB hg; replace HB := bS HB hb; clear hb hbox hg; obtain ⟨hcz5_0, hcz5_1, hcz5_2, hcz5_3⟩ := cs4 BK310.out; obtain ⟨hfz5_0, hfz5_1, hfz5_2, hfz5_3⟩ := fz4 BK310.out) | ((with_reducible refine gate_callee (f := 79) rfl ?_); refine gl (some 4) Try.func79 #[.agg #[.int .i64 a0_0, .int .i64 a0_1, .string a0_2, .slice A0_3 l0_3.length c0_3], .int .i64 7] ?_; (with_reducible refine (impl_Expr_size.calls k a0_0 a0_1 a0_2 _ _ l0_3 7 t311 _ ?side1 ?side2 A2.out).mono ?_); (case side1 => repeat (first | exact (Kd.C_below HR0_3.out HB.out) | (with_reducible refine Kd.C_alloc ?_ _) | (with_reducible refine Kd.C_drewN ?_ _) | (with_reducible refine Kd.C_drew ?_))); (case side2 => exact HC0_3.out); rintro e w6 ⟨rfl, hb⟩; refine ⟨_, rfl, ?_⟩; replace BK310 := bB BK310 hb; replace HB := bS HB hb; (try clear hb); (try clear hb2); (try clear hk); (try clear hi)) | ((with_reducible refine gate_callee (f := 69) rfl ?_); refine gl (some 5) Try.func69 #[.int .i64 t311, .int .i64 1, .int .i64 40] ?_; (with_reducible refine (impl_in.calls t311 1 40 t312 _ A3.out).mono ?_); rintro e w' ⟨rfl, ⟨nd, rfl⟩⟩; refine ⟨_, rfl, ?_⟩))
 go_ret
 exact ⟨by first | rfl | (simp [errW_none, errW_some] <;> rfl) | (simp [*, errW_none, errW_some] <;> rfl), by exact bw HB.out⟩

/-! ### impl_PolicyValid: function 43 -/
def impl_PolicyValid.f (k : Nat) (a0_0 : ByteArray) (a0_1 : Bool) (a0_2 : Int) (a0_3 : Int) (a0_4 : Int) (a0_5 : Int) (a0_6 : Int) (a0_7 : ByteArray) (l0_8 : List (S43)) : Option (Bool) := (impl_NameValid.f k a0_0).bind fun t314 => (if t314 = true then ((impl_in.f a0_2 (-2) 6).bind fun t315 => (if t315 = true then ((impl_in.f a0_3 (-1) 6).bind fun t316 => (if t316 = true then ((impl_in.f a0_4 1 15).bind fun t317 => (if t317 = true then ((impl_ExprValid.f k a0_5 a0_6 a0_7 l0_8).bind fun t318 => (some t318)) else (some false))) else (some false))) else (some false))) else (some false))
theorem impl_PolicyValid.mono : ∀ a0 a1 a2 a3 a4 a5 a6 a7 a8 k, LeO (impl_PolicyValid.f k a0 a1 a2 a3 a4 a5 a6 a7 a8) (impl_PolicyValid.f (k + 1) a0 a1 a2 a3 a4 a5 a6 a7 a8) := by
 intro a0 a1 a2 a3 a4 a5 a6 a7 a8 k
 unfold impl_PolicyValid.f
 repeat' first
   | (with_reducible exact impl_ExprValid.mono _ _ _ _ _)
   | (with_reducible exact impl_NameValid.mono _ _)
   | (with_reducible exact LeO.refl _)
   | (with_reducible exact LeO.none _)
   | (with_reducible refine LeO.ite ?_ ?_)
   | (with_reducible refine LeO.bind ?_ (fun _ => ?_))
   | exact impl_ExprValid.mono _ _ _ _ _
   | exact impl_NameValid.mono _ _
   | exact LeO.none _
   | refine LeO.ite ?_ ?_
   | refine LeO.bind ?_ (fun _ => ?_)
set_option maxHeartbeats 8000000 in
set_option maxRecDepth 100000 in
theorem impl_PolicyValid.calls (k : Nat) (a0_0 : ByteArray) (a0_1 : Bool) (a0_2 : Int) (a0_3 : Int) (a0_4 : Int) (a0_5 : Int) (a0_6 : Int) (a0_7 : ByteArray) (A0_8 : Option Addr) (c0_8 : Nat) (l0_8 : List (S43)) (r : Bool) (w : World) (hr0_8 : Kd.C k43 w A0_8 l0_8.length l0_8) (hc0_8 : l0_8.length ≤ c0_8) (h : impl_PolicyValid.f k a0_0 a0_1 a0_2 a0_3 a0_4 a0_5 a0_6 a0_7 l0_8 = some r) :
  Calls Try.prog 43 #[.agg #[.string a0_0, .bool a0_1, .int .i64 a0_2, .int .i64 a0_3, .int .i64 a0_4, .int .i64 a0_5, .int .i64 a0_6, .string a0_7, .slice A0_8 l0_8.length c0_8]] w fun e w' => e = .returned (.bool r) ∧ Below w.heap.size w w' := by
 have hu45 := Try.underlying45
 have hu43 := Try.underlying43
 have HR0_8 := Aside0.mk hr0_8
 have HC0_8 := Aside0.mk hc0_8
 clear hr0_8 hc0_8
 have HB := Aside0.mk (Below.refl w.heap.size w)
 have H : ((impl_NameValid.f k a0_0).bind fun t314 => (if t314 = true then ((impl_in.f a0_2 (-2) 6).bind fun t315 => (if t315 = true then ((impl_in.f a0_3 (-1) 6).bind fun t316 => (if t316 = true then ((impl_in.f a0_4 1 15).bind fun t317 => (if t317 = true then ((impl_ExprValid.f k a0_5 a0_6 a0_7 l0_8).bind fun t318 => (some t318)) else (some false))) else (some false))) else (some false))) else (some false))) = some r := h
 clear h
 replace H := Option.bind_eq_some_iff.mp H
 obtain ⟨t314, A20, H⟩ := H
 replace H : (if t314 = true then ((impl_in.f a0_2 (-2) 6).bind fun t315 => (if t315 = true then ((impl_in.f a0_3 (-1) 6).bind fun t316 => (if t316 = true then ((impl_in.f a0_4 1 15).bind fun t317 => (if t317 = true then ((impl_ExprValid.f k a0_5 a0_6 a0_7 l0_8).bind fun t318 => (some t318)) else (some false))) else (some false))) else (some false))) else (some false)) = some r := H
 have A2 := Aside0.mk A20
 clear A20
 by_cases c3 : t314 = true
 ·
  subst c3
  have H1 : ((impl_in.f a0_2 (-2) 6).bind fun t315 => (if t315 = true then ((impl_in.f a0_3 (-1) 6).bind fun t316 => (if t316 = true then ((impl_in.f a0_4 1 15).bind fun t317 => (if t317 = true then ((impl_ExprValid.f k a0_5 a0_6 a0_7 l0_8).bind fun t318 => (some t318)) else (some false))) else (some false))) else (some false))) = some r := by rw [if_pos rfl] at H; exact H
  clear H
  have H := H1
  clear H1
  replace H := Option.bind_eq_some_iff.mp H
  obtain ⟨t315, A40, H⟩ := H
  replace H : (if t315 = true then ((impl_in.f a0_3 (-1) 6).bind fun t316 => (if t316 = true then ((impl_in.f a0_4 1 15).bind fun t317 => (if t317 = true then ((impl_ExprValid.f k a0_5 a0_6 a0_7 l0_8).bind fun t318 => (some t318)) else (some false))) else (some false))) else (some false)) = some r := H
  have A4 := Aside0.mk A40
  clear A40
  by_cases c5 : t315 = true
  ·
   subst c5
   have H1 : ((impl_in.f a0_3 (-1) 6).bind fun t316 => (if t316 = true then ((impl_in.f a0_4 1 15).bind fun t317 => (if t317 = true then ((impl_ExprValid.f k a0_5 a0_6 a0_7 l0_8).bind fun t318 => (some t318)) else (some false))) else (some false))) = some r := by rw [if_pos rfl] at H; exact H
   clear H
   have H := H1
   clear H1
   replace H := Option.bind_eq_some_iff.mp H
   obtain ⟨t316, A60, H⟩ := H
   replace H : (if t316 = true then ((impl_in.f a0_4 1 15).bind fun t317 => (if t317 = true then ((impl_ExprValid.f k a0_5 a0_6 a0_7 l0_8).bind fun t318 => (some t318)) else (some false))) else (some false)) = some r := H
   have A6 := Aside0.mk A60
   clear A60
   by_cases c7 : t316 = true
   ·
    subst c7
    have H1 : ((impl_in.f a0_4 1 15).bind fun t317 => (if t317 = true then ((impl_ExprValid.f k a0_5 a0_6 a0_7 l0_8).bind fun t318 => (some t318)) else (some false))) = some r := by rw [if_pos rfl] at H; exact H
    clear H
    have H := H1
    clear H1
    replace H := Option.bind_eq_some_iff.mp H
    obtain ⟨t317, A80, H⟩ := H
    replace H : (if t317 = true then ((impl_ExprValid.f k a0_5 a0_6 a0_7 l0_8).bind fun t318 => (some t318)) else (some false)) = some r := H
    have A8 := Aside0.mk A80
    clear A80
    by_cases c9 : t317 = true
    ·
     subst c9
     have H1 : ((impl_ExprValid.f k a0_5 a0_6 a0_7 l0_8).bind fun t318 => (some t318)) = some r := by rw [if_pos rfl] at H; exact H
     clear H
     have H := H1
     clear H1
     replace H := Option.bind_eq_some_iff.mp H
     obtain ⟨t318, A100, H⟩ := H
     replace H : (some t318) = some r := H
     have A10 := Aside0.mk A100
     clear A100
     obtain rfl := Option.some.inj H
     go_enter Try.func43, Try.ntmps43
     go_wp2_with (first | ((with_reducible refine gate_dst (N := 1) rfl ?_); refine bx 1 #[.string a0_0, .bool a0_1, .int .i64 a0_2, .int .i64 a0_3, .int .i64 a0_4, .int .i64 a0_5, .int .i64 a0_6, .string a0_7, .slice A0_8 l0_8.length c0_8] 45 ?_; intro gb313 hg w11 hbox hb; have BK313 := Aside0.mk (hbox); have GW313 := gwB HB hg; have GE313 := gwB HB hg; replace HB := bS HB hb; clear hb hbox hg; obtain ⟨hcz12_0, hcz12_1, hcz12_2, hcz12_3, hcz12_4, hcz12_5, hcz12_6, hcz12_7, hcz12_8⟩ := cs9 BK313.out; obtain ⟨hfz12_0, hfz12_1, hfz12_2, hfz12_3, hfz12_4, hfz12_5, hfz12_6, hfz12_7, hfz12_8⟩ := fz9 BK313.out) | ((with_reducible refine gate_callee (f := 68) rfl ?_); refine gl (some 5) Try.func68 #[.string a0_0] ?_; (with_reducible refine (impl_NameValid.calls k a0_0 true _ A2.out).mono ?_); rintro e w' ⟨rfl, ⟨nd, rfl⟩⟩; refine ⟨_, rfl, ?_⟩) | (go_at_call 69; (with_reducible refine (impl_in.calls a0_2 (-2) 6 true _ A4.out).mono ?_); rintro e w' ⟨rfl, ⟨nd, rfl⟩⟩) | (go_at_call 69; (with_reducible refine (impl_in.calls a0_3 (-1) 6 true _ A6.out).mono ?_); rintro e w' ⟨rfl, ⟨nd, rfl⟩⟩) | (go_at_call 69; (with_reducible refine (impl_in.calls a0_4 1 15 true _ A8.out).mono ?_); rintro e w' ⟨rfl, ⟨nd, rfl⟩⟩) | (go_at_call 51; (with_reducible refine (impl_ExprValid.calls k a0_5 a0_6 a0_7 _ _ l0_8 t318 _ ?side1 ?side2 A10.out).mono ?_); (case side1 => repeat (first | exact (Kd.C_below HR0_8.out (by exact bw HB.out)) | exact HR0_8.out | (with_reducible refine Kd.C_alloc ?_ _) | (with_reducible refine Kd.C_drewN ?_ _) | (with_reducible refine Kd.C_drew ?_))); (case side2 => exact HC0_8.out); rintro e w13 ⟨rfl, hb⟩; have n0_ := bB BK313 hb; have n1_ := bS HB hb; clear BK313; clear HB; have BK313 := n0_; have HB := n1_; clear n0_ n1_; (try clear hb); (try clear hb2); (try clear hk); (try clear hi)))
     go_ret
     exact ⟨by first | rfl | (simp [errW_none, errW_some] <;> rfl) | (simp [*, errW_none, errW_some] <;> rfl), by exact bw HB.out⟩
    ·
     replace c9 := Bool.eq_false_iff.mpr c9
     subst c9
     have H1 : (some false) = some r := by rw [if_neg (show ¬ (false = true) by decide)] at H; exact H
     clear H
     have H := H1
     clear H1
     obtain rfl := Option.some.inj H
     go_enter Try.func43, Try.ntmps43
     go_wp2_with (first | ((with_reducible refine gate_dst (N := 1) rfl ?_); refine bx 1 #[.string a0_0, .bool a0_1, .int .i64 a0_2, .int .i64 a0_3, .int .i64 a0_4, .int .i64 a0_5, .int .i64 a0_6, .string a0_7, .slice A0_8 l0_8.length c0_8] 45 ?_; intro gb313 hg w14 hbox hb; have BK313 := Aside0.mk (hbox); have GW313 := gwB HB hg; have GE313 := gwB HB hg; replace HB := bS HB hb; clear hb hbox hg; obtain ⟨hcz15_0, hcz15_1, hcz15_2, hcz15_3, hcz15_4, hcz15_5, hcz15_6, hcz15_7, hcz15_8⟩ := cs9 BK313.out; obtain ⟨hfz15_0, hfz15_1, hfz15_2, hfz15_3, hfz15_4, hfz15_5, hfz15_6, hfz15_7, hfz15_8⟩ := fz9 BK313.out) | ((with_reducible refine gate_callee (f := 68) rfl ?_); refine gl (some 5) Try.func68 #[.string a0_0] ?_; (with_reducible refine (impl_NameValid.calls k a0_0 true _ A2.out).mono ?_); rintro e w' ⟨rfl, ⟨nd, rfl⟩⟩; refine ⟨_, rfl, ?_⟩) | (go_at_call 69; (with_reducible refine (impl_in.calls a0_2 (-2) 6 true _ A4.out).mono ?_); rintro e w' ⟨rfl, ⟨nd, rfl⟩⟩) | (go_at_call 69; (with_reducible refine (impl_in.calls a0_3 (-1) 6 true _ A6.out).mono ?_); rintro e w' ⟨rfl, ⟨nd, rfl⟩⟩) | (go_at_call 69; (with_reducible refine (impl_in.calls a0_4 1 15 false _ A8.out).mono ?_); rintro e w' ⟨rfl, ⟨nd, rfl⟩⟩))
     go_ret
     exact ⟨by first | rfl | (simp [errW_none, errW_some] <;> rfl) | (simp [*, errW_none, errW_some] <;> rfl), by exact bw HB.out⟩
   ·
    replace c7 := Bool.eq_false_iff.mpr c7
    subst c7
    have H1 : (some false) = some r := by rw [if_neg (show ¬ (false = true) by decide)] at H; exact H
    clear H
    have H := H1
    clear H1
    obtain rfl := Option.some.inj H
    go_enter Try.func43, Try.ntmps43
    go_wp2_with (first | ((with_reducible refine gate_dst (N := 1) rfl ?_); refine bx 1 #[.string a0_0, .bool a0_1, .int .i64 a0_2, .int .i64 a0_3, .int .i64 a0_4, .int .i64 a0_5, .int .i64 a0_6, .string a0_7, .slice A0_8 l0_8.length c0_8] 45 ?_; intro gb313 hg w16 hbox hb; have BK313 := Aside0.mk (hbox); have GW313 := gwB HB hg; have GE313 := gwB HB hg; replace HB := bS HB hb; clear hb hbox hg; obtain ⟨hcz17_0, hcz17_1, hcz17_2, hcz17_3, hcz17_4, hcz17_5, hcz17_6, hcz17_7, hcz17_8⟩ := cs9 BK313.out; obtain ⟨hfz17_0, hfz17_1, hfz17_2, hfz17_3, hfz17_4, hfz17_5, hfz17_6, hfz17_7, hfz17_8⟩ := fz9 BK313.out) | ((with_reducible refine gate_callee (f := 68) rfl ?_); refine gl (some 5) Try.func68 #[.string a0_0] ?_; (with_reducible refine (impl_NameValid.calls k a0_0 true _ A2.out).mono ?_); rintro e w' ⟨rfl, ⟨nd, rfl⟩⟩; refine ⟨_, rfl, ?_⟩) | (go_at_call 69; (with_reducible refine (impl_in.calls a0_2 (-2) 6 true _ A4.out).mono ?_); rintro e w' ⟨rfl, ⟨nd, rfl⟩⟩) | (go_at_call 69; (with_reducible refine (impl_in.calls a0_3 (-1) 6 false _ A6.out).mono ?_); rintro e w' ⟨rfl, ⟨nd, rfl⟩⟩))
    go_ret
    exact ⟨by first | rfl | (simp [errW_none, errW_some] <;> rfl) | (simp [*, errW_none, errW_some] <;> rfl), by exact bw HB.out⟩
  ·
   replace c5 := Bool.eq_false_iff.mpr c5
   subst c5
   have H1 : (some false) = some r := by rw [if_neg (show ¬ (false = true) by decide)] at H; exact H
   clear H
   have H := H1
   clear H1
   obtain rfl := Option.some.inj H
   go_enter Try.func43, Try.ntmps43
   go_wp2_with (first | ((with_reducible refine gate_dst (N := 1) rfl ?_); refine bx 1 #[.string a0_0, .bool a0_1, .int .i64 a0_2, .int .i64 a0_3, .int .i64 a0_4, .int .i64 a0_5, .int .i64 a0_6, .string a0_7, .slice A0_8 l0_8.length c0_8] 45 ?_; intro gb313 hg w18 hbox hb; have BK313 := Aside0.mk (hbox); have GW313 := gwB HB hg; have GE313 := gwB HB hg; replace HB := bS HB hb; clear hb hbox hg; obtain ⟨hcz19_0, hcz19_1, hcz19_2, hcz19_3, hcz19_4, hcz19_5, hcz19_6, hcz19_7, hcz19_8⟩ := cs9 BK313.out; obtain ⟨hfz19_0, hfz19_1, hfz19_2, hfz19_3, hfz19_4, hfz19_5, hfz19_6, hfz19_7, hfz19_8⟩ := fz9 BK313.out) | ((with_reducible refine gate_callee (f := 68) rfl ?_); refine gl (some 5) Try.func68 #[.string a0_0] ?_; (with_reducible refine (impl_NameValid.calls k a0_0 true _ A2.out).mono ?_); rintro e w' ⟨rfl, ⟨nd, rfl⟩⟩; refine ⟨_, rfl, ?_⟩) | (go_at_call 69; (with_reducible refine (impl_in.calls a0_2 (-2) 6 false _ A4.out).mono ?_); rintro e w' ⟨rfl, ⟨nd, rfl⟩⟩))
   go_ret
   exact ⟨by first | rfl | (simp [errW_none, errW_some] <;> rfl) | (simp [*, errW_none, errW_some] <;> rfl), by exact bw HB.out⟩
 ·
  replace c3 := Bool.eq_false_iff.mpr c3
  subst c3
  have H1 : (some false) = some r := by rw [if_neg (show ¬ (false = true) by decide)] at H; exact H
  clear H
  have H := H1
  clear H1
  obtain rfl := Option.some.inj H
  go_enter Try.func43, Try.ntmps43
  go_wp2_with (first | ((with_reducible refine gate_dst (N := 1) rfl ?_); refine bx 1 #[.string a0_0, .bool a0_1, .int .i64 a0_2, .int .i64 a0_3, .int .i64 a0_4, .int .i64 a0_5, .int .i64 a0_6, .string a0_7, .slice A0_8 l0_8.length c0_8] 45 ?_; intro gb313 hg w20 hbox hb; have BK313 := Aside0.mk (hbox); have GW313 := gwB HB hg; have GE313 := gwB HB hg; replace HB := bS HB hb; clear hb hbox hg; obtain ⟨hcz21_0, hcz21_1, hcz21_2, hcz21_3, hcz21_4, hcz21_5, hcz21_6, hcz21_7, hcz21_8⟩ := cs9 BK313.out; obtain ⟨hfz21_0, hfz21_1, hfz21_2, hfz21_3, hfz21_4, hfz21_5, hfz21_6, hfz21_7, hfz21_8⟩ := fz9 BK313.out) | ((with_reducible refine gate_callee (f := 68) rfl ?_); refine gl (some 5) Try.func68 #[.string a0_0] ?_; (with_reducible refine (impl_NameValid.calls k a0_0 false _ A2.out).mono ?_); rintro e w' ⟨rfl, ⟨nd, rfl⟩⟩; refine ⟨_, rfl, ?_⟩))
  go_ret
  exact ⟨by first | rfl | (simp [errW_none, errW_some] <;> rfl) | (simp [*, errW_none, errW_some] <;> rfl), by exact bw HB.out⟩

/-! ### impl_isIn: function 84 -/
mutual
def impl_isIn.l0 : Nat → List (S79) → Int → List Int → Int → Option (Bool)
 | 0, _, _, _, _ => none
 | k + 1, x0, x2, x3, x4 => if x4 < (x3.length : Int) then (if 0 ≤ x4 then ((impl_isIn.f k x0 (rd x3 x4) x2).bind fun t1 => (if t1 = true then (some true) else (impl_isIn.l0 k x0 x2 x3 (wrap64 (x4 + 1))))) else (none)) else (some false)
def impl_isIn.f : Nat → List (S79) → Int → Int → Option (Bool)
 | 0, _, _, _ => none
 | k + 1, l0, a1, a2 => if a1 = a2 then (some true) else (if 0 ≤ a1 then (if a1 < (l0.length : Int) then (impl_isIn.l0 k l0 a2 ((rd_T79 l0 a1).f0) 0) else (none)) else (none))
end
theorem impl_isIn.mono_l : ∀ k, (∀ y0 y1 y2 y3, LeO (impl_isIn.l0 k y0 y1 y2 y3) (impl_isIn.l0 (k + 1) y0 y1 y2 y3)) ∧ (∀ y0 y1 y2, LeO (impl_isIn.f k y0 y1 y2) (impl_isIn.f (k + 1) y0 y1 y2))
 | 0 => ⟨fun _ _ _ _ r h => by simp [impl_isIn.l0] at h, fun _ _ _ r h => by simp [impl_isIn.f] at h⟩
 | k + 1 => by
  obtain ⟨ih0, ih1⟩ := impl_isIn.mono_l k
  refine ⟨?_, ?_⟩
  · intro y0 y1 y2 y3
    unfold impl_isIn.l0
    repeat' first
    | exact ih0 _ _ _ _
    | exact ih1 _ _ _
    | exact LeO.refl _
    | refine LeO.ite ?_ ?_
    | refine LeO.bind ?_ (fun _ => ?_)
  · intro y0 y1 y2
    unfold impl_isIn.f
    repeat' first
    | exact ih0 _ _ _ _
    | exact LeO.refl _
    | refine LeO.ite ?_ ?_
theorem impl_isIn.mono : ∀ a0 a1 a2 k, LeO (impl_isIn.f k a0 a1 a2) (impl_isIn.f (k + 1) a0 a1 a2) := fun a0 a1 a2 k => (impl_isIn.mono_l k).2 a0 a1 a2
/-- What the function answers, for fewer rounds than k. -/
def impl_isIn.Told (k : Nat) : Prop := ∀ m, m < k → ∀ (A0 : Option Addr) (c0 : Nat) (l0 : List (S79)) (a1 : Int) (a2 : Int) (r : Bool) (w : World), Kd.C k79 w A0 l0.length l0 → l0.length ≤ c0 → impl_isIn.f m l0 a1 a2 = some r →
  Calls Try.prog 84 #[.slice A0 l0.length c0, .int .i64 a1, .int .i64 a2] w fun e w' => e = .returned (.bool r) ∧ Below w.heap.size w w'
/-- The function literal. -/
theorem impl_isIn.lit {k : Nat} (ih : impl_isIn.Told k) {m : Nat} (hm : m < k) {A0 : Option Addr} {c0 : Nat} {l0 : List (S79)} {a2 x : Int} {r : Bool} {gw gg : Nat} {w : World} (hC : Kd.C k79 w A0 l0.length l0) (hc : l0.length ≤ c0)
    (hw : w.heap[gw]? = some (.cells #[.slice A0 l0.length c0] 35 (0, 0))) (hg : w.heap[gg]? = some (.cells #[.int .i64 a2] 3 (0, 0))) (h : impl_isIn.f m l0 x a2 = some r) :
    Calls Try.prog 95 #[.int .i64 x, .pointer (some ⟨gw, 0, none⟩), .pointer (some ⟨gg, 0, none⟩)] w fun e w' => e = .returned (.bool r) ∧ Below w.heap.size w w' := by
  have h1 : w.cell? ⟨gw, 0, none⟩ = some (.slice A0 l0.length c0) := (blk_cell hw 0).trans rfl
  have h2 : w.cell? ⟨gg, 0, none⟩ = some (.int .i64 a2) := (blk_cell hg 0).trans rfl
  have HC := Aside0.mk hC
  have H := Aside0.mk h
  have HL := Aside0.mk hc
  clear hC hw hg h hc
  go_enter Try.func95, Try.ntmps95
  go_wp2_with (go_at_call 84; refine (ih m hm _ _ _ _ _ _ _ HC.out HL.out H.out).mono ?_; rintro e w' ⟨rfl, hb⟩)
  go_ret
  exact ⟨rfl, hb⟩
theorem impl_isIn.index {k : Nat} (ih : impl_isIn.Told k) {A0 A3 : Option Addr} {c0 c3 : Nat} {l0 : List (S79)} {a2 : Int} {xs : List Int} {r : Bool} {gw gg : Nat} {w : World} (hC : Kd.C k79 w A0 l0.length l0) (hc : l0.length ≤ c0)
    (hw : w.heap[gw]? = some (.cells #[.slice A0 l0.length c0] 35 (0, 0))) (hg : w.heap[gg]? = some (.cells #[.int .i64 a2] 3 (0, 0))) (hX : Kd.C (Kd.int .i64) w A3 xs.length xs) (h : impl_isIn.l0 k l0 a2 xs 0 = some r) :
    Calls Try.prog 96 #[.slice A3 xs.length c3, .func (.func 95) #[] #[.pointer (some ⟨gw, 0, none⟩), .pointer (some ⟨gg, 0, none⟩)]] w fun e w' => (∃ i : Int, e = .returned (.int .i64 i) ∧ decide (0 ≤ i) = r) ∧ Below w.heap.size w w' := by
  have eg : ∀ (args : Array Value) (w : World), (callFunc 95 args).run Try.prog w = .ok (.enter 95 args) w := enters_ Try.func95 (by kernel_rfl) rfl
  have HC := Aside0.mk hC
  have HL := Aside0.mk hc
  have HW := Aside0.mk hw
  have HG := Aside0.mk hg
  have HX := Aside0.mk hX
  have H0 := Aside0.mk h
  have HN := Aside0.mk hX.2.1
  clear hC hc hw hg hX h
  go_enter Try.func96, Try.ntmps96
  go_wp2
  go_loopg [5, 8] k (fun gk _ v8 wr => ∃ (i : Int) (m : Nat), v8 = .int .i64 i ∧ Aside0 (impl_isIn.l0 m l0 a2 xs i = some r) ∧ Aside0 (m ≤ gk) ∧ Aside0 (gk ≤ k) ∧ Aside0 (0 ≤ i) ∧ Aside0 (Below w.heap.size w wr))
  case atStart => exact ⟨0, k, rfl, H0, ⟨Nat.le_refl _⟩, ⟨Nat.le_refl _⟩, ⟨Int.le_refl _⟩, ⟨Below.refl _ w⟩⟩
  case round =>
    obtain ⟨i, m, rfl, H, HM, HK, HI, HB⟩ := hrel
    cases m with
    | zero => exact absurd H.out (by simp [impl_isIn.l0])
    | succ m =>
      have h := H.out
      clear H
      simp only [impl_isIn.l0] at h
      have i0 := HI.out
      have hn := HN.out
      by_cases c1 : i < (xs.length : Int)
      · rw [if_pos c1, if_pos i0] at h
        obtain ⟨b, hb1, hb2⟩ := Option.bind_eq_some_iff.mp h
        clear h
        obtain ⟨ad, e3, hx⟩ := Kd.at_int (Kd.C_below HX.out HB.out) i i0 c1
        cases e3
        have c1b := decide_eq_true c1
        replace i0 := eq_true i0
        replace c1 := eq_true c1
        have hcall := impl_isIn.lit ih (m := m) (by have := HM.out; have := HK.out; omega) (x := rd xs i) (Kd.C_below HC.out HB.out) HL.out (HB.out.block gw (blk_lt HW.out) |>.trans HW.out) (HB.out.block gg (blk_lt HG.out) |>.trans HG.out) hb1
        have HQ := Aside0.mk hb2
        clear hb1 hb2
        cases b with
        | true =>
          go_wp2_with (go_at_fn 95; refine hcall.mono ?_; rintro e w' ⟨rfl, hb'⟩)
          go_ret
          have hr : true = r := by simpa using HQ.out
          subst hr
          exact ⟨⟨i, rfl, decide_eq_true HI.out⟩, below_step HB.out hb'⟩
        | false =>
          go_wp2_with (go_at_fn 95; refine hcall.mono ?_; rintro e w' ⟨rfl, hb'⟩)
          have hr : impl_isIn.l0 m l0 a2 xs (wrap64 (i + 1)) = some r := by simpa using HQ.out
          rw [show wrap64 (i + 1) = i + 1 by have := HI.out; have := of_eq_true c1; unfold wrap64; omega] at hr
          have HR := Aside0.mk hr
          clear hr
          go_roundg m
          case measure => have := HM.out; omega
          case rel => exact ⟨i + 1, m, by rw [show wrap64 (i + 1) = i + 1 by have := HI.out; have := of_eq_true c1; unfold wrap64; omega], HR, ⟨Nat.le_refl _⟩, ⟨by have := HM.out; have := HK.out; omega⟩, ⟨by have := HI.out; omega⟩, ⟨below_step HB.out hb'⟩⟩
      · rw [if_neg c1] at h
        have c1b := decide_eq_false c1
        obtain rfl := Option.some.inj h
        go_wp2
        go_ret
        exact ⟨⟨-1, rfl, by simp⟩, HB.out⟩
theorem impl_isIn.contains {k : Nat} (ih : impl_isIn.Told k) {A0 A3 : Option Addr} {c0 c3 : Nat} {l0 : List (S79)} {a2 : Int} {xs : List Int} {r : Bool} {gw gg : Nat} {w : World} (hC : Kd.C k79 w A0 l0.length l0) (hc : l0.length ≤ c0)
    (hw : w.heap[gw]? = some (.cells #[.slice A0 l0.length c0] 35 (0, 0))) (hg : w.heap[gg]? = some (.cells #[.int .i64 a2] 3 (0, 0))) (hX : Kd.C (Kd.int .i64) w A3 xs.length xs) (h : impl_isIn.l0 k l0 a2 xs 0 = some r) :
    Calls Try.prog 94 #[.slice A3 xs.length c3, .func (.func 95) #[] #[.pointer (some ⟨gw, 0, none⟩), .pointer (some ⟨gg, 0, none⟩)]] w fun e w' => e = .returned (.bool r) ∧ Below w.heap.size w w' := by
  have hi := impl_isIn.index (c3 := c3) ih hC hc hw hg hX h
  clear hC hc hw hg hX h
  go_enter Try.func94, Try.ntmps94
  go_wp2_with (go_at_call 96; refine hi.mono ?_; rintro e w' ⟨⟨i, rfl, rfl⟩, hb⟩)
  go_ret
  exact ⟨rfl, hb⟩
set_option maxHeartbeats 1000000 in
theorem impl_isIn.calls (k : Nat) : ∀ (A0 : Option Addr) (c0 : Nat) (l0 : List (S79)) (a1 : Int) (a2 : Int) (r : Bool) (w : World) (hr0 : Kd.C k79 w A0 l0.length l0) (hc0 : l0.length ≤ c0) (h : impl_isIn.f k l0 a1 a2 = some r),
  Calls Try.prog 84 #[.slice A0 l0.length c0, .int .i64 a1, .int .i64 a2] w fun e w' => e = .returned (.bool r) ∧ Below w.heap.size w w' := by
  induction k using Nat.strongRecOn with
  | _ k ih =>
  intro A0 c0 l0 a1 a2 r w hr0 hc0 h
  cases k with
  | zero => exact absurd h (by simp [impl_isIn.f])
  | succ k =>
  have told : impl_isIn.Told k := fun m hm A0 c0 l0 a1 a2 r w hC hc h => ih m (by omega) A0 c0 l0 a1 a2 r w hC hc h
  clear ih
  simp only [impl_isIn.f] at h
  have HC := Aside0.mk hr0
  have HL := Aside0.mk hc0
  have HN := Aside0.mk hr0.2.1
  by_cases c1 : a1 = a2
  · rw [if_pos c1] at h
    obtain rfl := Option.some.inj h
    subst c1
    clear hr0 hc0 told
    go_enter Try.func84, Try.ntmps84
    go_wp2
    go_ret
    exact ⟨rfl, ((Below.refl _ w).alloc (Nat.le_refl _) _).alloc (by simp) _⟩
  · rw [if_neg c1] at h
    obtain ⟨c1b, -⟩ := eqN c1
    clear c1
    by_cases c2 : 0 ≤ a1
    · rw [if_pos c2] at h
      by_cases c3 : a1 < (l0.length : Int)
      · rw [if_pos c3] at h
        have H := Aside0.mk h
        clear h
        obtain ⟨adR, A3, cc3, A4, cc4, e2, hx0, hx1, hl0, hC0, hl1, hC1⟩ := at_T79 HC.out a1 c2 c3
        cases e2
        have hn := HN.out
        clear hr0 hc0
        replace c2 := eq_true c2
        replace c3 := eq_true c3
        have HT := Aside0.mk told
        have HC0 := Aside0.mk hC0
        clear told hx1 hl0 hl1 hC1 hC0
        go_enter Try.func84, Try.ntmps84
        go_wp2_with (first
          | ((with_reducible refine gate_dst (N := 3) rfl ?_); refine bx 3 #[.slice (some adR) l0.length c0] 35 ?_; intro gw hgw w1 hbox hb; have BW := Aside0.mk hbox; have HB := Aside0.mk hb; clear hgw hbox hb)
          | ((with_reducible refine gate_dst (N := 5) rfl ?_); refine bx 5 #[.int .i64 a2] 3 ?_; intro gg hgg w2 hbox hb; have hg0 : w2.cell? ⟨gg, 0, none⟩ = some (.int .i64 a2) := (blk_cell hbox 0).trans rfl; have BG := Aside0.mk hbox; replace BW := bB BW hb; have hw0 : w2.cell? ⟨gw, 0, none⟩ = some (.slice (some adR) l0.length c0) := (blk_cell BW.out 0).trans rfl; replace HB := bS HB hb; replace hx0 := (HB.out.cell (World.block_lt_of_cell? w _ hx0)).trans hx0; clear hgg hbox hb)
          | (go_at_call 94; refine (impl_isIn.contains (c3 := cc3) HT.out (Kd.C_below HC.out HB.out) HL.out BW.out BG.out (Kd.C_below HC0.out HB.out) H.out).mono ?_; rintro e w' ⟨rfl, hb⟩))
        go_ret
        exact ⟨rfl, below_step HB.out hb⟩
      · rw [if_neg c3] at h
        cases h
    · rw [if_neg c2] at h
      cases h

/-! ### impl_IsIn: function 70 -/
def impl_IsIn.f (k : Nat) (l0 : List (S79)) (a1 : Int) (a2 : Int) : Option (Bool) := (impl_WorldValid.f k l0).bind fun t319 => (if t319 = true then ((impl_isThing.f l0 a1).bind fun t320 => (if t320 = true then ((impl_isThing.f l0 a2).bind fun t321 => (if t321 = true then ((impl_isIn.f k l0 a1 a2).bind fun t322 => (some t322)) else (some false))) else (some false))) else (some false))
theorem impl_IsIn.mono : ∀ a0 a1 a2 k, LeO (impl_IsIn.f k a0 a1 a2) (impl_IsIn.f (k + 1) a0 a1 a2) := by
 intro a0 a1 a2 k
 unfold impl_IsIn.f
 repeat' first
   | (with_reducible exact impl_WorldValid.mono _ _)
   | (with_reducible exact impl_isIn.mono _ _ _ _)
   | (with_reducible exact LeO.refl _)
   | (with_reducible exact LeO.none _)
   | (with_reducible refine LeO.ite ?_ ?_)
   | (with_reducible refine LeO.bind ?_ (fun _ => ?_))
   | exact impl_WorldValid.mono _ _
   | exact impl_isIn.mono _ _ _ _
   | exact LeO.none _
   | refine LeO.ite ?_ ?_
   | refine LeO.bind ?_ (fun _ => ?_)
set_option maxHeartbeats 8000000 in
set_option maxRecDepth 100000 in
theorem impl_IsIn.calls (k : Nat) (A0 : Option Addr) (c0 : Nat) (l0 : List (S79)) (a1 : Int) (a2 : Int) (r : Bool) (w : World) (hr0 : Kd.C k79 w A0 l0.length l0) (hc0 : l0.length ≤ c0) (h : impl_IsIn.f k l0 a1 a2 = some r) :
  Calls Try.prog 70 #[.slice A0 l0.length c0, .int .i64 a1, .int .i64 a2] w fun e w' => e = .returned (.bool r) ∧ Below w.heap.size w w' := by
 have HR0 := Aside0.mk hr0
 have HC0 := Aside0.mk hc0
 clear hr0 hc0
 have HB := Aside0.mk (Below.refl w.heap.size w)
 have H : ((impl_WorldValid.f k l0).bind fun t319 => (if t319 = true then ((impl_isThing.f l0 a1).bind fun t320 => (if t320 = true then ((impl_isThing.f l0 a2).bind fun t321 => (if t321 = true then ((impl_isIn.f k l0 a1 a2).bind fun t322 => (some t322)) else (some false))) else (some false))) else (some false))) = some r := h
 clear h
 replace H := Option.bind_eq_some_iff.mp H
 obtain ⟨t319, A40, H⟩ := H
 replace H : (if t319 = true then ((impl_isThing.f l0 a1).bind fun t320 => (if t320 = true then ((impl_isThing.f l0 a2).bind fun t321 => (if t321 = true then ((impl_isIn.f k l0 a1 a2).bind fun t322 => (some t322)) else (some false))) else (some false))) else (some false)) = some r := H
 have A4 := Aside0.mk A40
 clear A40
 by_cases c5 : t319 = true
 ·
  subst c5
  have H1 : ((impl_isThing.f l0 a1).bind fun t320 => (if t320 = true then ((impl_isThing.f l0 a2).bind fun t321 => (if t321 = true then ((impl_isIn.f k l0 a1 a2).bind fun t322 => (some t322)) else (some false))) else (some false))) = some r := by rw [if_pos rfl] at H; exact H
  clear H
  have H := H1
  clear H1
  replace H := Option.bind_eq_some_iff.mp H
  obtain ⟨t320, A60, H⟩ := H
  replace H : (if t320 = true then ((impl_isThing.f l0 a2).bind fun t321 => (if t321 = true then ((impl_isIn.f k l0 a1 a2).bind fun t322 => (some t322)) else (some false))) else (some false)) = some r := H
  have A6 := Aside0.mk A60
  clear A60
  by_cases c7 : t320 = true
  ·
   subst c7
   have H1 : ((impl_isThing.f l0 a2).bind fun t321 => (if t321 = true then ((impl_isIn.f k l0 a1 a2).bind fun t322 => (some t322)) else (some false))) = some r := by rw [if_pos rfl] at H; exact H
   clear H
   have H := H1
   clear H1
   replace H := Option.bind_eq_some_iff.mp H
   obtain ⟨t321, A80, H⟩ := H
   replace H : (if t321 = true then ((impl_isIn.f k l0 a1 a2).bind fun t322 => (some t322)) else (some false)) = some r := H
   have A8 := Aside0.mk A80
   clear A80
   by_cases c9 : t321 = true
   ·
    subst c9
    have H1 : ((impl_isIn.f k l0 a1 a2).bind fun t322 => (some t322)) = some r := by rw [if_pos rfl] at H; exact H
    clear H
    have H := H1
    clear H1
    replace H := Option.bind_eq_some_iff.mp H
    obtain ⟨t322, A100, H⟩ := H
    replace H : (some t322) = some r := H
    have A10 := Aside0.mk A100
    clear A100
    obtain rfl := Option.some.inj H
    go_enter Try.func70, Try.ntmps70
    go_wp2_with (first | ((with_reducible refine gate_callee (f := 56) rfl ?_); refine gl (some 8) Try.func56 #[.slice A0 l0.length c0] ?_; (with_reducible refine (impl_WorldValid.calls k _ _ l0 true _ ?side1 ?side2 A4.out).mono ?_); (case side1 => repeat (first | exact HR0.out | (with_reducible refine Kd.C_alloc ?_ _) | (with_reducible refine Kd.C_drewN ?_ _) | (with_reducible refine Kd.C_drew ?_))); (case side2 => exact HC0.out); rintro e w11 ⟨rfl, hb⟩; refine ⟨_, rfl, ?_⟩; replace HB := bS HB hb; (try clear hb); (try clear hb2); (try clear hk); (try clear hi)) | (go_at_call 65; (with_reducible refine (impl_isThing.calls _ _ l0 a1 true _ ?side1 ?side2 A6.out).mono ?_); (case side1 => repeat (first | exact (Kd.C_below HR0.out HB.out) | (with_reducible refine Kd.C_alloc ?_ _) | (with_reducible refine Kd.C_drewN ?_ _) | (with_reducible refine Kd.C_drew ?_))); (case side2 => exact HC0.out); rintro e w' ⟨rfl, ⟨nd, rfl⟩⟩) | (go_at_call 65; (with_reducible refine (impl_isThing.calls _ _ l0 a2 true _ ?side1 ?side2 A8.out).mono ?_); (case side1 => repeat (first | exact (Kd.C_below HR0.out (by exact bw HB.out)) | exact HR0.out | (with_reducible refine Kd.C_alloc ?_ _) | (with_reducible refine Kd.C_drewN ?_ _) | (with_reducible refine Kd.C_drew ?_))); (case side2 => exact HC0.out); rintro e w' ⟨rfl, ⟨nd, rfl⟩⟩) | (go_at_call 84; (with_reducible refine (impl_isIn.calls k _ _ l0 a1 a2 t322 _ ?side1 ?side2 A10.out).mono ?_); (case side1 => repeat (first | exact (Kd.C_below HR0.out (by exact bw HB.out)) | exact HR0.out | (with_reducible refine Kd.C_alloc ?_ _) | (with_reducible refine Kd.C_drewN ?_ _) | (with_reducible refine Kd.C_drew ?_))); (case side2 => exact HC0.out); rintro e w12 ⟨rfl, hb⟩; have n0_ := bS HB hb; clear HB; have HB := n0_; clear n0_; (try clear hb); (try clear hb2); (try clear hk); (try clear hi)))
    go_ret
    exact ⟨by first | rfl | (simp [errW_none, errW_some] <;> rfl) | (simp [*, errW_none, errW_some] <;> rfl), by exact bw HB.out⟩
   ·
    replace c9 := Bool.eq_false_iff.mpr c9
    subst c9
    have H1 : (some false) = some r := by rw [if_neg (show ¬ (false = true) by decide)] at H; exact H
    clear H
    have H := H1
    clear H1
    obtain rfl := Option.some.inj H
    go_enter Try.func70, Try.ntmps70
    go_wp2_with (first | ((with_reducible refine gate_callee (f := 56) rfl ?_); refine gl (some 8) Try.func56 #[.slice A0 l0.length c0] ?_; (with_reducible refine (impl_WorldValid.calls k _ _ l0 true _ ?side1 ?side2 A4.out).mono ?_); (case side1 => repeat (first | exact HR0.out | (with_reducible refine Kd.C_alloc ?_ _) | (with_reducible refine Kd.C_drewN ?_ _) | (with_reducible refine Kd.C_drew ?_))); (case side2 => exact HC0.out); rintro e w13 ⟨rfl, hb⟩; refine ⟨_, rfl, ?_⟩; replace HB := bS HB hb; (try clear hb); (try clear hb2); (try clear hk); (try clear hi)) | (go_at_call 65; (with_reducible refine (impl_isThing.calls _ _ l0 a1 true _ ?side1 ?side2 A6.out).mono ?_); (case side1 => repeat (first | exact (Kd.C_below HR0.out HB.out) | (with_reducible refine Kd.C_alloc ?_ _) | (with_reducible refine Kd.C_drewN ?_ _) | (with_reducible refine Kd.C_drew ?_))); (case side2 => exact HC0.out); rintro e w' ⟨rfl, ⟨nd, rfl⟩⟩) | (go_at_call 65; (with_reducible refine (impl_isThing.calls _ _ l0 a2 false _ ?side1 ?side2 A8.out).mono ?_); (case side1 => repeat (first | exact (Kd.C_below HR0.out (by exact bw HB.out)) | exact HR0.out | (with_reducible refine Kd.C_alloc ?_ _) | (with_reducible refine Kd.C_drewN ?_ _) | (with_reducible refine Kd.C_drew ?_))); (case side2 => exact HC0.out); rintro e w' ⟨rfl, ⟨nd, rfl⟩⟩))
    go_ret
    exact ⟨by first | rfl | (simp [errW_none, errW_some] <;> rfl) | (simp [*, errW_none, errW_some] <;> rfl), by exact bw HB.out⟩
  ·
   replace c7 := Bool.eq_false_iff.mpr c7
   subst c7
   have H1 : (some false) = some r := by rw [if_neg (show ¬ (false = true) by decide)] at H; exact H
   clear H
   have H := H1
   clear H1
   obtain rfl := Option.some.inj H
   go_enter Try.func70, Try.ntmps70
   go_wp2_with (first | ((with_reducible refine gate_callee (f := 56) rfl ?_); refine gl (some 8) Try.func56 #[.slice A0 l0.length c0] ?_; (with_reducible refine (impl_WorldValid.calls k _ _ l0 true _ ?side1 ?side2 A4.out).mono ?_); (case side1 => repeat (first | exact HR0.out | (with_reducible refine Kd.C_alloc ?_ _) | (with_reducible refine Kd.C_drewN ?_ _) | (with_reducible refine Kd.C_drew ?_))); (case side2 => exact HC0.out); rintro e w14 ⟨rfl, hb⟩; refine ⟨_, rfl, ?_⟩; replace HB := bS HB hb; (try clear hb); (try clear hb2); (try clear hk); (try clear hi)) | (go_at_call 65; (with_reducible refine (impl_isThing.calls _ _ l0 a1 false _ ?side1 ?side2 A6.out).mono ?_); (case side1 => repeat (first | exact (Kd.C_below HR0.out HB.out) | (with_reducible refine Kd.C_alloc ?_ _) | (with_reducible refine Kd.C_drewN ?_ _) | (with_reducible refine Kd.C_drew ?_))); (case side2 => exact HC0.out); rintro e w' ⟨rfl, ⟨nd, rfl⟩⟩))
   go_ret
   exact ⟨by first | rfl | (simp [errW_none, errW_some] <;> rfl) | (simp [*, errW_none, errW_some] <;> rfl), by exact bw HB.out⟩
 ·
  replace c5 := Bool.eq_false_iff.mpr c5
  subst c5
  have H1 : (some false) = some r := by rw [if_neg (show ¬ (false = true) by decide)] at H; exact H
  clear H
  have H := H1
  clear H1
  obtain rfl := Option.some.inj H
  go_enter Try.func70, Try.ntmps70
  go_wp2_with (first | ((with_reducible refine gate_callee (f := 56) rfl ?_); refine gl (some 8) Try.func56 #[.slice A0 l0.length c0] ?_; (with_reducible refine (impl_WorldValid.calls k _ _ l0 false _ ?side1 ?side2 A4.out).mono ?_); (case side1 => repeat (first | exact HR0.out | (with_reducible refine Kd.C_alloc ?_ _) | (with_reducible refine Kd.C_drewN ?_ _) | (with_reducible refine Kd.C_drew ?_))); (case side2 => exact HC0.out); rintro e w15 ⟨rfl, hb⟩; refine ⟨_, rfl, ?_⟩; replace HB := bS HB hb; (try clear hb); (try clear hb2); (try clear hk); (try clear hi)))
  go_ret
  exact ⟨by first | rfl | (simp [errW_none, errW_some] <;> rfl) | (simp [*, errW_none, errW_some] <;> rfl), by exact bw HB.out⟩

/-! ### impl_scoped: function 44 -/
def impl_scoped.f (k : Nat) (l0 : List (S79)) (a1 : Int) (a2 : Int) : Option (Bool) := if a2 = (-1) then (some true) else ((impl_IsIn.f k l0 a1 a2).bind fun t323 => (some t323))
theorem impl_scoped.mono : ∀ a0 a1 a2 k, LeO (impl_scoped.f k a0 a1 a2) (impl_scoped.f (k + 1) a0 a1 a2) := by
 intro a0 a1 a2 k
 unfold impl_scoped.f
 repeat' first
   | (with_reducible exact impl_IsIn.mono _ _ _ _)
   | (with_reducible exact LeO.refl _)
   | (with_reducible exact LeO.none _)
   | (with_reducible refine LeO.ite ?_ ?_)
   | (with_reducible refine LeO.bind ?_ (fun _ => ?_))
   | exact impl_IsIn.mono _ _ _ _
   | exact LeO.none _
   | refine LeO.ite ?_ ?_
   | refine LeO.bind ?_ (fun _ => ?_)
set_option maxHeartbeats 8000000 in
set_option maxRecDepth 100000 in
theorem impl_scoped.calls (k : Nat) (A0 : Option Addr) (c0 : Nat) (l0 : List (S79)) (a1 : Int) (a2 : Int) (r : Bool) (w : World) (hr0 : Kd.C k79 w A0 l0.length l0) (hc0 : l0.length ≤ c0) (h : impl_scoped.f k l0 a1 a2 = some r) :
  Calls Try.prog 44 #[.slice A0 l0.length c0, .int .i64 a1, .int .i64 a2] w fun e w' => e = .returned (.bool r) ∧ Below w.heap.size w w' := by
 have HR0 := Aside0.mk hr0
 have HC0 := Aside0.mk hc0
 clear hr0 hc0
 have HB := Aside0.mk (Below.refl w.heap.size w)
 have H : (if a2 = (-1) then (some true) else ((impl_IsIn.f k l0 a1 a2).bind fun t323 => (some t323))) = some r := h
 clear h
 by_cases c4 : a2 = (-1)
 ·
  rw [if_pos c4] at H; obtain ⟨c4b0, c4b1⟩ := eqY c4; clear c4
  obtain rfl := Option.some.inj H
  go_enter Try.func44, Try.ntmps44
  go_wp2
  go_ret
  exact ⟨by first | rfl | (simp [errW_none, errW_some] <;> rfl) | (simp [*, errW_none, errW_some] <;> rfl), by exact bw HB.out⟩
 ·
  rw [if_neg c4] at H; obtain ⟨c4b0, c4b1⟩ := eqN c4
  replace H := Option.bind_eq_some_iff.mp H
  obtain ⟨t323, A50, H⟩ := H
  replace H : (some t323) = some r := H
  have A5 := Aside0.mk A50
  clear A50
  obtain rfl := Option.some.inj H
  go_enter Try.func44, Try.ntmps44
  go_wp2_with (first | (go_at_call 70; (with_reducible refine (impl_IsIn.calls k _ _ l0 a1 a2 t323 _ ?side1 ?side2 A5.out).mono ?_); (case side1 => repeat (first | exact HR0.out | (with_reducible refine Kd.C_alloc ?_ _) | (with_reducible refine Kd.C_drewN ?_ _) | (with_reducible refine Kd.C_drew ?_))); (case side2 => exact HC0.out); rintro e w6 ⟨rfl, hb⟩; have n0_ := bS HB hb; clear HB; have HB := n0_; clear n0_; (try clear hb); (try clear hb2); (try clear hk); (try clear hi)))
  go_ret
  exact ⟨by first | rfl | (simp [errW_none, errW_some] <;> rfl) | (simp [*, errW_none, errW_some] <;> rfl), by exact bw HB.out⟩

end Go.Proofs.Ytipoeghieeafjaa.P
