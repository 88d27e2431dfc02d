-- Written by a program of this session (wip/tool).
import Derived.Test.YtacpkmdnoggmoaaPx0
import Derived.Test.YtacpkmdnoggmoaaPx1057
namespace Go.Proofs.Ytacpkmdnoggmoaa.P
open Go.RowKit Go.Proofs.YtacpkmdnoggmoaaW.PrintWords Go.Proofs.YtacpkmdnoggmoaaW.PrintLast Go.Proofs.YtacpkmdnoggmoaaW.PrintMore
attribute [local go_sem] max2_int min2_int max_two min_two max_three min_three max_four min_four   -- for this text's walks alone
set_option linter.unusedVariables false
set_option linter.unusedSimpArgs false

/-! ### laws_eqRequest: function 18 -/
def laws_eqRequest.f (k : Nat) (a0_0 : Int) (a0_1 : Int) (a0_2 : Int) (l0_3 : List (S85)) (a1_0 : Int) (a1_1 : Int) (a1_2 : Int) (l1_3 : List (S85)) : Option (Bool) := if a0_0 = a1_0 then (if a0_1 = a1_1 then (if a0_2 = a1_2 then ((laws_eqFieldS.f k l0_3 l1_3).bind fun t251 => (if t251 = true then (some true) else (some false))) else (some false)) else (some false)) else (some false)
theorem laws_eqRequest.mono : ∀ a0 a1 a2 a3 a4 a5 a6 a7 k, LeO (laws_eqRequest.f k a0 a1 a2 a3 a4 a5 a6 a7) (laws_eqRequest.f (k + 1) a0 a1 a2 a3 a4 a5 a6 a7) := by
 intro a0 a1 a2 a3 a4 a5 a6 a7 k
 unfold laws_eqRequest.f
 repeat' first
   | (with_reducible exact laws_eqFieldS.mono _ _ _)
   | (with_reducible exact LeO.refl _)
   | (with_reducible exact LeO.none _)
   | (with_reducible refine LeO.ite ?_ ?_)
   | (with_reducible refine LeO.bind ?_ (fun _ => ?_))
   | exact laws_eqFieldS.mono _ _ _
   | exact LeO.none _
   | refine LeO.ite ?_ ?_
   | refine LeO.bind ?_ (fun _ => ?_)
set_option maxHeartbeats 8000000 in
set_option maxRecDepth 100000 in
theorem laws_eqRequest.calls (k : Nat) (a0_0 : Int) (a0_1 : Int) (a0_2 : Int) (A0_3 : Option Addr) (c0_3 : Nat) (l0_3 : List (S85)) (a1_0 : Int) (a1_1 : Int) (a1_2 : Int) (A1_3 : Option Addr) (c1_3 : Nat) (l1_3 : List (S85)) (r : Bool) (w : World) (hr0_3 : Kd.C k85 w A0_3 l0_3.length l0_3) (hc0_3 : l0_3.length ≤ c0_3) (hr1_3 : Kd.C k85 w A1_3 l1_3.length l1_3) (hc1_3 : l1_3.length ≤ c1_3) (h : laws_eqRequest.f k a0_0 a0_1 a0_2 l0_3 a1_0 a1_1 a1_2 l1_3 = some r) :
  Calls Try.prog 18 #[.agg #[.int .i64 a0_0, .int .i64 a0_1, .int .i64 a0_2, .slice A0_3 l0_3.length c0_3], .agg #[.int .i64 a1_0, .int .i64 a1_1, .int .i64 a1_2, .slice A1_3 l1_3.length c1_3]] w fun e w' => e = .returned (.bool r) ∧ Below w.heap.size w w' := by
 have hu36 := Try.underlying36
 have HR0_3 := Aside0.mk hr0_3
 have HC0_3 := Aside0.mk hc0_3
 clear hr0_3 hc0_3
 have HR1_3 := Aside0.mk hr1_3
 have HC1_3 := Aside0.mk hc1_3
 clear hr1_3 hc1_3
 have HB := Aside0.mk (Below.refl w.heap.size w)
 have H : (if a0_0 = a1_0 then (if a0_1 = a1_1 then (if a0_2 = a1_2 then ((laws_eqFieldS.f k l0_3 l1_3).bind fun t251 => (if t251 = true then (some true) else (some false))) else (some false)) else (some false)) else (some false)) = some r := h
 clear h
 by_cases c3 : a0_0 = a1_0
 ·
  rw [if_pos c3] at H; obtain ⟨c3b0, c3b1⟩ := eqY c3; clear c3
  by_cases c4 : a0_1 = a1_1
  ·
   rw [if_pos c4] at H; obtain ⟨c4b0, c4b1⟩ := eqY c4; clear c4
   by_cases c5 : a0_2 = a1_2
   ·
    rw [if_pos c5] at H; obtain ⟨c5b0, c5b1⟩ := eqY c5; clear c5
    replace H := Option.bind_eq_some_iff.mp H
    obtain ⟨t251, A60, H⟩ := H
    replace H : (if t251 = true then (some true) else (some false)) = some r := H
    have A6 := Aside0.mk A60
    clear A60
    by_cases c7 : t251 = true
    ·
     subst c7
     have H1 : (some true) = some r := by rw [if_pos rfl] at H; exact H
     clear H
     have H := H1
     clear H1
     obtain rfl := Option.some.inj H
     go_enter Try.func18, Try.ntmps18
     go_wp2_with (first | ((with_reducible refine gate_dst (N := 2) rfl ?_); refine bx 2 #[.int .i64 a0_0, .int .i64 a0_1, .int .i64 a0_2, .slice A0_3 l0_3.length c0_3] 36 ?_; intro gb249 hg w8 hbox hb; have BK249 := Aside0.mk (hbox); have GW249 := gwB HB hg; have GE249 := gwB HB hg; replace HB := bS HB hb; clear hb hbox hg) | ((with_reducible refine gate_dst (N := 3) rfl ?_); refine bx 3 #[.int .i64 a1_0, .int .i64 a1_1, .int .i64 a1_2, .slice A1_3 l1_3.length c1_3] 36 ?_; intro gb250 hg w9 hbox hb; have BK250 := Aside0.mk (hbox); have GW250 := gwB HB hg; have GE250 := gwB HB hg; replace HB := bS HB hb; have NB249_250 := nbL BK249 hg; have NB250_249 := nbR BK249 hg; replace BK249 := bB BK249 hb; clear hb hbox hg; have hnb10 := NB249_250.out; have hnc10 := NB250_249.out; obtain ⟨hcz11_0, hcz11_1, hcz11_2, hcz11_3⟩ := cs4 BK249.out; obtain ⟨hfz11_0, hfz11_1, hfz11_2, hfz11_3⟩ := fz4 BK249.out; obtain ⟨hcz12_0, hcz12_1, hcz12_2, hcz12_3⟩ := cs4 BK250.out; obtain ⟨hfz12_0, hfz12_1, hfz12_2, hfz12_3⟩ := fz4 BK250.out) | ((with_reducible refine gate_callee (f := 32) rfl ?_); refine gl (some 24) Try.func32 #[.slice A0_3 l0_3.length c0_3, .slice A1_3 l1_3.length c1_3] ?_; (with_reducible refine (laws_eqFieldS.calls k _ _ l0_3 _ _ l1_3 true _ ?side1 ?side2 ?side3 ?side4 A6.out).mono ?_); (case side1 => repeat (first | exact (Kd.C_below HR0_3.out HB.out) | (with_reducible refine Kd.C_alloc ?_ _) | (with_reducible refine Kd.C_drewN ?_ _) | (with_reducible refine Kd.C_drew ?_))); (case side2 => exact HC0_3.out); (case side3 => repeat (first | exact (Kd.C_below HR1_3.out HB.out) | (with_reducible refine Kd.C_alloc ?_ _) | (with_reducible refine Kd.C_drewN ?_ _) | (with_reducible refine Kd.C_drew ?_))); (case side4 => exact HC1_3.out); rintro e w13 ⟨rfl, hb⟩; refine ⟨_, rfl, ?_⟩; replace BK249 := bB BK249 hb; replace BK250 := bB BK250 hb; replace HB := bS HB hb; (try clear hb); (try clear hb2); (try clear hk); (try clear hi)))
     go_ret
     exact ⟨by first | rfl | (simp [errW_none, errW_some] <;> rfl) | (simp [*, errW_none, errW_some] <;> rfl), by exact bw HB.out⟩
    ·
     replace c7 := Bool.eq_false_iff.mpr c7
     subst c7
     have H1 : (some false) = some r := by rw [if_neg (show ¬ (false = true) by decide)] at H; exact H
     clear H
     have H := H1
     clear H1
     obtain rfl := Option.some.inj H
     go_enter Try.func18, Try.ntmps18
     go_wp2_with (first | ((with_reducible refine gate_dst (N := 2) rfl ?_); refine bx 2 #[.int .i64 a0_0, .int .i64 a0_1, .int .i64 a0_2, .slice A0_3 l0_3.length c0_3] 36 ?_; intro gb249 hg w14 hbox hb; have BK249 := Aside0.mk (hbox); have GW249 := gwB HB hg; have GE249 := gwB HB hg; replace HB := bS HB hb; clear hb hbox hg) | ((with_reducible refine gate_dst (N := 3) rfl ?_); refine bx 3 #[.int .i64 a1_0, .int .i64 a1_1, .int .i64 a1_2, .slice A1_3 l1_3.length c1_3] 36 ?_; intro gb250 hg w15 hbox hb; have BK250 := Aside0.mk (hbox); have GW250 := gwB HB hg; have GE250 := gwB HB hg; replace HB := bS HB hb; have NB249_250 := nbL BK249 hg; have NB250_249 := nbR BK249 hg; replace BK249 := bB BK249 hb; clear hb hbox hg; have hnb16 := NB249_250.out; have hnc16 := NB250_249.out; obtain ⟨hcz17_0, hcz17_1, hcz17_2, hcz17_3⟩ := cs4 BK249.out; obtain ⟨hfz17_0, hfz17_1, hfz17_2, hfz17_3⟩ := fz4 BK249.out; obtain ⟨hcz18_0, hcz18_1, hcz18_2, hcz18_3⟩ := cs4 BK250.out; obtain ⟨hfz18_0, hfz18_1, hfz18_2, hfz18_3⟩ := fz4 BK250.out) | ((with_reducible refine gate_callee (f := 32) rfl ?_); refine gl (some 24) Try.func32 #[.slice A0_3 l0_3.length c0_3, .slice A1_3 l1_3.length c1_3] ?_; (with_reducible refine (laws_eqFieldS.calls k _ _ l0_3 _ _ l1_3 false _ ?side1 ?side2 ?side3 ?side4 A6.out).mono ?_); (case side1 => repeat (first | exact (Kd.C_below HR0_3.out HB.out) | (with_reducible refine Kd.C_alloc ?_ _) | (with_reducible refine Kd.C_drewN ?_ _) | (with_reducible refine Kd.C_drew ?_))); (case side2 => exact HC0_3.out); (case side3 => repeat (first | exact (Kd.C_below HR1_3.out HB.out) | (with_reducible refine Kd.C_alloc ?_ _) | (with_reducible refine Kd.C_drewN ?_ _) | (with_reducible refine Kd.C_drew ?_))); (case side4 => exact HC1_3.out); rintro e w19 ⟨rfl, hb⟩; refine ⟨_, rfl, ?_⟩; replace BK249 := bB BK249 hb; replace BK250 := bB BK250 hb; replace HB := bS HB hb; (try clear hb); (try clear hb2); (try clear hk); (try clear hi)))
     go_ret
     exact ⟨by first | rfl | (simp [errW_none, errW_some] <;> rfl) | (simp [*, errW_none, errW_some] <;> rfl), by exact bw HB.out⟩
   ·
    rw [if_neg c5] at H; obtain ⟨c5b0, c5b1⟩ := eqN c5
    obtain rfl := Option.some.inj H
    go_enter Try.func18, Try.ntmps18
    go_wp2_with (first | ((with_reducible refine gate_dst (N := 2) rfl ?_); refine bx 2 #[.int .i64 a0_0, .int .i64 a0_1, .int .i64 a0_2, .slice A0_3 l0_3.length c0_3] 36 ?_; intro gb249 hg w20 hbox hb; have BK249 := Aside0.mk (hbox); have GW249 := gwB HB hg; have GE249 := gwB HB hg; replace HB := bS HB hb; clear hb hbox hg) | ((with_reducible refine gate_dst (N := 3) rfl ?_); refine bx 3 #[.int .i64 a1_0, .int .i64 a1_1, .int .i64 a1_2, .slice A1_3 l1_3.length c1_3] 36 ?_; intro gb250 hg w21 hbox hb; have BK250 := Aside0.mk (hbox); have GW250 := gwB HB hg; have GE250 := gwB HB hg; replace HB := bS HB hb; have NB249_250 := nbL BK249 hg; have NB250_249 := nbR BK249 hg; replace BK249 := bB BK249 hb; clear hb hbox hg; have hnb22 := NB249_250.out; have hnc22 := NB250_249.out; obtain ⟨hcz23_0, hcz23_1, hcz23_2, hcz23_3⟩ := cs4 BK249.out; obtain ⟨hfz23_0, hfz23_1, hfz23_2, hfz23_3⟩ := fz4 BK249.out; obtain ⟨hcz24_0, hcz24_1, hcz24_2, hcz24_3⟩ := cs4 BK250.out; obtain ⟨hfz24_0, hfz24_1, hfz24_2, hfz24_3⟩ := fz4 BK250.out))
    go_ret
    exact ⟨by first | rfl | (simp [errW_none, errW_some] <;> rfl) | (simp [*, errW_none, errW_some] <;> rfl), by exact bw HB.out⟩
  ·
   rw [if_neg c4] at H; obtain ⟨c4b0, c4b1⟩ := eqN c4
   obtain rfl := Option.some.inj H
   go_enter Try.func18, Try.ntmps18
   go_wp2_with (first | ((with_reducible refine gate_dst (N := 2) rfl ?_); refine bx 2 #[.int .i64 a0_0, .int .i64 a0_1, .int .i64 a0_2, .slice A0_3 l0_3.length c0_3] 36 ?_; intro gb249 hg w25 hbox hb; have BK249 := Aside0.mk (hbox); have GW249 := gwB HB hg; have GE249 := gwB HB hg; replace HB := bS HB hb; clear hb hbox hg) | ((with_reducible refine gate_dst (N := 3) rfl ?_); refine bx 3 #[.int .i64 a1_0, .int .i64 a1_1, .int .i64 a1_2, .slice A1_3 l1_3.length c1_3] 36 ?_; intro gb250 hg w26 hbox hb; have BK250 := Aside0.mk (hbox); have GW250 := gwB HB hg; have GE250 := gwB HB hg; replace HB := bS HB hb; have NB249_250 := nbL BK249 hg; have NB250_249 := nbR BK249 hg; replace BK249 := bB BK249 hb; clear hb hbox hg; have hnb27 := NB249_250.out; have hnc27 := NB250_249.out; obtain ⟨hcz28_0, hcz28_1, hcz28_2, hcz28_3⟩ := cs4 BK249.out; obtain ⟨hfz28_0, hfz28_1, hfz28_2, hfz28_3⟩ := fz4 BK249.out; obtain ⟨hcz29_0, hcz29_1, hcz29_2, hcz29_3⟩ := cs4 BK250.out; obtain ⟨hfz29_0, hfz29_1, hfz29_2, hfz29_3⟩ := fz4 BK250.out))
   go_ret
   exact ⟨by first | rfl | (simp [errW_none, errW_some] <;> rfl) | (simp [*, errW_none, errW_some] <;> rfl), by exact bw HB.out⟩
 ·
  rw [if_neg c3] at H; obtain ⟨c3b0, c3b1⟩ := eqN c3
  obtain rfl := Option.some.inj H
  go_enter Try.func18, Try.ntmps18
  go_wp2_with (first | ((with_reducible refine gate_dst (N := 2) rfl ?_); refine bx 2 #[.int .i64 a0_0, .int .i64 a0_1, .int .i64 a0_2, .slice A0_3 l0_3.length c0_3] 36 ?_; intro gb249 hg w30 hbox hb; have BK249 := Aside0.mk (hbox); have GW249 := gwB HB hg; have GE249 := gwB HB hg; replace HB := bS HB hb; clear hb hbox hg) | ((with_reducible refine gate_dst (N := 3) rfl ?_); refine bx 3 #[.int .i64 a1_0, .int .i64 a1_1, .int .i64 a1_2, .slice A1_3 l1_3.length c1_3] 36 ?_; intro gb250 hg w31 hbox hb; have BK250 := Aside0.mk (hbox); have GW250 := gwB HB hg; have GE250 := gwB HB hg; replace HB := bS HB hb; have NB249_250 := nbL BK249 hg; have NB250_249 := nbR BK249 hg; replace BK249 := bB BK249 hb; clear hb hbox hg; have hnb32 := NB249_250.out; have hnc32 := NB250_249.out; obtain ⟨hcz33_0, hcz33_1, hcz33_2, hcz33_3⟩ := cs4 BK249.out; obtain ⟨hfz33_0, hfz33_1, hfz33_2, hfz33_3⟩ := fz4 BK249.out; obtain ⟨hcz34_0, hcz34_1, hcz34_2, hcz34_3⟩ := cs4 BK250.out; obtain ⟨hfz34_0, hfz34_1, hfz34_2, hfz34_3⟩ := fz4 BK250.out))
  go_ret
  exact ⟨by first | rfl | (simp [errW_none, errW_some] <;> rfl) | (simp [*, errW_none, errW_some] <;> rfl), by exact bw HB.out⟩

end Go.Proofs.Ytacpkmdnoggmoaa.P
