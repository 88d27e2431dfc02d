-- Written by a program of this session (wip/tool).
import Derived.Test.YtacpkmdnoggmoaaPx0
import Derived.Test.YtacpkmdnoggmoaaPx1011
import Derived.Test.YtacpkmdnoggmoaaPx1042
import Derived.Test.YtacpkmdnoggmoaaPx1044
import Derived.Test.YtacpkmdnoggmoaaPx1050
import Derived.Test.YtacpkmdnoggmoaaPx1052
import Derived.Test.YtacpkmdnoggmoaaPx1053
import Derived.Test.YtacpkmdnoggmoaaPx1057
import Derived.Test.YtacpkmdnoggmoaaPx1069
namespace Go.Proofs.Ytacpkmdnoggmoaa.P
open Go.RowKit Go.Proofs.YtacpkmdnoggmoaaW.PrintWords Go.Proofs.YtacpkmdnoggmoaaW.PrintLast Go.Proofs.YtacpkmdnoggmoaaW.PrintMore
attribute [local go_sem] max2_int min2_int max_two min_two max_three min_three max_four min_four   -- for this text's walks alone
set_option linter.unusedVariables false
set_option linter.unusedSimpArgs false

/-! ### laws_FnExactIsIn: function 3 -/
def laws_FnExactIsIn.f (k : Nat) (l0 : List (S68)) (a1 : Int) (a2 : Int) : Option (Bool) := (laws_szThingS.f k l0 1048576).bind fun t215 => (if t215 < 0 then (some true) else ((laws_toThingS.f k l0).bind fun t216 => ((spec_IsIn.f k t216 a1 a2).bind fun t219 => ((laws_toThingS.f k l0).bind fun t220 => ((impl_IsIn.f k t220 a1 a2).bind fun t223 => (if (t223 != t219) = true then (some false) else ((laws_toThingS.f k l0).bind fun t224 => ((laws_eqThingS.f k t220 t224).bind fun t227 => (if t227 = true then (some true) else (some false))))))))))
theorem laws_FnExactIsIn.mono : ∀ a0 a1 a2 k, LeO (laws_FnExactIsIn.f k a0 a1 a2) (laws_FnExactIsIn.f (k + 1) a0 a1 a2) := by
 intro a0 a1 a2 k
 unfold laws_FnExactIsIn.f
 repeat' first
   | (with_reducible exact impl_IsIn.mono _ _ _ _)
   | (with_reducible exact laws_eqThingS.mono _ _ _)
   | (with_reducible exact laws_szThingS.mono _ _ _)
   | (with_reducible exact laws_toThingS.mono _ _)
   | (with_reducible exact spec_IsIn.mono _ _ _ _)
   | (with_reducible exact LeO.refl _)
   | (with_reducible exact LeO.none _)
   | (with_reducible refine LeO.ite ?_ ?_)
   | (with_reducible refine LeO.bind ?_ (fun _ => ?_))
   | exact impl_IsIn.mono _ _ _ _
   | exact laws_eqThingS.mono _ _ _
   | exact laws_szThingS.mono _ _ _
   | exact laws_toThingS.mono _ _
   | exact spec_IsIn.mono _ _ _ _
   | exact LeO.none _
   | refine LeO.ite ?_ ?_
   | refine LeO.bind ?_ (fun _ => ?_)
set_option maxHeartbeats 8000000 in
set_option maxRecDepth 100000 in
theorem laws_FnExactIsIn.calls (k : Nat) (A0 : Option Addr) (c0 : Nat) (l0 : List (S68)) (a1 : Int) (a2 : Int) (r : Bool) (w : World) (hr0 : Kd.C k68 w A0 l0.length l0) (hc0 : l0.length ≤ c0) (h : laws_FnExactIsIn.f k l0 a1 a2 = some r) :
  Calls Try.prog 3 #[.slice A0 l0.length c0, .int .i64 a1, .int .i64 a2] w fun e w' => e = .returned (.bool r) ∧ Below w.heap.size w w' := by
 have HR0 := Aside0.mk hr0
 have HC0 := Aside0.mk hc0
 clear hr0 hc0
 have HB := Aside0.mk (Below.refl w.heap.size w)
 have H : ((laws_szThingS.f k l0 1048576).bind fun t215 => (if t215 < 0 then (some true) else ((laws_toThingS.f k l0).bind fun t216 => ((spec_IsIn.f k t216 a1 a2).bind fun t219 => ((laws_toThingS.f k l0).bind fun t220 => ((impl_IsIn.f k t220 a1 a2).bind fun t223 => (if (t223 != t219) = true then (some false) else ((laws_toThingS.f k l0).bind fun t224 => ((laws_eqThingS.f k t220 t224).bind fun t227 => (if t227 = true then (some true) else (some false))))))))))) = some r := h
 clear h
 replace H := Option.bind_eq_some_iff.mp H
 obtain ⟨t215, A40, H⟩ := H
 replace H : (if t215 < 0 then (some true) else ((laws_toThingS.f k l0).bind fun t216 => ((spec_IsIn.f k t216 a1 a2).bind fun t219 => ((laws_toThingS.f k l0).bind fun t220 => ((impl_IsIn.f k t220 a1 a2).bind fun t223 => (if (t223 != t219) = true then (some false) else ((laws_toThingS.f k l0).bind fun t224 => ((laws_eqThingS.f k t220 t224).bind fun t227 => (if t227 = true then (some true) else (some false)))))))))) = some r := H
 have A4 := Aside0.mk A40
 clear A40
 have HC5 := Aside0.mk H
 clear H
 go_enter Try.func3, Try.ntmps3
 go_upto_if 15 with (first | ((with_reducible refine gate_callee (f := 9) rfl ?_); refine gl (some 13) Try.func9 #[.slice A0 l0.length c0, .int .i64 1048576] ?_; (with_reducible refine (laws_szThingS.calls k _ _ l0 1048576 t215 _ ?side1 ?side2 A4.out).mono ?_); (case side1 => repeat (first | exact HR0.out | (with_reducible refine Kd.C_alloc ?_ _) | (with_reducible refine Kd.C_drewN ?_ _) | (with_reducible refine Kd.C_drew ?_))); (case side2 => exact HC0.out); rintro e w6 ⟨rfl, hb⟩; refine ⟨_, rfl, ?_⟩; replace HB := bS HB hb; (try clear hb); (try clear hb2); (try clear hk); (try clear hi)))
 (try simp only [Act.put, List.setIfInBounds_toArray, List.set_cons_zero, List.set_cons_succ])
 have H := HC5.out
 clear HC5
 by_cases c7 : t215 < 0
 ·
  rw [if_pos c7] at H; have c7b0 : decide (t215 < 0) = true := decide_eq_true c7; clear c7
  (first | rw [c7b0] | (simp only [i64_w, i32_w]; rw [c7b0]) | rw [c7b2] | rw [c7b1] | skip)
  obtain rfl := Option.some.inj H
  go_wp2
  go_ret
  exact ⟨by first | rfl | (simp [errW_none, errW_some] <;> rfl) | (simp [*, errW_none, errW_some] <;> rfl), by exact bw HB.out⟩
 ·
  rw [if_neg c7] at H; have c7b0 : decide (t215 < 0) = false := decide_eq_false c7; clear c7
  (first | rw [c7b0] | (simp only [i64_w, i32_w]; rw [c7b0]) | rw [c7b2] | rw [c7b1] | skip)
  replace H := Option.bind_eq_some_iff.mp H
  obtain ⟨t216, A80, H⟩ := H
  replace H : ((spec_IsIn.f k t216 a1 a2).bind fun t219 => ((laws_toThingS.f k l0).bind fun t220 => ((impl_IsIn.f k t220 a1 a2).bind fun t223 => (if (t223 != t219) = true then (some false) else ((laws_toThingS.f k l0).bind fun t224 => ((laws_eqThingS.f k t220 t224).bind fun t227 => (if t227 = true then (some true) else (some false)))))))) = some r := H
  have A8 := Aside0.mk A80
  clear A80
  replace H := Option.bind_eq_some_iff.mp H
  obtain ⟨t219, A90, H⟩ := H
  replace H : ((laws_toThingS.f k l0).bind fun t220 => ((impl_IsIn.f k t220 a1 a2).bind fun t223 => (if (t223 != t219) = true then (some false) else ((laws_toThingS.f k l0).bind fun t224 => ((laws_eqThingS.f k t220 t224).bind fun t227 => (if t227 = true then (some true) else (some false))))))) = some r := H
  have A9 := Aside0.mk A90
  clear A90
  replace H := Option.bind_eq_some_iff.mp H
  obtain ⟨t220, A100, H⟩ := H
  replace H : ((impl_IsIn.f k t220 a1 a2).bind fun t223 => (if (t223 != t219) = true then (some false) else ((laws_toThingS.f k l0).bind fun t224 => ((laws_eqThingS.f k t220 t224).bind fun t227 => (if t227 = true then (some true) else (some false)))))) = some r := H
  have A10 := Aside0.mk A100
  clear A100
  replace H := Option.bind_eq_some_iff.mp H
  obtain ⟨t223, A110, H⟩ := H
  replace H : (if (t223 != t219) = true then (some false) else ((laws_toThingS.f k l0).bind fun t224 => ((laws_eqThingS.f k t220 t224).bind fun t227 => (if t227 = true then (some true) else (some false))))) = some r := H
  have A11 := Aside0.mk A110
  clear A110
  have HC12 := Aside0.mk H
  clear H
  go_upto_if 29 with (first | ((with_reducible refine gate_callee (f := 11) rfl ?_); refine gl (some 17) Try.func11 #[.slice A0 l0.length c0] ?_; (with_reducible refine (laws_toThingS.calls k _ _ l0 t216 _ ?side1 ?side2 A8.out).mono ?_); (case side1 => repeat (first | exact (Kd.C_below HR0.out HB.out) | (with_reducible refine Kd.C_alloc ?_ _) | (with_reducible refine Kd.C_drewN ?_ _) | (with_reducible refine Kd.C_drew ?_))); (case side2 => exact HC0.out); rintro e w13 ⟨v217, rfl, ho0, hb⟩; refine ⟨_, rfl, ?_⟩; have HO218 := Aside0.mk (Kd.S_lower ho0 (below_size (by exact bw HB.out))); replace HB := bS HB hb; (try clear hb); (try clear hb2); (try clear hk); (try clear hi); (try clear ho0); obtain ⟨Ao14, co14, eo14⟩ := Kd.S_slice HO218.out; subst eo14) | ((with_reducible refine gate_callee (f := 10) rfl ?_); refine gl (some 20) Try.func10 #[.slice Ao14 t216.length co14, .int .i64 a1, .int .i64 a2] ?_; (with_reducible refine (spec_IsIn.calls k _ _ t216 a1 a2 t219 _ ?side1 ?side2 A9.out).mono ?_); (case side1 => repeat (first | exact (Kd.S_reads' HO218.out).2.2 | (with_reducible refine Kd.C_alloc ?_ _) | (with_reducible refine Kd.C_drewN ?_ _) | (with_reducible refine Kd.C_drew ?_))); (case side2 => exact (Kd.S_reads' HO218.out).2.1); rintro e w15 ⟨rfl, hb⟩; refine ⟨_, rfl, ?_⟩; replace HO218 := Aside0.mk (Kd.S_below (by exact Kd.xS HO218.out) hb); replace HB := bS HB hb; (try clear hb); (try clear hb2); (try clear hk); (try clear hi)) | ((with_reducible refine gate_callee (f := 11) rfl ?_); refine gl (some 22) Try.func11 #[.slice A0 l0.length c0] ?_; (with_reducible refine (laws_toThingS.calls k _ _ l0 t220 _ ?side1 ?side2 A10.out).mono ?_); (case side1 => repeat (first | exact (Kd.C_below HR0.out HB.out) | (with_reducible refine Kd.C_alloc ?_ _) | (with_reducible refine Kd.C_drewN ?_ _) | (with_reducible refine Kd.C_drew ?_))); (case side2 => exact HC0.out); rintro e w16 ⟨v221, rfl, ho0, hb⟩; refine ⟨_, rfl, ?_⟩; have HO222 := Aside0.mk (Kd.S_lower (Kd.S_new' ho0 (Kd.S_lt (by exact Kd.xS HO218.out))) (below_size (by exact bw HB.out))); replace HO218 := Aside0.mk (Kd.S_elder' (by exact Kd.xS HO218.out) (Kd.S_base ho0) hb); replace HB := bS HB hb; (try clear hb); (try clear hb2); (try clear hk); (try clear hi); (try clear ho0); obtain ⟨Ao17, co17, eo17⟩ := Kd.S_slice HO222.out; subst eo17) | ((with_reducible refine gate_callee (f := 12) rfl ?_); refine gl (some 26) Try.func12 #[.slice Ao17 t220.length co17, .int .i64 a1, .int .i64 a2] ?_; (with_reducible refine (impl_IsIn.calls k _ _ t220 a1 a2 t223 _ ?side1 ?side2 A11.out).mono ?_); (case side1 => repeat (first | exact (Kd.S_reads' HO222.out).2.2 | (with_reducible refine Kd.C_alloc ?_ _) | (with_reducible refine Kd.C_drewN ?_ _) | (with_reducible refine Kd.C_drew ?_))); (case side2 => exact (Kd.S_reads' HO222.out).2.1); rintro e w18 ⟨rfl, hb⟩; refine ⟨_, rfl, ?_⟩; replace HO218 := Aside0.mk (Kd.S_below (by exact Kd.xS HO218.out) hb); replace HO222 := Aside0.mk (Kd.S_below (by exact Kd.xS HO222.out) hb); replace HB := bS HB hb; (try clear hb); (try clear hb2); (try clear hk); (try clear hi)))
  (try simp only [Act.put, List.setIfInBounds_toArray, List.set_cons_zero, List.set_cons_succ])
  have H := HC12.out
  clear HC12
  by_cases c19 : (t223 != t219) = true
  ·
   rw [if_pos c19] at H; have c19b0 : (t223 != t219) = true := c19
   (try (have c19b1 : decide (t223 = t219) = false := by simpa using c19))
   (try (have c19b2 : (t223 == t219) = false := by simpa using c19))
   (try (have c19b3 : ¬ (t223 = t219) := by simpa using c19))
   clear c19
   (first | rw [c19b0] | (simp only [i64_w, i32_w]; rw [c19b0]) | rw [c19b2] | rw [c19b1] | skip)
   obtain rfl := Option.some.inj H
   go_wp2
   go_ret
   exact ⟨by first | rfl | (simp [errW_none, errW_some] <;> rfl) | (simp [*, errW_none, errW_some] <;> rfl), by exact bw HB.out⟩
  ·
   rw [if_neg c19] at H; have c19b0 : (t223 != t219) = false := by simpa using c19
   (try (have c19b1 : decide (t223 = t219) = true := by simpa using c19))
   (try (have c19b2 : (t223 == t219) = true := by simpa using c19))
   clear c19
   (first | rw [c19b0] | (simp only [i64_w, i32_w]; rw [c19b0]) | rw [c19b2] | rw [c19b1] | skip)
   replace H := Option.bind_eq_some_iff.mp H
   obtain ⟨t224, A200, H⟩ := H
   replace H : ((laws_eqThingS.f k t220 t224).bind fun t227 => (if t227 = true then (some true) else (some false))) = some r := H
   have A20 := Aside0.mk A200
   clear A200
   replace H := Option.bind_eq_some_iff.mp H
   obtain ⟨t227, A210, H⟩ := H
   replace H : (if t227 = true then (some true) else (some false)) = some r := H
   have A21 := Aside0.mk A210
   clear A210
   have HC22 := Aside0.mk H
   clear H
   go_upto_if 34 with (first | ((with_reducible refine gate_callee (f := 11) rfl ?_); refine gl (some 32) Try.func11 #[.slice A0 l0.length c0] ?_; (with_reducible refine (laws_toThingS.calls k _ _ l0 t224 _ ?side1 ?side2 A20.out).mono ?_); (case side1 => repeat (first | exact (Kd.C_below HR0.out HB.out) | (with_reducible refine Kd.C_alloc ?_ _) | (with_reducible refine Kd.C_drewN ?_ _) | (with_reducible refine Kd.C_drew ?_))); (case side2 => exact HC0.out); rintro e w23 ⟨v225, rfl, ho0, hb⟩; refine ⟨_, rfl, ?_⟩; have HO226 := Aside0.mk (Kd.S_lower (Kd.S_new' (Kd.S_new' ho0 (Kd.S_lt (by exact Kd.xS HO218.out))) (Kd.S_lt (by exact Kd.xS HO222.out))) (below_size (by exact bw HB.out))); replace HO218 := Aside0.mk (Kd.S_elder' (by exact Kd.xS HO218.out) (Kd.S_base ho0) hb); replace HO222 := Aside0.mk (Kd.S_elder' (by exact Kd.xS HO222.out) (Kd.S_base ho0) hb); replace HB := bS HB hb; (try clear hb); (try clear hb2); (try clear hk); (try clear hi); (try clear ho0); obtain ⟨Ao24, co24, eo24⟩ := Kd.S_slice HO226.out; subst eo24) | ((with_reducible refine gate_callee (f := 13) rfl ?_); refine gl (some 33) Try.func13 #[.slice Ao17 t220.length co17, .slice Ao24 t224.length co24] ?_; (with_reducible refine (laws_eqThingS.calls k _ _ t220 _ _ t224 t227 _ ?side1 ?side2 ?side3 ?side4 A21.out).mono ?_); (case side1 => repeat (first | exact (Kd.S_reads' HO222.out).2.2 | (with_reducible refine Kd.C_alloc ?_ _) | (with_reducible refine Kd.C_drewN ?_ _) | (with_reducible refine Kd.C_drew ?_))); (case side2 => exact (Kd.S_reads' HO222.out).2.1); (case side3 => repeat (first | exact (Kd.S_reads' HO226.out).2.2 | (with_reducible refine Kd.C_alloc ?_ _) | (with_reducible refine Kd.C_drewN ?_ _) | (with_reducible refine Kd.C_drew ?_))); (case side4 => exact (Kd.S_reads' HO226.out).2.1); rintro e w25 ⟨rfl, hb⟩; refine ⟨_, rfl, ?_⟩; replace HO218 := Aside0.mk (Kd.S_below (by exact Kd.xS HO218.out) hb); replace HO222 := Aside0.mk (Kd.S_below (by exact Kd.xS HO222.out) hb); replace HO226 := Aside0.mk (Kd.S_below (by exact Kd.xS HO226.out) hb); replace HB := bS HB hb; (try clear hb); (try clear hb2); (try clear hk); (try clear hi)))
   (try simp only [Act.put, List.setIfInBounds_toArray, List.set_cons_zero, List.set_cons_succ])
   have H := HC22.out
   clear HC22
   by_cases c26 : t227 = true
   ·
    subst c26
    have H1 : (some true) = some r := by rw [if_pos rfl] at H; exact H
    clear H
    have H := H1
    clear H1
    obtain rfl := Option.some.inj H
    go_wp2
    go_ret
    exact ⟨by first | rfl | (simp [errW_none, errW_some] <;> rfl) | (simp [*, errW_none, errW_some] <;> rfl), by exact bw HB.out⟩
   ·
    replace c26 := Bool.eq_false_iff.mpr c26
    subst c26
    have H1 : (some false) = some r := by rw [if_neg (show ¬ (false = true) by decide)] at H; exact H
    clear H
    have H := H1
    clear H1
    obtain rfl := Option.some.inj H
    go_wp2
    go_ret
    exact ⟨by first | rfl | (simp [errW_none, errW_some] <;> rfl) | (simp [*, errW_none, errW_some] <;> rfl), by exact bw HB.out⟩

/-- THE ONE PURE STATEMENT of laws_FnExactIsIn: yours. -/
def laws_FnExactIsIn.Pure : Prop := ∀ (l0 : List (S68)) (a1 : Int) (a2 : Int), (l0.length ≤ maxLen ∧ ∀ y0_ ∈ l0, Fine68 y0_) → (Lit.int .i64 a1).wf = true → (Lit.int .i64 a2).wf = true → ∃ k, laws_FnExactIsIn.f k l0 a1 a2 = some true
theorem laws_FnExactIsIn.walk (P : laws_FnExactIsIn.Pure) (A0 : Option Addr) (c0 : Nat) (l0 : List (S68)) (a1 : Int) (a2 : Int) (w : World) (hr0 : Kd.C k68 w A0 l0.length l0) (hc0 : l0.length ≤ c0) (w0 : (l0.length ≤ maxLen ∧ ∀ y0_ ∈ l0, Fine68 y0_)) (w1 : (Lit.int .i64 a1).wf = true) (w2 : (Lit.int .i64 a2).wf = true) :
  Calls Try.prog 3 #[.slice A0 l0.length c0, .int .i64 a1, .int .i64 a2] w fun e w' => e = .returned (.bool true) ∧ Below w.heap.size w w' := by
 obtain ⟨k, h⟩ := P l0 a1 a2 w0 w1 w2
 refine (laws_FnExactIsIn.calls k _ _ l0 a1 a2 true w hr0 hc0 h).mono ?_
 rintro e w' ⟨rfl, hd⟩
 exact ⟨rfl, hd⟩

/-! ### laws_szRequest: function 14 -/
def laws_szRequest.f (k : Nat) (a0_0 : Int) (a0_1 : Int) (a0_2 : Int) (l0_3 : List (S82)) (a1 : Int) : Option (Int) := (laws_szFieldS.f k l0_3 a1).bind fun t229 => (if t229 < 0 then (some (-1)) else (some t229))
theorem laws_szRequest.mono : ∀ a0 a1 a2 a3 a4 k, LeO (laws_szRequest.f k a0 a1 a2 a3 a4) (laws_szRequest.f (k + 1) a0 a1 a2 a3 a4) := by
 intro a0 a1 a2 a3 a4 k
 unfold laws_szRequest.f
 repeat' first
   | (with_reducible exact laws_szFieldS.mono _ _ _)
   | (with_reducible exact LeO.refl _)
   | (with_reducible exact LeO.none _)
   | (with_reducible refine LeO.ite ?_ ?_)
   | (with_reducible refine LeO.bind ?_ (fun _ => ?_))
   | exact laws_szFieldS.mono _ _ _
   | exact LeO.none _
   | refine LeO.ite ?_ ?_
   | refine LeO.bind ?_ (fun _ => ?_)
set_option maxHeartbeats 8000000 in
set_option maxRecDepth 100000 in
theorem laws_szRequest.calls (k : Nat) (a0_0 : Int) (a0_1 : Int) (a0_2 : Int) (A0_3 : Option Addr) (c0_3 : Nat) (l0_3 : List (S82)) (a1 : Int) (r : Int) (w : World) (hr0_3 : Kd.C k82 w A0_3 l0_3.length l0_3) (hc0_3 : l0_3.length ≤ c0_3) (h : laws_szRequest.f k a0_0 a0_1 a0_2 l0_3 a1 = some r) :
  Calls Try.prog 14 #[.agg #[.int .i64 a0_0, .int .i64 a0_1, .int .i64 a0_2, .slice A0_3 l0_3.length c0_3], .int .i64 a1] w fun e w' => e = .returned (.int .i64 r) ∧ Below w.heap.size w w' := by
 have hu31 := Try.underlying31
 have HR0_3 := Aside0.mk hr0_3
 have HC0_3 := Aside0.mk hc0_3
 clear hr0_3 hc0_3
 have HB := Aside0.mk (Below.refl w.heap.size w)
 have H : ((laws_szFieldS.f k l0_3 a1).bind fun t229 => (if t229 < 0 then (some (-1)) else (some t229))) = some r := h
 clear h
 replace H := Option.bind_eq_some_iff.mp H
 obtain ⟨t229, A30, H⟩ := H
 replace H : (if t229 < 0 then (some (-1)) else (some t229)) = some r := H
 have A3 := Aside0.mk A30
 clear A30
 by_cases c4 : t229 < 0
 ·
  rw [if_pos c4] at H; have c4b0 : decide (t229 < 0) = true := decide_eq_true c4; clear c4
  obtain rfl := Option.some.inj H
  go_enter Try.func14, Try.ntmps14
  go_wp2_with (first | ((with_reducible refine gate_dst (N := 2) rfl ?_); refine bx 2 #[.int .i64 a0_0, .int .i64 a0_1, .int .i64 a0_2, .slice A0_3 l0_3.length c0_3] 31 ?_; intro gb228 hg w5 hbox hb; have BK228 := Aside0.mk (hbox); have GW228 := gwB HB hg; have GE228 := gwB HB hg; replace HB := bS HB hb; clear hb hbox hg; obtain ⟨hcz6_0, hcz6_1, hcz6_2, hcz6_3⟩ := cs4 BK228.out; obtain ⟨hfz6_0, hfz6_1, hfz6_2, hfz6_3⟩ := fz4 BK228.out) | ((with_reducible refine gate_callee (f := 27) rfl ?_); refine gl (some 8) Try.func27 #[.slice A0_3 l0_3.length c0_3, .int .i64 a1] ?_; (with_reducible refine (laws_szFieldS.calls k _ _ l0_3 a1 t229 _ ?side1 ?side2 A3.out).mono ?_); (case side1 => repeat (first | exact (Kd.C_below HR0_3.out HB.out) | (with_reducible refine Kd.C_alloc ?_ _) | (with_reducible refine Kd.C_drewN ?_ _) | (with_reducible refine Kd.C_drew ?_))); (case side2 => exact HC0_3.out); rintro e w7 ⟨rfl, hb⟩; refine ⟨_, rfl, ?_⟩; replace BK228 := bB BK228 hb; replace HB := bS HB hb; (try clear hb); (try clear hb2); (try clear hk); (try clear hi)))
  go_ret
  exact ⟨by first | rfl | (simp [errW_none, errW_some] <;> rfl) | (simp [*, errW_none, errW_some] <;> rfl), by exact bw HB.out⟩
 ·
  rw [if_neg c4] at H; have c4b0 : decide (t229 < 0) = false := decide_eq_false c4; clear c4
  obtain rfl := Option.some.inj H
  go_enter Try.func14, Try.ntmps14
  go_wp2_with (first | ((with_reducible refine gate_dst (N := 2) rfl ?_); refine bx 2 #[.int .i64 a0_0, .int .i64 a0_1, .int .i64 a0_2, .slice A0_3 l0_3.length c0_3] 31 ?_; intro gb228 hg w8 hbox hb; have BK228 := Aside0.mk (hbox); have GW228 := gwB HB hg; have GE228 := gwB HB hg; replace HB := bS HB hb; clear hb hbox hg; obtain ⟨hcz9_0, hcz9_1, hcz9_2, hcz9_3⟩ := cs4 BK228.out; obtain ⟨hfz9_0, hfz9_1, hfz9_2, hfz9_3⟩ := fz4 BK228.out) | ((with_reducible refine gate_callee (f := 27) rfl ?_); refine gl (some 8) Try.func27 #[.slice A0_3 l0_3.length c0_3, .int .i64 a1] ?_; (with_reducible refine (laws_szFieldS.calls k _ _ l0_3 a1 t229 _ ?side1 ?side2 A3.out).mono ?_); (case side1 => repeat (first | exact (Kd.C_below HR0_3.out HB.out) | (with_reducible refine Kd.C_alloc ?_ _) | (with_reducible refine Kd.C_drewN ?_ _) | (with_reducible refine Kd.C_drew ?_))); (case side2 => exact HC0_3.out); rintro e w10 ⟨rfl, hb⟩; refine ⟨_, rfl, ?_⟩; replace BK228 := bB BK228 hb; replace HB := bS HB hb; (try clear hb); (try clear hb2); (try clear hk); (try clear hi)))
  go_ret
  exact ⟨by first | rfl | (simp [errW_none, errW_some] <;> rfl) | (simp [*, errW_none, errW_some] <;> rfl), by exact bw HB.out⟩

/-! ### spec_RequestValid: function 15 -/
def spec_RequestValid.f (k : Nat) (l0 : List (S72)) (a1_0 : Int) (a1_1 : Int) (a1_2 : Int) (l1_3 : List (S85)) : Option (Bool) := (spec_WorldValid.f k l0).bind fun t231 => (if t231 = true then ((spec_l1In.f a1_0 0 (wrap64 ((l0.length : Int) - 1))).bind fun t232 => (if t232 = true then ((spec_l1In.f a1_2 0 (wrap64 ((l0.length : Int) - 1))).bind fun t233 => (if t233 = true then ((spec_l1In.f a1_1 0 3).bind fun t234 => (if t234 = true then ((spec_l2Fields.f k l1_3 (l0.length : Int)).bind fun t235 => (some t235)) else (some false))) else (some false))) else (some false))) else (some false))
theorem spec_RequestValid.mono : ∀ a0 a1 a2 a3 a4 k, LeO (spec_RequestValid.f k a0 a1 a2 a3 a4) (spec_RequestValid.f (k + 1) a0 a1 a2 a3 a4) := by
 intro a0 a1 a2 a3 a4 k
 unfold spec_RequestValid.f
 repeat' first
   | (with_reducible exact spec_WorldValid.mono _ _)
   | (with_reducible exact spec_l2Fields.mono _ _ _)
   | (with_reducible exact LeO.refl _)
   | (with_reducible exact LeO.none _)
   | (with_reducible refine LeO.ite ?_ ?_)
   | (with_reducible refine LeO.bind ?_ (fun _ => ?_))
   | exact spec_WorldValid.mono _ _
   | exact spec_l2Fields.mono _ _ _
   | exact LeO.none _
   | refine LeO.ite ?_ ?_
   | refine LeO.bind ?_ (fun _ => ?_)
set_option maxHeartbeats 8000000 in
set_option maxRecDepth 100000 in
theorem spec_RequestValid.calls (k : Nat) (A0 : Option Addr) (c0 : Nat) (l0 : List (S72)) (a1_0 : Int) (a1_1 : Int) (a1_2 : Int) (A1_3 : Option Addr) (c1_3 : Nat) (l1_3 : List (S85)) (r : Bool) (w : World) (hr0 : Kd.C k72 w A0 l0.length l0) (hc0 : l0.length ≤ c0) (hr1_3 : Kd.C k85 w A1_3 l1_3.length l1_3) (hc1_3 : l1_3.length ≤ c1_3) (h : spec_RequestValid.f k l0 a1_0 a1_1 a1_2 l1_3 = some r) :
  Calls Try.prog 15 #[.slice A0 l0.length c0, .agg #[.int .i64 a1_0, .int .i64 a1_1, .int .i64 a1_2, .slice A1_3 l1_3.length c1_3]] w fun e w' => e = .returned (.bool r) ∧ Below w.heap.size w w' := by
 have hu36 := Try.underlying36
 have HR0 := Aside0.mk hr0
 have HC0 := Aside0.mk hc0
 clear hr0 hc0
 have HR1_3 := Aside0.mk hr1_3
 have HC1_3 := Aside0.mk hc1_3
 clear hr1_3 hc1_3
 have HB := Aside0.mk (Below.refl w.heap.size w)
 have H : ((spec_WorldValid.f k l0).bind fun t231 => (if t231 = true then ((spec_l1In.f a1_0 0 (wrap64 ((l0.length : Int) - 1))).bind fun t232 => (if t232 = true then ((spec_l1In.f a1_2 0 (wrap64 ((l0.length : Int) - 1))).bind fun t233 => (if t233 = true then ((spec_l1In.f a1_1 0 3).bind fun t234 => (if t234 = true then ((spec_l2Fields.f k l1_3 (l0.length : Int)).bind fun t235 => (some t235)) else (some false))) else (some false))) else (some false))) else (some false))) = some r := h
 clear h
 replace H := Option.bind_eq_some_iff.mp H
 obtain ⟨t231, A30, H⟩ := H
 replace H : (if t231 = true then ((spec_l1In.f a1_0 0 (wrap64 ((l0.length : Int) - 1))).bind fun t232 => (if t232 = true then ((spec_l1In.f a1_2 0 (wrap64 ((l0.length : Int) - 1))).bind fun t233 => (if t233 = true then ((spec_l1In.f a1_1 0 3).bind fun t234 => (if t234 = true then ((spec_l2Fields.f k l1_3 (l0.length : Int)).bind fun t235 => (some t235)) else (some false))) else (some false))) else (some false))) else (some false)) = some r := H
 have A3 := Aside0.mk A30
 clear A30
 by_cases c4 : t231 = true
 ·
  subst c4
  have H1 : ((spec_l1In.f a1_0 0 (wrap64 ((l0.length : Int) - 1))).bind fun t232 => (if t232 = true then ((spec_l1In.f a1_2 0 (wrap64 ((l0.length : Int) - 1))).bind fun t233 => (if t233 = true then ((spec_l1In.f a1_1 0 3).bind fun t234 => (if t234 = true then ((spec_l2Fields.f k l1_3 (l0.length : Int)).bind fun t235 => (some t235)) else (some false))) else (some false))) else (some false))) = some r := by rw [if_pos rfl] at H; exact H
  clear H
  have H := H1
  clear H1
  replace H := Option.bind_eq_some_iff.mp H
  obtain ⟨t232, A50, H⟩ := H
  replace H : (if t232 = true then ((spec_l1In.f a1_2 0 (wrap64 ((l0.length : Int) - 1))).bind fun t233 => (if t233 = true then ((spec_l1In.f a1_1 0 3).bind fun t234 => (if t234 = true then ((spec_l2Fields.f k l1_3 (l0.length : Int)).bind fun t235 => (some t235)) else (some false))) else (some false))) else (some false)) = some r := H
  have A5 := Aside0.mk A50
  clear A50
  by_cases c6 : t232 = true
  ·
   subst c6
   have H1 : ((spec_l1In.f a1_2 0 (wrap64 ((l0.length : Int) - 1))).bind fun t233 => (if t233 = true then ((spec_l1In.f a1_1 0 3).bind fun t234 => (if t234 = true then ((spec_l2Fields.f k l1_3 (l0.length : Int)).bind fun t235 => (some t235)) else (some false))) else (some false))) = some r := by rw [if_pos rfl] at H; exact H
   clear H
   have H := H1
   clear H1
   replace H := Option.bind_eq_some_iff.mp H
   obtain ⟨t233, A70, H⟩ := H
   replace H : (if t233 = true then ((spec_l1In.f a1_1 0 3).bind fun t234 => (if t234 = true then ((spec_l2Fields.f k l1_3 (l0.length : Int)).bind fun t235 => (some t235)) else (some false))) else (some false)) = some r := H
   have A7 := Aside0.mk A70
   clear A70
   by_cases c8 : t233 = true
   ·
    subst c8
    have H1 : ((spec_l1In.f a1_1 0 3).bind fun t234 => (if t234 = true then ((spec_l2Fields.f k l1_3 (l0.length : Int)).bind fun t235 => (some t235)) else (some false))) = some r := by rw [if_pos rfl] at H; exact H
    clear H
    have H := H1
    clear H1
    replace H := Option.bind_eq_some_iff.mp H
    obtain ⟨t234, A90, H⟩ := H
    replace H : (if t234 = true then ((spec_l2Fields.f k l1_3 (l0.length : Int)).bind fun t235 => (some t235)) else (some false)) = some r := H
    have A9 := Aside0.mk A90
    clear A90
    by_cases c10 : t234 = true
    ·
     subst c10
     have H1 : ((spec_l2Fields.f k l1_3 (l0.length : Int)).bind fun t235 => (some t235)) = some r := by rw [if_pos rfl] at H; exact H
     clear H
     have H := H1
     clear H1
     replace H := Option.bind_eq_some_iff.mp H
     obtain ⟨t235, A110, H⟩ := H
     replace H : (some t235) = some r := H
     have A11 := Aside0.mk A110
     clear A110
     obtain rfl := Option.some.inj H
     go_enter Try.func15, Try.ntmps15
     go_wp2_with (first | ((with_reducible refine gate_dst (N := 3) rfl ?_); (try (refine gate_guard (by rfl) ?_; dsimp only)); refine bx 3 #[.int .i64 a1_0, .int .i64 a1_1, .int .i64 a1_2, .slice A1_3 l1_3.length c1_3] 36 ?_; intro gb230 hg w12 hbox hb; have BK230 := Aside0.mk (hbox); have GW230 := gwB HB hg; have GE230 := gwB HB hg; replace HB := bS HB hb; clear hb hbox hg) | ((with_reducible refine gate_callee (f := 42) rfl ?_); refine gl (some 6) Try.func42 #[.slice A0 l0.length c0] ?_; (with_reducible refine (spec_WorldValid.calls k _ _ l0 true _ ?side1 ?side2 A3.out).mono ?_); (case side1 => repeat (first | exact (Kd.C_below HR0.out HB.out) | (with_reducible refine Kd.C_alloc ?_ _) | (with_reducible refine Kd.C_drewN ?_ _) | (with_reducible refine Kd.C_drew ?_))); (case side2 => exact HC0.out); rintro e w13 ⟨rfl, hb⟩; refine ⟨_, rfl, ?_⟩; replace BK230 := bB BK230 hb; replace HB := bS HB hb; (try clear hb); (try clear hb2); (try clear hk); (try clear hi); obtain ⟨hcz14_0, hcz14_1, hcz14_2, hcz14_3⟩ := cs4 BK230.out; obtain ⟨hfz14_0, hfz14_1, hfz14_2, hfz14_3⟩ := fz4 BK230.out) | (go_at_call 43; (with_reducible refine (spec_l1In.calls a1_0 0 (wrap64 ((l0.length : Int) - 1)) true _ A5.out).mono ?_); rintro e w' ⟨rfl, ⟨nd, rfl⟩⟩) | (go_at_call 43; (with_reducible refine (spec_l1In.calls a1_2 0 (wrap64 ((l0.length : Int) - 1)) true _ A7.out).mono ?_); rintro e w' ⟨rfl, ⟨nd, rfl⟩⟩) | (go_at_call 43; (with_reducible refine (spec_l1In.calls a1_1 0 3 true _ A9.out).mono ?_); rintro e w' ⟨rfl, ⟨nd, rfl⟩⟩) | (go_at_call 50; (with_reducible refine (spec_l2Fields.calls k _ _ l1_3 (l0.length : Int) t235 _ ?side1 ?side2 A11.out).mono ?_); (case side1 => repeat (first | exact (Kd.C_below HR1_3.out (by exact bw HB.out)) | exact HR1_3.out | (with_reducible refine Kd.C_alloc ?_ _) | (with_reducible refine Kd.C_drewN ?_ _) | (with_reducible refine Kd.C_drew ?_))); (case side2 => exact HC1_3.out); rintro e w15 ⟨rfl, hb⟩; have n0_ := bB BK230 hb; have n1_ := bS HB hb; clear BK230; clear HB; have BK230 := n0_; have HB := n1_; clear n0_ n1_; (try clear hb); (try clear hb2); (try clear hk); (try clear hi)))
     go_ret
     exact ⟨by first | rfl | (simp [errW_none, errW_some] <;> rfl) | (simp [*, errW_none, errW_some] <;> rfl), by exact bw HB.out⟩
    ·
     replace c10 := Bool.eq_false_iff.mpr c10
     subst c10
     have H1 : (some false) = some r := by rw [if_neg (show ¬ (false = true) by decide)] at H; exact H
     clear H
     have H := H1
     clear H1
     obtain rfl := Option.some.inj H
     go_enter Try.func15, Try.ntmps15
     go_wp2_with (first | ((with_reducible refine gate_dst (N := 3) rfl ?_); (try (refine gate_guard (by rfl) ?_; dsimp only)); refine bx 3 #[.int .i64 a1_0, .int .i64 a1_1, .int .i64 a1_2, .slice A1_3 l1_3.length c1_3] 36 ?_; intro gb230 hg w16 hbox hb; have BK230 := Aside0.mk (hbox); have GW230 := gwB HB hg; have GE230 := gwB HB hg; replace HB := bS HB hb; clear hb hbox hg) | ((with_reducible refine gate_callee (f := 42) rfl ?_); refine gl (some 6) Try.func42 #[.slice A0 l0.length c0] ?_; (with_reducible refine (spec_WorldValid.calls k _ _ l0 true _ ?side1 ?side2 A3.out).mono ?_); (case side1 => repeat (first | exact (Kd.C_below HR0.out HB.out) | (with_reducible refine Kd.C_alloc ?_ _) | (with_reducible refine Kd.C_drewN ?_ _) | (with_reducible refine Kd.C_drew ?_))); (case side2 => exact HC0.out); rintro e w17 ⟨rfl, hb⟩; refine ⟨_, rfl, ?_⟩; replace BK230 := bB BK230 hb; replace HB := bS HB hb; (try clear hb); (try clear hb2); (try clear hk); (try clear hi); obtain ⟨hcz18_0, hcz18_1, hcz18_2, hcz18_3⟩ := cs4 BK230.out; obtain ⟨hfz18_0, hfz18_1, hfz18_2, hfz18_3⟩ := fz4 BK230.out) | (go_at_call 43; (with_reducible refine (spec_l1In.calls a1_0 0 (wrap64 ((l0.length : Int) - 1)) true _ A5.out).mono ?_); rintro e w' ⟨rfl, ⟨nd, rfl⟩⟩) | (go_at_call 43; (with_reducible refine (spec_l1In.calls a1_2 0 (wrap64 ((l0.length : Int) - 1)) true _ A7.out).mono ?_); rintro e w' ⟨rfl, ⟨nd, rfl⟩⟩) | (go_at_call 43; (with_reducible refine (spec_l1In.calls a1_1 0 3 false _ A9.out).mono ?_); rintro e w' ⟨rfl, ⟨nd, rfl⟩⟩))
     go_ret
     exact ⟨by first | rfl | (simp [errW_none, errW_some] <;> rfl) | (simp [*, errW_none, errW_some] <;> rfl), by exact bw HB.out⟩
   ·
    replace c8 := Bool.eq_false_iff.mpr c8
    subst c8
    have H1 : (some false) = some r := by rw [if_neg (show ¬ (false = true) by decide)] at H; exact H
    clear H
    have H := H1
    clear H1
    obtain rfl := Option.some.inj H
    go_enter Try.func15, Try.ntmps15
    go_wp2_with (first | ((with_reducible refine gate_dst (N := 3) rfl ?_); (try (refine gate_guard (by rfl) ?_; dsimp only)); refine bx 3 #[.int .i64 a1_0, .int .i64 a1_1, .int .i64 a1_2, .slice A1_3 l1_3.length c1_3] 36 ?_; intro gb230 hg w19 hbox hb; have BK230 := Aside0.mk (hbox); have GW230 := gwB HB hg; have GE230 := gwB HB hg; replace HB := bS HB hb; clear hb hbox hg) | ((with_reducible refine gate_callee (f := 42) rfl ?_); refine gl (some 6) Try.func42 #[.slice A0 l0.length c0] ?_; (with_reducible refine (spec_WorldValid.calls k _ _ l0 true _ ?side1 ?side2 A3.out).mono ?_); (case side1 => repeat (first | exact (Kd.C_below HR0.out HB.out) | (with_reducible refine Kd.C_alloc ?_ _) | (with_reducible refine Kd.C_drewN ?_ _) | (with_reducible refine Kd.C_drew ?_))); (case side2 => exact HC0.out); rintro e w20 ⟨rfl, hb⟩; refine ⟨_, rfl, ?_⟩; replace BK230 := bB BK230 hb; replace HB := bS HB hb; (try clear hb); (try clear hb2); (try clear hk); (try clear hi); obtain ⟨hcz21_0, hcz21_1, hcz21_2, hcz21_3⟩ := cs4 BK230.out; obtain ⟨hfz21_0, hfz21_1, hfz21_2, hfz21_3⟩ := fz4 BK230.out) | (go_at_call 43; (with_reducible refine (spec_l1In.calls a1_0 0 (wrap64 ((l0.length : Int) - 1)) true _ A5.out).mono ?_); rintro e w' ⟨rfl, ⟨nd, rfl⟩⟩) | (go_at_call 43; (with_reducible refine (spec_l1In.calls a1_2 0 (wrap64 ((l0.length : Int) - 1)) false _ A7.out).mono ?_); rintro e w' ⟨rfl, ⟨nd, rfl⟩⟩))
    go_ret
    exact ⟨by first | rfl | (simp [errW_none, errW_some] <;> rfl) | (simp [*, errW_none, errW_some] <;> rfl), by exact bw HB.out⟩
  ·
   replace c6 := Bool.eq_false_iff.mpr c6
   subst c6
   have H1 : (some false) = some r := by rw [if_neg (show ¬ (false = true) by decide)] at H; exact H
   clear H
   have H := H1
   clear H1
   obtain rfl := Option.some.inj H
   go_enter Try.func15, Try.ntmps15
   go_wp2_with (first | ((with_reducible refine gate_dst (N := 3) rfl ?_); (try (refine gate_guard (by rfl) ?_; dsimp only)); refine bx 3 #[.int .i64 a1_0, .int .i64 a1_1, .int .i64 a1_2, .slice A1_3 l1_3.length c1_3] 36 ?_; intro gb230 hg w22 hbox hb; have BK230 := Aside0.mk (hbox); have GW230 := gwB HB hg; have GE230 := gwB HB hg; replace HB := bS HB hb; clear hb hbox hg) | ((with_reducible refine gate_callee (f := 42) rfl ?_); refine gl (some 6) Try.func42 #[.slice A0 l0.length c0] ?_; (with_reducible refine (spec_WorldValid.calls k _ _ l0 true _ ?side1 ?side2 A3.out).mono ?_); (case side1 => repeat (first | exact (Kd.C_below HR0.out HB.out) | (with_reducible refine Kd.C_alloc ?_ _) | (with_reducible refine Kd.C_drewN ?_ _) | (with_reducible refine Kd.C_drew ?_))); (case side2 => exact HC0.out); rintro e w23 ⟨rfl, hb⟩; refine ⟨_, rfl, ?_⟩; replace BK230 := bB BK230 hb; replace HB := bS HB hb; (try clear hb); (try clear hb2); (try clear hk); (try clear hi); obtain ⟨hcz24_0, hcz24_1, hcz24_2, hcz24_3⟩ := cs4 BK230.out; obtain ⟨hfz24_0, hfz24_1, hfz24_2, hfz24_3⟩ := fz4 BK230.out) | (go_at_call 43; (with_reducible refine (spec_l1In.calls a1_0 0 (wrap64 ((l0.length : Int) - 1)) false _ A5.out).mono ?_); rintro e w' ⟨rfl, ⟨nd, rfl⟩⟩))
   go_ret
   exact ⟨by first | rfl | (simp [errW_none, errW_some] <;> rfl) | (simp [*, errW_none, errW_some] <;> rfl), by exact bw HB.out⟩
 ·
  replace c4 := Bool.eq_false_iff.mpr c4
  subst c4
  have H1 : (some false) = some r := by rw [if_neg (show ¬ (false = true) by decide)] at H; exact H
  clear H
  have H := H1
  clear H1
  obtain rfl := Option.some.inj H
  go_enter Try.func15, Try.ntmps15
  go_wp2_with (first | ((with_reducible refine gate_dst (N := 3) rfl ?_); (try (refine gate_guard (by rfl) ?_; dsimp only)); refine bx 3 #[.int .i64 a1_0, .int .i64 a1_1, .int .i64 a1_2, .slice A1_3 l1_3.length c1_3] 36 ?_; intro gb230 hg w25 hbox hb; have BK230 := Aside0.mk (hbox); have GW230 := gwB HB hg; have GE230 := gwB HB hg; replace HB := bS HB hb; clear hb hbox hg) | ((with_reducible refine gate_callee (f := 42) rfl ?_); refine gl (some 6) Try.func42 #[.slice A0 l0.length c0] ?_; (with_reducible refine (spec_WorldValid.calls k _ _ l0 false _ ?side1 ?side2 A3.out).mono ?_); (case side1 => repeat (first | exact (Kd.C_below HR0.out HB.out) | (with_reducible refine Kd.C_alloc ?_ _) | (with_reducible refine Kd.C_drewN ?_ _) | (with_reducible refine Kd.C_drew ?_))); (case side2 => exact HC0.out); rintro e w26 ⟨rfl, hb⟩; refine ⟨_, rfl, ?_⟩; replace BK230 := bB BK230 hb; replace HB := bS HB hb; (try clear hb); (try clear hb2); (try clear hk); (try clear hi)))
  go_ret
  exact ⟨by first | rfl | (simp [errW_none, errW_some] <;> rfl) | (simp [*, errW_none, errW_some] <;> rfl), by exact bw HB.out⟩

/-! ### laws_toRequest: function 16 -/
def laws_toRequest.f (k : Nat) (a0_0 : Int) (a0_1 : Int) (a0_2 : Int) (l0_3 : List (S82)) : Option (Int × Int × Int × (List (S85))) := (laws_toFieldS.f k l0_3).bind fun t239 => (some (a0_0, a0_1, a0_2, t239))
theorem laws_toRequest.mono : ∀ a0 a1 a2 a3 k, LeO (laws_toRequest.f k a0 a1 a2 a3) (laws_toRequest.f (k + 1) a0 a1 a2 a3) := by
 intro a0 a1 a2 a3 k
 unfold laws_toRequest.f
 repeat' first
   | (with_reducible exact laws_toFieldS.mono _ _)
   | (with_reducible exact LeO.refl _)
   | (with_reducible exact LeO.none _)
   | (with_reducible refine LeO.ite ?_ ?_)
   | (with_reducible refine LeO.bind ?_ (fun _ => ?_))
   | exact laws_toFieldS.mono _ _
   | exact LeO.none _
   | refine LeO.ite ?_ ?_
   | refine LeO.bind ?_ (fun _ => ?_)
set_option maxHeartbeats 8000000 in
set_option maxRecDepth 100000 in
theorem laws_toRequest.calls (k : Nat) (a0_0 : Int) (a0_1 : Int) (a0_2 : Int) (A0_3 : Option Addr) (c0_3 : Nat) (l0_3 : List (S82)) (r1 : Int) (r2 : Int) (r3 : Int) (r4 : List (S85)) (w : World) (hr0_3 : Kd.C k82 w A0_3 l0_3.length l0_3) (hc0_3 : l0_3.length ≤ c0_3) (h : laws_toRequest.f k a0_0 a0_1 a0_2 l0_3 = some (r1, r2, r3, r4)) :
  Calls Try.prog 16 #[.agg #[.int .i64 a0_0, .int .i64 a0_1, .int .i64 a0_2, .slice A0_3 l0_3.length c0_3]] w fun e w' => ∃ v3_ : Value, e = .returned (.agg #[.int .i64 r1, .int .i64 r2, .int .i64 r3, v3_]) ∧ Kd.R k85 85 w' w.heap.size (fun _ => True) v3_ r4 ∧ Below w.heap.size w w' := by
 have hu31 := Try.underlying31
 have hu36 := Try.underlying36
 have HR0_3 := Aside0.mk hr0_3
 have HC0_3 := Aside0.mk hc0_3
 clear hr0_3 hc0_3
 have HB := Aside0.mk (Below.refl w.heap.size w)
 have H : ((laws_toFieldS.f k l0_3).bind fun t239 => (some (a0_0, a0_1, a0_2, t239))) = some (r1, r2, r3, r4) := h
 clear h
 replace H := Option.bind_eq_some_iff.mp H
 obtain ⟨t239, A20, H⟩ := H
 replace H : (some (a0_0, a0_1, a0_2, t239)) = some (r1, r2, r3, r4) := H
 have A2 := Aside0.mk A20
 clear A20
 simp only [Option.some.injEq, Prod.mk.injEq] at H
 obtain ⟨rfl, rfl, rfl, rfl⟩ := H
 go_enter Try.func16, Try.ntmps16
 go_wp2_with (first | ((with_reducible refine gate_dst (N := 1) rfl ?_); refine bx 1 #[.int .i64 a0_0, .int .i64 a0_1, .int .i64 a0_2, .slice A0_3 l0_3.length c0_3] 31 ?_; intro gb236 hg w3 hbox hb; have BK236 := Aside0.mk (hbox); have GW236 := gwB HB hg; have GE236 := gwB HB hg; replace HB := bS HB hb; clear hb hbox hg) | ((with_reducible refine gate_dst (N := 2) rfl ?_); refine bx 2 #[.int .i64 0, .int .i64 0, .int .i64 0, .slice none 0 0] 36 ?_; intro gb237 hg w4 hbox hb; have BK237 := Aside0.mk (hbox); have GW237 := gwB HB hg; have GE237 := gwB HB hg; replace HB := bS HB hb; have NB236_237 := nbL BK236 hg; have NB237_236 := nbR BK236 hg; replace BK236 := bB BK236 hb; clear hb hbox hg) | ((with_reducible refine gate_dst (N := 3) rfl ?_); refine bx 3 #[.int .i64 0, .int .i64 0, .int .i64 0, .slice none 0 0] 36 ?_; intro gb238 hg w5 hbox hb; have BK238 := Aside0.mk (hbox); have GW238 := gwB HB hg; have GE238 := gwB HB hg; replace HB := bS HB hb; have NB236_238 := nbL BK236 hg; have NB238_236 := nbR BK236 hg; replace BK236 := bB BK236 hb; have NB237_238 := nbL BK237 hg; have NB238_237 := nbR BK237 hg; replace BK237 := bB BK237 hb; clear hb hbox hg; have hnb6 := NB236_237.out; have hnc6 := NB237_236.out; have hnb7 := NB236_238.out; have hnc7 := NB238_236.out; obtain ⟨hcz8_0, hcz8_1, hcz8_2, hcz8_3⟩ := cs4 BK236.out; obtain ⟨hfz8_0, hfz8_1, hfz8_2, hfz8_3⟩ := fz4 BK236.out; have hnb9 := NB238_237.out; have hnc9 := NB237_238.out; obtain ⟨hcz10_0, hcz10_1, hcz10_2, hcz10_3⟩ := cs4 BK238.out; obtain ⟨hfz10_0, hfz10_1, hfz10_2, hfz10_3⟩ := fz4 BK238.out) | ((with_reducible refine gate_callee (f := 29) rfl ?_); refine gl (some 15) Try.func29 #[.slice A0_3 l0_3.length c0_3] ?_; (with_reducible refine (laws_toFieldS.calls k _ _ l0_3 t239 _ ?side1 ?side2 A2.out).mono ?_); (case side1 => exact Kd.C_below HR0_3.out (by exact bw HB.out)); (case side2 => exact HC0_3.out); rintro e w11 ⟨v240, rfl, ho0, hb⟩; refine ⟨_, rfl, ?_⟩; have HO241 := Aside0.mk (Kd.R_lower ho0 (below_size (by exact bw HB.out))); replace BK236 := Aside0.mk (blk_below (g := gb236) (o := .cells #[.int .i64 a0_0, .int .i64 a0_1, .int .i64 a0_2, .slice A0_3 l0_3.length c0_3] 31 (0, 0)) (bo BK236) hb); replace BK237 := Aside0.mk (blk_below (g := gb237) (o := .cells #[.int .i64 0, .int .i64 0, .int .i64 0, .slice none 0 0] 36 (0, 0)) (bo BK237) hb); replace BK238 := Aside0.mk (blk_below (g := gb238) (o := .cells #[.int .i64 a0_0, .int .i64 a0_1, .int .i64 a0_2, .slice none 0 0] 36 (0, 0)) (bp BK238) hb); replace HB := bS HB hb; (try clear hb); (try clear hb2); (try clear hk); (try clear hi); (try clear ho0); obtain ⟨Ao12, co12, eo12⟩ := Kd.R_slice HO241.out; subst eo12; obtain ⟨hcz13_0, hcz13_1, hcz13_2, hcz13_3⟩ := cs4 BK238.out; obtain ⟨hfz13_0, hfz13_1, hfz13_2, hfz13_3⟩ := fz4 BK238.out; obtain ⟨hcz14_0, hcz14_1, hcz14_2, hcz14_3⟩ := cs4 BK237.out; obtain ⟨hfz14_0, hfz14_1, hfz14_2, hfz14_3⟩ := fz4 BK237.out))
 refine bodyPost_ret (results_cell_row rfl _ _ gb237 36 #[.int .i64 a0_0, .int .i64 a0_1, .int .i64 a0_2, .slice Ao12 t239.length co12] (0, 0) _ rfl (bp BK237) Try.underlying36 rfl (by kernel_rfl)) rfl ?_
 exact ⟨_, by first | rfl | (simp [errW_none, errW_some] <;> rfl) | (simp [*, errW_none, errW_some] <;> rfl), by (with_reducible repeat (first | apply Kd.R_alloc | apply Kd.R_drewN | apply Kd.R_drew)); exact Kd.R_mono (Kd.R_far (p := ⟨gb237, 3, none⟩) (Kd.R_far (p := ⟨gb237, 2, none⟩) (Kd.R_far (p := ⟨gb237, 1, none⟩) (Kd.R_far (p := ⟨gb237, 0, none⟩) (Kd.R_far (p := ⟨gb238, 3, none⟩) (Kd.R_types (Kd.R_types HO241.out BK238.out (by decide)) BK237.out (by decide)) (fun _ hk => hk.1.2) (.slice Ao12 t239.length co12)) (fun _ hk => hk.2) (.int .i64 a0_0)) (fun _ hk => hk.2) (.int .i64 a0_1)) (fun _ hk => hk.2) (.int .i64 a0_2)) (fun _ hk => hk.2) (.slice Ao12 t239.length co12)) (fun _ hk => trivial), by exact bw HB.out⟩

/-! ### impl_isAct: function 51 -/
def impl_isAct.f (a0 : Int) : Option (Bool) := (impl_in.f a0 0 3).bind fun t242 => (some t242)
set_option maxHeartbeats 8000000 in
set_option maxRecDepth 100000 in
theorem impl_isAct.calls (a0 : Int) (r : Bool) (w : World) (h : impl_isAct.f a0 = some r) :
  Calls Try.prog 51 #[.int .i64 a0] w fun e w' => e = .returned (.bool r) ∧ Drawn0 w w' := by
 have H : ((impl_in.f a0 0 3).bind fun t242 => (some t242)) = some r := h
 clear h
 replace H := Option.bind_eq_some_iff.mp H
 obtain ⟨t242, A20, H⟩ := H
 replace H : (some t242) = some r := H
 have A2 := Aside0.mk A20
 clear A20
 obtain rfl := Option.some.inj H
 go_enter Try.func51, Try.ntmps51
 go_wp2_with (first | ((with_reducible refine gate_callee (f := 70) rfl ?_); refine gl (some 4) Try.func70 #[.int .i64 a0, .int .i64 0, .int .i64 3] ?_; (with_reducible refine (impl_in.calls a0 0 3 t242 _ A2.out).mono ?_); rintro e w' ⟨rfl, ⟨nd, rfl⟩⟩; refine ⟨_, rfl, ?_⟩))
 go_ret
 exact ⟨by first | rfl | (simp; done) | (simp [*]; done), by repeat (first | exact Drawn0.refl _ | apply Drawn0.step)⟩

/-! ### impl_RequestValid: function 17 -/
def impl_RequestValid.f (k : Nat) (l0 : List (S72)) (a1_0 : Int) (a1_1 : Int) (a1_2 : Int) (l1_3 : List (S85)) : Option (Bool) := (impl_WorldValid.f k l0).bind fun t244 => (if t244 = true then ((impl_isThing.f l0 a1_0).bind fun t245 => (if t245 = true then ((impl_isThing.f l0 a1_2).bind fun t246 => (if t246 = true then ((impl_isAct.f a1_1).bind fun t247 => (if t247 = true then ((impl_fieldsValid.f k l1_3 (l0.length : Int)).bind fun t248 => (some t248)) else (some false))) else (some false))) else (some false))) else (some false))
theorem impl_RequestValid.mono : ∀ a0 a1 a2 a3 a4 k, LeO (impl_RequestValid.f k a0 a1 a2 a3 a4) (impl_RequestValid.f (k + 1) a0 a1 a2 a3 a4) := by
 intro a0 a1 a2 a3 a4 k
 unfold impl_RequestValid.f
 repeat' first
   | (with_reducible exact impl_WorldValid.mono _ _)
   | (with_reducible exact impl_fieldsValid.mono _ _ _)
   | (with_reducible exact LeO.refl _)
   | (with_reducible exact LeO.none _)
   | (with_reducible refine LeO.ite ?_ ?_)
   | (with_reducible refine LeO.bind ?_ (fun _ => ?_))
   | exact impl_WorldValid.mono _ _
   | exact impl_fieldsValid.mono _ _ _
   | exact LeO.none _
   | refine LeO.ite ?_ ?_
   | refine LeO.bind ?_ (fun _ => ?_)
set_option maxHeartbeats 8000000 in
set_option maxRecDepth 100000 in
theorem impl_RequestValid.calls (k : Nat) (A0 : Option Addr) (c0 : Nat) (l0 : List (S72)) (a1_0 : Int) (a1_1 : Int) (a1_2 : Int) (A1_3 : Option Addr) (c1_3 : Nat) (l1_3 : List (S85)) (r : Bool) (w : World) (hr0 : Kd.C k72 w A0 l0.length l0) (hc0 : l0.length ≤ c0) (hr1_3 : Kd.C k85 w A1_3 l1_3.length l1_3) (hc1_3 : l1_3.length ≤ c1_3) (h : impl_RequestValid.f k l0 a1_0 a1_1 a1_2 l1_3 = some r) :
  Calls Try.prog 17 #[.slice A0 l0.length c0, .agg #[.int .i64 a1_0, .int .i64 a1_1, .int .i64 a1_2, .slice A1_3 l1_3.length c1_3]] w fun e w' => e = .returned (.bool r) ∧ Below w.heap.size w w' := by
 have hu36 := Try.underlying36
 have HR0 := Aside0.mk hr0
 have HC0 := Aside0.mk hc0
 clear hr0 hc0
 have HR1_3 := Aside0.mk hr1_3
 have HC1_3 := Aside0.mk hc1_3
 clear hr1_3 hc1_3
 have HB := Aside0.mk (Below.refl w.heap.size w)
 have H : ((impl_WorldValid.f k l0).bind fun t244 => (if t244 = true then ((impl_isThing.f l0 a1_0).bind fun t245 => (if t245 = true then ((impl_isThing.f l0 a1_2).bind fun t246 => (if t246 = true then ((impl_isAct.f a1_1).bind fun t247 => (if t247 = true then ((impl_fieldsValid.f k l1_3 (l0.length : Int)).bind fun t248 => (some t248)) else (some false))) else (some false))) else (some false))) else (some false))) = some r := h
 clear h
 replace H := Option.bind_eq_some_iff.mp H
 obtain ⟨t244, A30, H⟩ := H
 replace H : (if t244 = true then ((impl_isThing.f l0 a1_0).bind fun t245 => (if t245 = true then ((impl_isThing.f l0 a1_2).bind fun t246 => (if t246 = true then ((impl_isAct.f a1_1).bind fun t247 => (if t247 = true then ((impl_fieldsValid.f k l1_3 (l0.length : Int)).bind fun t248 => (some t248)) else (some false))) else (some false))) else (some false))) else (some false)) = some r := H
 have A3 := Aside0.mk A30
 clear A30
 by_cases c4 : t244 = true
 ·
  subst c4
  have H1 : ((impl_isThing.f l0 a1_0).bind fun t245 => (if t245 = true then ((impl_isThing.f l0 a1_2).bind fun t246 => (if t246 = true then ((impl_isAct.f a1_1).bind fun t247 => (if t247 = true then ((impl_fieldsValid.f k l1_3 (l0.length : Int)).bind fun t248 => (some t248)) else (some false))) else (some false))) else (some false))) = some r := by rw [if_pos rfl] at H; exact H
  clear H
  have H := H1
  clear H1
  replace H := Option.bind_eq_some_iff.mp H
  obtain ⟨t245, A50, H⟩ := H
  replace H : (if t245 = true then ((impl_isThing.f l0 a1_2).bind fun t246 => (if t246 = true then ((impl_isAct.f a1_1).bind fun t247 => (if t247 = true then ((impl_fieldsValid.f k l1_3 (l0.length : Int)).bind fun t248 => (some t248)) else (some false))) else (some false))) else (some false)) = some r := H
  have A5 := Aside0.mk A50
  clear A50
  by_cases c6 : t245 = true
  ·
   subst c6
   have H1 : ((impl_isThing.f l0 a1_2).bind fun t246 => (if t246 = true then ((impl_isAct.f a1_1).bind fun t247 => (if t247 = true then ((impl_fieldsValid.f k l1_3 (l0.length : Int)).bind fun t248 => (some t248)) else (some false))) else (some false))) = some r := by rw [if_pos rfl] at H; exact H
   clear H
   have H := H1
   clear H1
   replace H := Option.bind_eq_some_iff.mp H
   obtain ⟨t246, A70, H⟩ := H
   replace H : (if t246 = true then ((impl_isAct.f a1_1).bind fun t247 => (if t247 = true then ((impl_fieldsValid.f k l1_3 (l0.length : Int)).bind fun t248 => (some t248)) else (some false))) else (some false)) = some r := H
   have A7 := Aside0.mk A70
   clear A70
   by_cases c8 : t246 = true
   ·
    subst c8
    have H1 : ((impl_isAct.f a1_1).bind fun t247 => (if t247 = true then ((impl_fieldsValid.f k l1_3 (l0.length : Int)).bind fun t248 => (some t248)) else (some false))) = some r := by rw [if_pos rfl] at H; exact H
    clear H
    have H := H1
    clear H1
    replace H := Option.bind_eq_some_iff.mp H
    obtain ⟨t247, A90, H⟩ := H
    replace H : (if t247 = true then ((impl_fieldsValid.f k l1_3 (l0.length : Int)).bind fun t248 => (some t248)) else (some false)) = some r := H
    have A9 := Aside0.mk A90
    clear A90
    by_cases c10 : t247 = true
    ·
     subst c10
     have H1 : ((impl_fieldsValid.f k l1_3 (l0.length : Int)).bind fun t248 => (some t248)) = some r := by rw [if_pos rfl] at H; exact H
     clear H
     have H := H1
     clear H1
     replace H := Option.bind_eq_some_iff.mp H
     obtain ⟨t248, A110, H⟩ := H
     replace H : (some t248) = some r := H
     have A11 := Aside0.mk A110
     clear A110
     obtain rfl := Option.some.inj H
     go_enter Try.func17, Try.ntmps17
     go_wp2_with (first | ((with_reducible refine gate_dst (N := 3) rfl ?_); (try (refine gate_guard (by rfl) ?_; dsimp only)); refine bx 3 #[.int .i64 a1_0, .int .i64 a1_1, .int .i64 a1_2, .slice A1_3 l1_3.length c1_3] 36 ?_; intro gb243 hg w12 hbox hb; have BK243 := Aside0.mk (hbox); have GW243 := gwB HB hg; have GE243 := gwB HB hg; replace HB := bS HB hb; clear hb hbox hg) | ((with_reducible refine gate_callee (f := 46) rfl ?_); refine gl (some 6) Try.func46 #[.slice A0 l0.length c0] ?_; (with_reducible refine (impl_WorldValid.calls k _ _ l0 true _ ?side1 ?side2 A3.out).mono ?_); (case side1 => repeat (first | exact (Kd.C_below HR0.out HB.out) | (with_reducible refine Kd.C_alloc ?_ _) | (with_reducible refine Kd.C_drewN ?_ _) | (with_reducible refine Kd.C_drew ?_))); (case side2 => exact HC0.out); rintro e w13 ⟨rfl, hb⟩; refine ⟨_, rfl, ?_⟩; replace BK243 := bB BK243 hb; replace HB := bS HB hb; (try clear hb); (try clear hb2); (try clear hk); (try clear hi); obtain ⟨hcz14_0, hcz14_1, hcz14_2, hcz14_3⟩ := cs4 BK243.out; obtain ⟨hfz14_0, hfz14_1, hfz14_2, hfz14_3⟩ := fz4 BK243.out) | (go_at_call 47; (with_reducible refine (impl_isThing.calls _ _ l0 a1_0 true _ ?side1 ?side2 A5.out).mono ?_); (case side1 => repeat (first | exact (Kd.C_below HR0.out HB.out) | (with_reducible refine Kd.C_alloc ?_ _) | (with_reducible refine Kd.C_drewN ?_ _) | (with_reducible refine Kd.C_drew ?_))); (case side2 => exact HC0.out); rintro e w' ⟨rfl, ⟨nd, rfl⟩⟩) | (go_at_call 47; (with_reducible refine (impl_isThing.calls _ _ l0 a1_2 true _ ?side1 ?side2 A7.out).mono ?_); (case side1 => repeat (first | exact (Kd.C_below HR0.out (by exact bw HB.out)) | exact HR0.out | (with_reducible refine Kd.C_alloc ?_ _) | (with_reducible refine Kd.C_drewN ?_ _) | (with_reducible refine Kd.C_drew ?_))); (case side2 => exact HC0.out); rintro e w' ⟨rfl, ⟨nd, rfl⟩⟩) | (go_at_call 51; (with_reducible refine (impl_isAct.calls a1_1 true _ A9.out).mono ?_); rintro e w' ⟨rfl, ⟨nd, rfl⟩⟩) | (go_at_call 52; (with_reducible refine (impl_fieldsValid.calls k _ _ l1_3 (l0.length : Int) t248 _ ?side1 ?side2 A11.out).mono ?_); (case side1 => repeat (first | exact (Kd.C_below HR1_3.out (by exact bw HB.out)) | exact HR1_3.out | (with_reducible refine Kd.C_alloc ?_ _) | (with_reducible refine Kd.C_drewN ?_ _) | (with_reducible refine Kd.C_drew ?_))); (case side2 => exact HC1_3.out); rintro e w15 ⟨rfl, hb⟩; have n0_ := bB BK243 hb; have n1_ := bS HB hb; clear BK243; clear HB; have BK243 := n0_; have HB := n1_; clear n0_ n1_; (try clear hb); (try clear hb2); (try clear hk); (try clear hi)))
     go_ret
     exact ⟨by first | rfl | (simp [errW_none, errW_some] <;> rfl) | (simp [*, errW_none, errW_some] <;> rfl), by exact bw HB.out⟩
    ·
     replace c10 := Bool.eq_false_iff.mpr c10
     subst c10
     have H1 : (some false) = some r := by rw [if_neg (show ¬ (false = true) by decide)] at H; exact H
     clear H
     have H := H1
     clear H1
     obtain rfl := Option.some.inj H
     go_enter Try.func17, Try.ntmps17
     go_wp2_with (first | ((with_reducible refine gate_dst (N := 3) rfl ?_); (try (refine gate_guard (by rfl) ?_; dsimp only)); refine bx 3 #[.int .i64 a1_0, .int .i64 a1_1, .int .i64 a1_2, .slice A1_3 l1_3.length c1_3] 36 ?_; intro gb243 hg w16 hbox hb; have BK243 := Aside0.mk (hbox); have GW243 := gwB HB hg; have GE243 := gwB HB hg; replace HB := bS HB hb; clear hb hbox hg) | ((with_reducible refine gate_callee (f := 46) rfl ?_); refine gl (some 6) Try.func46 #[.slice A0 l0.length c0] ?_; (with_reducible refine (impl_WorldValid.calls k _ _ l0 true _ ?side1 ?side2 A3.out).mono ?_); (case side1 => repeat (first | exact (Kd.C_below HR0.out HB.out) | (with_reducible refine Kd.C_alloc ?_ _) | (with_reducible refine Kd.C_drewN ?_ _) | (with_reducible refine Kd.C_drew ?_))); (case side2 => exact HC0.out); rintro e w17 ⟨rfl, hb⟩; refine ⟨_, rfl, ?_⟩; replace BK243 := bB BK243 hb; replace HB := bS HB hb; (try clear hb); (try clear hb2); (try clear hk); (try clear hi); obtain ⟨hcz18_0, hcz18_1, hcz18_2, hcz18_3⟩ := cs4 BK243.out; obtain ⟨hfz18_0, hfz18_1, hfz18_2, hfz18_3⟩ := fz4 BK243.out) | (go_at_call 47; (with_reducible refine (impl_isThing.calls _ _ l0 a1_0 true _ ?side1 ?side2 A5.out).mono ?_); (case side1 => repeat (first | exact (Kd.C_below HR0.out HB.out) | (with_reducible refine Kd.C_alloc ?_ _) | (with_reducible refine Kd.C_drewN ?_ _) | (with_reducible refine Kd.C_drew ?_))); (case side2 => exact HC0.out); rintro e w' ⟨rfl, ⟨nd, rfl⟩⟩) | (go_at_call 47; (with_reducible refine (impl_isThing.calls _ _ l0 a1_2 true _ ?side1 ?side2 A7.out).mono ?_); (case side1 => repeat (first | exact (Kd.C_below HR0.out (by exact bw HB.out)) | exact HR0.out | (with_reducible refine Kd.C_alloc ?_ _) | (with_reducible refine Kd.C_drewN ?_ _) | (with_reducible refine Kd.C_drew ?_))); (case side2 => exact HC0.out); rintro e w' ⟨rfl, ⟨nd, rfl⟩⟩) | (go_at_call 51; (with_reducible refine (impl_isAct.calls a1_1 false _ A9.out).mono ?_); rintro e w' ⟨rfl, ⟨nd, rfl⟩⟩))
     go_ret
     exact ⟨by first | rfl | (simp [errW_none, errW_some] <;> rfl) | (simp [*, errW_none, errW_some] <;> rfl), by exact bw HB.out⟩
   ·
    replace c8 := Bool.eq_false_iff.mpr c8
    subst c8
    have H1 : (some false) = some r := by rw [if_neg (show ¬ (false = true) by decide)] at H; exact H
    clear H
    have H := H1
    clear H1
    obtain rfl := Option.some.inj H
    go_enter Try.func17, Try.ntmps17
    go_wp2_with (first | ((with_reducible refine gate_dst (N := 3) rfl ?_); (try (refine gate_guard (by rfl) ?_; dsimp only)); refine bx 3 #[.int .i64 a1_0, .int .i64 a1_1, .int .i64 a1_2, .slice A1_3 l1_3.length c1_3] 36 ?_; intro gb243 hg w19 hbox hb; have BK243 := Aside0.mk (hbox); have GW243 := gwB HB hg; have GE243 := gwB HB hg; replace HB := bS HB hb; clear hb hbox hg) | ((with_reducible refine gate_callee (f := 46) rfl ?_); refine gl (some 6) Try.func46 #[.slice A0 l0.length c0] ?_; (with_reducible refine (impl_WorldValid.calls k _ _ l0 true _ ?side1 ?side2 A3.out).mono ?_); (case side1 => repeat (first | exact (Kd.C_below HR0.out HB.out) | (with_reducible refine Kd.C_alloc ?_ _) | (with_reducible refine Kd.C_drewN ?_ _) | (with_reducible refine Kd.C_drew ?_))); (case side2 => exact HC0.out); rintro e w20 ⟨rfl, hb⟩; refine ⟨_, rfl, ?_⟩; replace BK243 := bB BK243 hb; replace HB := bS HB hb; (try clear hb); (try clear hb2); (try clear hk); (try clear hi); obtain ⟨hcz21_0, hcz21_1, hcz21_2, hcz21_3⟩ := cs4 BK243.out; obtain ⟨hfz21_0, hfz21_1, hfz21_2, hfz21_3⟩ := fz4 BK243.out) | (go_at_call 47; (with_reducible refine (impl_isThing.calls _ _ l0 a1_0 true _ ?side1 ?side2 A5.out).mono ?_); (case side1 => repeat (first | exact (Kd.C_below HR0.out HB.out) | (with_reducible refine Kd.C_alloc ?_ _) | (with_reducible refine Kd.C_drewN ?_ _) | (with_reducible refine Kd.C_drew ?_))); (case side2 => exact HC0.out); rintro e w' ⟨rfl, ⟨nd, rfl⟩⟩) | (go_at_call 47; (with_reducible refine (impl_isThing.calls _ _ l0 a1_2 false _ ?side1 ?side2 A7.out).mono ?_); (case side1 => repeat (first | exact (Kd.C_below HR0.out (by exact bw HB.out)) | exact HR0.out | (with_reducible refine Kd.C_alloc ?_ _) | (with_reducible refine Kd.C_drewN ?_ _) | (with_reducible refine Kd.C_drew ?_))); (case side2 => exact HC0.out); rintro e w' ⟨rfl, ⟨nd, rfl⟩⟩))
    go_ret
    exact ⟨by first | rfl | (simp [errW_none, errW_some] <;> rfl) | (simp [*, errW_none, errW_some] <;> rfl), by exact bw HB.out⟩
  ·
   replace c6 := Bool.eq_false_iff.mpr c6
   subst c6
   have H1 : (some false) = some r := by rw [if_neg (show ¬ (false = true) by decide)] at H; exact H
   clear H
   have H := H1
   clear H1
   obtain rfl := Option.some.inj H
   go_enter Try.func17, Try.ntmps17
   go_wp2_with (first | ((with_reducible refine gate_dst (N := 3) rfl ?_); (try (refine gate_guard (by rfl) ?_; dsimp only)); refine bx 3 #[.int .i64 a1_0, .int .i64 a1_1, .int .i64 a1_2, .slice A1_3 l1_3.length c1_3] 36 ?_; intro gb243 hg w22 hbox hb; have BK243 := Aside0.mk (hbox); have GW243 := gwB HB hg; have GE243 := gwB HB hg; replace HB := bS HB hb; clear hb hbox hg) | ((with_reducible refine gate_callee (f := 46) rfl ?_); refine gl (some 6) Try.func46 #[.slice A0 l0.length c0] ?_; (with_reducible refine (impl_WorldValid.calls k _ _ l0 true _ ?side1 ?side2 A3.out).mono ?_); (case side1 => repeat (first | exact (Kd.C_below HR0.out HB.out) | (with_reducible refine Kd.C_alloc ?_ _) | (with_reducible refine Kd.C_drewN ?_ _) | (with_reducible refine Kd.C_drew ?_))); (case side2 => exact HC0.out); rintro e w23 ⟨rfl, hb⟩; refine ⟨_, rfl, ?_⟩; replace BK243 := bB BK243 hb; replace HB := bS HB hb; (try clear hb); (try clear hb2); (try clear hk); (try clear hi); obtain ⟨hcz24_0, hcz24_1, hcz24_2, hcz24_3⟩ := cs4 BK243.out; obtain ⟨hfz24_0, hfz24_1, hfz24_2, hfz24_3⟩ := fz4 BK243.out) | (go_at_call 47; (with_reducible refine (impl_isThing.calls _ _ l0 a1_0 false _ ?side1 ?side2 A5.out).mono ?_); (case side1 => repeat (first | exact (Kd.C_below HR0.out HB.out) | (with_reducible refine Kd.C_alloc ?_ _) | (with_reducible refine Kd.C_drewN ?_ _) | (with_reducible refine Kd.C_drew ?_))); (case side2 => exact HC0.out); rintro e w' ⟨rfl, ⟨nd, rfl⟩⟩))
   go_ret
   exact ⟨by first | rfl | (simp [errW_none, errW_some] <;> rfl) | (simp [*, errW_none, errW_some] <;> rfl), by exact bw HB.out⟩
 ·
  replace c4 := Bool.eq_false_iff.mpr c4
  subst c4
  have H1 : (some false) = some r := by rw [if_neg (show ¬ (false = true) by decide)] at H; exact H
  clear H
  have H := H1
  clear H1
  obtain rfl := Option.some.inj H
  go_enter Try.func17, Try.ntmps17
  go_wp2_with (first | ((with_reducible refine gate_dst (N := 3) rfl ?_); (try (refine gate_guard (by rfl) ?_; dsimp only)); refine bx 3 #[.int .i64 a1_0, .int .i64 a1_1, .int .i64 a1_2, .slice A1_3 l1_3.length c1_3] 36 ?_; intro gb243 hg w25 hbox hb; have BK243 := Aside0.mk (hbox); have GW243 := gwB HB hg; have GE243 := gwB HB hg; replace HB := bS HB hb; clear hb hbox hg) | ((with_reducible refine gate_callee (f := 46) rfl ?_); refine gl (some 6) Try.func46 #[.slice A0 l0.length c0] ?_; (with_reducible refine (impl_WorldValid.calls k _ _ l0 false _ ?side1 ?side2 A3.out).mono ?_); (case side1 => repeat (first | exact (Kd.C_below HR0.out HB.out) | (with_reducible refine Kd.C_alloc ?_ _) | (with_reducible refine Kd.C_drewN ?_ _) | (with_reducible refine Kd.C_drew ?_))); (case side2 => exact HC0.out); rintro e w26 ⟨rfl, hb⟩; refine ⟨_, rfl, ?_⟩; replace BK243 := bB BK243 hb; replace HB := bS HB hb; (try clear hb); (try clear hb2); (try clear hk); (try clear hi)))
  go_ret
  exact ⟨by first | rfl | (simp [errW_none, errW_some] <;> rfl) | (simp [*, errW_none, errW_some] <;> rfl), by exact bw HB.out⟩

end Go.Proofs.Ytacpkmdnoggmoaa.P
