-- Written by a program of this session (wip/tool).
import Derived.Test.YtoipfhdlgoaldaaPx0
import Derived.Test.YtoipfhdlgoaldaaPx900
import Derived.Test.YtoipfhdlgoaldaaPx1031
import Derived.Test.YtoipfhdlgoaldaaPx1032
import Derived.Test.YtoipfhdlgoaldaaPx1041
import Derived.Test.YtoipfhdlgoaldaaPx1042
import Derived.Test.YtoipfhdlgoaldaaPx1047
import Derived.Test.YtoipfhdlgoaldaaPx1057
namespace Go.Proofs.Ytoipfhdlgoaldaa.P
open Go.RowKit Go.Proofs.YtoipfhdlgoaldaaW.PrintWords Go.Proofs.YtoipfhdlgoaldaaW.PrintLast Go.Proofs.YtoipfhdlgoaldaaW.PrintMore
attribute [local go_sem] max2_int min2_int max_two min_two max_three min_three max_four min_four   -- for this text's walks alone
set_option linter.unusedVariables false
set_option linter.unusedSimpArgs false

attribute [local go_sem high] eqA55
/-! ### spec_DrawAllRequests: function 16 -/
def spec_DrawAllRequests.f (k : Nat) (l0 : List Int) : Option ((List (S74)) × (List (S55))) := (spec_l20Open.f l0).bind fun bt299 => ((spec_l20Things.f k bt299.1 bt299.2 9).bind fun bt302 => ((spec_l20Fields.f k bt299.1 bt302.2 (bt302.1.length : Int)).bind fun bt306 => ((spec_l20Rd_odd.f k bt299.1 bt306.2 9).bind fun bt310 => (if bt310.1 = true then (if bt306.1.length < 4398046511104 then (some (bt302.1, (bt306.1 ++ [(⟨(⟨#[120]⟩ : ByteArray), (⟨0, 0⟩ : S52)⟩ : S55)]))) else (none)) else (some (bt302.1, bt306.1))))))
theorem spec_DrawAllRequests.mono : ∀ a0 k, LeO (spec_DrawAllRequests.f k a0) (spec_DrawAllRequests.f (k + 1) a0) := by
 intro a0 k
 unfold spec_DrawAllRequests.f
 repeat' first
   | (with_reducible exact spec_l20Fields.mono _ _ _ _)
   | (with_reducible exact spec_l20Rd_odd.mono _ _ _ _)
   | (with_reducible exact spec_l20Things.mono _ _ _ _)
   | (with_reducible exact LeO.refl _)
   | (with_reducible exact LeO.none _)
   | (with_reducible refine LeO.ite ?_ ?_)
   | (with_reducible refine LeO.bind ?_ (fun _ => ?_))
   | exact spec_l20Fields.mono _ _ _ _
   | exact spec_l20Rd_odd.mono _ _ _ _
   | exact spec_l20Things.mono _ _ _ _
   | exact LeO.none _
   | refine LeO.ite ?_ ?_
   | refine LeO.bind ?_ (fun _ => ?_)
set_option maxHeartbeats 8000000 in
set_option maxRecDepth 100000 in
theorem spec_DrawAllRequests.calls (k : Nat) (A0 : Option Addr) (c0 : Nat) (l0 : List Int) (r1 : List (S74)) (r2 : List (S55)) (w : World) (hr0 : Kd.C (Kd.int .u8) w A0 l0.length l0) (hc0 : l0.length ≤ c0) (h : spec_DrawAllRequests.f k l0 = some (r1, r2)) :
  Calls Try.prog 16 #[.slice A0 l0.length c0] w fun e w' => ∃ v0_ v1_ : Value, e = .returned (.tuple #[v0_, v1_]) ∧ Kd.S k74 74 w' w.heap.size (fun k_ => some k_ ≠ (v1_ : Value).ownBlock) v0_ r1 ∧ Kd.R k55 55 w' w.heap.size (fun _ => True) v1_ r2 ∧ Below w.heap.size w w' := by
 have hu55 := Try.underlying55
 have HR0 := Aside0.mk hr0
 have HC0 := Aside0.mk hc0
 clear hr0 hc0
 have HB := Aside0.mk (Below.refl w.heap.size w)
 have H : ((spec_l20Open.f l0).bind fun bt299 => ((spec_l20Things.f k bt299.1 bt299.2 9).bind fun bt302 => ((spec_l20Fields.f k bt299.1 bt302.2 (bt302.1.length : Int)).bind fun bt306 => ((spec_l20Rd_odd.f k bt299.1 bt306.2 9).bind fun bt310 => (if bt310.1 = true then (if bt306.1.length < 4398046511104 then (some (bt302.1, (bt306.1 ++ [(⟨(⟨#[120]⟩ : ByteArray), (⟨0, 0⟩ : S52)⟩ : S55)]))) else (none)) else (some (bt302.1, bt306.1))))))) = some (r1, r2) := h
 clear h
 replace H := Option.bind_eq_some_iff.mp H
 obtain ⟨⟨t299, t300⟩, A20, H⟩ := H
 replace H : ((spec_l20Things.f k t299 t300 9).bind fun bt302 => ((spec_l20Fields.f k t299 bt302.2 (bt302.1.length : Int)).bind fun bt306 => ((spec_l20Rd_odd.f k t299 bt306.2 9).bind fun bt310 => (if bt310.1 = true then (if bt306.1.length < 4398046511104 then (some (bt302.1, (bt306.1 ++ [(⟨(⟨#[120]⟩ : ByteArray), (⟨0, 0⟩ : S52)⟩ : S55)]))) else (none)) else (some (bt302.1, bt306.1)))))) = some (r1, r2) := H
 have A2 := Aside0.mk A20
 clear A20
 replace H := Option.bind_eq_some_iff.mp H
 obtain ⟨⟨t302, t305⟩, A30, H⟩ := H
 replace H : ((spec_l20Fields.f k t299 t305 (t302.length : Int)).bind fun bt306 => ((spec_l20Rd_odd.f k t299 bt306.2 9).bind fun bt310 => (if bt310.1 = true then (if bt306.1.length < 4398046511104 then (some (t302, (bt306.1 ++ [(⟨(⟨#[120]⟩ : ByteArray), (⟨0, 0⟩ : S52)⟩ : S55)]))) else (none)) else (some (t302, bt306.1))))) = some (r1, r2) := H
 have A3 := Aside0.mk A30
 clear A30
 replace H := Option.bind_eq_some_iff.mp H
 obtain ⟨⟨t306, t309⟩, A40, H⟩ := H
 replace H : ((spec_l20Rd_odd.f k t299 t309 9).bind fun bt310 => (if bt310.1 = true then (if t306.length < 4398046511104 then (some (t302, (t306 ++ [(⟨(⟨#[120]⟩ : ByteArray), (⟨0, 0⟩ : S52)⟩ : S55)]))) else (none)) else (some (t302, t306)))) = some (r1, r2) := H
 have A4 := Aside0.mk A40
 clear A40
 replace H := Option.bind_eq_some_iff.mp H
 obtain ⟨⟨t310, t311⟩, A50, H⟩ := H
 replace H : (if t310 = true then (if t306.length < 4398046511104 then (some (t302, (t306 ++ [(⟨(⟨#[120]⟩ : ByteArray), (⟨0, 0⟩ : S52)⟩ : S55)]))) else (none)) else (some (t302, t306))) = some (r1, r2) := H
 have A5 := Aside0.mk A50
 clear A50
 by_cases c6 : t310 = true
 ·
  subst c6
  have H1 : (if t306.length < 4398046511104 then (some (t302, (t306 ++ [(⟨(⟨#[120]⟩ : ByteArray), (⟨0, 0⟩ : S52)⟩ : S55)]))) else (none)) = some (r1, r2) := by rw [if_pos rfl] at H; exact H
  clear H
  have H := H1
  clear H1
  by_cases c7 : t306.length < 4398046511104
  ·
   rw [if_pos c7] at H; have LMc7 := Aside0.mk c7; clear c7
   obtain ⟨y312, hy312⟩ : ∃ y_ : List (S55), y_ = (t306 ++ [(⟨(⟨#[120]⟩ : ByteArray), (⟨0, 0⟩ : S52)⟩ : S55)]) := ⟨_, rfl⟩
   replace H : (some (t302, y312)) = some (r1, r2) := by first | (rw [hy312]; with_reducible exact H) | (have H2_ := (Option.bind_some _ _).symm.trans H; rw [hy312]; with_reducible exact H2_) | (have H2_ := (Option.bind_some _ _).symm.trans H; with_reducible exact H2_) | with_reducible exact H | (rw [hy312]; exact H) | exact H
   have Ny312 := Aside0.mk hy312
   clear hy312
   simp only [Option.some.injEq, Prod.mk.injEq] at H
   obtain ⟨rfl, rfl⟩ := H
   go_enter Try.func16, Try.ntmps16
   go_wp2_with (first | ((with_reducible refine gate_callee (f := 31) rfl ?_); refine gl (some 8) Try.func31 #[.slice A0 l0.length c0] ?_; (with_reducible refine (spec_l20Open.calls _ _ l0 t299 t300 w _ ?side1 ?side2 ?side3 A2.out).mono ?_); (case side1 => exact bw HB.out); (case side2 => exact HR0.out); (case side3 => exact HC0.out); rintro e w8 ⟨g301, rfl, hi, hb, hb2⟩; refine ⟨_, rfl, ?_⟩; replace HB := Aside0.mk (hb); have HI301 := Aside0.mk (hi); (try clear hb); (try clear hb2); (try clear hk); (try clear hi)) | ((with_reducible refine gate_callee (f := 32) rfl ?_); refine gl (some 10) Try.func32 #[.pointer (some ⟨g301, 0, none⟩), .int .i64 9] ?_; (with_reducible refine (spec_l20Things.calls k g301 t299 t300 9 t302 t305 w _ ?side1 ?side2 A3.out).mono ?_); (case side1 => exact sw80 HI301.out); (case side2 => exact bw HB.out); rintro e w9 ⟨v303, rfl, ho0, hi, hb, hk⟩; refine ⟨_, rfl, ?_⟩; have HO304 := Aside0.mk (Kd.S_lower ho0 (below_size (by exact bw HB.out))); replace HB := Aside0.mk (hb); replace HI301 := Aside0.mk (hi); (try clear hb); (try clear hb2); (try clear hk); (try clear hi); (try clear ho0); obtain ⟨Ao10, co10, eo10⟩ := Kd.S_slice HO304.out; subst eo10) | ((with_reducible refine gate_callee (f := 41) rfl ?_); refine gl (some 14) Try.func41 #[.pointer (some ⟨g301, 0, none⟩), .int .i64 (t302.length : Int)] ?_; (with_reducible refine (spec_l20Fields.calls k g301 t299 t305 (t302.length : Int) t306 t309 w _ ?side1 ?side2 A4.out).mono ?_); (case side1 => exact sw80 HI301.out); (case side2 => exact bw HB.out); rintro e w11 ⟨v307, rfl, ho0, hi, hb, hk⟩; refine ⟨_, rfl, ?_⟩; replace HO304 := Aside0.mk (Kd.S_mono (Kd.S_told (Kd.S_oldK (IsS80.apartS (show IsS80 w _ g301 t299 t305 from by exact sw80 HI301.out) (by exact Kd.xS HO304.out) (by decide)) hk) (Kd.R_base ho0)) (fun _ h_ => h_.1)); have HO308 := Aside0.mk (Kd.R_lower ho0 (below_size (by exact bw HB.out))); replace HB := Aside0.mk (hb); replace HI301 := Aside0.mk (hi); (try clear hb); (try clear hb2); (try clear hk); (try clear hi); (try clear ho0)) | ((with_reducible refine gate_callee (f := 42) rfl ?_); refine gl (some 16) Try.func42 #[.pointer (some ⟨g301, 0, none⟩), .int .i64 9] ?_; (with_reducible refine (spec_l20Rd_odd.calls k g301 t299 t309 9 true t311 w _ ?side1 ?side2 A5.out).mono ?_); (case side1 => exact sw80 HI301.out); (case side2 => exact bw HB.out); rintro e w12 ⟨rfl, hi, hb, hk⟩; refine ⟨_, rfl, ?_⟩; replace HO304 := Aside0.mk (Kd.S_mono (Kd.S_keep (IsS80.apartS (show IsS80 w _ g301 t299 t309 from by exact sw80 HI301.out) (by exact Kd.xS HO304.out) (by decide)) hk (fun _ h => h.2)) (fun _ h => h.1)); replace HO308 := Aside0.mk (Kd.R_mono (Kd.R_keep (IsS80.apart (show IsS80 w _ g301 t299 t309 from by exact sw80 HI301.out) (by exact Kd.xR HO308.out) (by decide)) hk (fun _ h => h.2)) (fun _ h => h.1)); replace HB := Aside0.mk (hb); replace HI301 := Aside0.mk (hi); (try clear hb); (try clear hb2); (try clear hk); (try clear hi)) | ((with_reducible refine gate_builtin (b := .append) (xs := #[.tmp 17, .tmp 19]) rfl ?_); at_builtin; refine Kd.R_append k55 (w0 := w) w.heap.size rfl (.tmp 17) (.tmp 19) 34 55 (.agg #[(.string ⟨#[]⟩), (.int .i64 0), (.int .i64 0)]) 32 rfl Try.underlying34 info55 rfl (by decide) (by omega) v307 t306 (⟨(⟨#[120]⟩ : ByteArray), (⟨0, 0⟩ : S52)⟩ : S55) [.string (⟨#[120]⟩ : ByteArray), .int .i64 0, .int .i64 0] (fun _ => True) (fun _ => False) rfl rfl ?aP (fun _ hk => hk.elim) ?aF ?aO ?aB ?aS ?aL ?_; (case aP => exact k55_mkM _ _ _ (⟨(⟨#[120]⟩ : ByteArray), (⟨0, 0⟩ : S52)⟩ : S55)); (case aB => exact (by exact bw HB.out)); (case aF => exact (fun _ _ => trivial)); (case aO => exact (by exact Kd.xR HO308.out)); (case aS => exact (below_size (by exact bw HB.out))); (case aL => have := LMc7.out; omega); intro v313 w13 ho hb hg hat; rw [← Ny312.out] at ho; replace HI301 := Aside0.mk (IsS80.grown (by exact sw80 HI301.out) hg (IsS80.own_ne HI301.out HO308.out (by decide))); replace HO304 := Aside0.mk (Kd.S_after (ok := (fun _ => True)) (by exact Kd.xS HO304.out) hg hat); replace HB := Aside0.mk (hb); have HO314 := Aside0.mk (ho); clear HO308; clear ho hb hg hat))
   go_ret2
   exact ⟨_, _, by first | rfl | (simp [errW_none, errW_some] <;> rfl) | (simp [*, errW_none, errW_some] <;> rfl), by (with_reducible repeat (first | apply Kd.S_alloc | apply Kd.S_drewN | apply Kd.S_drew)); exact Kd.S_mono HO304.out (fun _ hk => hk.2), by exact Kd.xR HO314.out, by exact bw HB.out⟩
  ·
   rw [if_neg c7] at H; exact absurd H (by simp)
 ·
  replace c6 := Bool.eq_false_iff.mpr c6
  subst c6
  have H1 : (some (t302, t306)) = some (r1, r2) := by rw [if_neg (show ¬ (false = true) by decide)] at H; exact H
  clear H
  have H := H1
  clear H1
  simp only [Option.some.injEq, Prod.mk.injEq] at H
  obtain ⟨rfl, rfl⟩ := H
  go_enter Try.func16, Try.ntmps16
  go_wp2_with (first | ((with_reducible refine gate_callee (f := 31) rfl ?_); refine gl (some 8) Try.func31 #[.slice A0 l0.length c0] ?_; (with_reducible refine (spec_l20Open.calls _ _ l0 t299 t300 w _ ?side1 ?side2 ?side3 A2.out).mono ?_); (case side1 => exact bw HB.out); (case side2 => exact HR0.out); (case side3 => exact HC0.out); rintro e w14 ⟨g301, rfl, hi, hb, hb2⟩; refine ⟨_, rfl, ?_⟩; replace HB := Aside0.mk (hb); have HI301 := Aside0.mk (hi); (try clear hb); (try clear hb2); (try clear hk); (try clear hi)) | ((with_reducible refine gate_callee (f := 32) rfl ?_); refine gl (some 10) Try.func32 #[.pointer (some ⟨g301, 0, none⟩), .int .i64 9] ?_; (with_reducible refine (spec_l20Things.calls k g301 t299 t300 9 t302 t305 w _ ?side1 ?side2 A3.out).mono ?_); (case side1 => exact sw80 HI301.out); (case side2 => exact bw HB.out); rintro e w15 ⟨v303, rfl, ho0, hi, hb, hk⟩; refine ⟨_, rfl, ?_⟩; have HO304 := Aside0.mk (Kd.S_lower ho0 (below_size (by exact bw HB.out))); replace HB := Aside0.mk (hb); replace HI301 := Aside0.mk (hi); (try clear hb); (try clear hb2); (try clear hk); (try clear hi); (try clear ho0); obtain ⟨Ao16, co16, eo16⟩ := Kd.S_slice HO304.out; subst eo16) | ((with_reducible refine gate_callee (f := 41) rfl ?_); refine gl (some 14) Try.func41 #[.pointer (some ⟨g301, 0, none⟩), .int .i64 (t302.length : Int)] ?_; (with_reducible refine (spec_l20Fields.calls k g301 t299 t305 (t302.length : Int) t306 t309 w _ ?side1 ?side2 A4.out).mono ?_); (case side1 => exact sw80 HI301.out); (case side2 => exact bw HB.out); rintro e w17 ⟨v307, rfl, ho0, hi, hb, hk⟩; refine ⟨_, rfl, ?_⟩; replace HO304 := Aside0.mk (Kd.S_mono (Kd.S_told (Kd.S_oldK (IsS80.apartS (show IsS80 w _ g301 t299 t305 from by exact sw80 HI301.out) (by exact Kd.xS HO304.out) (by decide)) hk) (Kd.R_base ho0)) (fun _ h_ => h_.1)); have HO308 := Aside0.mk (Kd.R_lower ho0 (below_size (by exact bw HB.out))); replace HB := Aside0.mk (hb); replace HI301 := Aside0.mk (hi); (try clear hb); (try clear hb2); (try clear hk); (try clear hi); (try clear ho0)) | ((with_reducible refine gate_callee (f := 42) rfl ?_); refine gl (some 16) Try.func42 #[.pointer (some ⟨g301, 0, none⟩), .int .i64 9] ?_; (with_reducible refine (spec_l20Rd_odd.calls k g301 t299 t309 9 false t311 w _ ?side1 ?side2 A5.out).mono ?_); (case side1 => exact sw80 HI301.out); (case side2 => exact bw HB.out); rintro e w18 ⟨rfl, hi, hb, hk⟩; refine ⟨_, rfl, ?_⟩; replace HO304 := Aside0.mk (Kd.S_mono (Kd.S_keep (IsS80.apartS (show IsS80 w _ g301 t299 t309 from by exact sw80 HI301.out) (by exact Kd.xS HO304.out) (by decide)) hk (fun _ h => h.2)) (fun _ h => h.1)); replace HO308 := Aside0.mk (Kd.R_mono (Kd.R_keep (IsS80.apart (show IsS80 w _ g301 t299 t309 from by exact sw80 HI301.out) (by exact Kd.xR HO308.out) (by decide)) hk (fun _ h => h.2)) (fun _ h => h.1)); replace HB := Aside0.mk (hb); replace HI301 := Aside0.mk (hi); (try clear hb); (try clear hb2); (try clear hk); (try clear hi)))
  go_ret2
  exact ⟨_, _, by first | rfl | (simp [errW_none, errW_some] <;> rfl) | (simp [*, errW_none, errW_some] <;> rfl), by (with_reducible repeat (first | apply Kd.S_alloc | apply Kd.S_drewN | apply Kd.S_drew)); exact Kd.S_mono HO304.out (fun _ hk => hk.2), by exact Kd.xR HO308.out, by exact bw HB.out⟩

/-! ### impl_worldFits: function 43 -/
def impl_worldFits.f (k : Nat) (l0 : List (S74)) (l1 : List (S55)) : Option (Bool) := (impl_WorldValid.f k l0).bind fun t315 => (if t315 = true then ((impl_fieldsValid.f k l1 (l0.length : Int)).bind fun t316 => (some t316)) else (some false))
theorem impl_worldFits.mono : ∀ a0 a1 k, LeO (impl_worldFits.f k a0 a1) (impl_worldFits.f (k + 1) a0 a1) := by
 intro a0 a1 k
 unfold impl_worldFits.f
 repeat' first
   | (with_reducible exact impl_WorldValid.mono _ _)
   | (with_reducible exact impl_fieldsValid.mono _ _ _)
   | (with_reducible exact LeO.refl _)
   | (with_reducible exact LeO.none _)
   | (with_reducible refine LeO.ite ?_ ?_)
   | (with_reducible refine LeO.bind ?_ (fun _ => ?_))
   | exact impl_WorldValid.mono _ _
   | exact impl_fieldsValid.mono _ _ _
   | exact LeO.none _
   | refine LeO.ite ?_ ?_
   | refine LeO.bind ?_ (fun _ => ?_)
set_option maxHeartbeats 8000000 in
set_option maxRecDepth 100000 in
theorem impl_worldFits.calls (k : Nat) (A0 : Option Addr) (c0 : Nat) (l0 : List (S74)) (A1 : Option Addr) (c1 : Nat) (l1 : List (S55)) (r : Bool) (w : World) (hr0 : Kd.C k74 w A0 l0.length l0) (hc0 : l0.length ≤ c0) (hr1 : Kd.C k55 w A1 l1.length l1) (hc1 : l1.length ≤ c1) (h : impl_worldFits.f k l0 l1 = some r) :
  Calls Try.prog 43 #[.slice A0 l0.length c0, .slice A1 l1.length c1] w fun e w' => e = .returned (.bool r) ∧ Below w.heap.size w w' := by
 have HR0 := Aside0.mk hr0
 have HC0 := Aside0.mk hc0
 clear hr0 hc0
 have HR1 := Aside0.mk hr1
 have HC1 := Aside0.mk hc1
 clear hr1 hc1
 have HB := Aside0.mk (Below.refl w.heap.size w)
 have H : ((impl_WorldValid.f k l0).bind fun t315 => (if t315 = true then ((impl_fieldsValid.f k l1 (l0.length : Int)).bind fun t316 => (some t316)) else (some false))) = some r := h
 clear h
 replace H := Option.bind_eq_some_iff.mp H
 obtain ⟨t315, A30, H⟩ := H
 replace H : (if t315 = true then ((impl_fieldsValid.f k l1 (l0.length : Int)).bind fun t316 => (some t316)) else (some false)) = some r := H
 have A3 := Aside0.mk A30
 clear A30
 by_cases c4 : t315 = true
 ·
  subst c4
  have H1 : ((impl_fieldsValid.f k l1 (l0.length : Int)).bind fun t316 => (some t316)) = some r := by rw [if_pos rfl] at H; exact H
  clear H
  have H := H1
  clear H1
  replace H := Option.bind_eq_some_iff.mp H
  obtain ⟨t316, A50, H⟩ := H
  replace H : (some t316) = some r := H
  have A5 := Aside0.mk A50
  clear A50
  obtain rfl := Option.some.inj H
  go_enter Try.func43, Try.ntmps43
  go_wp2_with (first | ((with_reducible refine gate_callee (f := 34) rfl ?_); refine gl (some 6) Try.func34 #[.slice A0 l0.length c0] ?_; (with_reducible refine (impl_WorldValid.calls k _ _ l0 true _ ?side1 ?side2 A3.out).mono ?_); (case side1 => repeat (first | exact HR0.out | (with_reducible refine Kd.C_alloc ?_ _) | (with_reducible refine Kd.C_drewN ?_ _) | (with_reducible refine Kd.C_drew ?_))); (case side2 => exact HC0.out); rintro e w6 ⟨rfl, hb⟩; refine ⟨_, rfl, ?_⟩; replace HB := bS HB hb; (try clear hb); (try clear hb2); (try clear hk); (try clear hi)) | (go_at_call 47; (with_reducible refine (impl_fieldsValid.calls k _ _ l1 (l0.length : Int) t316 _ ?side1 ?side2 A5.out).mono ?_); (case side1 => repeat (first | exact (Kd.C_below HR1.out HB.out) | (with_reducible refine Kd.C_alloc ?_ _) | (with_reducible refine Kd.C_drewN ?_ _) | (with_reducible refine Kd.C_drew ?_))); (case side2 => exact HC1.out); rintro e w7 ⟨rfl, hb⟩; have n0_ := bS HB hb; clear HB; have HB := n0_; clear n0_; (try clear hb); (try clear hb2); (try clear hk); (try clear hi)))
  go_ret
  exact ⟨by first | rfl | (simp [errW_none, errW_some] <;> rfl) | (simp [*, errW_none, errW_some] <;> rfl), by exact bw HB.out⟩
 ·
  replace c4 := Bool.eq_false_iff.mpr c4
  subst c4
  have H1 : (some false) = some r := by rw [if_neg (show ¬ (false = true) by decide)] at H; exact H
  clear H
  have H := H1
  clear H1
  obtain rfl := Option.some.inj H
  go_enter Try.func43, Try.ntmps43
  go_wp2_with (first | ((with_reducible refine gate_callee (f := 34) rfl ?_); refine gl (some 6) Try.func34 #[.slice A0 l0.length c0] ?_; (with_reducible refine (impl_WorldValid.calls k _ _ l0 false _ ?side1 ?side2 A3.out).mono ?_); (case side1 => repeat (first | exact HR0.out | (with_reducible refine Kd.C_alloc ?_ _) | (with_reducible refine Kd.C_drewN ?_ _) | (with_reducible refine Kd.C_drew ?_))); (case side2 => exact HC0.out); rintro e w8 ⟨rfl, hb⟩; refine ⟨_, rfl, ?_⟩; replace HB := bS HB hb; (try clear hb); (try clear hb2); (try clear hk); (try clear hi)))
  go_ret
  exact ⟨by first | rfl | (simp [errW_none, errW_some] <;> rfl) | (simp [*, errW_none, errW_some] <;> rfl), by exact bw HB.out⟩

/-! ### impl_cloneFields: function 44 -/
def impl_cloneFields.f (l0 : List (S55)) : Option ((List (S55))) := if ([] : List (S55)).length + l0.length < 4398046511104 then (some (([] : List (S55)) ++ l0)) else (none)
set_option maxHeartbeats 8000000 in
set_option maxRecDepth 100000 in
theorem impl_cloneFields.calls (A0 : Option Addr) (c0 : Nat) (l0 : List (S55)) (r : List (S55)) (w : World) (hr0 : Kd.C k55 w A0 l0.length l0) (hc0 : l0.length ≤ c0) (h : impl_cloneFields.f l0 = some r) :
  Calls Try.prog 44 #[.slice A0 l0.length c0] w fun e w' => ∃ v0_ : Value, e = .returned (v0_) ∧ Kd.R k55 55 w' w.heap.size (fun _ => True) v0_ r ∧ Below w.heap.size w w' := by
 have HR0 := Aside0.mk hr0
 have HC0 := Aside0.mk hc0
 clear hr0 hc0
 have HB := Aside0.mk (Below.refl w.heap.size w)
 have H : (if ([] : List (S55)).length + l0.length < 4398046511104 then (some (([] : List (S55)) ++ l0)) else (none)) = some r := h
 clear h
 by_cases c2 : ([] : List (S55)).length + l0.length < 4398046511104
 ·
  rw [if_pos c2] at H; have LMc2 := Aside0.mk c2; clear c2
  obtain ⟨y317, hy317⟩ : ∃ y_ : List (S55), y_ = (([] : List (S55)) ++ l0) := ⟨_, rfl⟩
  replace H : (some y317) = some r := by first | (rw [hy317]; with_reducible exact H) | (have H2_ := (Option.bind_some _ _).symm.trans H; rw [hy317]; with_reducible exact H2_) | (have H2_ := (Option.bind_some _ _).symm.trans H; with_reducible exact H2_) | with_reducible exact H | (rw [hy317]; exact H) | exact H
  have Ny317 := Aside0.mk hy317
  clear hy317
  obtain rfl := Option.some.inj H
  go_enter Try.func44, Try.ntmps44
  go_wp2_with (first | ((with_reducible refine gate_builtin (b := .append) (xs := #[.const (.slice none 0 0), .tmp 3]) rfl ?_); at_builtin; refine Kd.R_append_rows k55 (w0 := w) w.heap.size rfl (.const (.slice none 0 0)) (.tmp 3) 34 55 (.agg #[(.string ⟨#[]⟩), (.int .i64 0), (.int .i64 0)]) 32 rfl Try.underlying34 info55 rfl (by decide) (by omega) (.slice none 0 0) ([] : List (S55)) l0 _ _ _ (fun _ => True) (fun _ => False) rfl rfl ?aO ?aR (fun _ _ h => h) (fun _ h => h.elim) ?aF ?aB ?aS ?aL ?_; (case aR => repeat (first | exact HR0.out | (with_reducible refine Kd.C_alloc ?_ _) | (with_reducible refine Kd.C_drewN ?_ _) | (with_reducible refine Kd.C_drew ?_))); (case aB => exact (by exact bw HB.out)); (case aF => exact (fun _ _ => trivial)); (case aO => exact ((Kd.R_nil _ _ _ _ (fun _ => True)))); (case aS => exact (below_size (by exact bw HB.out))); (case aL => have := LMc2.out; omega); intro v318 w3 ho hb hg hat; rw [← Ny317.out] at ho; replace HB := Aside0.mk (hb); have HO319 := Aside0.mk (ho); clear ho hb hg hat))
  go_ret
  exact ⟨_, by first | rfl | (simp [errW_none, errW_some] <;> rfl) | (simp [*, errW_none, errW_some] <;> rfl), by exact Kd.xR HO319.out, by exact bw HB.out⟩
 ·
  rw [if_neg c2] at H; exact absurd H (by simp)

/-! ### impl_AllRequests: function 17 -/
mutual
def impl_AllRequests.l0 : Nat → List (S74) → List (S55) → List (S42) → Int → Int → Option ((List (S42)))
 | 0, _, _, _, _, _ => none
 | k + 1, x0, x1, x5, x14, x15 => if x15 < x14 then (impl_AllRequests.l1 k x0 x1 x5 x15 0 x14 x15) else (some x5)
def impl_AllRequests.l1 : Nat → List (S74) → List (S55) → List (S42) → Int → Int → Int → Int → Option ((List (S42)))
 | 0, _, _, _, _, _, _, _ => none
 | k + 1, x0, x1, x5, x6, x7, x14, x15 => if x7 ≤ 3 then (impl_AllRequests.l2 k x0 x1 x5 x6 x7 x14 x15 (x0.length : Int) 0) else (impl_AllRequests.l0 k x0 x1 x5 x14 (wrap64 (x15 + 1)))
def impl_AllRequests.l2 : Nat → List (S74) → List (S55) → List (S42) → Int → Int → Int → Int → Int → Int → Option ((List (S42)))
 | 0, _, _, _, _, _, _, _, _, _ => none
 | k + 1, x0, x1, x5, x6, x7, x14, x15, x23, x24 => if x24 < x23 then ((impl_cloneFields.f x1).bind fun t321 => (if x5.length < 2932031007402 then (impl_AllRequests.l2 k x0 x1 (x5 ++ [(⟨x6, x7, x24, t321⟩ : S42)]) x6 x7 x14 x15 x23 (wrap64 (x24 + 1))) else (none))) else (impl_AllRequests.l1 k x0 x1 x5 x6 (wrap64 (x7 + 1)) x14 x15)
end
def impl_AllRequests.f (k : Nat) (l0 : List (S74)) (l1 : List (S55)) : Option ((List (S42))) := (impl_worldFits.f k l0 l1).bind fun t320 => (if t320 = true then (impl_AllRequests.l0 k l0 l1 ([] : List (S42)) (l0.length : Int) 0) else (some ([] : List (S42))))
theorem impl_AllRequests.mono_l : ∀ k, (∀ y0 y1 y2 y3 y4, LeO (impl_AllRequests.l0 k y0 y1 y2 y3 y4) (impl_AllRequests.l0 (k + 1) y0 y1 y2 y3 y4)) ∧ (∀ y0 y1 y2 y3 y4 y5 y6, LeO (impl_AllRequests.l1 k y0 y1 y2 y3 y4 y5 y6) (impl_AllRequests.l1 (k + 1) y0 y1 y2 y3 y4 y5 y6)) ∧ (∀ y0 y1 y2 y3 y4 y5 y6 y7 y8, LeO (impl_AllRequests.l2 k y0 y1 y2 y3 y4 y5 y6 y7 y8) (impl_AllRequests.l2 (k + 1) y0 y1 y2 y3 y4 y5 y6 y7 y8))
 | 0 => ⟨fun _ _ _ _ _ r h => by simp [impl_AllRequests.l0] at h, fun _ _ _ _ _ _ _ r h => by simp [impl_AllRequests.l1] at h, fun _ _ _ _ _ _ _ _ _ r h => by simp [impl_AllRequests.l2] at h⟩
 | k + 1 => by
  obtain ⟨ih0, ih1, ih2⟩ := impl_AllRequests.mono_l k
  refine ⟨?_, ?_, ?_⟩
  ·
   intro y0 y1 y2 y3 y4
   unfold impl_AllRequests.l0
   repeat' first
   | (with_reducible exact ih0 _ _ _ _ _)
   | (with_reducible exact ih1 _ _ _ _ _ _ _)
   | (with_reducible exact ih2 _ _ _ _ _ _ _ _ _)
   | (with_reducible exact impl_worldFits.mono _ _ _)
   | (with_reducible exact LeO.refl _)
   | (with_reducible exact LeO.none _)
   | (with_reducible refine LeO.ite ?_ ?_)
   | (with_reducible refine LeO.bind ?_ (fun _ => ?_))
   | exact ih0 _ _ _ _ _
   | exact ih1 _ _ _ _ _ _ _
   | exact ih2 _ _ _ _ _ _ _ _ _
   | exact impl_worldFits.mono _ _ _
   | exact LeO.none _
   | refine LeO.ite ?_ ?_
   | refine LeO.bind ?_ (fun _ => ?_)
  ·
   intro y0 y1 y2 y3 y4 y5 y6
   unfold impl_AllRequests.l1
   repeat' first
   | (with_reducible exact ih0 _ _ _ _ _)
   | (with_reducible exact ih1 _ _ _ _ _ _ _)
   | (with_reducible exact ih2 _ _ _ _ _ _ _ _ _)
   | (with_reducible exact impl_worldFits.mono _ _ _)
   | (with_reducible exact LeO.refl _)
   | (with_reducible exact LeO.none _)
   | (with_reducible refine LeO.ite ?_ ?_)
   | (with_reducible refine LeO.bind ?_ (fun _ => ?_))
   | exact ih0 _ _ _ _ _
   | exact ih1 _ _ _ _ _ _ _
   | exact ih2 _ _ _ _ _ _ _ _ _
   | exact impl_worldFits.mono _ _ _
   | exact LeO.none _
   | refine LeO.ite ?_ ?_
   | refine LeO.bind ?_ (fun _ => ?_)
  ·
   intro y0 y1 y2 y3 y4 y5 y6 y7 y8
   unfold impl_AllRequests.l2
   repeat' first
   | (with_reducible exact ih0 _ _ _ _ _)
   | (with_reducible exact ih1 _ _ _ _ _ _ _)
   | (with_reducible exact ih2 _ _ _ _ _ _ _ _ _)
   | (with_reducible exact impl_worldFits.mono _ _ _)
   | (with_reducible exact LeO.refl _)
   | (with_reducible exact LeO.none _)
   | (with_reducible refine LeO.ite ?_ ?_)
   | (with_reducible refine LeO.bind ?_ (fun _ => ?_))
   | exact ih0 _ _ _ _ _
   | exact ih1 _ _ _ _ _ _ _
   | exact ih2 _ _ _ _ _ _ _ _ _
   | exact impl_worldFits.mono _ _ _
   | exact LeO.none _
   | refine LeO.ite ?_ ?_
   | refine LeO.bind ?_ (fun _ => ?_)
theorem impl_AllRequests.mono : ∀ a0 a1 k, LeO (impl_AllRequests.f k a0 a1) (impl_AllRequests.f (k + 1) a0 a1) := by
 intro a0 a1 k
 obtain ⟨ih0, ih1, ih2⟩ := impl_AllRequests.mono_l k
 unfold impl_AllRequests.f
 repeat' first
   | (with_reducible exact ih0 _ _ _ _ _)
   | (with_reducible exact ih1 _ _ _ _ _ _ _)
   | (with_reducible exact ih2 _ _ _ _ _ _ _ _ _)
   | (with_reducible exact impl_worldFits.mono _ _ _)
   | (with_reducible exact LeO.refl _)
   | (with_reducible exact LeO.none _)
   | (with_reducible refine LeO.ite ?_ ?_)
   | (with_reducible refine LeO.bind ?_ (fun _ => ?_))
   | exact ih0 _ _ _ _ _
   | exact ih1 _ _ _ _ _ _ _
   | exact ih2 _ _ _ _ _ _ _ _ _
   | exact impl_worldFits.mono _ _ _
   | exact LeO.none _
   | refine LeO.ite ?_ ?_
   | refine LeO.bind ?_ (fun _ => ?_)
set_option maxHeartbeats 8000000 in
set_option maxRecDepth 100000 in
theorem impl_AllRequests.calls (k : Nat) (A0 : Option Addr) (c0 : Nat) (l0 : List (S74)) (A1 : Option Addr) (c1 : Nat) (l1 : List (S55)) (r : List (S42)) (w : World) (hr0 : Kd.C k74 w A0 l0.length l0) (hc0 : l0.length ≤ c0) (hr1 : Kd.C k55 w A1 l1.length l1) (hc1 : l1.length ≤ c1) (h : impl_AllRequests.f k l0 l1 = some r) :
  Calls Try.prog 17 #[.slice A0 l0.length c0, .slice A1 l1.length c1] w fun e w' => ∃ v0_ : Value, e = .returned (v0_) ∧ Kd.S k42 42 w' w.heap.size (fun _ => True) v0_ r ∧ Below w.heap.size w w' := by
 have hu42 := Try.underlying42
 have HR0 := Aside0.mk hr0
 have HC0 := Aside0.mk hc0
 clear hr0 hc0
 have HR1 := Aside0.mk hr1
 have HC1 := Aside0.mk hc1
 clear hr1 hc1
 have HB := Aside0.mk (Below.refl w.heap.size w)
 have H : ((impl_worldFits.f k l0 l1).bind fun t320 => (if t320 = true then (impl_AllRequests.l0 k l0 l1 ([] : List (S42)) (l0.length : Int) 0) else (some ([] : List (S42))))) = some r := h
 clear h
 replace H := Option.bind_eq_some_iff.mp H
 obtain ⟨t320, A30, H⟩ := H
 replace H : (if t320 = true then (impl_AllRequests.l0 k l0 l1 ([] : List (S42)) (l0.length : Int) 0) else (some ([] : List (S42)))) = some r := H
 have A3 := Aside0.mk A30
 clear A30
 by_cases c4 : t320 = true
 ·
  subst c4
  have H1 : (impl_AllRequests.l0 k l0 l1 ([] : List (S42)) (l0.length : Int) 0) = some r := by rw [if_pos rfl] at H; exact H
  clear H
  have H := H1
  clear H1
  have H' := Aside0.mk H
  clear H
  go_enter Try.func17, Try.ntmps17
  go_wp2_with (first | ((with_reducible refine gate_callee (f := 43) rfl ?_); refine gl (some 11) Try.func43 #[.slice A0 l0.length c0, .slice A1 l1.length c1] ?_; (with_reducible refine (impl_worldFits.calls k _ _ l0 _ _ l1 true _ ?side1 ?side2 ?side3 ?side4 A3.out).mono ?_); (case side1 => repeat (first | exact HR0.out | (with_reducible refine Kd.C_alloc ?_ _) | (with_reducible refine Kd.C_drewN ?_ _) | (with_reducible refine Kd.C_drew ?_))); (case side2 => exact HC0.out); (case side3 => repeat (first | exact HR1.out | (with_reducible refine Kd.C_alloc ?_ _) | (with_reducible refine Kd.C_drewN ?_ _) | (with_reducible refine Kd.C_drew ?_))); (case side4 => exact HC1.out); rintro e w5 ⟨rfl, hb⟩; refine ⟨_, rfl, ?_⟩; replace HB := bS HB hb; (try clear hb); (try clear hb2); (try clear hk); (try clear hi)))
  go_loopg [5, 15] k (fun kq v5 v15 w' => ∃ (x5_1 : List (S42)) (x15_1 : Int), v15 = .int .i64 x15_1 ∧ Aside0 (impl_AllRequests.l0 kq l0 l1 x5_1 (l0.length : Int) x15_1 = some r) ∧ Aside0 (kq ≤ k) ∧ Aside0 (Kd.S k42 42 w' w.heap.size (fun _ => True) v5 x5_1) ∧ Aside0 (Below w.heap.size w w'))
  case atStart => exact ⟨(([] : List (S42))), (0), (by first | rfl | (simp; done) | (simp [*]; done)), H', ⟨Nat.le_refl _⟩, ⟨by first | exact Kd.S_nil _ _ _ _ _ | exact Kd.N_nil _ _ _ _ _ | exact Kd.V_nil _ _ _ _ _ | exact Kd.Q_nil _ _ _ _ _ | exact Kd.R_nil _ _ _ _ _⟩, ⟨by exact bw HB.out⟩⟩
  case round =>
   clear H'
   try clear c1
   try clear p2
   try clear c4
   obtain ⟨x5_1, x15_1, rfl, HA, HK1, HO_5, HB⟩ := hrel
   cases gk with
   | zero => exact absurd HA.out (by simp [impl_AllRequests.l0])
   | succ k1 =>
    have H := HA.out
    clear HA
    simp only [impl_AllRequests.l0] at H
    by_cases c6 : x15_1 < (l0.length : Int)
    ·
     rw [if_pos c6] at H; have c6b0 : decide (x15_1 < (l0.length : Int)) = true := decide_eq_true c6; clear c6
     have H' := Aside0.mk H
     clear H
     go_wp2
     go_loopg [5, 7] k1 (fun kq v5 v7 w' => ∃ (x5_2 : List (S42)) (x7_2 : Int), v7 = .int .i64 x7_2 ∧ Aside0 (impl_AllRequests.l1 kq l0 l1 x5_2 x15_1 x7_2 (l0.length : Int) x15_1 = some r) ∧ Aside0 (kq ≤ k1) ∧ Aside0 (Kd.S k42 42 w' w.heap.size (fun _ => True) v5 x5_2) ∧ Aside0 (Below w.heap.size w w'))
     case atStart => exact ⟨(x5_1), (0), (by first | rfl | (simp; done) | (simp [*]; done)), H', ⟨Nat.le_refl _⟩, ⟨by exact Kd.xS HO_5.out⟩, ⟨by exact bw HB.out⟩⟩
     case round =>
      clear H'
      try clear c1
      try clear p2
      try clear c4
      try clear c6
      try clear c6b0
      try clear p2
      obtain ⟨x5_2, x7_2, rfl, HA, HK2, HO_5, HB⟩ := hrel
      cases gk with
      | zero => exact absurd HA.out (by simp [impl_AllRequests.l1])
      | succ k2 =>
       have H := HA.out
       clear HA
       simp only [impl_AllRequests.l1] at H
       by_cases c7 : x7_2 ≤ 3
       ·
        rw [if_pos c7] at H; have c7b0 : decide (x7_2 ≤ 3) = true := decide_eq_true c7; clear c7
        have H' := Aside0.mk H
        clear H
        go_wp2
        go_loopg [5, 24] k2 (fun kq v5 v24 w' => ∃ (x5_3 : List (S42)) (x24_3 : Int), v24 = .int .i64 x24_3 ∧ Aside0 (impl_AllRequests.l2 kq l0 l1 x5_3 x15_1 x7_2 (l0.length : Int) x15_1 (l0.length : Int) x24_3 = some r) ∧ Aside0 (kq ≤ k2) ∧ Aside0 (Kd.S k42 42 w' w.heap.size (fun _ => True) v5 x5_3) ∧ Aside0 (Below w.heap.size w w'))
        case atStart => exact ⟨(x5_2), (0), (by first | rfl | (simp; done) | (simp [*]; done)), H', ⟨Nat.le_refl _⟩, ⟨by exact Kd.xS HO_5.out⟩, ⟨by exact bw HB.out⟩⟩
        case round =>
         clear H'
         try clear c1
         try clear p2
         try clear c4
         try clear c6
         try clear c6b0
         try clear c7
         try clear c7b0
         try clear p2
         obtain ⟨x5_3, x24_3, rfl, HA, HK3, HO_5, HB⟩ := hrel
         cases gk with
         | zero => exact absurd HA.out (by simp [impl_AllRequests.l2])
         | succ k3 =>
          have H := HA.out
          clear HA
          simp only [impl_AllRequests.l2] at H
          by_cases c8 : x24_3 < (l0.length : Int)
          ·
           rw [if_pos c8] at H; have c8b0 : decide (x24_3 < (l0.length : Int)) = true := decide_eq_true c8; clear c8
           replace H := Option.bind_eq_some_iff.mp H
           obtain ⟨t321, A90, H⟩ := H
           replace H : (if x5_3.length < 2932031007402 then (impl_AllRequests.l2 k3 l0 l1 (x5_3 ++ [(⟨x15_1, x7_2, x24_3, t321⟩ : S42)]) x15_1 x7_2 (l0.length : Int) x15_1 (l0.length : Int) (wrap64 (x24_3 + 1))) else (none)) = some r := H
           have A9 := Aside0.mk A90
           clear A90
           by_cases c10 : x5_3.length < 2932031007402
           ·
            rw [if_pos c10] at H; have LMc10 := Aside0.mk c10; clear c10
            obtain ⟨y324, hy324⟩ : ∃ y_ : List (S42), y_ = (x5_3 ++ [(⟨x15_1, x7_2, x24_3, t321⟩ : S42)]) := ⟨_, rfl⟩
            replace H : (impl_AllRequests.l2 k3 l0 l1 y324 x15_1 x7_2 (l0.length : Int) x15_1 (l0.length : Int) (wrap64 (x24_3 + 1))) = some r := by first | (rw [hy324]; with_reducible exact H) | (have H2_ := (Option.bind_some _ _).symm.trans H; rw [hy324]; with_reducible exact H2_) | (have H2_ := (Option.bind_some _ _).symm.trans H; with_reducible exact H2_) | with_reducible exact H | (rw [hy324]; exact H) | exact H
            have Ny324 := Aside0.mk hy324
            clear hy324
            have H' := Aside0.mk H
            clear H
            go_wp2_with (first | ((with_reducible refine gate_callee (f := 44) rfl ?_); refine gl (some 32) Try.func44 #[.slice A1 l1.length c1] ?_; (with_reducible refine (impl_cloneFields.calls _ _ l1 t321 _ ?side1 ?side2 A9.out).mono ?_); (case side1 => repeat (first | exact (Kd.C_below HR1.out HB.out) | (with_reducible refine Kd.C_alloc ?_ _) | (with_reducible refine Kd.C_drewN ?_ _) | (with_reducible refine Kd.C_drew ?_))); (case side2 => exact HC1.out); rintro e w11 ⟨v322, rfl, ho0, hb⟩; refine ⟨_, rfl, ?_⟩; replace HO_5 := Aside0.mk (Kd.S_elder' (by exact Kd.xS HO_5.out) (Kd.R_base ho0) hb); have HO323 := Aside0.mk (Kd.R_lower ho0 (below_size (by exact bw HB.out))); replace HB := bS HB hb; (try clear hb); (try clear hb2); (try clear hk); (try clear hi); (try clear ho0); obtain ⟨Ao12, co12, eo12⟩ := Kd.R_slice HO323.out; subst eo12) | ((with_reducible refine gate_builtin (b := .append) (xs := #[.tmp 27, .tmp 34]) rfl ?_); at_builtin; refine Kd.S_append k42 (w0 := w) w.heap.size rfl (.tmp 27) (.tmp 34) 37 42 (.agg #[(.int .i64 0), (.int .i64 0), (.int .i64 0), (.slice none 0 0)]) 48 rfl Try.underlying37 info42 rfl (by decide) (by omega) u5 x5_3 (⟨x15_1, x7_2, x24_3, t321⟩ : S42) [.int .i64 x15_1, .int .i64 x7_2, .int .i64 x24_3, .slice Ao12 t321.length co12] (fun _ => True) (fun k_ => some k_ = (.slice Ao12 t321.length co12 : Value).ownBlock) rfl rfl ?aP (fun k_ hk_ => ((Kd.R_mono (ok' := fun k_ => ((fun _ => True)) k_ ∧ some k_ ≠ (u5 : Value).ownBlock) (Kd.R_apart' (HO323.out) (Kd.S_typed HO_5.out) (by decide)) (fun k_ hk => ⟨trivial, hk.2⟩))).1 k_ hk_.symm) ?aF ?aO ?aB ?aS ?aL ?_; (case aP => exact k42_mkM _ _ _ (⟨x15_1, x7_2, x24_3, t321⟩ : S42) (Kd.R_mono (Kd.R_tight rfl (Kd.R_mono (ok' := fun k_ => ((fun _ => True)) k_ ∧ some k_ ≠ (u5 : Value).ownBlock) (Kd.R_apart' (HO323.out) (Kd.S_typed HO_5.out) (by decide)) (fun k_ hk => ⟨trivial, hk.2⟩))) (fun _ h_ => h_))); (case aB => exact (by exact bw HB.out)); (case aF => exact (fun _ _ => trivial)); (case aO => exact (by (with_reducible repeat (first | apply Kd.S_alloc | apply Kd.S_drewN | apply Kd.S_drew)); exact Kd.S_mono HO_5.out (fun k_ hk => ⟨trivial, fun e_ => hk.2 e_⟩))); (case aS => exact (below_size (by exact bw HB.out))); (case aL => have := LMc10.out; omega); intro v325 w13 ho hb hg hat; rw [← Ny324.out] at ho; replace HB := Aside0.mk (hb); have HO326 := Aside0.mk (ho); clear HO_5; clear HO323; clear ho hb hg hat))
            go_roundg k3
            case measure => have := HK1.out; have := HK2.out; have := HK3.out; omega
            case rel => exact ⟨(y324), (wrap64 (x24_3 + 1)), (by first | rfl | (simp; done) | (simp [*]; done)), H', ⟨by have := HK1.out; have := HK2.out; have := HK3.out; omega⟩, ⟨by exact Kd.xS HO326.out⟩, ⟨by exact bw HB.out⟩⟩
           ·
            rw [if_neg c10] at H; exact absurd H (by simp)
          ·
           rw [if_neg c8] at H; have c8b0 : decide (x24_3 < (l0.length : Int)) = false := decide_eq_false c8; clear c8
           have H' := Aside0.mk H
           clear H
           go_wp2
           go_roundg k3
           case measure => have := HK1.out; have := HK2.out; have := HK3.out; omega
           case rel => exact ⟨(x5_3), (wrap64 (x7_2 + 1)), (by first | rfl | (simp; done) | (simp [*]; done)), H', ⟨by have := HK1.out; have := HK2.out; have := HK3.out; omega⟩, ⟨by exact Kd.xS HO_5.out⟩, ⟨by exact bw HB.out⟩⟩
       ·
        rw [if_neg c7] at H; have c7b0 : decide (x7_2 ≤ 3) = false := decide_eq_false c7; clear c7
        have H' := Aside0.mk H
        clear H
        go_wp2
        go_roundg k2
        case measure => have := HK1.out; have := HK2.out; omega
        case rel => exact ⟨(x5_2), (wrap64 (x15_1 + 1)), (by first | rfl | (simp; done) | (simp [*]; done)), H', ⟨by have := HK1.out; have := HK2.out; omega⟩, ⟨by exact Kd.xS HO_5.out⟩, ⟨by exact bw HB.out⟩⟩
    ·
     rw [if_neg c6] at H; have c6b0 : decide (x15_1 < (l0.length : Int)) = false := decide_eq_false c6; clear c6
     obtain rfl := Option.some.inj H
     go_wp2
     go_ret
     exact ⟨_, by first | rfl | (simp [errW_none, errW_some] <;> rfl) | (simp [*, errW_none, errW_some] <;> rfl), by exact Kd.xS HO_5.out, by exact bw HB.out⟩
 ·
  replace c4 := Bool.eq_false_iff.mpr c4
  subst c4
  have H1 : (some ([] : List (S42))) = some r := by rw [if_neg (show ¬ (false = true) by decide)] at H; exact H
  clear H
  have H := H1
  clear H1
  obtain rfl := Option.some.inj H
  go_enter Try.func17, Try.ntmps17
  go_wp2_with (first | ((with_reducible refine gate_callee (f := 43) rfl ?_); refine gl (some 11) Try.func43 #[.slice A0 l0.length c0, .slice A1 l1.length c1] ?_; (with_reducible refine (impl_worldFits.calls k _ _ l0 _ _ l1 false _ ?side1 ?side2 ?side3 ?side4 A3.out).mono ?_); (case side1 => repeat (first | exact HR0.out | (with_reducible refine Kd.C_alloc ?_ _) | (with_reducible refine Kd.C_drewN ?_ _) | (with_reducible refine Kd.C_drew ?_))); (case side2 => exact HC0.out); (case side3 => repeat (first | exact HR1.out | (with_reducible refine Kd.C_alloc ?_ _) | (with_reducible refine Kd.C_drewN ?_ _) | (with_reducible refine Kd.C_drew ?_))); (case side4 => exact HC1.out); rintro e w14 ⟨rfl, hb⟩; refine ⟨_, rfl, ?_⟩; replace HB := bS HB hb; (try clear hb); (try clear hb2); (try clear hk); (try clear hi)))
  go_ret
  exact ⟨_, by first | rfl | (simp [errW_none, errW_some] <;> rfl) | (simp [*, errW_none, errW_some] <;> rfl), by first | exact Kd.S_nil _ _ _ _ _ | exact Kd.N_nil _ _ _ _ _ | exact Kd.V_nil _ _ _ _ _ | exact Kd.Q_nil _ _ _ _ _ | exact Kd.R_nil _ _ _ _ _, by exact bw HB.out⟩

/-! ### laws_sameFields: function 21 -/
def laws_sameFields.l0 : Nat → List (S55) → List (S55) → Int → Option (Bool)
 | 0, _, _, _ => none
 | k + 1, x0, x1, x5 => if x5 < (x0.length : Int) then (if 0 ≤ x5 then (if x5 < (x1.length : Int) then (if (!((((rd_T55 x0 x5).f0).toList) == (((rd_T55 x1 x5).f0).toList)) || ((!(((rd_T55 x0 x5).f1.f0) == ((rd_T55 x1 x5).f1.f0)) || (!(((rd_T55 x0 x5).f1.f1) == ((rd_T55 x1 x5).f1.f1)))))) = true then (some false) else (laws_sameFields.l0 k x0 x1 (wrap64 (x5 + 1)))) else (none)) else (none)) else (some true)
def laws_sameFields.f (k : Nat) (l0 : List (S55)) (l1 : List (S55)) : Option (Bool) := if (l0.length : Int) = (l1.length : Int) then (laws_sameFields.l0 k l0 l1 0) else (some false)
theorem laws_sameFields.mono_l : ∀ k, (∀ y0 y1 y2, LeO (laws_sameFields.l0 k y0 y1 y2) (laws_sameFields.l0 (k + 1) y0 y1 y2))
 | 0 => fun _ _ _ r h => by simp [laws_sameFields.l0] at h
 | k + 1 => by
  have ih0 := laws_sameFields.mono_l k
  ·
   intro y0 y1 y2
   unfold laws_sameFields.l0
   repeat' first
   | (with_reducible exact ih0 _ _ _)
   | (with_reducible exact LeO.refl _)
   | (with_reducible exact LeO.none _)
   | (with_reducible refine LeO.ite ?_ ?_)
   | (with_reducible refine LeO.bind ?_ (fun _ => ?_))
   | exact ih0 _ _ _
   | exact LeO.none _
   | refine LeO.ite ?_ ?_
   | refine LeO.bind ?_ (fun _ => ?_)
theorem laws_sameFields.mono : ∀ a0 a1 k, LeO (laws_sameFields.f k a0 a1) (laws_sameFields.f (k + 1) a0 a1) := by
 intro a0 a1 k
 have ih0 := laws_sameFields.mono_l k
 unfold laws_sameFields.f
 repeat' first
   | (with_reducible exact ih0 _ _ _)
   | (with_reducible exact LeO.refl _)
   | (with_reducible exact LeO.none _)
   | (with_reducible refine LeO.ite ?_ ?_)
   | (with_reducible refine LeO.bind ?_ (fun _ => ?_))
   | exact ih0 _ _ _
   | exact LeO.none _
   | refine LeO.ite ?_ ?_
   | refine LeO.bind ?_ (fun _ => ?_)
set_option maxHeartbeats 8000000 in
set_option maxRecDepth 100000 in
theorem laws_sameFields.calls (k : Nat) (A0 : Option Addr) (c0 : Nat) (l0 : List (S55)) (A1 : Option Addr) (c1 : Nat) (l1 : List (S55)) (r : Bool) (w : World) (hr0 : Kd.C k55 w A0 l0.length l0) (hc0 : l0.length ≤ c0) (hr1 : Kd.C k55 w A1 l1.length l1) (hc1 : l1.length ≤ c1) (h : laws_sameFields.f k l0 l1 = some r) :
  Calls Try.prog 21 #[.slice A0 l0.length c0, .slice A1 l1.length c1] w fun e w' => e = .returned (.bool r) ∧ Drawn0 w w' := by
 have hu55 := Try.underlying55
 have HR0 := Aside0.mk hr0
 have HC0 := Aside0.mk hc0
 clear hr0 hc0
 have HR1 := Aside0.mk hr1
 have HC1 := Aside0.mk hc1
 clear hr1 hc1
 have H : (if (l0.length : Int) = (l1.length : Int) then (laws_sameFields.l0 k l0 l1 0) else (some false)) = some r := h
 clear h
 by_cases c3 : (l0.length : Int) = (l1.length : Int)
 ·
  rw [if_pos c3] at H; obtain ⟨c3b0, c3b1⟩ := eqY c3
  have c3b2 : (l0.length == l1.length) = true := by first | simpa using c3 | (simp at c3 ⊢; omega)
  clear c3
  have H' := Aside0.mk H
  clear H
  go_enter Try.func21, Try.ntmps21
  go_wp2
  repeat (go_quiet (fail); try go_wp2)
  go_loopg [5] k (fun kq v5 w' => ∃ (x5_1 : Int), v5 = .int .i64 x5_1 ∧ Aside0 (laws_sameFields.l0 kq l0 l1 x5_1 = some r) ∧ Aside0 (kq ≤ k) ∧ Drawn0 w w')
  case atStart => exact ⟨(0), (by first | rfl | (simp; done) | (simp [*]; done)), H', ⟨Nat.le_refl _⟩, by repeat (first | exact Drawn0.refl _ | apply Drawn0.step)⟩
  case round =>
   clear H'
   try clear c1
   try clear c2
   try clear p2
   try clear c3
   try clear c3b0
   try clear c3b1
   try clear c3b2
   obtain ⟨x5_1, rfl, HA, HK1, ⟨m1, rfl⟩⟩ := hrel
   cases gk with
   | zero => exact absurd HA.out (by simp [laws_sameFields.l0])
   | succ k1 =>
    have H := HA.out
    clear HA
    simp only [laws_sameFields.l0] at H
    by_cases c4 : x5_1 < (l0.length : Int)
    ·
     rw [if_pos c4] at H; have c4b0 : decide (x5_1 < (l0.length : Int)) = true := decide_eq_true c4; clear c4
     by_cases c5 : 0 ≤ x5_1
     ·
      rw [if_pos c5] at H; have c5b0 : decide (0 ≤ x5_1) = true := decide_eq_true c5; clear c5
      by_cases c6 : x5_1 < (l1.length : Int)
      ·
       rw [if_pos c6] at H; have c6b0 : decide (x5_1 < (l1.length : Int)) = true := decide_eq_true c6; clear c6
       by_cases c7 : (!((((rd_T55 l0 x5_1).f0).toList) == (((rd_T55 l1 x5_1).f0).toList)) || ((!(((rd_T55 l0 x5_1).f1.f0) == ((rd_T55 l1 x5_1).f1.f0)) || (!(((rd_T55 l0 x5_1).f1.f1) == ((rd_T55 l1 x5_1).f1.f1)))))) = true
       ·
        rw [if_pos c7] at H; have c7b0 : (!((((rd_T55 l0 x5_1).f0).toList) == (((rd_T55 l1 x5_1).f0).toList)) || ((!(((rd_T55 l0 x5_1).f1.f0) == ((rd_T55 l1 x5_1).f1.f0)) || (!(((rd_T55 l0 x5_1).f1.f1) == ((rd_T55 l1 x5_1).f1.f1)))))) = true := c7; clear c7
        obtain rfl := Option.some.inj H
        have p327 : 0 ≤ (x5_1 : Int) := of_decide_eq_true (by first | (with_reducible assumption) | assumption)
        have q327 : x5_1 < (l0.length : Int) := of_decide_eq_true (by first | (with_reducible assumption) | assumption)
        obtain ⟨ad327, e327, hx327_0, hx327_1, hx327_2⟩ := at_T55 HR0.out x5_1 p327 q327
        cases e327
        replace p327 := eq_true p327
        replace q327 := eq_true q327
        have p328 : 0 ≤ (x5_1 : Int) := of_decide_eq_true (by first | (with_reducible assumption) | assumption)
        have q328 : x5_1 < (l1.length : Int) := of_decide_eq_true (by first | (with_reducible assumption) | assumption)
        obtain ⟨ad328, e328, hx328_0, hx328_1, hx328_2⟩ := at_T55 HR1.out x5_1 p328 q328
        cases e328
        replace p328 := eq_true p328
        replace q328 := eq_true q328
        go_wp2
        repeat (go_quiet (fail); try go_wp2)
        go_ret
        exact ⟨by first | rfl | (simp; done) | (simp [*]; done), by repeat (first | exact Drawn0.refl _ | apply Drawn0.step)⟩
       ·
        rw [if_neg c7] at H; have c7b0 : (!((((rd_T55 l0 x5_1).f0).toList) == (((rd_T55 l1 x5_1).f0).toList)) || ((!(((rd_T55 l0 x5_1).f1.f0) == ((rd_T55 l1 x5_1).f1.f0)) || (!(((rd_T55 l0 x5_1).f1.f1) == ((rd_T55 l1 x5_1).f1.f1)))))) = false := by simpa using c7
        clear c7
        have H' := Aside0.mk H
        clear H
        have p327 : 0 ≤ (x5_1 : Int) := of_decide_eq_true (by first | (with_reducible assumption) | assumption)
        have q327 : x5_1 < (l0.length : Int) := of_decide_eq_true (by first | (with_reducible assumption) | assumption)
        obtain ⟨ad327, e327, hx327_0, hx327_1, hx327_2⟩ := at_T55 HR0.out x5_1 p327 q327
        cases e327
        replace p327 := eq_true p327
        replace q327 := eq_true q327
        have p328 : 0 ≤ (x5_1 : Int) := of_decide_eq_true (by first | (with_reducible assumption) | assumption)
        have q328 : x5_1 < (l1.length : Int) := of_decide_eq_true (by first | (with_reducible assumption) | assumption)
        obtain ⟨ad328, e328, hx328_0, hx328_1, hx328_2⟩ := at_T55 HR1.out x5_1 p328 q328
        cases e328
        replace p328 := eq_true p328
        replace q328 := eq_true q328
        go_wp2
        repeat (go_quiet (fail); try go_wp2)
        go_roundg k1
        case measure => have := HK1.out; omega
        case rel => exact ⟨(wrap64 (x5_1 + 1)), (by first | rfl | (simp; done) | (simp [*]; done)), H', ⟨by have := HK1.out; omega⟩, by repeat (first | exact Drawn0.refl _ | apply Drawn0.step)⟩
      ·
       rw [if_neg c6] at H; exact absurd H (by simp)
     ·
      rw [if_neg c5] at H; exact absurd H (by simp)
    ·
     rw [if_neg c4] at H; have c4b0 : decide (x5_1 < (l0.length : Int)) = false := decide_eq_false c4; clear c4
     obtain rfl := Option.some.inj H
     go_wp2
     repeat (go_quiet (fail); try go_wp2)
     go_ret
     exact ⟨by first | rfl | (simp; done) | (simp [*]; done), by repeat (first | exact Drawn0.refl _ | apply Drawn0.step)⟩
 ·
  rw [if_neg c3] at H; obtain ⟨c3b0, c3b1⟩ := eqN c3
  have c3b2 : (l0.length == l1.length) = false := by first | simpa using c3 | (simp at c3 ⊢; omega)
  obtain rfl := Option.some.inj H
  go_enter Try.func21, Try.ntmps21
  go_wp2
  repeat (go_quiet (fail); try go_wp2)
  go_ret
  exact ⟨by first | rfl | (simp; done) | (simp [*]; done), by repeat (first | exact Drawn0.refl _ | apply Drawn0.step)⟩

/-! ### laws_sameRequest: function 22 -/
def laws_sameRequest.f (k : Nat) (a0_0 : Int) (a0_1 : Int) (a0_2 : Int) (l0_3 : List (S55)) (a1_0 : Int) (a1_1 : Int) (a1_2 : Int) (l1_3 : List (S55)) : Option (Bool) := if a0_0 = a1_0 then (if a0_1 = a1_1 then (if a0_2 = a1_2 then ((laws_sameFields.f k l0_3 l1_3).bind fun t331 => (some t331)) else (some false)) else (some false)) else (some false)
theorem laws_sameRequest.mono : ∀ a0 a1 a2 a3 a4 a5 a6 a7 k, LeO (laws_sameRequest.f k a0 a1 a2 a3 a4 a5 a6 a7) (laws_sameRequest.f (k + 1) a0 a1 a2 a3 a4 a5 a6 a7) := by
 intro a0 a1 a2 a3 a4 a5 a6 a7 k
 unfold laws_sameRequest.f
 repeat' first
   | (with_reducible exact laws_sameFields.mono _ _ _)
   | (with_reducible exact LeO.refl _)
   | (with_reducible exact LeO.none _)
   | (with_reducible refine LeO.ite ?_ ?_)
   | (with_reducible refine LeO.bind ?_ (fun _ => ?_))
   | exact laws_sameFields.mono _ _ _
   | exact LeO.none _
   | refine LeO.ite ?_ ?_
   | refine LeO.bind ?_ (fun _ => ?_)
set_option maxHeartbeats 8000000 in
set_option maxRecDepth 100000 in
theorem laws_sameRequest.calls (k : Nat) (a0_0 : Int) (a0_1 : Int) (a0_2 : Int) (A0_3 : Option Addr) (c0_3 : Nat) (l0_3 : List (S55)) (a1_0 : Int) (a1_1 : Int) (a1_2 : Int) (A1_3 : Option Addr) (c1_3 : Nat) (l1_3 : List (S55)) (r : Bool) (w : World) (hr0_3 : Kd.C k55 w A0_3 l0_3.length l0_3) (hc0_3 : l0_3.length ≤ c0_3) (hr1_3 : Kd.C k55 w A1_3 l1_3.length l1_3) (hc1_3 : l1_3.length ≤ c1_3) (h : laws_sameRequest.f k a0_0 a0_1 a0_2 l0_3 a1_0 a1_1 a1_2 l1_3 = some r) :
  Calls Try.prog 22 #[.agg #[.int .i64 a0_0, .int .i64 a0_1, .int .i64 a0_2, .slice A0_3 l0_3.length c0_3], .agg #[.int .i64 a1_0, .int .i64 a1_1, .int .i64 a1_2, .slice A1_3 l1_3.length c1_3]] w fun e w' => e = .returned (.bool r) ∧ Below w.heap.size w w' := by
 have hu42 := Try.underlying42
 have HR0_3 := Aside0.mk hr0_3
 have HC0_3 := Aside0.mk hc0_3
 clear hr0_3 hc0_3
 have HR1_3 := Aside0.mk hr1_3
 have HC1_3 := Aside0.mk hc1_3
 clear hr1_3 hc1_3
 have HB := Aside0.mk (Below.refl w.heap.size w)
 have H : (if a0_0 = a1_0 then (if a0_1 = a1_1 then (if a0_2 = a1_2 then ((laws_sameFields.f k l0_3 l1_3).bind fun t331 => (some t331)) else (some false)) else (some false)) else (some false)) = some r := h
 clear h
 by_cases c3 : a0_0 = a1_0
 ·
  rw [if_pos c3] at H; obtain ⟨c3b0, c3b1⟩ := eqY c3; clear c3
  by_cases c4 : a0_1 = a1_1
  ·
   rw [if_pos c4] at H; obtain ⟨c4b0, c4b1⟩ := eqY c4; clear c4
   by_cases c5 : a0_2 = a1_2
   ·
    rw [if_pos c5] at H; obtain ⟨c5b0, c5b1⟩ := eqY c5; clear c5
    replace H := Option.bind_eq_some_iff.mp H
    obtain ⟨t331, A60, H⟩ := H
    replace H : (some t331) = some r := H
    have A6 := Aside0.mk A60
    clear A60
    obtain rfl := Option.some.inj H
    go_enter Try.func22, Try.ntmps22
    go_wp2_with (first | ((with_reducible refine gate_dst (N := 2) rfl ?_); refine bx 2 #[.int .i64 a0_0, .int .i64 a0_1, .int .i64 a0_2, .slice A0_3 l0_3.length c0_3] 42 ?_; intro gb329 hg w7 hbox hb; have BK329 := Aside0.mk (hbox); have GW329 := gwB HB hg; have GE329 := gwB HB hg; replace HB := bS HB hb; clear hb hbox hg) | ((with_reducible refine gate_dst (N := 3) rfl ?_); refine bx 3 #[.int .i64 a1_0, .int .i64 a1_1, .int .i64 a1_2, .slice A1_3 l1_3.length c1_3] 42 ?_; intro gb330 hg w8 hbox hb; have BK330 := Aside0.mk (hbox); have GW330 := gwB HB hg; have GE330 := gwB HB hg; replace HB := bS HB hb; have NB329_330 := nbL BK329 hg; have NB330_329 := nbR BK329 hg; replace BK329 := bB BK329 hb; clear hb hbox hg; have hnb9 := NB329_330.out; have hnc9 := NB330_329.out; obtain ⟨hcz10_0, hcz10_1, hcz10_2, hcz10_3⟩ := cs4 BK329.out; obtain ⟨hfz10_0, hfz10_1, hfz10_2, hfz10_3⟩ := fz4 BK329.out; obtain ⟨hcz11_0, hcz11_1, hcz11_2, hcz11_3⟩ := cs4 BK330.out; obtain ⟨hfz11_0, hfz11_1, hfz11_2, hfz11_3⟩ := fz4 BK330.out) | (go_at_call 21; (with_reducible refine (laws_sameFields.calls k _ _ l0_3 _ _ l1_3 t331 _ ?side1 ?side2 ?side3 ?side4 A6.out).mono ?_); (case side1 => repeat (first | exact (Kd.C_below HR0_3.out HB.out) | (with_reducible refine Kd.C_alloc ?_ _) | (with_reducible refine Kd.C_drewN ?_ _) | (with_reducible refine Kd.C_drew ?_))); (case side2 => exact HC0_3.out); (case side3 => repeat (first | exact (Kd.C_below HR1_3.out HB.out) | (with_reducible refine Kd.C_alloc ?_ _) | (with_reducible refine Kd.C_drewN ?_ _) | (with_reducible refine Kd.C_drew ?_))); (case side4 => exact HC1_3.out); rintro e w' ⟨rfl, ⟨nd, rfl⟩⟩))
    go_ret
    exact ⟨by first | rfl | (simp [errW_none, errW_some] <;> rfl) | (simp [*, errW_none, errW_some] <;> rfl), by exact bw HB.out⟩
   ·
    rw [if_neg c5] at H; obtain ⟨c5b0, c5b1⟩ := eqN c5
    obtain rfl := Option.some.inj H
    go_enter Try.func22, Try.ntmps22
    go_wp2_with (first | ((with_reducible refine gate_dst (N := 2) rfl ?_); refine bx 2 #[.int .i64 a0_0, .int .i64 a0_1, .int .i64 a0_2, .slice A0_3 l0_3.length c0_3] 42 ?_; intro gb329 hg w12 hbox hb; have BK329 := Aside0.mk (hbox); have GW329 := gwB HB hg; have GE329 := gwB HB hg; replace HB := bS HB hb; clear hb hbox hg) | ((with_reducible refine gate_dst (N := 3) rfl ?_); refine bx 3 #[.int .i64 a1_0, .int .i64 a1_1, .int .i64 a1_2, .slice A1_3 l1_3.length c1_3] 42 ?_; intro gb330 hg w13 hbox hb; have BK330 := Aside0.mk (hbox); have GW330 := gwB HB hg; have GE330 := gwB HB hg; replace HB := bS HB hb; have NB329_330 := nbL BK329 hg; have NB330_329 := nbR BK329 hg; replace BK329 := bB BK329 hb; clear hb hbox hg; have hnb14 := NB329_330.out; have hnc14 := NB330_329.out; obtain ⟨hcz15_0, hcz15_1, hcz15_2, hcz15_3⟩ := cs4 BK329.out; obtain ⟨hfz15_0, hfz15_1, hfz15_2, hfz15_3⟩ := fz4 BK329.out; obtain ⟨hcz16_0, hcz16_1, hcz16_2, hcz16_3⟩ := cs4 BK330.out; obtain ⟨hfz16_0, hfz16_1, hfz16_2, hfz16_3⟩ := fz4 BK330.out))
    go_ret
    exact ⟨by first | rfl | (simp [errW_none, errW_some] <;> rfl) | (simp [*, errW_none, errW_some] <;> rfl), by exact bw HB.out⟩
  ·
   rw [if_neg c4] at H; obtain ⟨c4b0, c4b1⟩ := eqN c4
   obtain rfl := Option.some.inj H
   go_enter Try.func22, Try.ntmps22
   go_wp2_with (first | ((with_reducible refine gate_dst (N := 2) rfl ?_); refine bx 2 #[.int .i64 a0_0, .int .i64 a0_1, .int .i64 a0_2, .slice A0_3 l0_3.length c0_3] 42 ?_; intro gb329 hg w17 hbox hb; have BK329 := Aside0.mk (hbox); have GW329 := gwB HB hg; have GE329 := gwB HB hg; replace HB := bS HB hb; clear hb hbox hg) | ((with_reducible refine gate_dst (N := 3) rfl ?_); refine bx 3 #[.int .i64 a1_0, .int .i64 a1_1, .int .i64 a1_2, .slice A1_3 l1_3.length c1_3] 42 ?_; intro gb330 hg w18 hbox hb; have BK330 := Aside0.mk (hbox); have GW330 := gwB HB hg; have GE330 := gwB HB hg; replace HB := bS HB hb; have NB329_330 := nbL BK329 hg; have NB330_329 := nbR BK329 hg; replace BK329 := bB BK329 hb; clear hb hbox hg; have hnb19 := NB329_330.out; have hnc19 := NB330_329.out; obtain ⟨hcz20_0, hcz20_1, hcz20_2, hcz20_3⟩ := cs4 BK329.out; obtain ⟨hfz20_0, hfz20_1, hfz20_2, hfz20_3⟩ := fz4 BK329.out; obtain ⟨hcz21_0, hcz21_1, hcz21_2, hcz21_3⟩ := cs4 BK330.out; obtain ⟨hfz21_0, hfz21_1, hfz21_2, hfz21_3⟩ := fz4 BK330.out))
   go_ret
   exact ⟨by first | rfl | (simp [errW_none, errW_some] <;> rfl) | (simp [*, errW_none, errW_some] <;> rfl), by exact bw HB.out⟩
 ·
  rw [if_neg c3] at H; obtain ⟨c3b0, c3b1⟩ := eqN c3
  obtain rfl := Option.some.inj H
  go_enter Try.func22, Try.ntmps22
  go_wp2_with (first | ((with_reducible refine gate_dst (N := 2) rfl ?_); refine bx 2 #[.int .i64 a0_0, .int .i64 a0_1, .int .i64 a0_2, .slice A0_3 l0_3.length c0_3] 42 ?_; intro gb329 hg w22 hbox hb; have BK329 := Aside0.mk (hbox); have GW329 := gwB HB hg; have GE329 := gwB HB hg; replace HB := bS HB hb; clear hb hbox hg) | ((with_reducible refine gate_dst (N := 3) rfl ?_); refine bx 3 #[.int .i64 a1_0, .int .i64 a1_1, .int .i64 a1_2, .slice A1_3 l1_3.length c1_3] 42 ?_; intro gb330 hg w23 hbox hb; have BK330 := Aside0.mk (hbox); have GW330 := gwB HB hg; have GE330 := gwB HB hg; replace HB := bS HB hb; have NB329_330 := nbL BK329 hg; have NB330_329 := nbR BK329 hg; replace BK329 := bB BK329 hb; clear hb hbox hg; have hnb24 := NB329_330.out; have hnc24 := NB330_329.out; obtain ⟨hcz25_0, hcz25_1, hcz25_2, hcz25_3⟩ := cs4 BK329.out; obtain ⟨hfz25_0, hfz25_1, hfz25_2, hfz25_3⟩ := fz4 BK329.out; obtain ⟨hcz26_0, hcz26_1, hcz26_2, hcz26_3⟩ := cs4 BK330.out; obtain ⟨hfz26_0, hfz26_1, hfz26_2, hfz26_3⟩ := fz4 BK330.out))
  go_ret
  exact ⟨by first | rfl | (simp [errW_none, errW_some] <;> rfl) | (simp [*, errW_none, errW_some] <;> rfl), by exact bw HB.out⟩

end Go.Proofs.Ytoipfhdlgoaldaa.P
