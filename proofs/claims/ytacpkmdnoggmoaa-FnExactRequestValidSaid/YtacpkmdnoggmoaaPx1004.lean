-- Written by a program of this session (wip/tool).
import Derived.Test.YtacpkmdnoggmoaaPx0
import Derived.Test.YtacpkmdnoggmoaaPx1003
import Derived.Test.YtacpkmdnoggmoaaPx1011
import Derived.Test.YtacpkmdnoggmoaaPx1018
import Derived.Test.YtacpkmdnoggmoaaPx1053
import Derived.Test.YtacpkmdnoggmoaaPx1057
namespace Go.Proofs.Ytacpkmdnoggmoaa.P
open Go.RowKit Go.Proofs.YtacpkmdnoggmoaaW.PrintWords Go.Proofs.YtacpkmdnoggmoaaW.PrintLast Go.Proofs.YtacpkmdnoggmoaaW.PrintMore
attribute [local go_sem] max2_int min2_int max_two min_two max_three min_three max_four min_four   -- for this text's walks alone
set_option linter.unusedVariables false
set_option linter.unusedSimpArgs false

/-! ### laws_FnExactRequestValid: function 4 -/
def laws_FnExactRequestValid.f (k : Nat) (l0 : List (S68)) (a1_0 : Int) (a1_1 : Int) (a1_2 : Int) (l1_3 : List (S82)) : Option (Bool) := (laws_szThingS.f k l0 1048576).bind fun t253 => (if t253 < 0 then (some true) else ((laws_szRequest.f k a1_0 a1_1 a1_2 l1_3 t253).bind fun t254 => (if t254 < 0 then (some true) else ((laws_toThingS.f k l0).bind fun t255 => ((laws_toRequest.f k a1_0 a1_1 a1_2 l1_3).bind fun bt258 => ((spec_RequestValid.f k t255 bt258.1 bt258.2.1 bt258.2.2.1 bt258.2.2.2).bind fun t264 => ((laws_toThingS.f k l0).bind fun t265 => ((laws_toRequest.f k a1_0 a1_1 a1_2 l1_3).bind fun bt268 => ((impl_RequestValid.f k t265 bt268.1 bt268.2.1 bt268.2.2.1 bt268.2.2.2).bind fun t275 => (if (t275 != t264) = true then (some false) else ((laws_toThingS.f k l0).bind fun t276 => ((laws_eqThingS.f k t265 t276).bind fun t279 => (if t279 = true then ((laws_toRequest.f k a1_0 a1_1 a1_2 l1_3).bind fun bt280 => ((laws_eqRequest.f k bt268.1 bt268.2.1 bt268.2.2.1 bt268.2.2.2 bt280.1 bt280.2.1 bt280.2.2.1 bt280.2.2.2).bind fun t286 => (if t286 = true then (some true) else (some false)))) else (some false))))))))))))))
theorem laws_FnExactRequestValid.mono : ∀ a0 a1 a2 a3 a4 k, LeO (laws_FnExactRequestValid.f k a0 a1 a2 a3 a4) (laws_FnExactRequestValid.f (k + 1) a0 a1 a2 a3 a4) := by
 intro a0 a1 a2 a3 a4 k
 unfold laws_FnExactRequestValid.f
 repeat' first
   | (with_reducible exact impl_RequestValid.mono _ _ _ _ _ _)
   | (with_reducible exact laws_eqRequest.mono _ _ _ _ _ _ _ _ _)
   | (with_reducible exact laws_eqThingS.mono _ _ _)
   | (with_reducible exact laws_szRequest.mono _ _ _ _ _ _)
   | (with_reducible exact laws_szThingS.mono _ _ _)
   | (with_reducible exact laws_toRequest.mono _ _ _ _ _)
   | (with_reducible exact laws_toThingS.mono _ _)
   | (with_reducible exact spec_RequestValid.mono _ _ _ _ _ _)
   | (with_reducible exact LeO.refl _)
   | (with_reducible exact LeO.none _)
   | (with_reducible refine LeO.ite ?_ ?_)
   | (with_reducible refine LeO.bind ?_ (fun _ => ?_))
   | exact impl_RequestValid.mono _ _ _ _ _ _
   | exact laws_eqRequest.mono _ _ _ _ _ _ _ _ _
   | exact laws_eqThingS.mono _ _ _
   | exact laws_szRequest.mono _ _ _ _ _ _
   | exact laws_szThingS.mono _ _ _
   | exact laws_toRequest.mono _ _ _ _ _
   | exact laws_toThingS.mono _ _
   | exact spec_RequestValid.mono _ _ _ _ _ _
   | exact LeO.none _
   | refine LeO.ite ?_ ?_
   | refine LeO.bind ?_ (fun _ => ?_)
set_option maxHeartbeats 8000000 in
set_option maxRecDepth 100000 in
theorem laws_FnExactRequestValid.calls (k : Nat) (A0 : Option Addr) (c0 : Nat) (l0 : List (S68)) (a1_0 : Int) (a1_1 : Int) (a1_2 : Int) (A1_3 : Option Addr) (c1_3 : Nat) (l1_3 : List (S82)) (r : Bool) (w : World) (hr0 : Kd.C k68 w A0 l0.length l0) (hc0 : l0.length ≤ c0) (hr1_3 : Kd.C k82 w A1_3 l1_3.length l1_3) (hc1_3 : l1_3.length ≤ c1_3) (h : laws_FnExactRequestValid.f k l0 a1_0 a1_1 a1_2 l1_3 = some r) :
  Calls Try.prog 4 #[.slice A0 l0.length c0, .agg #[.int .i64 a1_0, .int .i64 a1_1, .int .i64 a1_2, .slice A1_3 l1_3.length c1_3]] w fun e w' => e = .returned (.bool r) ∧ Below w.heap.size w w' := by
 have hu31 := Try.underlying31
 have hu36 := Try.underlying36
 have HR0 := Aside0.mk hr0
 have HC0 := Aside0.mk hc0
 clear hr0 hc0
 have HR1_3 := Aside0.mk hr1_3
 have HC1_3 := Aside0.mk hc1_3
 clear hr1_3 hc1_3
 have HB := Aside0.mk (Below.refl w.heap.size w)
 have H : ((laws_szThingS.f k l0 1048576).bind fun t253 => (if t253 < 0 then (some true) else ((laws_szRequest.f k a1_0 a1_1 a1_2 l1_3 t253).bind fun t254 => (if t254 < 0 then (some true) else ((laws_toThingS.f k l0).bind fun t255 => ((laws_toRequest.f k a1_0 a1_1 a1_2 l1_3).bind fun bt258 => ((spec_RequestValid.f k t255 bt258.1 bt258.2.1 bt258.2.2.1 bt258.2.2.2).bind fun t264 => ((laws_toThingS.f k l0).bind fun t265 => ((laws_toRequest.f k a1_0 a1_1 a1_2 l1_3).bind fun bt268 => ((impl_RequestValid.f k t265 bt268.1 bt268.2.1 bt268.2.2.1 bt268.2.2.2).bind fun t275 => (if (t275 != t264) = true then (some false) else ((laws_toThingS.f k l0).bind fun t276 => ((laws_eqThingS.f k t265 t276).bind fun t279 => (if t279 = true then ((laws_toRequest.f k a1_0 a1_1 a1_2 l1_3).bind fun bt280 => ((laws_eqRequest.f k bt268.1 bt268.2.1 bt268.2.2.1 bt268.2.2.2 bt280.1 bt280.2.1 bt280.2.2.1 bt280.2.2.2).bind fun t286 => (if t286 = true then (some true) else (some false)))) else (some false))))))))))))))) = some r := h
 clear h
 replace H := Option.bind_eq_some_iff.mp H
 obtain ⟨t253, A30, H⟩ := H
 replace H : (if t253 < 0 then (some true) else ((laws_szRequest.f k a1_0 a1_1 a1_2 l1_3 t253).bind fun t254 => (if t254 < 0 then (some true) else ((laws_toThingS.f k l0).bind fun t255 => ((laws_toRequest.f k a1_0 a1_1 a1_2 l1_3).bind fun bt258 => ((spec_RequestValid.f k t255 bt258.1 bt258.2.1 bt258.2.2.1 bt258.2.2.2).bind fun t264 => ((laws_toThingS.f k l0).bind fun t265 => ((laws_toRequest.f k a1_0 a1_1 a1_2 l1_3).bind fun bt268 => ((impl_RequestValid.f k t265 bt268.1 bt268.2.1 bt268.2.2.1 bt268.2.2.2).bind fun t275 => (if (t275 != t264) = true then (some false) else ((laws_toThingS.f k l0).bind fun t276 => ((laws_eqThingS.f k t265 t276).bind fun t279 => (if t279 = true then ((laws_toRequest.f k a1_0 a1_1 a1_2 l1_3).bind fun bt280 => ((laws_eqRequest.f k bt268.1 bt268.2.1 bt268.2.2.1 bt268.2.2.2 bt280.1 bt280.2.1 bt280.2.2.1 bt280.2.2.2).bind fun t286 => (if t286 = true then (some true) else (some false)))) else (some false)))))))))))))) = some r := H
 have A3 := Aside0.mk A30
 clear A30
 have HC4 := Aside0.mk H
 clear H
 go_enter Try.func4, Try.ntmps4
 go_upto_if 14 with (first | ((with_reducible refine gate_dst (N := 3) rfl ?_); refine bx 3 #[.int .i64 a1_0, .int .i64 a1_1, .int .i64 a1_2, .slice A1_3 l1_3.length c1_3] 31 ?_; intro gb252 hg w5 hbox hb; have BK252 := Aside0.mk (hbox); have GW252 := gwB HB hg; have GE252 := gwB HB hg; replace HB := bS HB hb; clear hb hbox hg) | ((with_reducible refine gate_callee (f := 9) rfl ?_); refine gl (some 12) Try.func9 #[.slice A0 l0.length c0, .int .i64 1048576] ?_; (with_reducible refine (laws_szThingS.calls k _ _ l0 1048576 t253 _ ?side1 ?side2 A3.out).mono ?_); (case side1 => repeat (first | exact (Kd.C_below HR0.out HB.out) | (with_reducible refine Kd.C_alloc ?_ _) | (with_reducible refine Kd.C_drewN ?_ _) | (with_reducible refine Kd.C_drew ?_))); (case side2 => exact HC0.out); rintro e w6 ⟨rfl, hb⟩; refine ⟨_, rfl, ?_⟩; replace BK252 := bB BK252 hb; replace HB := bS HB hb; (try clear hb); (try clear hb2); (try clear hk); (try clear hi)))
 (try simp only [Act.put, List.setIfInBounds_toArray, List.set_cons_zero, List.set_cons_succ])
 have H := HC4.out
 clear HC4
 by_cases c7 : t253 < 0
 ·
  rw [if_pos c7] at H; have c7b0 : decide (t253 < 0) = true := decide_eq_true c7; clear c7
  (first | rw [c7b0] | (simp only [i64_w, i32_w]; rw [c7b0]) | rw [c7b2] | rw [c7b1] | skip)
  obtain rfl := Option.some.inj H
  go_wp2
  go_ret
  exact ⟨by first | rfl | (simp [errW_none, errW_some] <;> rfl) | (simp [*, errW_none, errW_some] <;> rfl), by exact bw HB.out⟩
 ·
  rw [if_neg c7] at H; have c7b0 : decide (t253 < 0) = false := decide_eq_false c7; clear c7
  (first | rw [c7b0] | (simp only [i64_w, i32_w]; rw [c7b0]) | rw [c7b2] | rw [c7b1] | skip)
  replace H := Option.bind_eq_some_iff.mp H
  obtain ⟨t254, A80, H⟩ := H
  replace H : (if t254 < 0 then (some true) else ((laws_toThingS.f k l0).bind fun t255 => ((laws_toRequest.f k a1_0 a1_1 a1_2 l1_3).bind fun bt258 => ((spec_RequestValid.f k t255 bt258.1 bt258.2.1 bt258.2.2.1 bt258.2.2.2).bind fun t264 => ((laws_toThingS.f k l0).bind fun t265 => ((laws_toRequest.f k a1_0 a1_1 a1_2 l1_3).bind fun bt268 => ((impl_RequestValid.f k t265 bt268.1 bt268.2.1 bt268.2.2.1 bt268.2.2.2).bind fun t275 => (if (t275 != t264) = true then (some false) else ((laws_toThingS.f k l0).bind fun t276 => ((laws_eqThingS.f k t265 t276).bind fun t279 => (if t279 = true then ((laws_toRequest.f k a1_0 a1_1 a1_2 l1_3).bind fun bt280 => ((laws_eqRequest.f k bt268.1 bt268.2.1 bt268.2.2.1 bt268.2.2.2 bt280.1 bt280.2.1 bt280.2.2.1 bt280.2.2.2).bind fun t286 => (if t286 = true then (some true) else (some false)))) else (some false)))))))))))) = some r := H
  have A8 := Aside0.mk A80
  clear A80
  have HC9 := Aside0.mk H
  clear H
  have hcz10_0 : w6.cell? ⟨gb252, 0, none⟩ = some (.int .i64 a1_0) := (blk_cell BK252.out 0).trans rfl
  have hcz10_1 : w6.cell? ⟨gb252, 1, none⟩ = some (.int .i64 a1_1) := (blk_cell BK252.out 1).trans rfl
  have hcz10_2 : w6.cell? ⟨gb252, 2, none⟩ = some (.int .i64 a1_2) := (blk_cell BK252.out 2).trans rfl
  have hcz10_3 : w6.cell? ⟨gb252, 3, none⟩ = some (.slice A1_3 l1_3.length c1_3) := (blk_cell BK252.out 3).trans rfl
  have hfz10_0 := blk_frozen BK252.out 0
  have hfz10_1 := blk_frozen BK252.out 1
  have hfz10_2 := blk_frozen BK252.out 2
  have hfz10_3 := blk_frozen BK252.out 3
  go_upto_if 19 with (first | ((with_reducible refine gate_callee (f := 14) rfl ?_); refine gl (some 17) Try.func14 #[.agg #[.int .i64 a1_0, .int .i64 a1_1, .int .i64 a1_2, .slice A1_3 l1_3.length c1_3], .int .i64 t253] ?_; (with_reducible refine (laws_szRequest.calls k a1_0 a1_1 a1_2 _ _ l1_3 t253 t254 _ ?side1 ?side2 A8.out).mono ?_); (case side1 => repeat (first | exact (Kd.C_below HR1_3.out HB.out) | (with_reducible refine Kd.C_alloc ?_ _) | (with_reducible refine Kd.C_drewN ?_ _) | (with_reducible refine Kd.C_drew ?_))); (case side2 => exact HC1_3.out); rintro e w11 ⟨rfl, hb⟩; refine ⟨_, rfl, ?_⟩; replace BK252 := bB BK252 hb; replace HB := bS HB hb; (try clear hb); (try clear hb2); (try clear hk); (try clear hi)))
  (try simp only [Act.put, List.setIfInBounds_toArray, List.set_cons_zero, List.set_cons_succ])
  have H := HC9.out
  clear HC9
  by_cases c12 : t254 < 0
  ·
   rw [if_pos c12] at H; have c12b0 : decide (t254 < 0) = true := decide_eq_true c12; clear c12
   (first | rw [c12b0] | (simp only [i64_w, i32_w]; rw [c12b0]) | rw [c12b2] | rw [c12b1] | skip)
   obtain rfl := Option.some.inj H
   go_wp2
   go_ret
   exact ⟨by first | rfl | (simp [errW_none, errW_some] <;> rfl) | (simp [*, errW_none, errW_some] <;> rfl), by exact bw HB.out⟩
  ·
   rw [if_neg c12] at H; have c12b0 : decide (t254 < 0) = false := decide_eq_false c12; clear c12
   (first | rw [c12b0] | (simp only [i64_w, i32_w]; rw [c12b0]) | rw [c12b2] | rw [c12b1] | skip)
   replace H := Option.bind_eq_some_iff.mp H
   obtain ⟨t255, A130, H⟩ := H
   replace H : ((laws_toRequest.f k a1_0 a1_1 a1_2 l1_3).bind fun bt258 => ((spec_RequestValid.f k t255 bt258.1 bt258.2.1 bt258.2.2.1 bt258.2.2.2).bind fun t264 => ((laws_toThingS.f k l0).bind fun t265 => ((laws_toRequest.f k a1_0 a1_1 a1_2 l1_3).bind fun bt268 => ((impl_RequestValid.f k t265 bt268.1 bt268.2.1 bt268.2.2.1 bt268.2.2.2).bind fun t275 => (if (t275 != t264) = true then (some false) else ((laws_toThingS.f k l0).bind fun t276 => ((laws_eqThingS.f k t265 t276).bind fun t279 => (if t279 = true then ((laws_toRequest.f k a1_0 a1_1 a1_2 l1_3).bind fun bt280 => ((laws_eqRequest.f k bt268.1 bt268.2.1 bt268.2.2.1 bt268.2.2.2 bt280.1 bt280.2.1 bt280.2.2.1 bt280.2.2.2).bind fun t286 => (if t286 = true then (some true) else (some false)))) else (some false)))))))))) = some r := H
   have A13 := Aside0.mk A130
   clear A130
   replace H := Option.bind_eq_some_iff.mp H
   obtain ⟨⟨t258, t259, t260, t261⟩, A140, H⟩ := H
   replace H : ((spec_RequestValid.f k t255 t258 t259 t260 t261).bind fun t264 => ((laws_toThingS.f k l0).bind fun t265 => ((laws_toRequest.f k a1_0 a1_1 a1_2 l1_3).bind fun bt268 => ((impl_RequestValid.f k t265 bt268.1 bt268.2.1 bt268.2.2.1 bt268.2.2.2).bind fun t275 => (if (t275 != t264) = true then (some false) else ((laws_toThingS.f k l0).bind fun t276 => ((laws_eqThingS.f k t265 t276).bind fun t279 => (if t279 = true then ((laws_toRequest.f k a1_0 a1_1 a1_2 l1_3).bind fun bt280 => ((laws_eqRequest.f k bt268.1 bt268.2.1 bt268.2.2.1 bt268.2.2.2 bt280.1 bt280.2.1 bt280.2.2.1 bt280.2.2.2).bind fun t286 => (if t286 = true then (some true) else (some false)))) else (some false))))))))) = some r := H
   have A14 := Aside0.mk A140
   clear A140
   replace H := Option.bind_eq_some_iff.mp H
   obtain ⟨t264, A150, H⟩ := H
   replace H : ((laws_toThingS.f k l0).bind fun t265 => ((laws_toRequest.f k a1_0 a1_1 a1_2 l1_3).bind fun bt268 => ((impl_RequestValid.f k t265 bt268.1 bt268.2.1 bt268.2.2.1 bt268.2.2.2).bind fun t275 => (if (t275 != t264) = true then (some false) else ((laws_toThingS.f k l0).bind fun t276 => ((laws_eqThingS.f k t265 t276).bind fun t279 => (if t279 = true then ((laws_toRequest.f k a1_0 a1_1 a1_2 l1_3).bind fun bt280 => ((laws_eqRequest.f k bt268.1 bt268.2.1 bt268.2.2.1 bt268.2.2.2 bt280.1 bt280.2.1 bt280.2.2.1 bt280.2.2.2).bind fun t286 => (if t286 = true then (some true) else (some false)))) else (some false)))))))) = some r := H
   have A15 := Aside0.mk A150
   clear A150
   replace H := Option.bind_eq_some_iff.mp H
   obtain ⟨t265, A160, H⟩ := H
   replace H : ((laws_toRequest.f k a1_0 a1_1 a1_2 l1_3).bind fun bt268 => ((impl_RequestValid.f k t265 bt268.1 bt268.2.1 bt268.2.2.1 bt268.2.2.2).bind fun t275 => (if (t275 != t264) = true then (some false) else ((laws_toThingS.f k l0).bind fun t276 => ((laws_eqThingS.f k t265 t276).bind fun t279 => (if t279 = true then ((laws_toRequest.f k a1_0 a1_1 a1_2 l1_3).bind fun bt280 => ((laws_eqRequest.f k bt268.1 bt268.2.1 bt268.2.2.1 bt268.2.2.2 bt280.1 bt280.2.1 bt280.2.2.1 bt280.2.2.2).bind fun t286 => (if t286 = true then (some true) else (some false)))) else (some false))))))) = some r := H
   have A16 := Aside0.mk A160
   clear A160
   replace H := Option.bind_eq_some_iff.mp H
   obtain ⟨⟨t268, t269, t270, t271⟩, A170, H⟩ := H
   replace H : ((impl_RequestValid.f k t265 t268 t269 t270 t271).bind fun t275 => (if (t275 != t264) = true then (some false) else ((laws_toThingS.f k l0).bind fun t276 => ((laws_eqThingS.f k t265 t276).bind fun t279 => (if t279 = true then ((laws_toRequest.f k a1_0 a1_1 a1_2 l1_3).bind fun bt280 => ((laws_eqRequest.f k t268 t269 t270 t271 bt280.1 bt280.2.1 bt280.2.2.1 bt280.2.2.2).bind fun t286 => (if t286 = true then (some true) else (some false)))) else (some false)))))) = some r := H
   have A17 := Aside0.mk A170
   clear A170
   replace H := Option.bind_eq_some_iff.mp H
   obtain ⟨t275, A180, H⟩ := H
   replace H : (if (t275 != t264) = true then (some false) else ((laws_toThingS.f k l0).bind fun t276 => ((laws_eqThingS.f k t265 t276).bind fun t279 => (if t279 = true then ((laws_toRequest.f k a1_0 a1_1 a1_2 l1_3).bind fun bt280 => ((laws_eqRequest.f k t268 t269 t270 t271 bt280.1 bt280.2.1 bt280.2.2.1 bt280.2.2.2).bind fun t286 => (if t286 = true then (some true) else (some false)))) else (some false))))) = some r := H
   have A18 := Aside0.mk A180
   clear A180
   have HC19 := Aside0.mk H
   clear H
   try go_wp2
   replace BK252 := Aside0.mk (blk_drew BK252.out)
   replace HB := Aside0.mk (below_drew1 HB.out)
   refine start_ (n := 6) (S := fun w' => w'.cell? ⟨gb252, 0, none⟩ = some (.int .i64 a1_0) ∧ w'.cell? ⟨gb252, 1, none⟩ = some (.int .i64 a1_1) ∧ w'.cell? ⟨gb252, 2, none⟩ = some (.int .i64 a1_2) ∧ w'.cell? ⟨gb252, 3, none⟩ = some (.slice A1_3 l1_3.length c1_3)) (ds := []) (mB 6 0) (by kernel_rfl) rfl rfl (cs4 BK252.out) (fun hHeld => ?_)
   generalize w11.drew = w20 at BK252 HB hHeld ⊢
   refine pure_ (i := 0) (N := some 20) (v := ?_) (a' := ?_) (mB 6 1) rfl rfl (by kernel_rfl) (fun _ _ _ h => h) (Or.inl ⟨by rfl, ?_⟩) ?_ ?_
   rotate_left
   ·
    intro w'
    go_simp
    with_reducible rfl
   rotate_left
   ·
    simp only [Act.put, List.setIfInBounds_toArray, List.set_cons_zero, List.set_cons_succ, i64_w, i32_w]
    rfl
   refine take_ (i := 2) (N := some 22) (v := ?_) (a' := ?_) (mB 6 5) rfl rfl (by kernel_rfl) (fun _ _ _ h => h) (Or.inl ⟨by rfl, ?_⟩) hHeld ?_ ?_
   rotate_left
   ·
    rintro w' ⟨s0, s1, s2, s3⟩
    go_simp
    with_reducible rfl
   rotate_left
   ·
    simp only [Act.put, List.setIfInBounds_toArray, List.set_cons_zero, List.set_cons_succ, i64_w, i32_w]
    rfl
   refine one_ (i := 1) (N := some 21) (mB 6 7) rfl rfl (by kernel_rfl) (by decide) (fun K hK => ?_)
   refine gs Try.func11 #[.slice A0 l0.length c0] ?_
   with_reducible refine (laws_toThingS.calls k _ _ l0 t255 _ ?side1 ?side2 A13.out).mono ?_
   (case side1 => repeat (first | exact (Kd.C_below HR0.out HB.out) | (with_reducible refine Kd.C_alloc ?_ _) | (with_reducible refine Kd.C_drewN ?_ _) | (with_reducible refine Kd.C_drew ?_)))
   (case side2 => exact HC0.out)
   rintro e w21 ⟨v256, rfl, ho0, hb⟩
   refine ⟨_, rfl, ?_⟩
   have HO257 := Aside0.mk (Kd.S_lower ho0 (below_size (by exact bw HB.out)))
   replace BK252 := bB BK252 hb
   replace HB := bS HB hb
   (try clear hb)
   (try clear hb2)
   (try clear hk)
   (try clear hi)
   (try clear ho0)
   refine hK.out _ _ (cs4 BK252.out) (fun hHeld => ?_)
   clear hK K
   refine nm (some 21) ?_
   refine one_ (i := 3) (N := some 23) (mB 6 15) rfl rfl (by kernel_rfl) (by decide) (fun K hK => ?_)
   refine gs Try.func16 #[.agg #[.int .i64 a1_0, .int .i64 a1_1, .int .i64 a1_2, .slice A1_3 l1_3.length c1_3]] ?_
   with_reducible refine (laws_toRequest.calls k a1_0 a1_1 a1_2 _ _ l1_3 t258 t259 t260 t261 _ ?side1 ?side2 A14.out).mono ?_
   (case side1 => repeat (first | exact (Kd.C_below HR1_3.out HB.out) | (with_reducible refine Kd.C_alloc ?_ _) | (with_reducible refine Kd.C_drewN ?_ _) | (with_reducible refine Kd.C_drew ?_)))
   (case side2 => exact HC1_3.out)
   rintro e w22 ⟨v262, rfl, ho0, hb⟩
   refine ⟨_, rfl, ?_⟩
   replace HO257 := Aside0.mk (Kd.S_elder' (by exact Kd.xS HO257.out) (Kd.R_base ho0) hb)
   have HO263 := Aside0.mk (Kd.R_lower ho0 (below_size (by exact bw HB.out)))
   replace BK252 := bB BK252 hb
   replace HB := bS HB hb
   (try clear hb)
   (try clear hb2)
   (try clear hk)
   (try clear hi)
   (try clear ho0)
   obtain ⟨Ao23, co23, eo23⟩ := Kd.S_slice HO257.out
   (first | subst eo23 | (injection eo23 with f1_ f2_ f3_; have f4_ := f1_.symm; have f5_ := f3_.symm; clear f1_ f2_ f3_; subst f4_; subst f5_))
   obtain ⟨Ao24, co24, eo24⟩ := Kd.R_slice HO263.out
   (first | subst eo24 | (injection eo24 with f1_ f2_ f3_; have f4_ := f1_.symm; have f5_ := f3_.symm; clear f1_ f2_ f3_; subst f4_; subst f5_))
   refine hK.out _ _ (cs4 BK252.out) (fun hHeld => ?_)
   clear hK K
   refine nm (some 23) ?_
   refine one_ (i := 4) (N := some 24) (mB 6 31) rfl rfl (by kernel_rfl) (by decide) (fun K hK => ?_)
   refine gs Try.func15 #[.slice Ao23 t255.length co23, .agg #[.int .i64 t258, .int .i64 t259, .int .i64 t260, .slice Ao24 t261.length co24]] ?_
   with_reducible refine (spec_RequestValid.calls k _ _ t255 t258 t259 t260 _ _ t261 t264 _ ?side1 ?side2 ?side3 ?side4 A15.out).mono ?_
   (case side1 => repeat (first | exact (Kd.S_reads' HO257.out).2.2 | (with_reducible refine Kd.C_alloc ?_ _) | (with_reducible refine Kd.C_drewN ?_ _) | (with_reducible refine Kd.C_drew ?_)))
   (case side2 => exact (Kd.S_reads' HO257.out).2.1)
   (case side3 => repeat (first | exact (Kd.R_reads' HO263.out).2.2 | (with_reducible refine Kd.C_alloc ?_ _) | (with_reducible refine Kd.C_drewN ?_ _) | (with_reducible refine Kd.C_drew ?_)))
   (case side4 => exact (Kd.R_reads' HO263.out).2.1)
   rintro e w25 ⟨rfl, hb⟩
   refine ⟨_, rfl, ?_⟩
   replace HO257 := Aside0.mk (Kd.S_below (by exact Kd.xS HO257.out) hb)
   replace HO263 := Aside0.mk (Kd.R_below (by exact Kd.xR HO263.out) hb)
   replace BK252 := bB BK252 hb
   replace HB := bS HB hb
   (try clear hb)
   (try clear hb2)
   (try clear hk)
   (try clear hi)
   refine hK.out _ _ (cs4 BK252.out) (fun hHeld => ?_)
   clear hK K
   refine nm (some 24) ?_
   refine pure_ (i := 5) (N := some 6) (v := ?_) (a' := ?_) (mB 6 63) rfl rfl (by kernel_rfl) (fun _ _ _ h => h) (Or.inl ⟨by rfl, ?_⟩) ?_ ?_
   rotate_left
   ·
    intro w'
    go_simp
    with_reducible rfl
   rotate_left
   ·
    simp only [Act.put, List.setIfInBounds_toArray, List.set_cons_zero, List.set_cons_succ, i64_w, i32_w]
    rfl
   refine done_ (by kernel_rfl) ?_
   go_upto_if 34 with (first | ((with_reducible refine gate_callee (f := 11) rfl ?_); refine gl (some 26) Try.func11 #[.slice A0 l0.length c0] ?_; (with_reducible refine (laws_toThingS.calls k _ _ l0 t265 _ ?side1 ?side2 A16.out).mono ?_); (case side1 => repeat (first | exact (Kd.C_below HR0.out HB.out) | (with_reducible refine Kd.C_alloc ?_ _) | (with_reducible refine Kd.C_drewN ?_ _) | (with_reducible refine Kd.C_drew ?_))); (case side2 => exact HC0.out); rintro e w26 ⟨v266, rfl, ho0, hb⟩; refine ⟨_, rfl, ?_⟩; have HO267 := Aside0.mk (Kd.S_lower (Kd.S_new' (Kd.S_new' ho0 (Kd.S_lt (by exact Kd.xS HO257.out))) (Kd.R_lt (by exact Kd.xR HO263.out))) (below_size (by exact bw HB.out))); replace HO257 := Aside0.mk (Kd.S_elder' (by exact Kd.xS HO257.out) (Kd.S_base ho0) hb); replace HO263 := Aside0.mk (Kd.R_below (by exact Kd.xR HO263.out) hb); replace BK252 := bB BK252 hb; replace HB := bS HB hb; (try clear hb); (try clear hb2); (try clear hk); (try clear hi); (try clear ho0); obtain ⟨hcz27_0, hcz27_1, hcz27_2, hcz27_3⟩ := cs4 BK252.out; obtain ⟨hfz27_0, hfz27_1, hfz27_2, hfz27_3⟩ := fz4 BK252.out) | ((with_reducible refine gate_callee (f := 16) rfl ?_); refine gl (some 28) Try.func16 #[.agg #[.int .i64 a1_0, .int .i64 a1_1, .int .i64 a1_2, .slice A1_3 l1_3.length c1_3]] ?_; (with_reducible refine (laws_toRequest.calls k a1_0 a1_1 a1_2 _ _ l1_3 t268 t269 t270 t271 _ ?side1 ?side2 A17.out).mono ?_); (case side1 => repeat (first | exact (Kd.C_below HR1_3.out HB.out) | (with_reducible refine Kd.C_alloc ?_ _) | (with_reducible refine Kd.C_drewN ?_ _) | (with_reducible refine Kd.C_drew ?_))); (case side2 => exact HC1_3.out); rintro e w28 ⟨v272, rfl, ho0, hb⟩; refine ⟨_, rfl, ?_⟩; replace HO257 := Aside0.mk (Kd.S_elder' (by exact Kd.xS HO257.out) (Kd.R_base ho0) hb); replace HO267 := Aside0.mk (Kd.S_elder' (by exact Kd.xS HO267.out) (Kd.R_base ho0) hb); have HO273 := Aside0.mk (Kd.R_lower (Kd.R_new' ho0 (Kd.R_lt (by exact Kd.xR HO263.out))) (below_size (by exact bw HB.out))); replace HO263 := Aside0.mk (Kd.R_elder' (by exact Kd.xR HO263.out) (Kd.R_base ho0) hb); replace BK252 := bB BK252 hb; replace HB := bS HB hb; (try clear hb); (try clear hb2); (try clear hk); (try clear hi); (try clear ho0)) | ((with_reducible refine gate_dst (N := 8) rfl ?_); refine bx 8 #[.int .i64 0, .int .i64 0, .int .i64 0, .slice none 0 0] 36 ?_; intro gb274 hg w29 hbox hb; replace HO257 := Aside0.mk (Kd.S_below (by exact Kd.xS HO257.out) hb); replace HO263 := Aside0.mk (Kd.R_below (by exact Kd.xR HO263.out) hb); replace HO267 := Aside0.mk (Kd.S_below (by exact Kd.xS HO267.out) hb); replace HO273 := Aside0.mk (Kd.R_below (by exact Kd.xR HO273.out) hb); have BK274 := Aside0.mk (hbox); have GW274 := gwB HB hg; have GE274 := gwB HB hg; replace HB := bS HB hb; have NB252_274 := nbL BK252 hg; have NB274_252 := nbR BK252 hg; replace BK252 := bB BK252 hb; clear hb hbox hg; have hnb30 := NB274_252.out; have hnc30 := NB252_274.out; obtain ⟨hcz31_0, hcz31_1, hcz31_2, hcz31_3⟩ := cs4 BK274.out; obtain ⟨hfz31_0, hfz31_1, hfz31_2, hfz31_3⟩ := fz4 BK274.out; obtain ⟨Ao32, co32, eo32⟩ := Kd.R_slice HO273.out; subst eo32; obtain ⟨Ao33, co33, eo33⟩ := Kd.S_slice HO267.out; subst eo33) | ((with_reducible refine gate_callee (f := 17) rfl ?_); refine gl (some 31) Try.func17 #[.slice Ao33 t265.length co33, .agg #[.int .i64 t268, .int .i64 t269, .int .i64 t270, .slice Ao32 t271.length co32]] ?_; (with_reducible refine (impl_RequestValid.calls k _ _ t265 t268 t269 t270 _ _ t271 t275 _ ?side1 ?side2 ?side3 ?side4 A18.out).mono ?_); (case side1 => refine (Kd.S_reads' (e := 72) (base := w.heap.size) (ok := fun k_ => (((True ∧ some k_ ≠ (.slice Ao23 t255.length co23 : Value).ownBlock) ∧ some k_ ≠ (.slice Ao24 t261.length co24 : Value).ownBlock) ∧ some k_ ≠ (.slice Ao32 t271.length co32 : Value).ownBlock)) (n := t265.length) (c := co33) ?_).2.2; exact (by (with_reducible repeat (first | apply Kd.S_alloc | apply Kd.S_drewN | apply Kd.S_drew)); exact (Kd.S_mono (Kd.S_far (p := ⟨gb274, 3, none⟩) (Kd.S_far (p := ⟨gb274, 2, none⟩) (Kd.S_far (p := ⟨gb274, 1, none⟩) (Kd.S_far (p := ⟨gb274, 0, none⟩) (Kd.S_types HO267.out BK274.out (by decide)) (fun _ hk => hk.2) (.int .i64 t268)) (fun _ hk => hk.2) (.int .i64 t269)) (fun _ hk => hk.2) (.int .i64 t270)) (fun _ hk => hk.2) (.slice Ao32 t271.length co32)) (fun _ h_ => h_.1)))); (case side2 => exact (Kd.S_reads' HO267.out).2.1); (case side3 => refine (Kd.R_reads' (e := 85) (base := w.heap.size) (ok := fun k_ => (True ∧ some k_ ≠ (.slice Ao24 t261.length co24 : Value).ownBlock)) (n := t271.length) (c := co32) ?_).2.2; exact (by (with_reducible repeat (first | apply Kd.R_alloc | apply Kd.R_drewN | apply Kd.R_drew)); exact (Kd.R_mono (Kd.R_far (p := ⟨gb274, 3, none⟩) (Kd.R_far (p := ⟨gb274, 2, none⟩) (Kd.R_far (p := ⟨gb274, 1, none⟩) (Kd.R_far (p := ⟨gb274, 0, none⟩) (Kd.R_types HO273.out BK274.out (by decide)) (fun _ hk => hk.2) (.int .i64 t268)) (fun _ hk => hk.2) (.int .i64 t269)) (fun _ hk => hk.2) (.int .i64 t270)) (fun _ hk => hk.2) (.slice Ao32 t271.length co32)) (fun _ h_ => h_.1)))); (case side4 => exact (Kd.R_reads' HO273.out).2.1); rintro e w34 ⟨rfl, hb⟩; refine ⟨_, rfl, ?_⟩; replace HO257 := Aside0.mk (Kd.S_below (by (with_reducible repeat (first | apply Kd.S_alloc | apply Kd.S_drewN | apply Kd.S_drew)); exact (Kd.S_mono (Kd.S_far (p := ⟨gb274, 3, none⟩) (Kd.S_far (p := ⟨gb274, 2, none⟩) (Kd.S_far (p := ⟨gb274, 1, none⟩) (Kd.S_far (p := ⟨gb274, 0, none⟩) (Kd.S_types HO257.out BK274.out (by decide)) (fun _ hk => hk.2) (.int .i64 t268)) (fun _ hk => hk.2) (.int .i64 t269)) (fun _ hk => hk.2) (.int .i64 t270)) (fun _ hk => hk.2) (.slice Ao32 t271.length co32)) (fun _ h_ => h_.1))) hb); replace HO263 := Aside0.mk (Kd.R_below (by (with_reducible repeat (first | apply Kd.R_alloc | apply Kd.R_drewN | apply Kd.R_drew)); exact (Kd.R_mono (Kd.R_far (p := ⟨gb274, 3, none⟩) (Kd.R_far (p := ⟨gb274, 2, none⟩) (Kd.R_far (p := ⟨gb274, 1, none⟩) (Kd.R_far (p := ⟨gb274, 0, none⟩) (Kd.R_types HO263.out BK274.out (by decide)) (fun _ hk => hk.2) (.int .i64 t268)) (fun _ hk => hk.2) (.int .i64 t269)) (fun _ hk => hk.2) (.int .i64 t270)) (fun _ hk => hk.2) (.slice Ao32 t271.length co32)) (fun _ h_ => h_.1))) hb); replace HO267 := Aside0.mk (Kd.S_below (by (with_reducible repeat (first | apply Kd.S_alloc | apply Kd.S_drewN | apply Kd.S_drew)); exact (Kd.S_mono (Kd.S_far (p := ⟨gb274, 3, none⟩) (Kd.S_far (p := ⟨gb274, 2, none⟩) (Kd.S_far (p := ⟨gb274, 1, none⟩) (Kd.S_far (p := ⟨gb274, 0, none⟩) (Kd.S_types HO267.out BK274.out (by decide)) (fun _ hk => hk.2) (.int .i64 t268)) (fun _ hk => hk.2) (.int .i64 t269)) (fun _ hk => hk.2) (.int .i64 t270)) (fun _ hk => hk.2) (.slice Ao32 t271.length co32)) (fun _ h_ => h_.1))) hb); replace HO273 := Aside0.mk (Kd.R_below (by (with_reducible repeat (first | apply Kd.R_alloc | apply Kd.R_drewN | apply Kd.R_drew)); exact (Kd.R_mono (Kd.R_far (p := ⟨gb274, 3, none⟩) (Kd.R_far (p := ⟨gb274, 2, none⟩) (Kd.R_far (p := ⟨gb274, 1, none⟩) (Kd.R_far (p := ⟨gb274, 0, none⟩) (Kd.R_types HO273.out BK274.out (by decide)) (fun _ hk => hk.2) (.int .i64 t268)) (fun _ hk => hk.2) (.int .i64 t269)) (fun _ hk => hk.2) (.int .i64 t270)) (fun _ hk => hk.2) (.slice Ao32 t271.length co32)) (fun _ h_ => h_.1))) hb); replace BK252 := Aside0.mk (blk_below (g := gb252) (o := .cells #[.int .i64 a1_0, .int .i64 a1_1, .int .i64 a1_2, .slice A1_3 l1_3.length c1_3] 31 (0, 0)) (bo BK252) hb); replace BK274 := Aside0.mk (blk_below (g := gb274) (o := .cells #[.int .i64 t268, .int .i64 t269, .int .i64 t270, .slice Ao32 t271.length co32] 36 (0, 0)) (bp BK274) hb); replace HB := bS HB hb; (try clear hb); (try clear hb2); (try clear hk); (try clear hi)))
   (try simp only [Act.put, List.setIfInBounds_toArray, List.set_cons_zero, List.set_cons_succ])
   have H := HC19.out
   clear HC19
   by_cases c35 : (t275 != t264) = true
   ·
    rw [if_pos c35] at H; have c35b0 : (t275 != t264) = true := c35
    (try (have c35b1 : decide (t275 = t264) = false := by simpa using c35))
    (try (have c35b2 : (t275 == t264) = false := by simpa using c35))
    (try (have c35b3 : ¬ (t275 = t264) := by simpa using c35))
    clear c35
    (first | rw [c35b0] | (simp only [i64_w, i32_w]; rw [c35b0]) | rw [c35b2] | rw [c35b1] | skip)
    obtain rfl := Option.some.inj H
    go_wp2
    go_ret
    exact ⟨by first | rfl | (simp [errW_none, errW_some] <;> rfl) | (simp [*, errW_none, errW_some] <;> rfl), by exact bw HB.out⟩
   ·
    rw [if_neg c35] at H; have c35b0 : (t275 != t264) = false := by simpa using c35
    (try (have c35b1 : decide (t275 = t264) = true := by simpa using c35))
    (try (have c35b2 : (t275 == t264) = true := by simpa using c35))
    clear c35
    (first | rw [c35b0] | (simp only [i64_w, i32_w]; rw [c35b0]) | rw [c35b2] | rw [c35b1] | skip)
    replace H := Option.bind_eq_some_iff.mp H
    obtain ⟨t276, A360, H⟩ := H
    replace H : ((laws_eqThingS.f k t265 t276).bind fun t279 => (if t279 = true then ((laws_toRequest.f k a1_0 a1_1 a1_2 l1_3).bind fun bt280 => ((laws_eqRequest.f k t268 t269 t270 t271 bt280.1 bt280.2.1 bt280.2.2.1 bt280.2.2.2).bind fun t286 => (if t286 = true then (some true) else (some false)))) else (some false))) = some r := H
    have A36 := Aside0.mk A360
    clear A360
    replace H := Option.bind_eq_some_iff.mp H
    obtain ⟨t279, A370, H⟩ := H
    replace H : (if t279 = true then ((laws_toRequest.f k a1_0 a1_1 a1_2 l1_3).bind fun bt280 => ((laws_eqRequest.f k t268 t269 t270 t271 bt280.1 bt280.2.1 bt280.2.2.1 bt280.2.2.2).bind fun t286 => (if t286 = true then (some true) else (some false)))) else (some false)) = some r := H
    have A37 := Aside0.mk A370
    clear A370
    have HC38 := Aside0.mk H
    clear H
    go_upto_if 39 with (first | ((with_reducible refine gate_callee (f := 11) rfl ?_); refine gl (some 37) Try.func11 #[.slice A0 l0.length c0] ?_; (with_reducible refine (laws_toThingS.calls k _ _ l0 t276 _ ?side1 ?side2 A36.out).mono ?_); (case side1 => repeat (first | exact (Kd.C_below HR0.out HB.out) | (with_reducible refine Kd.C_alloc ?_ _) | (with_reducible refine Kd.C_drewN ?_ _) | (with_reducible refine Kd.C_drew ?_))); (case side2 => exact HC0.out); rintro e w39 ⟨v277, rfl, ho0, hb⟩; refine ⟨_, rfl, ?_⟩; have HO278 := Aside0.mk (Kd.S_lower (Kd.S_new' (Kd.S_new' (Kd.S_new' (Kd.S_new' ho0 (Kd.S_lt (by exact Kd.xS HO257.out))) (Kd.R_lt (by exact Kd.xR HO263.out))) (Kd.S_lt (by exact Kd.xS HO267.out))) (Kd.R_lt (by exact Kd.xR HO273.out))) (below_size (by exact bw HB.out))); replace HO257 := Aside0.mk (Kd.S_elder' (by exact Kd.xS HO257.out) (Kd.S_base ho0) hb); replace HO263 := Aside0.mk (Kd.R_below (by exact Kd.xR HO263.out) hb); replace HO267 := Aside0.mk (Kd.S_elder' (by exact Kd.xS HO267.out) (Kd.S_base ho0) hb); replace HO273 := Aside0.mk (Kd.R_below (by exact Kd.xR HO273.out) hb); replace BK252 := bB BK252 hb; replace BK274 := bB BK274 hb; replace HB := bS HB hb; (try clear hb); (try clear hb2); (try clear hk); (try clear hi); (try clear ho0); obtain ⟨Ao40, co40, eo40⟩ := Kd.S_slice HO278.out; subst eo40) | ((with_reducible refine gate_callee (f := 13) rfl ?_); refine gl (some 38) Try.func13 #[.slice Ao33 t265.length co33, .slice Ao40 t276.length co40] ?_; (with_reducible refine (laws_eqThingS.calls k _ _ t265 _ _ t276 t279 _ ?side1 ?side2 ?side3 ?side4 A37.out).mono ?_); (case side1 => repeat (first | exact (Kd.S_reads' HO267.out).2.2 | (with_reducible refine Kd.C_alloc ?_ _) | (with_reducible refine Kd.C_drewN ?_ _) | (with_reducible refine Kd.C_drew ?_))); (case side2 => exact (Kd.S_reads' HO267.out).2.1); (case side3 => repeat (first | exact (Kd.S_reads' HO278.out).2.2 | (with_reducible refine Kd.C_alloc ?_ _) | (with_reducible refine Kd.C_drewN ?_ _) | (with_reducible refine Kd.C_drew ?_))); (case side4 => exact (Kd.S_reads' HO278.out).2.1); rintro e w41 ⟨rfl, hb⟩; refine ⟨_, rfl, ?_⟩; replace HO257 := Aside0.mk (Kd.S_below (by exact Kd.xS HO257.out) hb); replace HO263 := Aside0.mk (Kd.R_below (by exact Kd.xR HO263.out) hb); replace HO267 := Aside0.mk (Kd.S_below (by exact Kd.xS HO267.out) hb); replace HO273 := Aside0.mk (Kd.R_below (by exact Kd.xR HO273.out) hb); replace HO278 := Aside0.mk (Kd.S_below (by exact Kd.xS HO278.out) hb); replace BK252 := bB BK252 hb; replace BK274 := bB BK274 hb; replace HB := bS HB hb; (try clear hb); (try clear hb2); (try clear hk); (try clear hi)))
    (try simp only [Act.put, List.setIfInBounds_toArray, List.set_cons_zero, List.set_cons_succ])
    have H := HC38.out
    clear HC38
    by_cases c42 : t279 = true
    ·
     subst c42
     have H1 : ((laws_toRequest.f k a1_0 a1_1 a1_2 l1_3).bind fun bt280 => ((laws_eqRequest.f k t268 t269 t270 t271 bt280.1 bt280.2.1 bt280.2.2.1 bt280.2.2.2).bind fun t286 => (if t286 = true then (some true) else (some false)))) = some r := by rw [if_pos rfl] at H; exact H
     clear H
     have H := H1
     clear H1
     replace H := Option.bind_eq_some_iff.mp H
     obtain ⟨⟨t280, t281, t282, t283⟩, A430, H⟩ := H
     replace H : ((laws_eqRequest.f k t268 t269 t270 t271 t280 t281 t282 t283).bind fun t286 => (if t286 = true then (some true) else (some false))) = some r := H
     have A43 := Aside0.mk A430
     clear A430
     replace H := Option.bind_eq_some_iff.mp H
     obtain ⟨t286, A440, H⟩ := H
     replace H : (if t286 = true then (some true) else (some false)) = some r := H
     have A44 := Aside0.mk A440
     clear A440
     have HC45 := Aside0.mk H
     clear H
     try go_wp2
     replace HO257 := Aside0.mk (Kd.S_drew HO257.out)
     replace HO263 := Aside0.mk (Kd.R_drew HO263.out)
     replace HO267 := Aside0.mk (Kd.S_drew HO267.out)
     replace HO273 := Aside0.mk (Kd.R_drew HO273.out)
     replace HO278 := Aside0.mk (Kd.S_drew HO278.out)
     replace BK252 := Aside0.mk (blk_drew BK252.out)
     replace BK274 := Aside0.mk (blk_drew BK274.out)
     replace HB := Aside0.mk (below_drew1 HB.out)
     refine start_ (n := 5) (S := fun w' => w'.cell? ⟨gb274, 0, none⟩ = some (.int .i64 t268) ∧ w'.cell? ⟨gb274, 1, none⟩ = some (.int .i64 t269) ∧ w'.cell? ⟨gb274, 2, none⟩ = some (.int .i64 t270) ∧ w'.cell? ⟨gb274, 3, none⟩ = some (.slice Ao32 t271.length co32) ∧ w'.cell? ⟨gb252, 0, none⟩ = some (.int .i64 a1_0) ∧ w'.cell? ⟨gb252, 1, none⟩ = some (.int .i64 a1_1) ∧ w'.cell? ⟨gb252, 2, none⟩ = some (.int .i64 a1_2) ∧ w'.cell? ⟨gb252, 3, none⟩ = some (.slice A1_3 l1_3.length c1_3)) (ds := []) (mB 5 0) (by kernel_rfl) rfl rfl ⟨(blk_cell BK274.out 0).trans rfl, (blk_cell BK274.out 1).trans rfl, (blk_cell BK274.out 2).trans rfl, (blk_cell BK274.out 3).trans rfl, (blk_cell BK252.out 0).trans rfl, (blk_cell BK252.out 1).trans rfl, (blk_cell BK252.out 2).trans rfl, (blk_cell BK252.out 3).trans rfl⟩ (fun hHeld => ?_)
     generalize w41.drew = w46 at HO257 HO263 HO267 HO273 HO278 BK252 BK274 HB hHeld ⊢
     refine take_ (i := 0) (N := some 40) (v := ?_) (a' := ?_) (mB 5 1) rfl rfl (by kernel_rfl) (fun _ _ _ h => h) (Or.inl ⟨by rfl, ?_⟩) hHeld ?_ ?_
     rotate_left
     ·
      rintro w' ⟨s0, s1, s2, s3, s4, s5, s6, s7⟩
      go_simp
      with_reducible rfl
     rotate_left
     ·
      simp only [Act.put, List.setIfInBounds_toArray, List.set_cons_zero, List.set_cons_succ, i64_w, i32_w]
      rfl
     refine take_ (i := 1) (N := some 41) (v := ?_) (a' := ?_) (mB 5 3) rfl rfl (by kernel_rfl) (fun _ _ _ h => h) (Or.inl ⟨by rfl, ?_⟩) hHeld ?_ ?_
     rotate_left
     ·
      rintro w' ⟨s0, s1, s2, s3, s4, s5, s6, s7⟩
      go_simp
      with_reducible rfl
     rotate_left
     ·
      simp only [Act.put, List.setIfInBounds_toArray, List.set_cons_zero, List.set_cons_succ, i64_w, i32_w]
      rfl
     refine one_ (i := 2) (N := some 42) (mB 5 7) rfl rfl (by kernel_rfl) (by decide) (fun K hK => ?_)
     refine gs Try.func16 #[.agg #[.int .i64 a1_0, .int .i64 a1_1, .int .i64 a1_2, .slice A1_3 l1_3.length c1_3]] ?_
     with_reducible refine (laws_toRequest.calls k a1_0 a1_1 a1_2 _ _ l1_3 t280 t281 t282 t283 _ ?side1 ?side2 A43.out).mono ?_
     (case side1 => repeat (first | exact (Kd.C_below HR1_3.out HB.out) | (with_reducible refine Kd.C_alloc ?_ _) | (with_reducible refine Kd.C_drewN ?_ _) | (with_reducible refine Kd.C_drew ?_)))
     (case side2 => exact HC1_3.out)
     rintro e w47 ⟨v284, rfl, ho0, hb⟩
     refine ⟨_, rfl, ?_⟩
     replace HO257 := Aside0.mk (Kd.S_elder' (by exact Kd.xS HO257.out) (Kd.R_base ho0) hb)
     replace HO267 := Aside0.mk (Kd.S_elder' (by exact Kd.xS HO267.out) (Kd.R_base ho0) hb)
     replace HO278 := Aside0.mk (Kd.S_elder' (by exact Kd.xS HO278.out) (Kd.R_base ho0) hb)
     have HO285 := Aside0.mk (Kd.R_lower (Kd.R_new' (Kd.R_new' ho0 (Kd.R_lt (by exact Kd.xR HO263.out))) (Kd.R_lt (by exact Kd.xR HO273.out))) (below_size (by exact bw HB.out)))
     replace HO263 := Aside0.mk (Kd.R_elder' (by exact Kd.xR HO263.out) (Kd.R_base ho0) hb)
     replace HO273 := Aside0.mk (Kd.R_elder' (by exact Kd.xR HO273.out) (Kd.R_base ho0) hb)
     replace BK252 := bB BK252 hb
     replace BK274 := bB BK274 hb
     replace HB := bS HB hb
     (try clear hb)
     (try clear hb2)
     (try clear hk)
     (try clear hi)
     (try clear ho0)
     obtain ⟨Ao48, co48, eo48⟩ := Kd.R_slice HO285.out
     (first | subst eo48 | (injection eo48 with f1_ f2_ f3_; have f4_ := f1_.symm; have f5_ := f3_.symm; clear f1_ f2_ f3_; subst f4_; subst f5_))
     refine hK.out _ _ ⟨(blk_cell BK274.out 0).trans rfl, (blk_cell BK274.out 1).trans rfl, (blk_cell BK274.out 2).trans rfl, (blk_cell BK274.out 3).trans rfl, (blk_cell BK252.out 0).trans rfl, (blk_cell BK252.out 1).trans rfl, (blk_cell BK252.out 2).trans rfl, (blk_cell BK252.out 3).trans rfl⟩ (fun hHeld => ?_)
     clear hK K
     refine nm (some 42) ?_
     refine one_ (i := 3) (N := some 43) (mB 5 15) rfl rfl (by kernel_rfl) (by decide) (fun K hK => ?_)
     refine gs Try.func18 #[.agg #[.int .i64 t268, .int .i64 t269, .int .i64 t270, .slice Ao32 t271.length co32], .agg #[.int .i64 t280, .int .i64 t281, .int .i64 t282, .slice Ao48 t283.length co48]] ?_
     with_reducible refine (laws_eqRequest.calls k t268 t269 t270 _ _ t271 t280 t281 t282 _ _ t283 t286 _ ?side1 ?side2 ?side3 ?side4 A44.out).mono ?_
     (case side1 => repeat (first | exact (Kd.R_reads' HO273.out).2.2 | (with_reducible refine Kd.C_alloc ?_ _) | (with_reducible refine Kd.C_drewN ?_ _) | (with_reducible refine Kd.C_drew ?_)))
     (case side2 => exact (Kd.R_reads' HO273.out).2.1)
     (case side3 => repeat (first | exact (Kd.R_reads' HO285.out).2.2 | (with_reducible refine Kd.C_alloc ?_ _) | (with_reducible refine Kd.C_drewN ?_ _) | (with_reducible refine Kd.C_drew ?_)))
     (case side4 => exact (Kd.R_reads' HO285.out).2.1)
     rintro e w49 ⟨rfl, hb⟩
     refine ⟨_, rfl, ?_⟩
     replace HO257 := Aside0.mk (Kd.S_below (by exact Kd.xS HO257.out) hb)
     replace HO263 := Aside0.mk (Kd.R_below (by exact Kd.xR HO263.out) hb)
     replace HO267 := Aside0.mk (Kd.S_below (by exact Kd.xS HO267.out) hb)
     replace HO273 := Aside0.mk (Kd.R_below (by exact Kd.xR HO273.out) hb)
     replace HO278 := Aside0.mk (Kd.S_below (by exact Kd.xS HO278.out) hb)
     replace HO285 := Aside0.mk (Kd.R_below (by exact Kd.xR HO285.out) hb)
     replace BK252 := bB BK252 hb
     replace BK274 := bB BK274 hb
     replace HB := bS HB hb
     (try clear hb)
     (try clear hb2)
     (try clear hk)
     (try clear hi)
     refine hK.out _ _ ⟨(blk_cell BK274.out 0).trans rfl, (blk_cell BK274.out 1).trans rfl, (blk_cell BK274.out 2).trans rfl, (blk_cell BK274.out 3).trans rfl, (blk_cell BK252.out 0).trans rfl, (blk_cell BK252.out 1).trans rfl, (blk_cell BK252.out 2).trans rfl, (blk_cell BK252.out 3).trans rfl⟩ (fun hHeld => ?_)
     clear hK K
     refine nm (some 43) ?_
     refine pure_ (i := 4) (N := some 44) (v := ?_) (a' := ?_) (mB 5 31) rfl rfl (by kernel_rfl) (fun _ _ _ h => h) (Or.inl ⟨by rfl, ?_⟩) ?_ ?_
     rotate_left
     ·
      intro w'
      go_simp
      with_reducible rfl
     rotate_left
     ·
      simp only [Act.put, List.setIfInBounds_toArray, List.set_cons_zero, List.set_cons_succ, i64_w, i32_w]
      rfl
     refine done_ (by kernel_rfl) ?_
     go_upto_if 44 with (fail)
     have H := HC45.out
     clear HC45
     by_cases c50 : t286 = true
     ·
      subst c50
      have H1 : (some true) = some r := by rw [if_pos rfl] at H; exact H
      clear H
      have H := H1
      clear H1
      obtain rfl := Option.some.inj H
      go_wp2
      go_ret
      exact ⟨by first | rfl | (simp [errW_none, errW_some] <;> rfl) | (simp [*, errW_none, errW_some] <;> rfl), by exact bw HB.out⟩
     ·
      replace c50 := Bool.eq_false_iff.mpr c50
      subst c50
      have H1 : (some false) = some r := by rw [if_neg (show ¬ (false = true) by decide)] at H; exact H
      clear H
      have H := H1
      clear H1
      obtain rfl := Option.some.inj H
      go_wp2
      go_ret
      exact ⟨by first | rfl | (simp [errW_none, errW_some] <;> rfl) | (simp [*, errW_none, errW_some] <;> rfl), by exact bw HB.out⟩
    ·
     replace c42 := Bool.eq_false_iff.mpr c42
     subst c42
     have H1 : (some false) = some r := by rw [if_neg (show ¬ (false = true) by decide)] at H; exact H
     clear H
     have H := H1
     clear H1
     obtain rfl := Option.some.inj H
     go_wp2
     go_ret
     exact ⟨by first | rfl | (simp [errW_none, errW_some] <;> rfl) | (simp [*, errW_none, errW_some] <;> rfl), by exact bw HB.out⟩

/-- THE ONE PURE STATEMENT of laws_FnExactRequestValid: yours. -/
def laws_FnExactRequestValid.Pure : Prop := ∀ (l0 : List (S68)) (a1_0 : Int) (a1_1 : Int) (a1_2 : Int) (l1_3 : List (S82)), (l0.length ≤ maxLen ∧ ∀ y0_ ∈ l0, Fine68 y0_) → Fine31 (⟨a1_0, a1_1, a1_2, l1_3⟩ : S31) → ∃ k, laws_FnExactRequestValid.f k l0 a1_0 a1_1 a1_2 l1_3 = some true
theorem laws_FnExactRequestValid.walk (P : laws_FnExactRequestValid.Pure) (A0 : Option Addr) (c0 : Nat) (l0 : List (S68)) (a1_0 : Int) (a1_1 : Int) (a1_2 : Int) (A1_3 : Option Addr) (c1_3 : Nat) (l1_3 : List (S82)) (w : World) (hr0 : Kd.C k68 w A0 l0.length l0) (hc0 : l0.length ≤ c0) (w0 : (l0.length ≤ maxLen ∧ ∀ y0_ ∈ l0, Fine68 y0_)) (hr1_3 : Kd.C k82 w A1_3 l1_3.length l1_3) (hc1_3 : l1_3.length ≤ c1_3) (w1 : Fine31 (⟨a1_0, a1_1, a1_2, l1_3⟩ : S31)) :
  Calls Try.prog 4 #[.slice A0 l0.length c0, .agg #[.int .i64 a1_0, .int .i64 a1_1, .int .i64 a1_2, .slice A1_3 l1_3.length c1_3]] w fun e w' => e = .returned (.bool true) ∧ Below w.heap.size w w' := by
 obtain ⟨k, h⟩ := P l0 a1_0 a1_1 a1_2 l1_3 w0 w1
 refine (laws_FnExactRequestValid.calls k _ _ l0 a1_0 a1_1 a1_2 _ _ l1_3 true w hr0 hc0 hr1_3 hc1_3 h).mono ?_
 rintro e w' ⟨rfl, hd⟩
 exact ⟨rfl, hd⟩

end Go.Proofs.Ytacpkmdnoggmoaa.P
