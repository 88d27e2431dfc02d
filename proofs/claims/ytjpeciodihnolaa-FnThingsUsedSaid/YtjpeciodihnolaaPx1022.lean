-- Written by a program of this session (wip/tool).
import Derived.Test.YtjpeciodihnolaaPx0
import Derived.Test.YtjpeciodihnolaaPx1036
import Derived.Test.YtjpeciodihnolaaPx1046
import Derived.Test.YtjpeciodihnolaaPx1047
import Derived.Test.YtjpeciodihnolaaPx1048
import Derived.Test.YtjpeciodihnolaaPx1049
namespace Go.Proofs.Ytjpeciodihnolaa.P
open Go.RowKit Go.Proofs.YtjpeciodihnolaaW.PrintWords Go.Proofs.YtjpeciodihnolaaW.PrintLast Go.Proofs.YtjpeciodihnolaaW.PrintMore
attribute [local go_sem] max2_int min2_int max_two min_two max_three min_three max_four min_four   -- for this text's walks alone
set_option linter.unusedVariables false
set_option linter.unusedSimpArgs false

/-! ### spec_l20Expr: function 22 -/
mutual
def spec_l20Expr.j0 : Nat → Bool → List Int → Int → Int → Int → ByteArray → List (S25) → Option (Int × Int × ByteArray × (List (S25)) × Int)
 | 0, _, _, _, _, _, _, _ => none
 | k + 1, x13, x1000, x1001, x334000, x334001, x334002, x334003 => if x13 = true then ((spec_l20Rd_pick.f k x1000 x1001 6).bind fun bt336 => (spec_l20Expr.j1 k bt336.1 x1000 bt336.2 x334000 x334001 x334002 x334003)) else (some (x334000, x334001, x334002, x334003, x1001))
def spec_l20Expr.j1 : Nat → Int → List Int → Int → Int → Int → ByteArray → List (S25) → Option (Int × Int × ByteArray × (List (S25)) × Int)
 | 0, _, _, _, _, _, _, _ => none
 | k + 1, x15, x1000, x1001, x334000, x334001, x334002, x334003 => if x15 = 0 then ((spec_l20Number.f k x1000 x1001 2).bind fun bt338 => (some (bt338.1, bt338.2.1, bt338.2.2.1, bt338.2.2.2.1, bt338.2.2.2.2))) else (if x15 = 1 then ((spec_l20Thing.f k x1000 x1001 1).bind fun bt345 => (some (13, 0, (⟨#[]⟩ : ByteArray), (([(⟨bt345.1, bt345.2.1, bt345.2.2.1, bt345.2.2.2.1⟩ : S25)] : List (S25))), bt345.2.2.2.2))) else (if x15 = 2 then ((spec_l20Thing.f k x1000 x1001 1).bind fun bt355 => (some (11, 0, (⟨#[]⟩ : ByteArray), (([(⟨bt355.1, bt355.2.1, bt355.2.2.1, bt355.2.2.2.1⟩ : S25), (⟨x334000, x334001, x334002, x334003⟩ : S25)] : List (S25))), bt355.2.2.2.2))) else (if x15 = 3 then ((some (([0, 16] : List Int) : List Int)).bind fun y365 => ((spec_l20Rd_pick.f k x1000 x1001 2).bind fun bt368 => (if 0 ≤ bt368.1 then (if bt368.1 < (y365.length : Int) then (some (rd y365 bt368.1, 0, (⟨#[]⟩ : ByteArray), ([] : List (S25)), bt368.2)) else (none)) else (none)))) else (if x15 = 4 then (some (14, 0, (⟨#[]⟩ : ByteArray), (([(⟨x334000, x334001, x334002, x334003⟩ : S25)] : List (S25))), x1001)) else (some (9, 0, (⟨#[65]⟩ : ByteArray), (([(⟨x334000, x334001, x334002, x334003⟩ : S25)] : List (S25))), x1001))))))
end
def spec_l20Expr.f (k : Nat) (s0_0 : List Int) (s0_1 : Int) (a1 : Int) : Option (Int × Int × ByteArray × (List (S25)) × Int) := (spec_l20Rd_pick.f k s0_0 s0_1 3).bind fun bt324 => ((spec_l20Truth.f k s0_0 bt324.2 (wrap64 (1 + bt324.1))).bind fun bt326 => ((spec_l20Rd_odd.f k s0_0 bt326.2.2.2.2 a1).bind fun bt334 => (spec_l20Expr.j0 k bt334.1 s0_0 bt334.2 bt326.1 bt326.2.1 bt326.2.2.1 bt326.2.2.2.1)))
theorem spec_l20Expr.mono_l : ∀ k, (∀ y0 y1 y2 y3 y4 y5 y6, LeO (spec_l20Expr.j0 k y0 y1 y2 y3 y4 y5 y6) (spec_l20Expr.j0 (k + 1) y0 y1 y2 y3 y4 y5 y6)) ∧ (∀ y0 y1 y2 y3 y4 y5 y6, LeO (spec_l20Expr.j1 k y0 y1 y2 y3 y4 y5 y6) (spec_l20Expr.j1 (k + 1) y0 y1 y2 y3 y4 y5 y6))
 | 0 => ⟨fun _ _ _ _ _ _ _ r h => by simp [spec_l20Expr.j0] at h, fun _ _ _ _ _ _ _ r h => by simp [spec_l20Expr.j1] at h⟩
 | k + 1 => by
  obtain ⟨ih0, ih1⟩ := spec_l20Expr.mono_l k
  refine ⟨?_, ?_⟩
  ·
   intro y0 y1 y2 y3 y4 y5 y6
   unfold spec_l20Expr.j0
   repeat' first
   | (with_reducible exact ih0 _ _ _ _ _ _ _)
   | (with_reducible exact ih1 _ _ _ _ _ _ _)
   | (with_reducible exact spec_l20Number.mono _ _ _ _)
   | (with_reducible exact spec_l20Rd_odd.mono _ _ _ _)
   | (with_reducible exact spec_l20Rd_pick.mono _ _ _ _)
   | (with_reducible exact spec_l20Thing.mono _ _ _ _)
   | (with_reducible exact spec_l20Truth.mono _ _ _ _)
   | (with_reducible exact LeO.refl _)
   | (with_reducible exact LeO.none _)
   | (with_reducible refine LeO.ite ?_ ?_)
   | (with_reducible refine LeO.bind ?_ (fun _ => ?_))
   | exact ih0 _ _ _ _ _ _ _
   | exact ih1 _ _ _ _ _ _ _
   | exact spec_l20Number.mono _ _ _ _
   | exact spec_l20Rd_odd.mono _ _ _ _
   | exact spec_l20Rd_pick.mono _ _ _ _
   | exact spec_l20Thing.mono _ _ _ _
   | exact spec_l20Truth.mono _ _ _ _
   | exact LeO.none _
   | refine LeO.ite ?_ ?_
   | refine LeO.bind ?_ (fun _ => ?_)
  ·
   intro y0 y1 y2 y3 y4 y5 y6
   unfold spec_l20Expr.j1
   repeat' first
   | (with_reducible exact ih0 _ _ _ _ _ _ _)
   | (with_reducible exact ih1 _ _ _ _ _ _ _)
   | (with_reducible exact spec_l20Number.mono _ _ _ _)
   | (with_reducible exact spec_l20Rd_odd.mono _ _ _ _)
   | (with_reducible exact spec_l20Rd_pick.mono _ _ _ _)
   | (with_reducible exact spec_l20Thing.mono _ _ _ _)
   | (with_reducible exact spec_l20Truth.mono _ _ _ _)
   | (with_reducible exact LeO.refl _)
   | (with_reducible exact LeO.none _)
   | (with_reducible refine LeO.ite ?_ ?_)
   | (with_reducible refine LeO.bind ?_ (fun _ => ?_))
   | exact ih0 _ _ _ _ _ _ _
   | exact ih1 _ _ _ _ _ _ _
   | exact spec_l20Number.mono _ _ _ _
   | exact spec_l20Rd_odd.mono _ _ _ _
   | exact spec_l20Rd_pick.mono _ _ _ _
   | exact spec_l20Thing.mono _ _ _ _
   | exact spec_l20Truth.mono _ _ _ _
   | exact LeO.none _
   | refine LeO.ite ?_ ?_
   | refine LeO.bind ?_ (fun _ => ?_)
theorem spec_l20Expr.mono : ∀ a0 a1 a2 k, LeO (spec_l20Expr.f k a0 a1 a2) (spec_l20Expr.f (k + 1) a0 a1 a2) := by
 intro a0 a1 a2 k
 obtain ⟨ih0, ih1⟩ := spec_l20Expr.mono_l k
 unfold spec_l20Expr.f
 repeat' first
   | (with_reducible exact ih0 _ _ _ _ _ _ _)
   | (with_reducible exact ih1 _ _ _ _ _ _ _)
   | (with_reducible exact spec_l20Number.mono _ _ _ _)
   | (with_reducible exact spec_l20Rd_odd.mono _ _ _ _)
   | (with_reducible exact spec_l20Rd_pick.mono _ _ _ _)
   | (with_reducible exact spec_l20Thing.mono _ _ _ _)
   | (with_reducible exact spec_l20Truth.mono _ _ _ _)
   | (with_reducible exact LeO.refl _)
   | (with_reducible exact LeO.none _)
   | (with_reducible refine LeO.ite ?_ ?_)
   | (with_reducible refine LeO.bind ?_ (fun _ => ?_))
   | exact ih0 _ _ _ _ _ _ _
   | exact ih1 _ _ _ _ _ _ _
   | exact spec_l20Number.mono _ _ _ _
   | exact spec_l20Rd_odd.mono _ _ _ _
   | exact spec_l20Rd_pick.mono _ _ _ _
   | exact spec_l20Thing.mono _ _ _ _
   | exact spec_l20Truth.mono _ _ _ _
   | exact LeO.none _
   | refine LeO.ite ?_ ?_
   | refine LeO.bind ?_ (fun _ => ?_)
set_option maxHeartbeats 8000000 in
set_option maxRecDepth 100000 in
theorem spec_l20Expr.calls (k : Nat) (g : Nat) (s0_0 : List Int) (s0_1 : Int) (a1 : Int) (r1 : Int) (r2 : Int) (r3 : ByteArray) (r4 : List (S25)) (r5 : Int) (w0 w : World) (hI : IsS75 w0 w g s0_0 s0_1) (hB : Below w0.heap.size w0 w) (h : spec_l20Expr.f k s0_0 s0_1 a1 = some (r1, r2, r3, r4, r5)) :
  Calls Try.prog 22 #[.pointer (some ⟨g, 0, none⟩), .int .i64 a1] w fun e w' => ∃ v3_ : Value, e = .returned (.agg #[.int .i64 r1, .int .i64 r2, .string r3, v3_]) ∧ Kd.V k25 25 w' w.heap.size (fun k_ => (w.heap.size ≤ k_)) v3_ r4 ∧ IsS75 w0 w' g s0_0 r5 ∧ Below w0.heap.size w0 w' ∧ KeepBut w w' g none := by
 have hu25 := Try.underlying25
 have HI0 := Aside0.mk hI
 have HK := Aside0.mk (KeepBut.refl w g none)
 have HL := Aside0.mk hB.size
 have HG0 := Aside0.mk (IsS75.ge hI)
 clear hI
 have HW0 := Aside0.mk hB.size
 have HB := Aside0.mk hB
 clear hB
 have H : ((spec_l20Rd_pick.f k s0_0 s0_1 3).bind fun bt324 => ((spec_l20Truth.f k s0_0 bt324.2 (wrap64 (1 + bt324.1))).bind fun bt326 => ((spec_l20Rd_odd.f k s0_0 bt326.2.2.2.2 a1).bind fun bt334 => (spec_l20Expr.j0 k bt334.1 s0_0 bt334.2 bt326.1 bt326.2.1 bt326.2.2.1 bt326.2.2.2.1)))) = some (r1, r2, r3, r4, r5) := h
 clear h
 replace H := Option.bind_eq_some_iff.mp H
 obtain ⟨⟨t324, t325⟩, A30, H⟩ := H
 replace H : ((spec_l20Truth.f k s0_0 t325 (wrap64 (1 + t324))).bind fun bt326 => ((spec_l20Rd_odd.f k s0_0 bt326.2.2.2.2 a1).bind fun bt334 => (spec_l20Expr.j0 k bt334.1 s0_0 bt334.2 bt326.1 bt326.2.1 bt326.2.2.1 bt326.2.2.2.1))) = some (r1, r2, r3, r4, r5) := H
 have A3 := Aside0.mk A30
 clear A30
 replace H := Option.bind_eq_some_iff.mp H
 obtain ⟨⟨t326, t327, t328, t329, t332⟩, A40, H⟩ := H
 replace H : ((spec_l20Rd_odd.f k s0_0 t332 a1).bind fun bt334 => (spec_l20Expr.j0 k bt334.1 s0_0 bt334.2 t326 t327 t328 t329)) = some (r1, r2, r3, r4, r5) := H
 have A4 := Aside0.mk A40
 clear A40
 have HC5 := Aside0.mk H
 clear H
 go_enter Try.func22, Try.ntmps22
 go_upto_region 2 with (first | ((with_reducible refine gate_dst (N := 4) rfl ?_); refine bx 4 #[.int .i64 0, .int .i64 0, .string (⟨#[]⟩ : ByteArray), .slice none 0 0] 25 ?_; intro gb323 hg w6 hbox hb; replace HB := bS HB hb; have BK323 := Aside0.mk (hbox); have GW323 := gwK HK hg; have GE323 := gwE HW0 (gwK HK hg); replace HK := kTb HK hb; have NB0_323 := il75 HI0 hg; have NB323_0 := ir75 HI0 hg; replace HI0 := ib75 HI0 hb; clear hb hbox hg) | ((with_reducible refine gate_callee (f := 36) rfl ?_); refine gl (some 8) Try.func36 #[.pointer (some ⟨g, 0, none⟩), .int .i64 3] ?_; (with_reducible refine (spec_l20Rd_pick.calls k g s0_0 s0_1 3 t324 t325 w0 _ ?side1 ?side2 A3.out).mono ?_); (case side1 => exact sw75 HI0.out); (case side2 => exact bw HB.out); rintro e w7 ⟨rfl, hi, hb, hk⟩; refine ⟨_, rfl, ?_⟩; replace BK323 := kB hk BK323 NB323_0; replace HK := kT HK hk; replace HB := Aside0.mk (hb); replace HI0 := Aside0.mk (hi); (try clear hb); (try clear hb2); (try clear hk); (try clear hi)) | ((with_reducible refine gate_callee (f := 46) rfl ?_); refine gl (some 10) Try.func46 #[.pointer (some ⟨g, 0, none⟩), .int .i64 (wrap64 (1 + t324))] ?_; (with_reducible refine (spec_l20Truth.calls k g s0_0 t325 (wrap64 (1 + t324)) t326 t327 t328 t329 t332 w0 _ ?side1 ?side2 A4.out).mono ?_); (case side1 => exact sw75 HI0.out); (case side2 => exact bw HB.out); rintro e w8 ⟨v330, rfl, ho0, hi, hb, hk⟩; refine ⟨_, rfl, ?_⟩; have HO331 := Aside0.mk (Kd.V_lower (Kd.V_mono (ok' := fun k_ => (w.heap.size ≤ k_) ∧ k_ ≠ gb323 ∧ k_ ≠ g) ho0 (fun k_ hk_ => ⟨(Nat.le_trans (kz HK) hk_), (Kd.freshB (by exact bk BK323.out) k_ hk_), (IsS75.fresh (by exact sw75 HI0.out) k_ hk_)⟩)) (kz HK)); replace BK323 := kB hk BK323 NB323_0; replace HK := kT HK hk; replace HB := Aside0.mk (hb); replace HI0 := Aside0.mk (hi); (try clear hb); (try clear hb2); (try clear hk); (try clear hi); (try clear ho0)) | ((with_reducible refine gate_dst (N := 5) rfl ?_); refine bx 5 #[.int .i64 0, .int .i64 0, .string (⟨#[]⟩ : ByteArray), .slice none 0 0] 25 ?_; intro gb333 hg w9 hbox hb; replace HO331 := Aside0.mk (Kd.V_below (Kd.V_elderB (by exact Kd.xV HO331.out) gb333 (Nat.le_of_eq hg.symm)) hb); replace HB := bS HB hb; have BK333 := Aside0.mk (hbox); have GW333 := gwK HK hg; have GE333 := gwE HW0 (gwK HK hg); replace HK := kTb HK hb; have NB323_333 := nbL BK323 hg; have NB333_323 := nbR BK323 hg; replace BK323 := bB BK323 hb; have NB0_333 := il75 HI0 hg; have NB333_0 := ir75 HI0 hg; replace HI0 := ib75 HI0 hb; clear hb hbox hg; have hnb10 := NB333_323.out; have hnc10 := NB323_333.out; have hnb11 := NB333_0.out; have hnc11 := NB0_333.out; obtain ⟨hcz12_0, hcz12_1, hcz12_2, hcz12_3⟩ := cs4 BK333.out; obtain ⟨hfz12_0, hfz12_1, hfz12_2, hfz12_3⟩ := fz4 BK333.out; obtain ⟨Ao13, co13, eo13⟩ := Kd.V_slice HO331.out; subst eo13))
 (try simp only [Act.put, List.setIfInBounds_toArray, List.set_cons_zero, List.set_cons_succ])
 go_cut [13] (fun v13 wc => ∃ (kq : Nat) (x13_4 : Bool) (x1001_4 : Int), v13 = .bool x13_4 ∧ Aside0 (spec_l20Expr.j0 kq x13_4 s0_0 x1001_4 t326 t327 t328 t329 = some (r1, r2, r3, r4, r5)) ∧ Aside0 (kq ≤ k) ∧ Aside0 (Kd.V k25 25 wc w.heap.size (fun k_ => (w.heap.size ≤ k_) ∧ k_ ≠ gb323 ∧ k_ ≠ gb333 ∧ k_ ≠ g) (.slice Ao13 t329.length co13) t329) ∧ Aside0 (wc.heap[gb323]? = some (.cells #[.int .i64 0, .int .i64 0, .string (⟨#[]⟩ : ByteArray), (.slice none 0 0)] 25 (0, 0))) ∧ Aside0 (wc.heap[gb333]? = some (.cells #[.int .i64 t326, .int .i64 t327, .string t328, (.slice Ao13 t329.length co13)] 25 (0, 0))) ∧ Aside0 (IsS75 w0 wc g s0_0 x1001_4) ∧ Aside0 (KeepBut w wc g none) ∧ Aside0 (Below w0.heap.size w0 wc))
 case first =>
  have H := HC5.out
  clear HC5
  replace H := Option.bind_eq_some_iff.mp H
  obtain ⟨⟨t334, t335⟩, A140, H⟩ := H
  replace H : (spec_l20Expr.j0 k t334 s0_0 t335 t326 t327 t328 t329) = some (r1, r2, r3, r4, r5) := H
  have A14 := Aside0.mk A140
  clear A140
  have H' := Aside0.mk H
  clear H
  go_wp2_with (first | ((with_reducible refine gate_callee (f := 47) rfl ?_); refine gl (some 13) Try.func47 #[.pointer (some ⟨g, 0, none⟩), .int .i64 a1] ?_; (with_reducible refine (spec_l20Rd_odd.calls k g s0_0 t332 a1 t334 t335 w0 _ ?side1 ?side2 A14.out).mono ?_); (case side1 => exact sw75 HI0.out); (case side2 => exact bw HB.out); rintro e w15 ⟨rfl, hi, hb, hk⟩; refine ⟨_, rfl, ?_⟩; replace BK323 := Aside0.mk (KeepBut.blk hk (g' := gb323) (o := .cells #[.int .i64 0, .int .i64 0, .string (⟨#[]⟩ : ByteArray), .slice none 0 0] 25 (0, 0)) (bo BK323) NB323_0.out (by simp)); replace HO331 := Aside0.mk (Kd.V_mono (Kd.V_keep (Kd.V_mono (ok := fun k_ => ((((w.heap.size ≤ k_)) ∧ (k_ ≠ gb323 ∧ k_ ≠ g)) ∧ k_ ≠ gb333)) (by (with_reducible repeat (first | apply Kd.V_alloc | apply Kd.V_drewN | apply Kd.V_drew)); exact (Kd.V_mono (Kd.V_far (p := ⟨gb333, 3, none⟩) (Kd.V_far (p := ⟨gb333, 2, none⟩) (Kd.V_far (p := ⟨gb333, 1, none⟩) (Kd.V_far (p := ⟨gb333, 0, none⟩) (Kd.V_mono HO331.out (fun k_ hk => (⟨hk, okp hk⟩ : _ ∧ k_ ≠ gb333))) (fun _ hk => hk.2) (.int .i64 t326)) (fun _ hk => hk.2) (.int .i64 t327)) (fun _ hk => hk.2) (.string t328)) (fun _ hk => hk.2) (.slice Ao13 t329.length co13)) (fun _ h_ => h_.1))) (fun k_ hk_ => (⟨hk_, hk_.1.2.2⟩ : _ ∧ k_ ≠ g))) hk (fun _ h => h.2)) (fun _ h => h.1)); replace BK333 := Aside0.mk (KeepBut.blk hk (g' := gb333) (o := .cells #[.int .i64 t326, .int .i64 t327, .string t328, .slice Ao13 t329.length co13] 25 (0, 0)) (bp BK333) NB333_0.out (by simp)); replace HK := kT HK hk; replace HB := Aside0.mk (hb); replace HI0 := Aside0.mk (hi); (try clear hb); (try clear hb2); (try clear hk); (try clear hi)))
  go_meet
  case rel => exact ⟨_, (t334), (t335), (by first | rfl | (simp; done) | (simp [*]; done)), H', ⟨by first | omega | exact Nat.le_refl _⟩, ⟨by (with_reducible repeat (first | apply Kd.V_alloc | apply Kd.V_drewN | apply Kd.V_drew)); exact Kd.V_mono HO331.out (fun _ hk => okp hk)⟩, ⟨by exact bk BK323.out⟩, ⟨by exact bk BK333.out⟩, ⟨by exact sw75 HI0.out⟩, ⟨by exact kw HK.out⟩, ⟨by exact bw HB.out⟩⟩
 case rest =>
  clear HC5
  try clear c1
  try clear c2
  try clear p2
  try clear c3
  try clear c4
  try clear p6
  try clear c10
  try clear c11
  try clear hcz12_0
  try clear hcz12_1
  try clear hcz12_2
  try clear hcz12_3
  try clear hfz12_0
  try clear hfz12_1
  try clear hfz12_2
  try clear hfz12_3
  obtain ⟨kq, x13_4, x1001_4, rfl, HA, HJ4, HO_334003, BK323, BK333, HI0, HK, HB⟩ := hcut
  cases kq with
  | zero => exact absurd HA.out (by simp [spec_l20Expr.j0])
  | succ kj4 =>
   have H := HA.out
   clear HA
   simp only [spec_l20Expr.j0] at H
   by_cases c16 : x13_4 = true
   ·
    subst c16
    have H1 : ((spec_l20Rd_pick.f kj4 s0_0 x1001_4 6).bind fun bt336 => (spec_l20Expr.j1 kj4 bt336.1 s0_0 bt336.2 t326 t327 t328 t329)) = some (r1, r2, r3, r4, r5) := by rw [if_pos rfl] at H; exact H
    clear H
    have H := H1
    clear H1
    have HC17 := Aside0.mk H
    clear H
    go_upto_region 3 with (fail)
    go_cut [15] (fun v15 wc => ∃ (kq : Nat) (x15_16 : Int) (x1001_16 : Int), v15 = .int .i64 x15_16 ∧ Aside0 (spec_l20Expr.j1 kq x15_16 s0_0 x1001_16 t326 t327 t328 t329 = some (r1, r2, r3, r4, r5)) ∧ Aside0 (kq ≤ kj4) ∧ Aside0 (Kd.V k25 25 wc w.heap.size (fun k_ => (w.heap.size ≤ k_) ∧ k_ ≠ gb323 ∧ k_ ≠ gb333 ∧ k_ ≠ g) (.slice Ao13 t329.length co13) t329) ∧ Aside0 (wc.heap[gb323]? = some (.cells #[.int .i64 0, .int .i64 0, .string (⟨#[]⟩ : ByteArray), (.slice none 0 0)] 25 (0, 0))) ∧ Aside0 (wc.heap[gb333]? = some (.cells #[.int .i64 t326, .int .i64 t327, .string t328, (.slice Ao13 t329.length co13)] 25 (0, 0))) ∧ Aside0 (IsS75 w0 wc g s0_0 x1001_16) ∧ Aside0 (KeepBut w wc g none) ∧ Aside0 (Below w0.heap.size w0 wc))
    case first =>
     have H := HC17.out
     clear HC17
     replace H := Option.bind_eq_some_iff.mp H
     obtain ⟨⟨t336, t337⟩, A180, H⟩ := H
     replace H : (spec_l20Expr.j1 kj4 t336 s0_0 t337 t326 t327 t328 t329) = some (r1, r2, r3, r4, r5) := H
     have A18 := Aside0.mk A180
     clear A180
     have H' := Aside0.mk H
     clear H
     go_wp2_with (first | ((with_reducible refine gate_callee (f := 36) rfl ?_); refine gl (some 15) Try.func36 #[.pointer (some ⟨g, 0, none⟩), .int .i64 6] ?_; (with_reducible refine (spec_l20Rd_pick.calls kj4 g s0_0 x1001_4 6 t336 t337 w0 _ ?side1 ?side2 A18.out).mono ?_); (case side1 => exact sw75 HI0.out); (case side2 => exact bw HB.out); rintro e w19 ⟨rfl, hi, hb, hk⟩; refine ⟨_, rfl, ?_⟩; replace HO_334003 := Aside0.mk (Kd.V_mono (Kd.V_keep (Kd.V_mono (ok := fun k_ => (((w.heap.size ≤ k_)) ∧ (k_ ≠ gb323 ∧ (k_ ≠ gb333 ∧ k_ ≠ g)))) (by exact Kd.xV HO_334003.out) (fun k_ hk_ => (⟨hk_, hk_.2.2.2⟩ : _ ∧ k_ ≠ g))) hk (fun _ h => h.2)) (fun _ h => h.1)); replace BK323 := kB hk BK323 NB323_0; replace BK333 := kB hk BK333 NB333_0; replace HK := kT HK hk; replace HB := Aside0.mk (hb); replace HI0 := Aside0.mk (hi); (try clear hb); (try clear hb2); (try clear hk); (try clear hi)))
     go_meet
     case rel => exact ⟨_, (t336), (t337), (by first | rfl | (simp; done) | (simp [*]; done)), H', ⟨by have := HJ4.out; first | omega | exact Nat.le_refl _⟩, ⟨by exact Kd.xV HO_334003.out⟩, ⟨by exact bk BK323.out⟩, ⟨by exact bk BK333.out⟩, ⟨by exact sw75 HI0.out⟩, ⟨by exact kw HK.out⟩, ⟨by exact bw HB.out⟩⟩
    case rest =>
     clear HC17
     try clear c1
     try clear c2
     try clear p2
     try clear c3
     try clear c4
     try clear p6
     try clear c10
     try clear c11
     try clear c16
     try clear hcz12_0
     try clear hcz12_1
     try clear hcz12_2
     try clear hcz12_3
     try clear hfz12_0
     try clear hfz12_1
     try clear hfz12_2
     try clear hfz12_3
     try clear p2
     try clear p6
     obtain ⟨kq, x15_16, x1001_16, rfl, HA, HJ16, HO_334003, BK323, BK333, HI0, HK, HB⟩ := hcut
     cases kq with
     | zero => exact absurd HA.out (by simp [spec_l20Expr.j1])
     | succ kj16 =>
      have H := HA.out
      clear HA
      simp only [spec_l20Expr.j1] at H
      by_cases c20 : x15_16 = 0
      ·
       rw [if_pos c20] at H; obtain ⟨c20b0, c20b1⟩ := eqY c20; clear c20
       replace H := Option.bind_eq_some_iff.mp H
       obtain ⟨⟨t338, t339, t340, t341, t344⟩, A210, H⟩ := H
       replace H : (some (t338, t339, t340, t341, t344)) = some (r1, r2, r3, r4, r5) := H
       have A21 := Aside0.mk A210
       clear A210
       simp only [Option.some.injEq, Prod.mk.injEq] at H
       obtain ⟨rfl, rfl, rfl, rfl, rfl⟩ := H
       go_wp2_with (first | ((with_reducible refine gate_callee (f := 48) rfl ?_); refine gl (some 22) Try.func48 #[.pointer (some ⟨g, 0, none⟩), .int .i64 2] ?_; (with_reducible refine (spec_l20Number.calls kj16 g s0_0 x1001_16 2 t338 t339 t340 t341 t344 w0 _ ?side1 ?side2 A21.out).mono ?_); (case side1 => exact sw75 HI0.out); (case side2 => exact bw HB.out); rintro e w22 ⟨v342, rfl, ho0, hi, hb, hk⟩; refine ⟨_, rfl, ?_⟩; replace HO_334003 := Aside0.mk (Kd.V_mono (Kd.V_told (Kd.V_oldK (Kd.V_mono (ok := fun k_ => (((w.heap.size ≤ k_)) ∧ (k_ ≠ gb323 ∧ (k_ ≠ gb333 ∧ k_ ≠ g)))) (by exact Kd.xV HO_334003.out) (fun k_ hk_ => (⟨hk_, hk_.2.2.2⟩ : _ ∧ k_ ≠ g))) hk) (Kd.N_base ho0)) (fun _ h_ => h_.1)); have HO343 := Aside0.mk (Kd.N_lower (Kd.N_mono (ok' := fun k_ => (w.heap.size ≤ k_) ∧ k_ ≠ gb323 ∧ k_ ≠ gb333 ∧ k_ ≠ g) ho0 (fun k_ hk_ => ⟨(Nat.le_trans (kz HK) hk_), (Kd.freshB (by exact bk BK323.out) k_ hk_), (Kd.freshB (by exact bk BK333.out) k_ hk_), (IsS75.fresh (by exact sw75 HI0.out) k_ hk_)⟩)) (kz HK)); replace BK323 := kB hk BK323 NB323_0; replace BK333 := kB hk BK333 NB333_0; replace HK := kT HK hk; replace HB := Aside0.mk (hb); replace HI0 := Aside0.mk (hi); (try clear hb); (try clear hb2); (try clear hk); (try clear hi); (try clear ho0); have hnb23 := NB323_333.out; have hnc23 := NB333_323.out; have hnb24 := NB323_0.out; have hnc24 := NB0_323.out; obtain ⟨hcz25_0, hcz25_1, hcz25_2, hcz25_3⟩ := cs4 BK323.out; obtain ⟨hfz25_0, hfz25_1, hfz25_2, hfz25_3⟩ := fz4 BK323.out; obtain ⟨Ao26, co26, eo26⟩ := Kd.N_slice HO343.out; subst eo26))
       refine bodyPost_ret (results_cell_row rfl _ _ gb323 25 #[.int .i64 t338, .int .i64 t339, .string t340, .slice Ao26 t341.length co26] (0, 0) _ rfl (bp BK323) Try.underlying25 rfl (by kernel_rfl)) rfl ?_
       exact ⟨_, by first | rfl | (simp [errW_none, errW_some] <;> rfl) | (simp [*, errW_none, errW_some] <;> rfl), Kd.N_V (by (with_reducible repeat (first | apply Kd.N_alloc | apply Kd.N_drewN | apply Kd.N_drew)); exact Kd.N_mono (Kd.N_far (p := ⟨gb323, 3, none⟩) (Kd.N_far (p := ⟨gb323, 2, none⟩) (Kd.N_far (p := ⟨gb323, 1, none⟩) (Kd.N_far (p := ⟨gb323, 0, none⟩) (Kd.N_mono HO343.out (fun k_ hk => (⟨hk, okp hk⟩ : _ ∧ k_ ≠ gb323))) (fun _ hk => hk.2) (.int .i64 t338)) (fun _ hk => hk.2) (.int .i64 t339)) (fun _ hk => hk.2) (.string t340)) (fun _ hk => hk.2) (.slice Ao26 t341.length co26)) (fun _ hk => hk.1.1)), by exact sw75 HI0.out, by exact bw HB.out, by exact kw HK.out⟩
      ·
       rw [if_neg c20] at H; obtain ⟨c20b0, c20b1⟩ := eqN c20
       by_cases c27 : x15_16 = 1
       ·
        rw [if_pos c27] at H; obtain ⟨c27b0, c27b1⟩ := eqY c27; clear c27
        replace H := Option.bind_eq_some_iff.mp H
        obtain ⟨⟨t345, t346, t347, t348, t351⟩, A280, H⟩ := H
        replace H : (some (13, 0, (⟨#[]⟩ : ByteArray), (([(⟨t345, t346, t347, t348⟩ : S25)] : List (S25))), t351)) = some (r1, r2, r3, r4, r5) := H
        have A28 := Aside0.mk A280
        clear A280
        obtain ⟨y352, hy352⟩ : ∃ y_ : List (S25), y_ = (([(⟨t345, t346, t347, t348⟩ : S25)] : List (S25))) := ⟨_, rfl⟩
        replace H : (some (13, 0, (⟨#[]⟩ : ByteArray), y352, t351)) = some (r1, r2, r3, r4, r5) := by first | (rw [hy352]; with_reducible exact H) | (have H2_ := (Option.bind_some _ _).symm.trans H; rw [hy352]; with_reducible exact H2_) | (have H2_ := (Option.bind_some _ _).symm.trans H; with_reducible exact H2_) | with_reducible exact H | (rw [hy352]; exact H) | exact H
        have Ny352 := Aside0.mk hy352
        clear hy352
        simp only [Option.some.injEq, Prod.mk.injEq] at H
        obtain ⟨rfl, rfl, rfl, rfl, rfl⟩ := H
        go_wp2_with (first | ((with_reducible refine gate_callee (f := 49) rfl ?_); refine gl (some 26) Try.func49 #[.pointer (some ⟨g, 0, none⟩), .int .i64 1] ?_; (with_reducible refine (spec_l20Thing.calls kj16 g s0_0 x1001_16 1 t345 t346 t347 t348 t351 w0 _ ?side1 ?side2 A28.out).mono ?_); (case side1 => exact sw75 HI0.out); (case side2 => exact bw HB.out); rintro e w29 ⟨v349, rfl, ho0, hi, hb, hk⟩; refine ⟨_, rfl, ?_⟩; replace HO_334003 := Aside0.mk (Kd.V_mono (Kd.V_keep (Kd.V_mono (ok := fun k_ => (((w.heap.size ≤ k_)) ∧ (k_ ≠ gb323 ∧ (k_ ≠ gb333 ∧ k_ ≠ g)))) (by exact Kd.xV HO_334003.out) (fun k_ hk_ => (⟨hk_, hk_.2.2.2⟩ : _ ∧ k_ ≠ g))) hk (fun _ h => h.2)) (fun _ h => h.1)); have HO350 := Aside0.mk (Kd.V_lower (Kd.V_mono (ok' := fun k_ => (w.heap.size ≤ k_) ∧ k_ ≠ gb323 ∧ k_ ≠ gb333 ∧ k_ ≠ g) ho0 (fun k_ hk_ => ⟨(Nat.le_trans (kz HK) hk_), (Kd.freshB (by exact bk BK323.out) k_ hk_), (Kd.freshB (by exact bk BK333.out) k_ hk_), (IsS75.fresh (by exact sw75 HI0.out) k_ hk_)⟩)) (kz HK)); replace BK323 := kB hk BK323 NB323_0; replace BK333 := kB hk BK333 NB333_0; replace HK := kT HK hk; replace HB := Aside0.mk (hb); replace HI0 := Aside0.mk (hi); (try clear hb); (try clear hb2); (try clear hk); (try clear hi); (try clear ho0); obtain ⟨Ao30, co30, eo30⟩ := Kd.V_slice HO350.out; subst eo30) | ((with_reducible refine gate_dst (N := 27) rfl ?_); refine Kd.N_lit k25 _ 25 ?hg (N' := 27) ?hd (xs := ([(⟨t345, t346, t347, t348⟩ : S25)] : List (S25))) (inner := [.int .i64 t345, .int .i64 t346, .string t347, .slice Ao30 t348.length co30]) (ok := (fun k_ => (w.heap.size ≤ k_) ∧ k_ ≠ gb323 ∧ k_ ≠ gb333 ∧ k_ ≠ g)) (okp := (fun k_ => (w.heap.size ≤ k_) ∧ k_ ≠ gb323 ∧ k_ ≠ gb333 ∧ k_ ≠ g)) ?hr ?hp (fun _ hk => hk) ((show ∀ k_, w29.heap.size ≤ k_ → (fun k_ => (w.heap.size ≤ k_) ∧ k_ ≠ gb323 ∧ k_ ≠ gb333 ∧ k_ ≠ g) k_ from fun k_ hk => ⟨(Nat.le_trans (kz HK) hk), Kd.freshB (by exact bk BK323.out) k_ hk, Kd.freshB (by exact bk BK333.out) k_ hk, IsS75.fresh (by exact sw75 HI0.out) k_ hk⟩) _ (Nat.le_refl _)) (Below.refl _ _) (Nat.le_refl _) (by simp) ?_; (case hd => rfl); (case hg => rfl); (case hr => first | (go_simp; done) | (go_simp; rfl)); (case hp => exact (Reps.c4 (show Kd.FK k25 _ _ (⟨t345, t346, t347, t348⟩ : S25) [.int .i64 t345, .int .i64 t346, .string t347, .slice Ao30 t348.length co30] from (k25_mkF _ _ (⟨t345, t346, t347, t348⟩ : S25) (Kd.V_reads' (Kd.V_mono (ok' := (fun k_ => (w.heap.size ≤ k_) ∧ k_ ≠ gb323 ∧ k_ ≠ gb333 ∧ k_ ≠ g)) (HO350.out) (fun k_ hk => okp hk))).2.1 (Kd.V_F (Kd.V_mono (ok' := (fun k_ => (w.heap.size ≤ k_) ∧ k_ ≠ gb323 ∧ k_ ≠ gb333 ∧ k_ ≠ g)) (HO350.out) (fun k_ hk => okp hk))))) (Reps.none _ _))); intro v353 w31 ho32 hb hg_ hnew_; clear hg_ hnew_; (first | rw [← Ny352.out] at ho32 | (simp only [Int.reduceToNat] at ho32; rw [← Ny352.out] at ho32)); replace HO_334003 := Aside0.mk (Kd.V_elder' (by exact Kd.xV HO_334003.out) (Kd.N_base ho32) hb); replace HO350 := Aside0.mk (Kd.V_elder' (by exact Kd.xV HO350.out) (Kd.N_base ho32) hb); have HO354 := Aside0.mk (Kd.N_lower ho32 (kz HK)); replace BK323 := bB BK323 hb; replace BK333 := bB BK333 hb; replace HI0 := ib75 HI0 hb; replace HK := kTb HK hb; replace HB := bS HB hb; clear hb ho32; obtain ⟨Ao33, co33, eo33⟩ := Kd.N_slice HO354.out; subst eo33; have hnb34 := NB323_333.out; have hnc34 := NB333_323.out; have hnb35 := NB323_0.out; have hnc35 := NB0_323.out; obtain ⟨hcz36_0, hcz36_1, hcz36_2, hcz36_3⟩ := cs4 BK323.out; obtain ⟨hfz36_0, hfz36_1, hfz36_2, hfz36_3⟩ := fz4 BK323.out))
        refine bodyPost_ret (results_cell_row rfl _ _ gb323 25 #[.int .i64 13, .int .i64 0, .string (⟨#[]⟩ : ByteArray), .slice Ao33 y352.length co33] (0, 0) _ rfl (bp BK323) Try.underlying25 rfl (by kernel_rfl)) rfl ?_
        exact ⟨_, by first | rfl | (simp [errW_none, errW_some] <;> rfl) | (simp [*, errW_none, errW_some] <;> rfl), Kd.N_V (by (with_reducible repeat (first | apply Kd.N_alloc | apply Kd.N_drewN | apply Kd.N_drew)); exact Kd.N_mono (Kd.N_far (p := ⟨gb323, 3, none⟩) (Kd.N_far (p := ⟨gb323, 2, none⟩) (Kd.N_far (p := ⟨gb323, 1, none⟩) (Kd.N_far (p := ⟨gb323, 0, none⟩) (Kd.N_mono HO354.out (fun k_ hk => (⟨hk, okp hk⟩ : _ ∧ k_ ≠ gb323))) (fun _ hk => hk.2) (.int .i64 13)) (fun _ hk => hk.2) (.int .i64 0)) (fun _ hk => hk.2) (.string (⟨#[]⟩ : ByteArray))) (fun _ hk => hk.2) (.slice Ao33 y352.length co33)) (fun _ hk => hk.1.1)), by exact sw75 HI0.out, by exact bw HB.out, by exact kw HK.out⟩
       ·
        rw [if_neg c27] at H; obtain ⟨c27b0, c27b1⟩ := eqN c27
        by_cases c37 : x15_16 = 2
        ·
         rw [if_pos c37] at H; obtain ⟨c37b0, c37b1⟩ := eqY c37; clear c37
         replace H := Option.bind_eq_some_iff.mp H
         obtain ⟨⟨t355, t356, t357, t358, t361⟩, A380, H⟩ := H
         replace H : (some (11, 0, (⟨#[]⟩ : ByteArray), (([(⟨t355, t356, t357, t358⟩ : S25), (⟨t326, t327, t328, t329⟩ : S25)] : List (S25))), t361)) = some (r1, r2, r3, r4, r5) := H
         have A38 := Aside0.mk A380
         clear A380
         obtain ⟨y362, hy362⟩ : ∃ y_ : List (S25), y_ = (([(⟨t355, t356, t357, t358⟩ : S25), (⟨t326, t327, t328, t329⟩ : S25)] : List (S25))) := ⟨_, rfl⟩
         replace H : (some (11, 0, (⟨#[]⟩ : ByteArray), y362, t361)) = some (r1, r2, r3, r4, r5) := by first | (rw [hy362]; with_reducible exact H) | (have H2_ := (Option.bind_some _ _).symm.trans H; rw [hy362]; with_reducible exact H2_) | (have H2_ := (Option.bind_some _ _).symm.trans H; with_reducible exact H2_) | with_reducible exact H | (rw [hy362]; exact H) | exact H
         have Ny362 := Aside0.mk hy362
         clear hy362
         simp only [Option.some.injEq, Prod.mk.injEq] at H
         obtain ⟨rfl, rfl, rfl, rfl, rfl⟩ := H
         try go_wp2
         replace HO_334003 := Aside0.mk (Kd.V_drew HO_334003.out)
         replace BK323 := Aside0.mk (blk_drew BK323.out)
         replace BK333 := Aside0.mk (blk_drew BK333.out)
         replace HI0 := Aside0.mk (IsS75.drew HI0.out)
         replace HK := Aside0.mk (keep_drew HK.out)
         replace HB := Aside0.mk (below_drew1 HB.out)
         refine start_ (n := 6) (S := fun w' => w'.cell? ⟨gb333, 0, none⟩ = some (.int .i64 t326) ∧ w'.cell? ⟨gb333, 1, none⟩ = some (.int .i64 t327) ∧ w'.cell? ⟨gb333, 2, none⟩ = some (.string t328) ∧ w'.cell? ⟨gb333, 3, none⟩ = some (.slice Ao13 t329.length co13)) (ds := []) (mB 6 0) (by kernel_rfl) rfl rfl (cs4 BK333.out) (fun hHeld => ?_)
         generalize wc.drew = w39 at HO_334003 BK323 BK333 HI0 HK HB hHeld ⊢
         refine pure_ (i := 0) (N := some 31) (v := ?_) (a' := ?_) (mB 6 1) rfl rfl (by kernel_rfl) (fun _ _ _ h => h) (Or.inl ⟨by rfl, ?_⟩) ?_ ?_
         rotate_left
         ·
          intro w'
          go_simp
          with_reducible rfl
         rotate_left
         ·
          simp only [Act.put, List.setIfInBounds_toArray, List.set_cons_zero, List.set_cons_succ, i64_w, i32_w]
          rfl
         refine take_ (i := 2) (N := some 33) (v := ?_) (a' := ?_) (mB 6 5) rfl rfl (by kernel_rfl) (fun _ _ _ h => h) (Or.inl ⟨by rfl, ?_⟩) hHeld ?_ ?_
         rotate_left
         ·
          rintro w' ⟨s0, s1, s2, s3⟩
          go_simp
          with_reducible rfl
         rotate_left
         ·
          simp only [Act.put, List.setIfInBounds_toArray, List.set_cons_zero, List.set_cons_succ, i64_w, i32_w]
          rfl
         refine one_ (i := 1) (N := some 32) (mB 6 7) rfl rfl (by kernel_rfl) (by decide) (fun K hK => ?_)
         refine gs Try.func49 #[.pointer (some ⟨g, 0, none⟩), .int .i64 1] ?_
         with_reducible refine (spec_l20Thing.calls kj16 g s0_0 x1001_16 1 t355 t356 t357 t358 t361 w0 _ ?side1 ?side2 A38.out).mono ?_
         (case side1 => exact sw75 HI0.out)
         (case side2 => exact bw HB.out)
         rintro e w40 ⟨v359, rfl, ho0, hi, hb, hk⟩
         refine ⟨_, rfl, ?_⟩
         replace HO_334003 := Aside0.mk (Kd.V_mono (Kd.V_keep (Kd.V_mono (ok := fun k_ => (((w.heap.size ≤ k_)) ∧ (k_ ≠ gb323 ∧ (k_ ≠ gb333 ∧ k_ ≠ g)))) (by exact Kd.xV HO_334003.out) (fun k_ hk_ => (⟨hk_, hk_.2.2.2⟩ : _ ∧ k_ ≠ g))) hk (fun _ h => h.2)) (fun _ h => h.1))
         have HO360 := Aside0.mk (Kd.V_lower (Kd.V_mono (ok' := fun k_ => (w.heap.size ≤ k_) ∧ k_ ≠ gb323 ∧ k_ ≠ gb333 ∧ k_ ≠ g) ho0 (fun k_ hk_ => ⟨(Nat.le_trans (kz HK) hk_), (Kd.freshB (by exact bk BK323.out) k_ hk_), (Kd.freshB (by exact bk BK333.out) k_ hk_), (IsS75.fresh (by exact sw75 HI0.out) k_ hk_)⟩)) (kz HK))
         replace BK323 := kB hk BK323 NB323_0
         replace BK333 := kB hk BK333 NB333_0
         replace HK := kT HK hk
         replace HB := Aside0.mk (hb)
         replace HI0 := Aside0.mk (hi)
         (try clear hb)
         (try clear hb2)
         (try clear hk)
         (try clear hi)
         (try clear ho0)
         obtain ⟨Ao41, co41, eo41⟩ := Kd.V_slice HO360.out
         (first | subst eo41 | (injection eo41 with f1_ f2_ f3_; have f4_ := f1_.symm; have f5_ := f3_.symm; clear f1_ f2_ f3_; subst f4_; subst f5_))
         refine hK.out _ _ (cs4 BK333.out) (fun hHeld => ?_)
         clear hK K
         refine nm (some 32) ?_
         refine one_ (i := 3) (N := some 34) (mB 6 15) rfl rfl (by kernel_rfl) (by decide) (fun K hK => ?_)
         refine Kd.N_lit_step k25 _ 25 ?hg (N' := 34) ?hd (xs := ([(⟨t355, t356, t357, t358⟩ : S25), (⟨t326, t327, t328, t329⟩ : S25)] : List (S25))) (inner := [.int .i64 t355, .int .i64 t356, .string t357, .slice Ao41 t358.length co41, .int .i64 t326, .int .i64 t327, .string t328, .slice Ao13 t329.length co13]) (ok := (fun k_ => (w.heap.size ≤ k_) ∧ k_ ≠ gb323 ∧ k_ ≠ gb333 ∧ k_ ≠ g)) (okp := (fun k_ => (w.heap.size ≤ k_) ∧ k_ ≠ gb323 ∧ k_ ≠ gb333 ∧ k_ ≠ g)) ?hr ?hp (fun _ hk => hk) ((show ∀ k_, w40.heap.size ≤ k_ → (fun k_ => (w.heap.size ≤ k_) ∧ k_ ≠ gb323 ∧ k_ ≠ gb333 ∧ k_ ≠ g) k_ from fun k_ hk => ⟨(Nat.le_trans (kz HK) hk), Kd.freshB (by exact bk BK323.out) k_ hk, Kd.freshB (by exact bk BK333.out) k_ hk, IsS75.fresh (by exact sw75 HI0.out) k_ hk⟩) _ (Nat.le_refl _)) (Below.refl _ _) (Nat.le_refl _) (by simp) ?_; (case hd => rfl); (case hg => rfl); (case hr => first | (go_simp; done) | (go_simp; rfl)); (case hp => exact (Reps.c4 (show Kd.FK k25 _ _ (⟨t355, t356, t357, t358⟩ : S25) [.int .i64 t355, .int .i64 t356, .string t357, .slice Ao41 t358.length co41] from (k25_mkF _ _ (⟨t355, t356, t357, t358⟩ : S25) (Kd.V_reads' (Kd.V_mono (ok' := (fun k_ => (w.heap.size ≤ k_) ∧ k_ ≠ gb323 ∧ k_ ≠ gb333 ∧ k_ ≠ g)) (HO360.out) (fun k_ hk => okp hk))).2.1 (Kd.V_F (Kd.V_mono (ok' := (fun k_ => (w.heap.size ≤ k_) ∧ k_ ≠ gb323 ∧ k_ ≠ gb333 ∧ k_ ≠ g)) (HO360.out) (fun k_ hk => okp hk))))) (Reps.c4 (show Kd.FK k25 _ _ (⟨t326, t327, t328, t329⟩ : S25) [.int .i64 t326, .int .i64 t327, .string t328, .slice Ao13 t329.length co13] from (k25_mkF _ _ (⟨t326, t327, t328, t329⟩ : S25) (Kd.V_reads' (Kd.V_mono (ok' := (fun k_ => (w.heap.size ≤ k_) ∧ k_ ≠ gb323 ∧ k_ ≠ gb333 ∧ k_ ≠ g)) (HO_334003.out) (fun k_ hk => okp hk))).2.1 (Kd.V_F (Kd.V_mono (ok' := (fun k_ => (w.heap.size ≤ k_) ∧ k_ ≠ gb323 ∧ k_ ≠ gb333 ∧ k_ ≠ g)) (HO_334003.out) (fun k_ hk => okp hk))))) (Reps.none _ _))))
         intro v363 w42 ho43 hb hg_ hnew_
         clear hg_ hnew_
         (first | rw [← Ny362.out] at ho43 | (simp only [Int.reduceToNat] at ho43; rw [← Ny362.out] at ho43))
         replace HO_334003 := Aside0.mk (Kd.V_elder' (by exact Kd.xV HO_334003.out) (Kd.N_base ho43) hb)
         replace HO360 := Aside0.mk (Kd.V_elder' (by exact Kd.xV HO360.out) (Kd.N_base ho43) hb)
         have HO364 := Aside0.mk (Kd.N_lower ho43 (kz HK))
         replace BK323 := bB BK323 hb
         replace BK333 := bB BK333 hb
         replace HI0 := ib75 HI0 hb
         replace HK := kTb HK hb
         replace HB := bS HB hb
         clear hb ho43
         obtain ⟨Ao44, co44, eo44⟩ := Kd.N_slice HO364.out
         (first | subst eo44 | (injection eo44 with f1_ f2_ f3_; have f4_ := f1_.symm; have f5_ := f3_.symm; clear f1_ f2_ f3_; subst f4_; subst f5_))
         refine hK.out _ _ (cs4 BK333.out) (fun hHeld => ?_)
         clear hK K
         refine nm (some 34) ?_
         refine pure_ (i := 4) (N := some 35) (v := ?_) (a' := ?_) (mB 6 31) rfl rfl (by kernel_rfl) (fun _ _ _ h => h) (Or.inl ⟨by rfl, ?_⟩) ?_ ?_
         rotate_left
         ·
          intro w'
          go_simp
          with_reducible rfl
         rotate_left
         ·
          simp only [Act.put, List.setIfInBounds_toArray, List.set_cons_zero, List.set_cons_succ, i64_w, i32_w]
          rfl
         refine one_ (i := 5) (N := none) (mB 6 63) rfl rfl (by kernel_rfl) (by decide) (fun K hK => ?_)
         have hs45 : w42.cell? ⟨gb323, 0, none⟩ = some (.int .i64 0) := (blk_cell BK323.out 0).trans rfl
         have hfs45 := blk_frozen BK323.out 0
         have hns45_1 := NB333_323.out
         have hms45_1 := NB323_333.out
         have hs46 : w42.cell? ⟨gb323, 1, none⟩ = some (.int .i64 0) := (blk_cell BK323.out 1).trans rfl
         have hfs46 := blk_frozen BK323.out 1
         have hns46_1 := NB333_323.out
         have hms46_1 := NB323_333.out
         have hs47 : w42.cell? ⟨gb323, 2, none⟩ = some (.string (⟨#[]⟩ : ByteArray)) := (blk_cell BK323.out 2).trans rfl
         have hfs47 := blk_frozen BK323.out 2
         have hns47_1 := NB333_323.out
         have hms47_1 := NB323_333.out
         have hs48 : w42.cell? ⟨gb323, 3, none⟩ = some (.slice none 0 0) := (blk_cell BK323.out 3).trans rfl
         have hfs48 := blk_frozen BK323.out 3
         have hns48_1 := NB333_323.out
         have hms48_1 := NB323_333.out
         refine skip_ (w1 := ?_) (by rfl) rfl ?_ ?_
         rotate_left
         ·
          go_simp
          rfl
         refine hK.out _ _ ⟨((cell_far (p := ⟨gb323, _, none⟩) NB333_323.out _).trans (((cell_far (p := ⟨gb323, _, none⟩) NB333_323.out _).trans (((cell_far (p := ⟨gb323, _, none⟩) NB333_323.out _).trans (((cell_far (p := ⟨gb323, _, none⟩) NB333_323.out _).trans (hHeld.1)))))))), ((cell_far (p := ⟨gb323, _, none⟩) NB333_323.out _).trans (((cell_far (p := ⟨gb323, _, none⟩) NB333_323.out _).trans (((cell_far (p := ⟨gb323, _, none⟩) NB333_323.out _).trans (((cell_far (p := ⟨gb323, _, none⟩) NB333_323.out _).trans (hHeld.2.1)))))))), ((cell_far (p := ⟨gb323, _, none⟩) NB333_323.out _).trans (((cell_far (p := ⟨gb323, _, none⟩) NB333_323.out _).trans (((cell_far (p := ⟨gb323, _, none⟩) NB333_323.out _).trans (((cell_far (p := ⟨gb323, _, none⟩) NB333_323.out _).trans (hHeld.2.2.1)))))))), ((cell_far (p := ⟨gb323, _, none⟩) NB333_323.out _).trans (((cell_far (p := ⟨gb323, _, none⟩) NB333_323.out _).trans (((cell_far (p := ⟨gb323, _, none⟩) NB333_323.out _).trans (((cell_far (p := ⟨gb323, _, none⟩) NB333_323.out _).trans (hHeld.2.2.2))))))))⟩ (fun hHeld => ?_)
         clear hK K
         refine done_ (by kernel_rfl) ?_
         try go_wp2
         refine bodyPost_ret (results_cell_row rfl _ _ gb323 25 #[.int .i64 11, .int .i64 0, .string (⟨#[]⟩ : ByteArray), .slice Ao44 y362.length co44] (0, 0) _ rfl (bp BK323) Try.underlying25 rfl (by kernel_rfl)) rfl ?_
         exact ⟨_, by first | rfl | (simp [errW_none, errW_some] <;> rfl) | (simp [*, errW_none, errW_some] <;> rfl), Kd.N_V (by (with_reducible repeat (first | apply Kd.N_alloc | apply Kd.N_drewN | apply Kd.N_drew)); exact Kd.N_mono (Kd.N_far (p := ⟨gb323, 3, none⟩) (Kd.N_far (p := ⟨gb323, 2, none⟩) (Kd.N_far (p := ⟨gb323, 1, none⟩) (Kd.N_far (p := ⟨gb323, 0, none⟩) (Kd.N_mono HO364.out (fun k_ hk => (⟨hk, okp hk⟩ : _ ∧ k_ ≠ gb323))) (fun _ hk => hk.2) (.int .i64 11)) (fun _ hk => hk.2) (.int .i64 0)) (fun _ hk => hk.2) (.string (⟨#[]⟩ : ByteArray))) (fun _ hk => hk.2) (.slice Ao44 y362.length co44)) (fun _ hk => hk.1.1)), by exact sw75 HI0.out, by exact bw HB.out, by exact kw HK.out⟩
        ·
         rw [if_neg c37] at H; obtain ⟨c37b0, c37b1⟩ := eqN c37
         by_cases c49 : x15_16 = 3
         ·
          rw [if_pos c49] at H; obtain ⟨c49b0, c49b1⟩ := eqY c49; clear c49
          obtain ⟨y365, hy365⟩ : ∃ y_ : List Int, y_ = (([0, 16] : List Int)) := ⟨_, rfl⟩
          replace H : ((spec_l20Rd_pick.f kj16 s0_0 x1001_16 2).bind fun bt368 => (if 0 ≤ bt368.1 then (if bt368.1 < (y365.length : Int) then (some (rd y365 bt368.1, 0, (⟨#[]⟩ : ByteArray), ([] : List (S25)), bt368.2)) else (none)) else (none))) = some (r1, r2, r3, r4, r5) := by first | (rw [hy365]; with_reducible exact H) | (have H2_ := (Option.bind_some _ _).symm.trans H; rw [hy365]; with_reducible exact H2_) | (have H2_ := (Option.bind_some _ _).symm.trans H; with_reducible exact H2_) | with_reducible exact H | (rw [hy365]; exact H) | exact H
          have Ny365 := Aside0.mk hy365
          clear hy365
          replace H := Option.bind_eq_some_iff.mp H
          obtain ⟨⟨t368, t369⟩, A500, H⟩ := H
          replace H : (if 0 ≤ t368 then (if t368 < (y365.length : Int) then (some (rd y365 t368, 0, (⟨#[]⟩ : ByteArray), ([] : List (S25)), t369)) else (none)) else (none)) = some (r1, r2, r3, r4, r5) := H
          have A50 := Aside0.mk A500
          clear A500
          by_cases c51 : 0 ≤ t368
          ·
           rw [if_pos c51] at H; have c51b0 : decide (0 ≤ t368) = true := decide_eq_true c51; clear c51
           by_cases c52 : t368 < (y365.length : Int)
           ·
            rw [if_pos c52] at H; have c52b0 : decide (t368 < (y365.length : Int)) = true := decide_eq_true c52; clear c52
            simp only [Option.some.injEq, Prod.mk.injEq] at H
            obtain ⟨rfl, rfl, rfl, rfl, rfl⟩ := H
            go_wp2_with (first | ((with_reducible refine gate_dst (N := 38) rfl ?_); refine Kd.R_lit (Kd.int .i64) _ 3 ?hg (N := 38) ?hd (xs := ([0, 16] : List Int)) (inner := [.int .i64 0, .int .i64 16]) (ok := fun _ => True) (okp := fun _ => True) ?hr ?hp (fun _ hk => hk) trivial (Below.refl _ _) (Nat.le_refl _) (by simp) ?_; (case hd => rfl); (case hg => rfl); (case hr => first | (go_simp; done) | (go_simp; rfl)); (case hp => exact (Reps.one (show Kd.M (Kd.int .i64) _ _ _ 0 [.int .i64 0] from rfl) (Reps.one (show Kd.M (Kd.int .i64) _ _ _ 16 [.int .i64 16] from rfl) (Reps.none _ _)))); intro v366 w53 ho54 hb hg_ hnew_; clear hg_ hnew_; (first | rw [← Ny365.out] at ho54 | (simp only [Int.reduceToNat] at ho54; rw [← Ny365.out] at ho54)); replace HO_334003 := Aside0.mk (Kd.V_elder' (by exact Kd.xV HO_334003.out) (Kd.R_base ho54) hb); have HO367 := Aside0.mk (Kd.R_lower (Kd.R_newM (M := fun k_ => (w.heap.size ≤ k_)) ho54 (kz HK) (fun k_ h_ => h_)) (kz HK)); replace BK323 := bB BK323 hb; replace BK333 := bB BK333 hb; replace HI0 := ib75 HI0 hb; replace HK := kTb HK hb; replace HB := bS HB hb; clear hb ho54) | ((with_reducible refine gate_callee (f := 36) rfl ?_); refine gl (some 40) Try.func36 #[.pointer (some ⟨g, 0, none⟩), .int .i64 2] ?_; (with_reducible refine (spec_l20Rd_pick.calls kj16 g s0_0 x1001_16 2 t368 t369 w0 _ ?side1 ?side2 A50.out).mono ?_); (case side1 => exact sw75 HI0.out); (case side2 => exact bw HB.out); rintro e w55 ⟨rfl, hi, hb, hk⟩; refine ⟨_, rfl, ?_⟩; replace HO_334003 := Aside0.mk (Kd.V_mono (Kd.V_keep (Kd.V_mono (ok := fun k_ => ((((w.heap.size ≤ k_)) ∧ (k_ ≠ gb323 ∧ (k_ ≠ gb333 ∧ k_ ≠ g))) ∧ some k_ ≠ (v366 : Value).ownBlock)) (by exact Kd.xV HO_334003.out) (fun k_ hk_ => (⟨hk_, hk_.1.2.2.2⟩ : _ ∧ k_ ≠ g))) hk (fun _ h => h.2)) (fun _ h => h.1)); replace BK323 := kB hk BK323 NB323_0; replace BK333 := kB hk BK333 NB333_0; replace HO367 := Aside0.mk (Kd.R_mono (Kd.R_keep (IsS75.apart (show IsS75 w0 _ g s0_0 x1001_16 from by exact sw75 HI0.out) (by exact Kd.xR HO367.out) (by decide)) hk (fun _ h => h.2)) (fun _ h => h.1)); replace HK := kT HK hk; replace HB := Aside0.mk (hb); replace HI0 := Aside0.mk (hi); (try clear hb); (try clear hb2); (try clear hk); (try clear hi); obtain ⟨Ao56, co56, eo56⟩ := Kd.R_slice HO367.out; subst eo56; have p370 : 0 ≤ (t368 : Int) := of_decide_eq_true (by first | (with_reducible assumption) | assumption); have q370 : t368 < (y365.length : Int) := of_decide_eq_true (by first | (with_reducible assumption) | assumption); obtain ⟨ad370, e370, hx370_0⟩ := Kd.at_int (Kd.R_reads' HO367.out).2.2 t368 p370 q370; cases e370; replace p370 := eq_true p370; replace q370 := eq_true q370; have hnb57 := NB323_333.out; have hnc57 := NB333_323.out; have hnb58 := NB323_0.out; have hnc58 := NB0_323.out; obtain ⟨hcz59_0, hcz59_1, hcz59_2, hcz59_3⟩ := cs4 BK323.out; obtain ⟨hfz59_0, hfz59_1, hfz59_2, hfz59_3⟩ := fz4 BK323.out))
            refine bodyPost_ret (results_cell_row rfl _ _ gb323 25 #[.int .i64 (rd y365 t368), .int .i64 0, .string (⟨#[]⟩ : ByteArray), .slice none 0 0] (0, 0) _ rfl (bp BK323) Try.underlying25 rfl (by kernel_rfl)) rfl ?_
            exact ⟨_, by first | rfl | (simp [errW_none, errW_some] <;> rfl) | (simp [*, errW_none, errW_some] <;> rfl), by first | exact Kd.R_nil _ _ _ _ _ | exact Kd.N_nil _ _ _ _ _ | exact Kd.V_nil _ _ _ _ _ | exact Kd.Q_nil _ _ _ _ _ | exact Kd.S_nil _ _ _ _ _, by exact sw75 HI0.out, by exact bw HB.out, by exact kw HK.out⟩
           ·
            rw [if_neg c52] at H; exact absurd H (by simp)
          ·
           rw [if_neg c51] at H; exact absurd H (by simp)
         ·
          rw [if_neg c49] at H; obtain ⟨c49b0, c49b1⟩ := eqN c49
          by_cases c60 : x15_16 = 4
          ·
           rw [if_pos c60] at H; obtain ⟨c60b0, c60b1⟩ := eqY c60; clear c60
           obtain ⟨y371, hy371⟩ : ∃ y_ : List (S25), y_ = (([(⟨t326, t327, t328, t329⟩ : S25)] : List (S25))) := ⟨_, rfl⟩
           replace H : (some (14, 0, (⟨#[]⟩ : ByteArray), y371, x1001_16)) = some (r1, r2, r3, r4, r5) := by first | (rw [hy371]; with_reducible exact H) | (have H2_ := (Option.bind_some _ _).symm.trans H; rw [hy371]; with_reducible exact H2_) | (have H2_ := (Option.bind_some _ _).symm.trans H; with_reducible exact H2_) | with_reducible exact H | (rw [hy371]; exact H) | exact H
           have Ny371 := Aside0.mk hy371
           clear hy371
           simp only [Option.some.injEq, Prod.mk.injEq] at H
           obtain ⟨rfl, rfl, rfl, rfl, rfl⟩ := H
           have hnb61 := NB333_323.out
           have hnc61 := NB323_333.out
           have hnb62 := NB333_0.out
           have hnc62 := NB0_333.out
           have hcz63_0 : wc.cell? ⟨gb333, 0, none⟩ = some (.int .i64 t326) := (blk_cell BK333.out 0).trans rfl
           have hcz63_1 : wc.cell? ⟨gb333, 1, none⟩ = some (.int .i64 t327) := (blk_cell BK333.out 1).trans rfl
           have hcz63_2 : wc.cell? ⟨gb333, 2, none⟩ = some (.string t328) := (blk_cell BK333.out 2).trans rfl
           have hcz63_3 : wc.cell? ⟨gb333, 3, none⟩ = some (.slice Ao13 t329.length co13) := (blk_cell BK333.out 3).trans rfl
           have hfz63_0 := blk_frozen BK333.out 0
           have hfz63_1 := blk_frozen BK333.out 1
           have hfz63_2 := blk_frozen BK333.out 2
           have hfz63_3 := blk_frozen BK333.out 3
           go_wp2_with (first | ((with_reducible refine gate_dst (N := 47) rfl ?_); refine Kd.N_lit k25 _ 25 ?hg (N' := 47) ?hd (xs := ([(⟨t326, t327, t328, t329⟩ : S25)] : List (S25))) (inner := [.int .i64 t326, .int .i64 t327, .string t328, .slice Ao13 t329.length co13]) (ok := (fun k_ => (w.heap.size ≤ k_) ∧ k_ ≠ gb323 ∧ k_ ≠ gb333 ∧ k_ ≠ g)) (okp := (fun k_ => (w.heap.size ≤ k_) ∧ k_ ≠ gb323 ∧ k_ ≠ gb333 ∧ k_ ≠ g)) ?hr ?hp (fun _ hk => hk) ((show ∀ k_, wc.heap.size ≤ k_ → (fun k_ => (w.heap.size ≤ k_) ∧ k_ ≠ gb323 ∧ k_ ≠ gb333 ∧ k_ ≠ g) k_ from fun k_ hk => ⟨(Nat.le_trans (kz HK) hk), Kd.freshB (by exact bk BK323.out) k_ hk, Kd.freshB (by exact bk BK333.out) k_ hk, IsS75.fresh (by exact sw75 HI0.out) k_ hk⟩) _ (Nat.le_refl _)) (Below.refl _ _) (Nat.le_refl _) (by simp) ?_; (case hd => rfl); (case hg => rfl); (case hr => first | (go_simp; done) | (go_simp; rfl)); (case hp => exact (Reps.c4 (show Kd.FK k25 _ _ (⟨t326, t327, t328, t329⟩ : S25) [.int .i64 t326, .int .i64 t327, .string t328, .slice Ao13 t329.length co13] from (k25_mkF _ _ (⟨t326, t327, t328, t329⟩ : S25) (Kd.V_reads' (Kd.V_mono (ok' := (fun k_ => (w.heap.size ≤ k_) ∧ k_ ≠ gb323 ∧ k_ ≠ gb333 ∧ k_ ≠ g)) (HO_334003.out) (fun k_ hk => okp hk))).2.1 (Kd.V_F (Kd.V_mono (ok' := (fun k_ => (w.heap.size ≤ k_) ∧ k_ ≠ gb323 ∧ k_ ≠ gb333 ∧ k_ ≠ g)) (HO_334003.out) (fun k_ hk => okp hk))))) (Reps.none _ _))); intro v372 w64 ho65 hb hg_ hnew_; clear hg_ hnew_; (first | rw [← Ny371.out] at ho65 | (simp only [Int.reduceToNat] at ho65; rw [← Ny371.out] at ho65)); replace HO_334003 := Aside0.mk (Kd.V_elder' (by exact Kd.xV HO_334003.out) (Kd.N_base ho65) hb); have HO373 := Aside0.mk (Kd.N_lower ho65 (kz HK)); replace BK323 := bB BK323 hb; replace BK333 := bB BK333 hb; replace HI0 := ib75 HI0 hb; replace HK := kTb HK hb; replace HB := bS HB hb; clear hb ho65; obtain ⟨Ao66, co66, eo66⟩ := Kd.N_slice HO373.out; subst eo66; have hnb67 := NB323_0.out; have hnc67 := NB0_323.out; obtain ⟨hcz68_0, hcz68_1, hcz68_2, hcz68_3⟩ := cs4 BK323.out; obtain ⟨hfz68_0, hfz68_1, hfz68_2, hfz68_3⟩ := fz4 BK323.out))
           refine bodyPost_ret (results_cell_row rfl _ _ gb323 25 #[.int .i64 14, .int .i64 0, .string (⟨#[]⟩ : ByteArray), .slice Ao66 y371.length co66] (0, 0) _ rfl (bp BK323) Try.underlying25 rfl (by kernel_rfl)) rfl ?_
           exact ⟨_, by first | rfl | (simp [errW_none, errW_some] <;> rfl) | (simp [*, errW_none, errW_some] <;> rfl), Kd.N_V (by (with_reducible repeat (first | apply Kd.N_alloc | apply Kd.N_drewN | apply Kd.N_drew)); exact Kd.N_mono (Kd.N_far (p := ⟨gb323, 3, none⟩) (Kd.N_far (p := ⟨gb323, 2, none⟩) (Kd.N_far (p := ⟨gb323, 1, none⟩) (Kd.N_far (p := ⟨gb323, 0, none⟩) (Kd.N_mono HO373.out (fun k_ hk => (⟨hk, okp hk⟩ : _ ∧ k_ ≠ gb323))) (fun _ hk => hk.2) (.int .i64 14)) (fun _ hk => hk.2) (.int .i64 0)) (fun _ hk => hk.2) (.string (⟨#[]⟩ : ByteArray))) (fun _ hk => hk.2) (.slice Ao66 y371.length co66)) (fun _ hk => hk.1.1)), by exact sw75 HI0.out, by exact bw HB.out, by exact kw HK.out⟩
          ·
           rw [if_neg c60] at H; obtain ⟨c60b0, c60b1⟩ := eqN c60
           obtain ⟨y374, hy374⟩ : ∃ y_ : List (S25), y_ = (([(⟨t326, t327, t328, t329⟩ : S25)] : List (S25))) := ⟨_, rfl⟩
           replace H : (some (9, 0, (⟨#[65]⟩ : ByteArray), y374, x1001_16)) = some (r1, r2, r3, r4, r5) := by first | (rw [hy374]; with_reducible exact H) | (have H2_ := (Option.bind_some _ _).symm.trans H; rw [hy374]; with_reducible exact H2_) | (have H2_ := (Option.bind_some _ _).symm.trans H; with_reducible exact H2_) | with_reducible exact H | (rw [hy374]; exact H) | exact H
           have Ny374 := Aside0.mk hy374
           clear hy374
           simp only [Option.some.injEq, Prod.mk.injEq] at H
           obtain ⟨rfl, rfl, rfl, rfl, rfl⟩ := H
           have hnb69 := NB333_323.out
           have hnc69 := NB323_333.out
           have hnb70 := NB333_0.out
           have hnc70 := NB0_333.out
           have hcz71_0 : wc.cell? ⟨gb333, 0, none⟩ = some (.int .i64 t326) := (blk_cell BK333.out 0).trans rfl
           have hcz71_1 : wc.cell? ⟨gb333, 1, none⟩ = some (.int .i64 t327) := (blk_cell BK333.out 1).trans rfl
           have hcz71_2 : wc.cell? ⟨gb333, 2, none⟩ = some (.string t328) := (blk_cell BK333.out 2).trans rfl
           have hcz71_3 : wc.cell? ⟨gb333, 3, none⟩ = some (.slice Ao13 t329.length co13) := (blk_cell BK333.out 3).trans rfl
           have hfz71_0 := blk_frozen BK333.out 0
           have hfz71_1 := blk_frozen BK333.out 1
           have hfz71_2 := blk_frozen BK333.out 2
           have hfz71_3 := blk_frozen BK333.out 3
           go_wp2_with (first | ((with_reducible refine gate_dst (N := 17) rfl ?_); refine Kd.N_lit k25 _ 25 ?hg (N' := 17) ?hd (xs := ([(⟨t326, t327, t328, t329⟩ : S25)] : List (S25))) (inner := [.int .i64 t326, .int .i64 t327, .string t328, .slice Ao13 t329.length co13]) (ok := (fun k_ => (w.heap.size ≤ k_) ∧ k_ ≠ gb323 ∧ k_ ≠ gb333 ∧ k_ ≠ g)) (okp := (fun k_ => (w.heap.size ≤ k_) ∧ k_ ≠ gb323 ∧ k_ ≠ gb333 ∧ k_ ≠ g)) ?hr ?hp (fun _ hk => hk) ((show ∀ k_, wc.heap.size ≤ k_ → (fun k_ => (w.heap.size ≤ k_) ∧ k_ ≠ gb323 ∧ k_ ≠ gb333 ∧ k_ ≠ g) k_ from fun k_ hk => ⟨(Nat.le_trans (kz HK) hk), Kd.freshB (by exact bk BK323.out) k_ hk, Kd.freshB (by exact bk BK333.out) k_ hk, IsS75.fresh (by exact sw75 HI0.out) k_ hk⟩) _ (Nat.le_refl _)) (Below.refl _ _) (Nat.le_refl _) (by simp) ?_; (case hd => rfl); (case hg => rfl); (case hr => first | (go_simp; done) | (go_simp; rfl)); (case hp => exact (Reps.c4 (show Kd.FK k25 _ _ (⟨t326, t327, t328, t329⟩ : S25) [.int .i64 t326, .int .i64 t327, .string t328, .slice Ao13 t329.length co13] from (k25_mkF _ _ (⟨t326, t327, t328, t329⟩ : S25) (Kd.V_reads' (Kd.V_mono (ok' := (fun k_ => (w.heap.size ≤ k_) ∧ k_ ≠ gb323 ∧ k_ ≠ gb333 ∧ k_ ≠ g)) (HO_334003.out) (fun k_ hk => okp hk))).2.1 (Kd.V_F (Kd.V_mono (ok' := (fun k_ => (w.heap.size ≤ k_) ∧ k_ ≠ gb323 ∧ k_ ≠ gb333 ∧ k_ ≠ g)) (HO_334003.out) (fun k_ hk => okp hk))))) (Reps.none _ _))); intro v375 w72 ho73 hb hg_ hnew_; clear hg_ hnew_; (first | rw [← Ny374.out] at ho73 | (simp only [Int.reduceToNat] at ho73; rw [← Ny374.out] at ho73)); replace HO_334003 := Aside0.mk (Kd.V_elder' (by exact Kd.xV HO_334003.out) (Kd.N_base ho73) hb); have HO376 := Aside0.mk (Kd.N_lower ho73 (kz HK)); replace BK323 := bB BK323 hb; replace BK333 := bB BK333 hb; replace HI0 := ib75 HI0 hb; replace HK := kTb HK hb; replace HB := bS HB hb; clear hb ho73; obtain ⟨Ao74, co74, eo74⟩ := Kd.N_slice HO376.out; subst eo74; have hnb75 := NB323_0.out; have hnc75 := NB0_323.out; obtain ⟨hcz76_0, hcz76_1, hcz76_2, hcz76_3⟩ := cs4 BK323.out; obtain ⟨hfz76_0, hfz76_1, hfz76_2, hfz76_3⟩ := fz4 BK323.out))
           refine bodyPost_ret (results_cell_row rfl _ _ gb323 25 #[.int .i64 9, .int .i64 0, .string (⟨#[65]⟩ : ByteArray), .slice Ao74 y374.length co74] (0, 0) _ rfl (bp BK323) Try.underlying25 rfl (by kernel_rfl)) rfl ?_
           exact ⟨_, by first | rfl | (simp [errW_none, errW_some] <;> rfl) | (simp [*, errW_none, errW_some] <;> rfl), Kd.N_V (by (with_reducible repeat (first | apply Kd.N_alloc | apply Kd.N_drewN | apply Kd.N_drew)); exact Kd.N_mono (Kd.N_far (p := ⟨gb323, 3, none⟩) (Kd.N_far (p := ⟨gb323, 2, none⟩) (Kd.N_far (p := ⟨gb323, 1, none⟩) (Kd.N_far (p := ⟨gb323, 0, none⟩) (Kd.N_mono HO376.out (fun k_ hk => (⟨hk, okp hk⟩ : _ ∧ k_ ≠ gb323))) (fun _ hk => hk.2) (.int .i64 9)) (fun _ hk => hk.2) (.int .i64 0)) (fun _ hk => hk.2) (.string (⟨#[65]⟩ : ByteArray))) (fun _ hk => hk.2) (.slice Ao74 y374.length co74)) (fun _ hk => hk.1.1)), by exact sw75 HI0.out, by exact bw HB.out, by exact kw HK.out⟩
   ·
    replace c16 := Bool.eq_false_iff.mpr c16
    subst c16
    have H1 : (some (t326, t327, t328, t329, x1001_4)) = some (r1, r2, r3, r4, r5) := by rw [if_neg (show ¬ (false = true) by decide)] at H; exact H
    clear H
    have H := H1
    clear H1
    simp only [Option.some.injEq, Prod.mk.injEq] at H
    obtain ⟨rfl, rfl, rfl, rfl, rfl⟩ := H
    have hnb77 := NB333_323.out
    have hnc77 := NB323_333.out
    have hnb78 := NB333_0.out
    have hnc78 := NB0_333.out
    have hcz79_0 : wc.cell? ⟨gb333, 0, none⟩ = some (.int .i64 t326) := (blk_cell BK333.out 0).trans rfl
    have hcz79_1 : wc.cell? ⟨gb333, 1, none⟩ = some (.int .i64 t327) := (blk_cell BK333.out 1).trans rfl
    have hcz79_2 : wc.cell? ⟨gb333, 2, none⟩ = some (.string t328) := (blk_cell BK333.out 2).trans rfl
    have hcz79_3 : wc.cell? ⟨gb333, 3, none⟩ = some (.slice Ao13 t329.length co13) := (blk_cell BK333.out 3).trans rfl
    have hfz79_0 := blk_frozen BK333.out 0
    have hfz79_1 := blk_frozen BK333.out 1
    have hfz79_2 := blk_frozen BK333.out 2
    have hfz79_3 := blk_frozen BK333.out 3
    have hnb80 := NB323_0.out
    have hnc80 := NB0_323.out
    have hcz81_0 : wc.cell? ⟨gb323, 0, none⟩ = some (.int .i64 0) := (blk_cell BK323.out 0).trans rfl
    have hcz81_1 : wc.cell? ⟨gb323, 1, none⟩ = some (.int .i64 0) := (blk_cell BK323.out 1).trans rfl
    have hcz81_2 : wc.cell? ⟨gb323, 2, none⟩ = some (.string (⟨#[]⟩ : ByteArray)) := (blk_cell BK323.out 2).trans rfl
    have hcz81_3 : wc.cell? ⟨gb323, 3, none⟩ = some (.slice none 0 0) := (blk_cell BK323.out 3).trans rfl
    have hfz81_0 := blk_frozen BK323.out 0
    have hfz81_1 := blk_frozen BK323.out 1
    have hfz81_2 := blk_frozen BK323.out 2
    have hfz81_3 := blk_frozen BK323.out 3
    go_wp2
    refine bodyPost_ret (results_cell_row rfl _ _ gb323 25 #[.int .i64 t326, .int .i64 t327, .string t328, .slice Ao13 t329.length co13] (0, 0) _ rfl (bp BK323) Try.underlying25 rfl (by kernel_rfl)) rfl ?_
    exact ⟨_, by first | rfl | (simp [errW_none, errW_some] <;> rfl) | (simp [*, errW_none, errW_some] <;> rfl), by (with_reducible repeat (first | apply Kd.V_alloc | apply Kd.V_drewN | apply Kd.V_drew)); exact Kd.V_mono (Kd.V_far (p := ⟨gb323, 3, none⟩) (Kd.V_far (p := ⟨gb323, 2, none⟩) (Kd.V_far (p := ⟨gb323, 1, none⟩) (Kd.V_far (p := ⟨gb323, 0, none⟩) (Kd.V_mono HO_334003.out (fun k_ hk => (⟨hk, okp hk⟩ : _ ∧ k_ ≠ gb323))) (fun _ hk => hk.2) (.int .i64 t326)) (fun _ hk => hk.2) (.int .i64 t327)) (fun _ hk => hk.2) (.string t328)) (fun _ hk => hk.2) (.slice Ao13 t329.length co13)) (fun _ hk => hk.1.1), by exact sw75 HI0.out, by exact bw HB.out, by exact kw HK.out⟩

end Go.Proofs.Ytjpeciodihnolaa.P
