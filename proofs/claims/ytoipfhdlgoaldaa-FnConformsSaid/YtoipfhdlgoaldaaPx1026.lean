-- Written by a program of this session (wip/tool).
import Derived.Test.YtoipfhdlgoaldaaPx0
import Derived.Test.YtoipfhdlgoaldaaPx1031
import Derived.Test.YtoipfhdlgoaldaaPx1032
import Derived.Test.YtoipfhdlgoaldaaPx1048
import Derived.Test.YtoipfhdlgoaldaaPx1049
namespace Go.Proofs.Ytoipfhdlgoaldaa.P
open Go.RowKit Go.Proofs.YtoipfhdlgoaldaaW.PrintWords Go.Proofs.YtoipfhdlgoaldaaW.PrintLast Go.Proofs.YtoipfhdlgoaldaaW.PrintMore
attribute [local go_sem] max2_int min2_int max_two min_two max_three min_three max_four min_four   -- for this text's walks alone
set_option linter.unusedVariables false
set_option linter.unusedSimpArgs false

/-! ### spec_DrawConforms: function 26 -/
def spec_DrawConforms.f (k : Nat) (l0 : List Int) : Option ((List (S77)) × (List (S77)) × (List (S74)) × Int × Int × Int × (List (S55))) := (spec_l20Open.f l0).bind fun bt511 => ((spec_l20Schema.f k bt511.1 bt511.2 3).bind fun bt514 => ((spec_l20Things.f k bt511.1 bt514.2.2 12).bind fun bt522 => ((spec_l20Request.f k bt511.1 bt522.2 bt522.1 12).bind fun bt526 => (some (bt514.1, bt514.2.1, bt522.1, bt526.1, bt526.2.1, bt526.2.2.1, bt526.2.2.2.1)))))
theorem spec_DrawConforms.mono : ∀ a0 k, LeO (spec_DrawConforms.f k a0) (spec_DrawConforms.f (k + 1) a0) := by
 intro a0 k
 unfold spec_DrawConforms.f
 repeat' first
   | (with_reducible exact spec_l20Request.mono _ _ _ _ _)
   | (with_reducible exact spec_l20Schema.mono _ _ _ _)
   | (with_reducible exact spec_l20Things.mono _ _ _ _)
   | (with_reducible exact LeO.refl _)
   | (with_reducible exact LeO.none _)
   | (with_reducible refine LeO.ite ?_ ?_)
   | (with_reducible refine LeO.bind ?_ (fun _ => ?_))
   | exact spec_l20Request.mono _ _ _ _ _
   | exact spec_l20Schema.mono _ _ _ _
   | exact spec_l20Things.mono _ _ _ _
   | exact LeO.none _
   | refine LeO.ite ?_ ?_
   | refine LeO.bind ?_ (fun _ => ?_)
def spec_DrawConforms.T4 : Bool × List (List Nat × List Nat) := (true, [([], []), ([], []), ([], []), ([], []), ([2, 3], [2, 3]), ([0, 4, 0], [0]), ([1, 5, 0, 1, 5], [1]), ([4, 6, 0, 1, 2, 3, 4, 5, 6], [4])])
def spec_DrawConforms.B4 : List Nat := [0, 0, 0, 0, 12, 29, 63, 127]
theorem spec_DrawConforms.tab4 : rtab .any (opsOf Try.f26 4) = spec_DrawConforms.T4 := by kernel_rfl
theorem spec_DrawConforms.bits4 : waitsOk spec_DrawConforms.T4.2 spec_DrawConforms.B4 = true := by kernel_rfl
set_option maxHeartbeats 8000000 in
set_option maxRecDepth 100000 in
theorem spec_DrawConforms.calls (k : Nat) (A0 : Option Addr) (c0 : Nat) (l0 : List Int) (r1 : List (S77)) (r2 : List (S77)) (r3 : List (S74)) (r4 : Int) (r5 : Int) (r6 : Int) (r7 : List (S55)) (w : World) (hr0 : Kd.C (Kd.int .u8) w A0 l0.length l0) (hc0 : l0.length ≤ c0) (h : spec_DrawConforms.f k l0 = some (r1, r2, r3, r4, r5, r6, r7)) :
  Calls Try.prog 26 #[.slice A0 l0.length c0] w fun e w' => ∃ v0_ v1_ v2_ v6_ : Value, e = .returned (.tuple #[.agg #[v0_, v1_], v2_, .agg #[.int .i64 r4, .int .i64 r5, .int .i64 r6, v6_]]) ∧ Kd.Q k77 77 w' w.heap.size (fun k_ => some k_ ≠ (v1_ : Value).ownBlock) v0_ r1 ∧ Kd.R k77 77 w' w.heap.size (fun k_ => some k_ ≠ (v0_ : Value).ownBlock) v1_ r2 ∧ Kd.S k74 74 w' w.heap.size (fun k_ => some k_ ≠ (v6_ : Value).ownBlock) v2_ r3 ∧ Kd.R k55 55 w' w.heap.size (fun _ => True) v6_ r7 ∧ Below w.heap.size w w' := by
 have hu47 := Try.underlying47
 have hu42 := Try.underlying42
 have HR0 := Aside0.mk hr0
 have HC0 := Aside0.mk hc0
 clear hr0 hc0
 have HB := Aside0.mk (Below.refl w.heap.size w)
 have H : ((spec_l20Open.f l0).bind fun bt511 => ((spec_l20Schema.f k bt511.1 bt511.2 3).bind fun bt514 => ((spec_l20Things.f k bt511.1 bt514.2.2 12).bind fun bt522 => ((spec_l20Request.f k bt511.1 bt522.2 bt522.1 12).bind fun bt526 => (some (bt514.1, bt514.2.1, bt522.1, bt526.1, bt526.2.1, bt526.2.2.1, bt526.2.2.2.1)))))) = some (r1, r2, r3, r4, r5, r6, r7) := h
 clear h
 replace H := Option.bind_eq_some_iff.mp H
 obtain ⟨⟨t511, t512⟩, A20, H⟩ := H
 replace H : ((spec_l20Schema.f k t511 t512 3).bind fun bt514 => ((spec_l20Things.f k t511 bt514.2.2 12).bind fun bt522 => ((spec_l20Request.f k t511 bt522.2 bt522.1 12).bind fun bt526 => (some (bt514.1, bt514.2.1, bt522.1, bt526.1, bt526.2.1, bt526.2.2.1, bt526.2.2.2.1))))) = some (r1, r2, r3, r4, r5, r6, r7) := H
 have A2 := Aside0.mk A20
 clear A20
 replace H := Option.bind_eq_some_iff.mp H
 obtain ⟨⟨t514, t517, t520⟩, A30, H⟩ := H
 replace H : ((spec_l20Things.f k t511 t520 12).bind fun bt522 => ((spec_l20Request.f k t511 bt522.2 bt522.1 12).bind fun bt526 => (some (t514, t517, bt522.1, bt526.1, bt526.2.1, bt526.2.2.1, bt526.2.2.2.1)))) = some (r1, r2, r3, r4, r5, r6, r7) := H
 have A3 := Aside0.mk A30
 clear A30
 replace H := Option.bind_eq_some_iff.mp H
 obtain ⟨⟨t522, t525⟩, A40, H⟩ := H
 replace H : ((spec_l20Request.f k t511 t525 t522 12).bind fun bt526 => (some (t514, t517, t522, bt526.1, bt526.2.1, bt526.2.2.1, bt526.2.2.2.1))) = some (r1, r2, r3, r4, r5, r6, r7) := H
 have A4 := Aside0.mk A40
 clear A40
 replace H := Option.bind_eq_some_iff.mp H
 obtain ⟨⟨t526, t527, t528, t529, t532⟩, A50, H⟩ := H
 replace H : (some (t514, t517, t522, t526, t527, t528, t529)) = some (r1, r2, r3, r4, r5, r6, r7) := H
 have A5 := Aside0.mk A50
 clear A50
 simp only [Option.some.injEq, Prod.mk.injEq] at H
 obtain ⟨rfl, rfl, rfl, rfl, rfl, rfl, rfl⟩ := H
 go_enter Try.func26, Try.ntmps26
 try go_wp2_with (first | ((with_reducible refine gate_dst (N := 2) rfl ?_); refine bx 2 #[.slice none 0 0, .slice none 0 0] 47 ?_; intro gb509 hg w6 hbox hb; have BK509 := Aside0.mk (hbox); have GW509 := gwB HB hg; have GE509 := gwB HB hg; replace HB := bS HB hb; clear hb hbox hg) | ((with_reducible refine gate_dst (N := 4) rfl ?_); refine bx 4 #[.int .i64 0, .int .i64 0, .int .i64 0, .slice none 0 0] 42 ?_; intro gb510 hg w7 hbox hb; have BK510 := Aside0.mk (hbox); have GW510 := gwB HB hg; have GE510 := gwB HB hg; replace HB := bS HB hb; have NB509_510 := nbL BK509 hg; have NB510_509 := nbR BK509 hg; replace BK509 := bB BK509 hb; clear hb hbox hg) | ((with_reducible refine gate_callee (f := 31) rfl ?_); refine gl (some 9) Try.func31 #[.slice A0 l0.length c0] ?_; (with_reducible refine (spec_l20Open.calls _ _ l0 t511 t512 w _ ?side1 ?side2 ?side3 A2.out).mono ?_); (case side1 => exact bw HB.out); (case side2 => exact HR0.out); (case side3 => exact HC0.out); rintro e w8 ⟨g513, rfl, hi, hb, hb2⟩; refine ⟨_, rfl, ?_⟩; replace HB := Aside0.mk (hb); have HI513 := Aside0.mk (hi); have NB513_509 := Aside0.mk (IsS80.ne_blk hi (blk_below (g := gb509) (o := .cells #[.slice none 0 0, .slice none 0 0] 47 (0, 0)) (by exact bk BK509.out) hb2) (by decide)); have NB509_513 := Aside0.mk (Ne.symm (IsS80.ne_blk hi (blk_below (g := gb509) (o := .cells #[.slice none 0 0, .slice none 0 0] 47 (0, 0)) (by exact bk BK509.out) hb2) (by decide))); replace BK509 := Aside0.mk (blk_below (g := gb509) (o := .cells #[.slice none 0 0, .slice none 0 0] 47 (0, 0)) (by exact bk BK509.out) hb2); have NB513_510 := Aside0.mk (IsS80.ne_blk hi (blk_below (g := gb510) (o := .cells #[.int .i64 0, .int .i64 0, .int .i64 0, .slice none 0 0] 42 (0, 0)) (by exact bk BK510.out) hb2) (by decide)); have NB510_513 := Aside0.mk (Ne.symm (IsS80.ne_blk hi (blk_below (g := gb510) (o := .cells #[.int .i64 0, .int .i64 0, .int .i64 0, .slice none 0 0] 42 (0, 0)) (by exact bk BK510.out) hb2) (by decide))); replace BK510 := Aside0.mk (blk_below (g := gb510) (o := .cells #[.int .i64 0, .int .i64 0, .int .i64 0, .slice none 0 0] 42 (0, 0)) (by exact bk BK510.out) hb2); (try clear hb); (try clear hb2); (try clear hk); (try clear hi)) | ((with_reducible refine gate_callee (f := 48) rfl ?_); refine gl (some 11) Try.func48 #[.pointer (some ⟨g513, 0, none⟩), .int .i64 3] ?_; (with_reducible refine (spec_l20Schema.calls k g513 t511 t512 3 t514 t517 t520 w _ ?side1 ?side2 A3.out).mono ?_); (case side1 => exact sw80 HI513.out); (case side2 => exact bw HB.out); rintro e w9 ⟨v515, v518, rfl, ho0, ho1, hi, hb, hk⟩; refine ⟨_, rfl, ?_⟩; replace BK509 := kB hk BK509 NB509_513; replace BK510 := kB hk BK510 NB510_513; have HO516 := Aside0.mk (Kd.Q_lower ho0 (below_size (by exact bw HB.out))); have HO519 := Aside0.mk (Kd.R_lower ho1 (below_size (by exact bw HB.out))); replace HB := Aside0.mk (hb); replace HI513 := Aside0.mk (hi); (try clear hb); (try clear hb2); (try clear hk); (try clear hi); (try clear ho0); (try clear ho1)) | ((with_reducible refine gate_dst (N := 6) rfl ?_); refine bx 6 #[.slice none 0 0, .slice none 0 0] 47 ?_; intro gb521 hg w10 hbox hb; replace HO516 := Aside0.mk (Kd.Q_below (by exact Kd.xQ HO516.out) hb); replace HO519 := Aside0.mk (Kd.R_below (by exact Kd.xR HO519.out) hb); have BK521 := Aside0.mk (hbox); have GW521 := gwB HB hg; have GE521 := gwB HB hg; replace HB := bS HB hb; have NB509_521 := nbL BK509 hg; have NB521_509 := nbR BK509 hg; replace BK509 := bB BK509 hb; have NB510_521 := nbL BK510 hg; have NB521_510 := nbR BK510 hg; replace BK510 := bB BK510 hb; have NB513_521 := Aside0.mk ((by rw [hg]; exact Nat.ne_of_lt (IsS80.lt (show IsS80 w _ g513 t511 t520 from by exact sw80 HI513.out)) : g513 ≠ gb521)); have NB521_513 := Aside0.mk ((by rw [hg]; exact Nat.ne_of_gt (IsS80.lt (show IsS80 w _ g513 t511 t520 from by exact sw80 HI513.out)) : gb521 ≠ g513)); replace HI513 := Aside0.mk (IsS80.below (by exact sw80 HI513.out) hb); clear hb hbox hg; obtain ⟨Ao11, co11, eo11, _⟩ := Kd.Q_slice HO516.out; subst eo11; have hnb12 := NB521_509.out; have hnc12 := NB509_521.out; have hnb13 := NB521_510.out; have hnc13 := NB510_521.out; have hnb14 := NB521_513.out; have hnc14 := NB513_521.out; obtain ⟨hcz15_0, hcz15_1⟩ := cs2 BK521.out; obtain ⟨hfz15_0, hfz15_1⟩ := fz2 BK521.out; obtain ⟨Ao16, co16, eo16⟩ := Kd.R_slice HO519.out; subst eo16) | ((with_reducible refine gate_callee (f := 32) rfl ?_); refine gl (some 13) Try.func32 #[.pointer (some ⟨g513, 0, none⟩), .int .i64 12] ?_; (with_reducible refine (spec_l20Things.calls k g513 t511 t520 12 t522 t525 w _ ?side1 ?side2 A4.out).mono ?_); (case side1 => exact sw80 HI513.out); (case side2 => exact bw HB.out); rintro e w17 ⟨v523, rfl, ho0, hi, hb, hk⟩; refine ⟨_, rfl, ?_⟩; replace BK509 := Aside0.mk (KeepBut.blk hk (g' := gb509) (o := .cells #[.slice none 0 0, .slice none 0 0] 47 (0, 0)) (bo BK509) NB509_513.out (by simp)); replace BK510 := Aside0.mk (KeepBut.blk hk (g' := gb510) (o := .cells #[.int .i64 0, .int .i64 0, .int .i64 0, .slice none 0 0] 42 (0, 0)) (bo BK510) NB510_513.out (by simp)); replace HO516 := Aside0.mk (Kd.Q_mono (Kd.Q_keep (IsS80.apartQ (show IsS80 w _ g513 t511 t520 from by exact sw80 HI513.out) (by (with_reducible repeat (first | apply Kd.Q_alloc | apply Kd.Q_drewN | apply Kd.Q_drew)); exact (Kd.Q_mono (Kd.Q_far (p := ⟨gb521, 1, none⟩) (Kd.Q_far (p := ⟨gb521, 0, none⟩) (Kd.Q_types HO516.out BK521.out (by decide)) (fun _ hk => hk.2) (.slice Ao11 t514.length co11)) (fun _ hk => hk.2) (.slice Ao16 t517.length co16)) (fun _ h_ => h_.1))) (by decide)) hk (fun _ h => h.2)) (fun _ h => h.1)); replace HO519 := Aside0.mk (Kd.R_mono (Kd.R_keep (IsS80.apart (show IsS80 w _ g513 t511 t520 from by exact sw80 HI513.out) (by (with_reducible repeat (first | apply Kd.R_alloc | apply Kd.R_drewN | apply Kd.R_drew)); exact (Kd.R_mono (Kd.R_far (p := ⟨gb521, 1, none⟩) (Kd.R_far (p := ⟨gb521, 0, none⟩) (Kd.R_types HO519.out BK521.out (by decide)) (fun _ hk => hk.2) (.slice Ao11 t514.length co11)) (fun _ hk => hk.2) (.slice Ao16 t517.length co16)) (fun _ h_ => h_.1))) (by decide)) hk (fun _ h => h.2)) (fun _ h => h.1)); replace BK521 := Aside0.mk (KeepBut.blk hk (g' := gb521) (o := .cells #[.slice Ao11 t514.length co11, .slice Ao16 t517.length co16] 47 (0, 0)) (bp BK521) NB521_513.out (by simp)); have HO524 := Aside0.mk (Kd.S_lower ho0 (below_size (by exact bw HB.out))); replace HB := Aside0.mk (hb); replace HI513 := Aside0.mk (hi); (try clear hb); (try clear hb2); (try clear hk); (try clear hi); (try clear ho0)))
 replace HO516 := Aside0.mk (Kd.Q_drew HO516.out)
 replace HO519 := Aside0.mk (Kd.R_drew HO519.out)
 replace HO524 := Aside0.mk (Kd.S_drew HO524.out)
 replace BK509 := Aside0.mk (blk_drew BK509.out)
 replace BK510 := Aside0.mk (blk_drew BK510.out)
 replace BK521 := Aside0.mk (blk_drew BK521.out)
 replace HI513 := Aside0.mk (IsS80.drew HI513.out)
 replace HB := Aside0.mk (below_drew1 HB.out)
 obtain ⟨Ao19, co19, eo19⟩ := Kd.S_slice HO524.out
 (first | subst eo19 | (injection eo19 with f1_ f2_ f3_; have f4_ := f1_.symm; have f5_ := f3_.symm; clear f1_ f2_ f3_; subst f4_; subst f5_))
 refine start_ (n := 8) (S := fun w' => w'.cell? ⟨gb521, 0, none⟩ = some (.slice Ao11 t514.length co11) ∧ w'.cell? ⟨gb521, 1, none⟩ = some (.slice Ao16 t517.length co16)) (ds := []) (mB 8 0) (by kernel_rfl) rfl rfl (cs2 BK521.out) (fun hHeld => ?_); refine with_tabW spec_DrawConforms.tab4 spec_DrawConforms.bits4 (fun HT_ HW_ => ?_)
 generalize w17.drew = w18 at HO516 HO519 HO524 BK509 BK510 BK521 HI513 HB hHeld ⊢
 refine pn 1 15 HT_.out ?_
 refine pn 2 16 HT_.out ?_
 refine pn 3 17 HT_.out ?_
 refine tk 0 14 HT_.out HW_.out hHeld ?_
 refine on 4 18 HT_.out (fun K hK => ?_)
 refine gs Try.func49 #[.pointer (some ⟨g513, 0, none⟩), .slice Ao19 t522.length co19, .int .i64 12] ?_
 with_reducible refine (spec_l20Request.calls k g513 t511 t525 _ _ t522 12 t526 t527 t528 t529 t532 w _ ?side1 ?side2 ?side3 ?side4 A5.out).mono ?_
 (case side1 => exact sw80 HI513.out)
 (case side2 => exact bw HB.out)
 (case side3 => exact Kd.C_foot_own ((Kd.S_R (IsS80.apartS (show IsS80 w _ g513 t511 t525 from by exact sw80 HI513.out) (by exact Kd.xS HO524.out) (by decide)))) (fun _ h_ => h_.2))
 (case side4 => exact (Kd.S_reads' HO524.out).2.1)
 rintro e w20 ⟨v530, rfl, ho0, hi, hb, hk⟩
 refine ⟨_, rfl, ?_⟩
 replace BK509 := kB hk BK509 NB509_513
 replace BK510 := kB hk BK510 NB510_513
 replace HO516 := Aside0.mk (Kd.Q_mono (Kd.Q_keep (IsS80.apartQ (show IsS80 w _ g513 t511 t525 from by exact sw80 HI513.out) (by exact Kd.xQ HO516.out) (by decide)) hk (fun _ h => h.2)) (fun _ h => h.1))
 replace HO519 := Aside0.mk (Kd.R_mono (Kd.R_keep (IsS80.apart (show IsS80 w _ g513 t511 t525 from by exact sw80 HI513.out) (by exact Kd.xR HO519.out) (by decide)) hk (fun _ h => h.2)) (fun _ h => h.1))
 replace BK521 := kB hk BK521 NB521_513
 replace HO524 := Aside0.mk (Kd.S_mono (Kd.S_told (Kd.S_oldK (IsS80.apartS (show IsS80 w _ g513 t511 t525 from by exact sw80 HI513.out) (by exact Kd.xS HO524.out) (by decide)) hk) (Kd.R_base ho0)) (fun _ h_ => h_.1))
 have HO531 := Aside0.mk (Kd.R_lower ho0 (below_size (by exact bw HB.out)))
 replace HB := Aside0.mk (hb)
 replace HI513 := Aside0.mk (hi)
 (try clear hb)
 (try clear hb2)
 (try clear hk)
 (try clear hi)
 (try clear ho0)
 obtain ⟨Ao26, co26, eo26⟩ := Kd.R_slice HO531.out
 (first | subst eo26 | (injection eo26 with f1_ f2_ f3_; have f4_ := f1_.symm; have f5_ := f3_.symm; clear f1_ f2_ f3_; subst f4_; subst f5_))
 refine hK.out _ _ (cs2 BK521.out) (fun hHeld => ?_)
 clear hK K
 refine nm (some 18) ?_
 refine one_ (i := 5) (N := none) (mB 8 63) rfl rfl (one_of HT_.out (by kernel_rfl)) (by decide) (fun K hK => ?_)
 have hs21 : w20.cell? ⟨gb509, 0, none⟩ = some (.slice none 0 0) := (blk_cell BK509.out 0).trans rfl
 have hfs21 := blk_frozen BK509.out 0
 have hns21_1 := NB510_509.out
 have hns21_2 := NB521_509.out
 have hms21_1 := NB509_510.out
 have hms21_2 := NB509_521.out
 have hs22 : w20.cell? ⟨gb509, 1, none⟩ = some (.slice none 0 0) := (blk_cell BK509.out 1).trans rfl
 have hfs22 := blk_frozen BK509.out 1
 have hns22_1 := NB510_509.out
 have hns22_2 := NB521_509.out
 have hms22_1 := NB509_510.out
 have hms22_2 := NB509_521.out
 refine skip_ (w1 := ?_) (by rfl) rfl ?_ ?_
 rotate_left
 ·
  go_simp
  rfl
 refine hK.out _ _ ⟨((cell_far (p := ⟨gb509, _, none⟩) NB521_509.out _).trans (((cell_far (p := ⟨gb509, _, none⟩) NB521_509.out _).trans (hHeld.1)))), ((cell_far (p := ⟨gb509, _, none⟩) NB521_509.out _).trans (((cell_far (p := ⟨gb509, _, none⟩) NB521_509.out _).trans (hHeld.2))))⟩ (fun hHeld => ?_)
 clear hK K
 refine pn 6 3 HT_.out ?_
 refine one_ (i := 7) (N := none) (mB 8 255) rfl rfl (one_of HT_.out (by kernel_rfl)) (by decide) (fun K hK => ?_)
 have hs23 : w20.cell? ⟨gb510, 0, none⟩ = some (.int .i64 0) := (blk_cell BK510.out 0).trans rfl
 have hfs23 := blk_frozen BK510.out 0
 have hns23_0 := NB509_510.out
 have hns23_2 := NB521_510.out
 have hms23_0 := NB510_509.out
 have hms23_2 := NB510_521.out
 have hs24 : w20.cell? ⟨gb510, 1, none⟩ = some (.int .i64 0) := (blk_cell BK510.out 1).trans rfl
 have hfs24 := blk_frozen BK510.out 1
 have hns24_0 := NB509_510.out
 have hns24_2 := NB521_510.out
 have hms24_0 := NB510_509.out
 have hms24_2 := NB510_521.out
 have hs25 : w20.cell? ⟨gb510, 2, none⟩ = some (.int .i64 0) := (blk_cell BK510.out 2).trans rfl
 have hfs25 := blk_frozen BK510.out 2
 have hns25_0 := NB509_510.out
 have hns25_2 := NB521_510.out
 have hms25_0 := NB510_509.out
 have hms25_2 := NB510_521.out
 have hs27 : w20.cell? ⟨gb510, 3, none⟩ = some (.slice none 0 0) := (blk_cell BK510.out 3).trans rfl
 have hfs27 := blk_frozen BK510.out 3
 have hns27_0 := NB509_510.out
 have hns27_2 := NB521_510.out
 have hms27_0 := NB510_509.out
 have hms27_2 := NB510_521.out
 refine skip_ (w1 := ?_) (by rfl) rfl ?_ ?_
 rotate_left
 ·
  go_simp
  rfl
 refine hK.out _ _ ⟨((cell_far (p := ⟨gb510, _, none⟩) NB521_510.out _).trans (((cell_far (p := ⟨gb510, _, none⟩) NB521_510.out _).trans (((cell_far (p := ⟨gb510, _, none⟩) NB521_510.out _).trans (((cell_far (p := ⟨gb510, _, none⟩) NB521_510.out _).trans (hHeld.1)))))))), ((cell_far (p := ⟨gb510, _, none⟩) NB521_510.out _).trans (((cell_far (p := ⟨gb510, _, none⟩) NB521_510.out _).trans (((cell_far (p := ⟨gb510, _, none⟩) NB521_510.out _).trans (((cell_far (p := ⟨gb510, _, none⟩) NB521_510.out _).trans (hHeld.2))))))))⟩ (fun hHeld => ?_)
 clear hK K
 refine done_ (done_of HT_.out (by kernel_rfl)) ?_
 try go_wp2
 refine bodyPost_ret (results_list (rs := [.cell 2 47, .tmp 3, .cell 4 42]) rfl (by simp) (.cell gb509 47 #[.slice Ao11 t514.length co11, .slice Ao16 t517.length co16] (0, 0) _ rfl (bp BK509) Try.underlying47 rfl (by kernel_rfl) (.tmp (.cell gb510 42 #[.int .i64 t526, .int .i64 t527, .int .i64 t528, .slice Ao26 t529.length co26] (0, 0) _ rfl (bp BK510) Try.underlying42 rfl (by kernel_rfl) .nil)))) rfl ?_
 exact ⟨_, _, _, _, by first | rfl | (simp [errW_none, errW_some] <;> rfl) | (simp [*, errW_none, errW_some] <;> rfl), by (with_reducible repeat (first | apply Kd.Q_alloc | apply Kd.Q_drewN | apply Kd.Q_drew)); exact Kd.Q_mono (Kd.Q_far (p := ⟨gb510, 3, none⟩) (Kd.Q_far (p := ⟨gb510, 2, none⟩) (Kd.Q_far (p := ⟨gb510, 1, none⟩) (Kd.Q_far (p := ⟨gb510, 0, none⟩) (Kd.Q_far (p := ⟨gb509, 1, none⟩) (Kd.Q_far (p := ⟨gb509, 0, none⟩) (Kd.Q_types (Kd.Q_types HO516.out BK509.out (by decide)) BK510.out (by decide)) (fun _ hk => hk.1.2) (.slice Ao11 t514.length co11)) (fun _ hk => hk.1.2) (.slice Ao16 t517.length co16)) (fun _ hk => hk.2) (.int .i64 t526)) (fun _ hk => hk.2) (.int .i64 t527)) (fun _ hk => hk.2) (.int .i64 t528)) (fun _ hk => hk.2) (.slice Ao26 t529.length co26)) (fun _ hk => hk.1.1), by (with_reducible repeat (first | apply Kd.R_alloc | apply Kd.R_drewN | apply Kd.R_drew)); exact Kd.R_mono (Kd.R_far (p := ⟨gb510, 3, none⟩) (Kd.R_far (p := ⟨gb510, 2, none⟩) (Kd.R_far (p := ⟨gb510, 1, none⟩) (Kd.R_far (p := ⟨gb510, 0, none⟩) (Kd.R_far (p := ⟨gb509, 1, none⟩) (Kd.R_far (p := ⟨gb509, 0, none⟩) (Kd.R_types (Kd.R_types HO519.out BK509.out (by decide)) BK510.out (by decide)) (fun _ hk => hk.1.2) (.slice Ao11 t514.length co11)) (fun _ hk => hk.1.2) (.slice Ao16 t517.length co16)) (fun _ hk => hk.2) (.int .i64 t526)) (fun _ hk => hk.2) (.int .i64 t527)) (fun _ hk => hk.2) (.int .i64 t528)) (fun _ hk => hk.2) (.slice Ao26 t529.length co26)) (fun _ hk => hk.1.1), by (with_reducible repeat (first | apply Kd.S_alloc | apply Kd.S_drewN | apply Kd.S_drew)); exact Kd.S_mono (Kd.S_far (p := ⟨gb510, 3, none⟩) (Kd.S_far (p := ⟨gb510, 2, none⟩) (Kd.S_far (p := ⟨gb510, 1, none⟩) (Kd.S_far (p := ⟨gb510, 0, none⟩) (Kd.S_far (p := ⟨gb509, 1, none⟩) (Kd.S_far (p := ⟨gb509, 0, none⟩) (Kd.S_types (Kd.S_types HO524.out BK509.out (by decide)) BK510.out (by decide)) (fun _ hk => hk.1.2) (.slice Ao11 t514.length co11)) (fun _ hk => hk.1.2) (.slice Ao16 t517.length co16)) (fun _ hk => hk.2) (.int .i64 t526)) (fun _ hk => hk.2) (.int .i64 t527)) (fun _ hk => hk.2) (.int .i64 t528)) (fun _ hk => hk.2) (.slice Ao26 t529.length co26)) (fun _ hk => hk.1.1.2), by (with_reducible repeat (first | apply Kd.R_alloc | apply Kd.R_drewN | apply Kd.R_drew)); exact Kd.R_mono (Kd.R_far (p := ⟨gb510, 3, none⟩) (Kd.R_far (p := ⟨gb510, 2, none⟩) (Kd.R_far (p := ⟨gb510, 1, none⟩) (Kd.R_far (p := ⟨gb510, 0, none⟩) (Kd.R_far (p := ⟨gb509, 1, none⟩) (Kd.R_far (p := ⟨gb509, 0, none⟩) (Kd.R_types (Kd.R_types HO531.out BK509.out (by decide)) BK510.out (by decide)) (fun _ hk => hk.1.2) (.slice Ao11 t514.length co11)) (fun _ hk => hk.1.2) (.slice Ao16 t517.length co16)) (fun _ hk => hk.2) (.int .i64 t526)) (fun _ hk => hk.2) (.int .i64 t527)) (fun _ hk => hk.2) (.int .i64 t528)) (fun _ hk => hk.2) (.slice Ao26 t529.length co26)) (fun _ hk => trivial), by exact bw HB.out⟩

/-! ### impl_kindIn: function 55 -/
def impl_kindIn.l0 : Nat → ByteArray → List (S77) → Int → Int → Option (Int)
 | 0, _, _, _, _ => none
 | k + 1, x1, x7, x8, x9 => if x9 < x8 then (if 0 ≤ x9 then (if x9 < (x7.length : Int) then (if ((rd_T77 x7 x9).f0).toList = x1.toList then (some ((rd_T77 x7 x9).f1)) else (impl_kindIn.l0 k x1 x7 x8 (wrap64 (x9 + 1)))) else (none)) else (none)) else (some 0)
def impl_kindIn.f (k : Nat) (l0 : List (S77)) (a1 : ByteArray) : Option (Int) := impl_kindIn.l0 k a1 l0 (l0.length : Int) 0
theorem impl_kindIn.mono_l : ∀ k, (∀ y0 y1 y2 y3, LeO (impl_kindIn.l0 k y0 y1 y2 y3) (impl_kindIn.l0 (k + 1) y0 y1 y2 y3))
 | 0 => fun _ _ _ _ r h => by simp [impl_kindIn.l0] at h
 | k + 1 => by
  have ih0 := impl_kindIn.mono_l k
  ·
   intro y0 y1 y2 y3
   unfold impl_kindIn.l0
   repeat' first
   | (with_reducible exact ih0 _ _ _ _)
   | (with_reducible exact LeO.refl _)
   | (with_reducible exact LeO.none _)
   | (with_reducible refine LeO.ite ?_ ?_)
   | (with_reducible refine LeO.bind ?_ (fun _ => ?_))
   | exact ih0 _ _ _ _
   | exact LeO.none _
   | refine LeO.ite ?_ ?_
   | refine LeO.bind ?_ (fun _ => ?_)
theorem impl_kindIn.mono : ∀ a0 a1 k, LeO (impl_kindIn.f k a0 a1) (impl_kindIn.f (k + 1) a0 a1) := by
 intro a0 a1 k
 have ih0 := impl_kindIn.mono_l k
 unfold impl_kindIn.f
 repeat' first
   | (with_reducible exact ih0 _ _ _ _)
   | (with_reducible exact LeO.refl _)
   | (with_reducible exact LeO.none _)
   | (with_reducible refine LeO.ite ?_ ?_)
   | (with_reducible refine LeO.bind ?_ (fun _ => ?_))
   | exact ih0 _ _ _ _
   | exact LeO.none _
   | refine LeO.ite ?_ ?_
   | refine LeO.bind ?_ (fun _ => ?_)
set_option maxHeartbeats 8000000 in
set_option maxRecDepth 100000 in
theorem impl_kindIn.calls (k : Nat) (A0 : Option Addr) (c0 : Nat) (l0 : List (S77)) (a1 : ByteArray) (r : Int) (w : World) (hr0 : Kd.C k77 w A0 l0.length l0) (hc0 : l0.length ≤ c0) (h : impl_kindIn.f k l0 a1 = some r) :
  Calls Try.prog 55 #[.slice A0 l0.length c0, .string a1] w fun e w' => e = .returned (.int .i64 r) ∧ Below w.heap.size w w' := by
 have hu77 := Try.underlying77
 have HR0 := Aside0.mk hr0
 have HC0 := Aside0.mk hc0
 clear hr0 hc0
 have HB := Aside0.mk (Below.refl w.heap.size w)
 have H : (impl_kindIn.l0 k a1 l0 (l0.length : Int) 0) = some r := h
 clear h
 have H' := Aside0.mk H
 clear H
 go_enter Try.func55, Try.ntmps55
 go_wp2
 go_loopg [9] k (fun kq v9 w' => ∃ (x9_1 : Int), v9 = .int .i64 x9_1 ∧ Aside0 (impl_kindIn.l0 kq a1 l0 (l0.length : Int) x9_1 = some r) ∧ Aside0 (kq ≤ k) ∧ Aside0 (Below w.heap.size w w'))
 case atStart => exact ⟨(0), (by first | rfl | (simp; done) | (simp [*]; done)), H', ⟨Nat.le_refl _⟩, ⟨by exact bw HB.out⟩⟩
 case round =>
  clear H'
  try clear p2
  obtain ⟨x9_1, rfl, HA, HK1, HB⟩ := hrel
  cases gk with
  | zero => exact absurd HA.out (by simp [impl_kindIn.l0])
  | succ k1 =>
   have H := HA.out
   clear HA
   simp only [impl_kindIn.l0] at H
   by_cases c3 : x9_1 < (l0.length : Int)
   ·
    rw [if_pos c3] at H; have c3b0 : decide (x9_1 < (l0.length : Int)) = true := decide_eq_true c3; clear c3
    by_cases c4 : 0 ≤ x9_1
    ·
     rw [if_pos c4] at H; have c4b0 : decide (0 ≤ x9_1) = true := decide_eq_true c4; clear c4
     by_cases c5 : x9_1 < (l0.length : Int)
     ·
      rw [if_pos c5] at H; have c5b0 : decide (x9_1 < (l0.length : Int)) = true := decide_eq_true c5; clear c5
      by_cases c6 : ((rd_T77 l0 x9_1).f0).toList = a1.toList
      ·
       rw [if_pos c6] at H; obtain ⟨c6b0, c6b1⟩ := eqY c6; clear c6
       obtain rfl := Option.some.inj H
       have p533 : 0 ≤ (x9_1 : Int) := of_decide_eq_true (by first | (with_reducible assumption) | assumption)
       have q533 : x9_1 < (l0.length : Int) := of_decide_eq_true (by first | (with_reducible assumption) | assumption)
       obtain ⟨ad533, e533, hx533_0, hx533_1⟩ := at_T77 HR0.out x9_1 p533 q533
       cases e533
       first | replace hx533_0 := (HB.out.cell (World.block_lt_of_cell? w _ hx533_0)).trans hx533_0 | skip
       first | replace hx533_1 := (HB.out.cell (World.block_lt_of_cell? w _ hx533_1)).trans hx533_1 | skip
       replace p533 := eq_true p533
       replace q533 := eq_true q533
       go_wp2_with (first | ((with_reducible refine gate_dst (N := 6) rfl ?_); refine bx 6 #[.string (⟨#[]⟩ : ByteArray), .int .i64 0] 77 ?_; intro gb534 hg w7 hbox hb; have BK534 := Aside0.mk (hbox); have GW534 := gwB HB hg; have GE534 := gwB HB hg; replace HB := bS HB hb; clear hb hbox hg; obtain ⟨hcz8_0, hcz8_1⟩ := cs2 BK534.out; obtain ⟨hfz8_0, hfz8_1⟩ := fz2 BK534.out))
       go_ret
       exact ⟨by first | rfl | (simp [errW_none, errW_some] <;> rfl) | (simp [*, errW_none, errW_some] <;> rfl), by exact bw HB.out⟩
      ·
       rw [if_neg c6] at H; obtain ⟨c6b0, c6b1⟩ := eqN c6
       have H' := Aside0.mk H
       clear H
       have p533 : 0 ≤ (x9_1 : Int) := of_decide_eq_true (by first | (with_reducible assumption) | assumption)
       have q533 : x9_1 < (l0.length : Int) := of_decide_eq_true (by first | (with_reducible assumption) | assumption)
       obtain ⟨ad533, e533, hx533_0, hx533_1⟩ := at_T77 HR0.out x9_1 p533 q533
       cases e533
       first | replace hx533_0 := (HB.out.cell (World.block_lt_of_cell? w _ hx533_0)).trans hx533_0 | skip
       first | replace hx533_1 := (HB.out.cell (World.block_lt_of_cell? w _ hx533_1)).trans hx533_1 | skip
       replace p533 := eq_true p533
       replace q533 := eq_true q533
       go_wp2_with (first | ((with_reducible refine gate_dst (N := 6) rfl ?_); refine bx 6 #[.string (⟨#[]⟩ : ByteArray), .int .i64 0] 77 ?_; intro gb534 hg w9 hbox hb; have BK534 := Aside0.mk (hbox); have GW534 := gwB HB hg; have GE534 := gwB HB hg; replace HB := bS HB hb; clear hb hbox hg; obtain ⟨hcz10_0, hcz10_1⟩ := cs2 BK534.out; obtain ⟨hfz10_0, hfz10_1⟩ := fz2 BK534.out))
       go_roundg k1
       case measure => have := HK1.out; omega
       case rel => exact ⟨(wrap64 (x9_1 + 1)), (by first | rfl | (simp; done) | (simp [*]; done)), H', ⟨by have := HK1.out; omega⟩, ⟨by exact bw HB.out⟩⟩
     ·
      rw [if_neg c5] at H; exact absurd H (by simp)
    ·
     rw [if_neg c4] at H; exact absurd H (by simp)
   ·
    rw [if_neg c3] at H; have c3b0 : decide (x9_1 < (l0.length : Int)) = false := decide_eq_false c3; clear c3
    obtain rfl := Option.some.inj H
    go_wp2
    go_ret
    exact ⟨by first | rfl | (simp [errW_none, errW_some] <;> rfl) | (simp [*, errW_none, errW_some] <;> rfl), by exact bw HB.out⟩

end Go.Proofs.Ytoipfhdlgoaldaa.P
