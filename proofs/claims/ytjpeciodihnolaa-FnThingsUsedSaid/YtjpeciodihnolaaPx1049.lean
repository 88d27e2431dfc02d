-- Written by a program of this session (wip/tool).
import Derived.Test.YtjpeciodihnolaaPx0
import Derived.Test.YtjpeciodihnolaaPx1036
namespace Go.Proofs.Ytjpeciodihnolaa.P
open Go.RowKit Go.Proofs.YtjpeciodihnolaaW.PrintWords Go.Proofs.YtjpeciodihnolaaW.PrintLast Go.Proofs.YtjpeciodihnolaaW.PrintMore
attribute [local go_sem] max2_int min2_int max_two min_two max_three min_three max_four min_four   -- for this text's walks alone
set_option linter.unusedVariables false
set_option linter.unusedSimpArgs false

/-! ### spec_l20Thing: function 49 -/
def spec_l20Thing.f : Nat → List Int → Int → Int → Option (Int × Int × ByteArray × (List (S25)) × Int)
 | 0, _, _, _ => none
 | k + 1, s0_0, s0_1, a1 => (spec_l20Rd_pick.f k s0_0 s0_1 5).bind fun bt105 => (if bt105.1 = 0 then (some (5, 0, (⟨#[]⟩ : ByteArray), ([] : List (S25)), bt105.2)) else (if bt105.1 = 1 then ((spec_l20Rd_pick.f k s0_0 bt105.2 4).bind fun bt107 => (some (3, bt107.1, (⟨#[]⟩ : ByteArray), ([] : List (S25)), bt107.2))) else (if bt105.1 = 2 then ((some (([(⟨#[111, 119, 110, 101, 114]⟩ : ByteArray), (⟨#[98, 111, 115, 115]⟩ : ByteArray)] : List ByteArray) : List ByteArray)).bind fun y109 => ((spec_l20Rd_pick.f k s0_0 bt105.2 2).bind fun bt112 => (if 0 ≤ bt112.1 then (if bt112.1 < (y109.length : Int) then (some (7, 0, rdOf ByteArray.empty y109 bt112.1, ([] : List (S25)), bt112.2)) else (none)) else (none)))) else (if bt105.1 = 3 then (if a1 > 0 then ((some (([(⟨#[111, 119, 110, 101, 114]⟩ : ByteArray), (⟨#[98, 111, 115, 115]⟩ : ByteArray)] : List ByteArray) : List ByteArray)).bind fun y115 => ((spec_l20Rd_pick.f k s0_0 bt105.2 2).bind fun bt118 => (if 0 ≤ bt118.1 then (if bt118.1 < (y115.length : Int) then ((spec_l20Thing.f k s0_0 bt118.2 (wrap64 (a1 - 1))).bind fun bt121 => (some (8, 0, rdOf ByteArray.empty y115 bt118.1, (([(⟨bt121.1, bt121.2.1, bt121.2.2.1, bt121.2.2.2.1⟩ : S25)] : List (S25))), bt121.2.2.2.2))) else (none)) else (none)))) else (some (4, 0, (⟨#[]⟩ : ByteArray), ([] : List (S25)), bt105.2))) else (some (4, 0, (⟨#[]⟩ : ByteArray), ([] : List (S25)), bt105.2))))))
theorem spec_l20Thing.mono_l : ∀ k, (∀ y0 y1 y2, LeO (spec_l20Thing.f k y0 y1 y2) (spec_l20Thing.f (k + 1) y0 y1 y2))
 | 0 => fun _ _ _ r h => by simp [spec_l20Thing.f] at h
 | k + 1 => by
  have ih0 := spec_l20Thing.mono_l k
  ·
   intro y0 y1 y2
   unfold spec_l20Thing.f
   repeat' first
   | (with_reducible exact ih0 _ _ _)
   | (with_reducible exact spec_l20Rd_pick.mono _ _ _ _)
   | (with_reducible exact LeO.refl _)
   | (with_reducible exact LeO.none _)
   | (with_reducible refine LeO.ite ?_ ?_)
   | (with_reducible refine LeO.bind ?_ (fun _ => ?_))
   | exact ih0 _ _ _
   | exact spec_l20Rd_pick.mono _ _ _ _
   | exact LeO.none _
   | refine LeO.ite ?_ ?_
   | refine LeO.bind ?_ (fun _ => ?_)
theorem spec_l20Thing.mono : ∀ a0 a1 a2 k, LeO (spec_l20Thing.f k a0 a1 a2) (spec_l20Thing.f (k + 1) a0 a1 a2) := by
 intro a0 a1 a2 k
 have ih0 := spec_l20Thing.mono_l k
 exact ih0 a0 a1 a2
def spec_l20Thing.T10 : Bool × List (List Nat × List Nat) := (true, [([], []), ([], []), ([1], [1]), ([0, 2], [0, 2]), ([3], [3]), ([], []), ([], []), ([6], [6]), ([5, 7, 2], [5, 7]), ([8], [8]), ([4, 9], [4, 9]), ([10, 8, 0, 1, 2, 3, 4, 5, 6, 7, 8, 9, 10], [10])])
def spec_l20Thing.B10 : List Nat := [0, 0, 2, 7, 15, 0, 0, 64, 230, 486, 1023, 2047]
theorem spec_l20Thing.tab10 : rtab .any (opsOf Try.f49 10) = spec_l20Thing.T10 := by kernel_rfl
theorem spec_l20Thing.bits10 : waitsOk spec_l20Thing.T10.2 spec_l20Thing.B10 = true := by kernel_rfl
set_option maxHeartbeats 8000000 in
set_option maxRecDepth 100000 in
theorem spec_l20Thing.calls0 (k : Nat) : ∀ (g : Nat) (s0_0 : List Int) (s0_1 : Int) (a1 : Int) (r1 : Int) (r2 : Int) (r3 : ByteArray) (r4 : List (S25)) (r5 : Int) (w0 w : World) (hI : IsS75 w0 w g s0_0 s0_1) (hB : Below w0.heap.size w0 w) (h : spec_l20Thing.f k s0_0 s0_1 a1 = some (r1, r2, r3, r4, r5)),
  Calls Try.prog 49 #[.pointer (some ⟨g, 0, none⟩), .int .i64 a1] w fun e w' => ∃ v3_ : Value, e = .returned (.agg #[.int .i64 r1, .int .i64 r2, .string r3, v3_]) ∧ Kd.N k25 25 w' w.heap.size (fun k_ => (w.heap.size ≤ k_)) v3_ r4 ∧ IsS75 w0 w' g s0_0 r5 ∧ Below w0.heap.size w0 w' ∧ KeepBut w w' g none := by
 induction k using Nat.strongRecOn with
 | _ k ih =>
 intro g s0_0 s0_1 a1 r1 r2 r3 r4 r5 w0 w hI hB h
 cases k with
 | zero => exact absurd h (by simp [spec_l20Thing.f])
 | succ k =>
 simp only [spec_l20Thing.f] at h
 have hu25 := Try.underlying25
 have HI0 := Aside0.mk hI
 have HK := Aside0.mk (KeepBut.refl w g none)
 have HL := Aside0.mk hB.size
 have HG0 := Aside0.mk (IsS75.ge hI)
 clear hI
 have HW0 := Aside0.mk hB.size
 have HB := Aside0.mk hB
 clear hB
 have H : ((spec_l20Rd_pick.f k s0_0 s0_1 5).bind fun bt105 => (if bt105.1 = 0 then (some (5, 0, (⟨#[]⟩ : ByteArray), ([] : List (S25)), bt105.2)) else (if bt105.1 = 1 then ((spec_l20Rd_pick.f k s0_0 bt105.2 4).bind fun bt107 => (some (3, bt107.1, (⟨#[]⟩ : ByteArray), ([] : List (S25)), bt107.2))) else (if bt105.1 = 2 then ((some (([(⟨#[111, 119, 110, 101, 114]⟩ : ByteArray), (⟨#[98, 111, 115, 115]⟩ : ByteArray)] : List ByteArray) : List ByteArray)).bind fun y109 => ((spec_l20Rd_pick.f k s0_0 bt105.2 2).bind fun bt112 => (if 0 ≤ bt112.1 then (if bt112.1 < (y109.length : Int) then (some (7, 0, rdOf ByteArray.empty y109 bt112.1, ([] : List (S25)), bt112.2)) else (none)) else (none)))) else (if bt105.1 = 3 then (if a1 > 0 then ((some (([(⟨#[111, 119, 110, 101, 114]⟩ : ByteArray), (⟨#[98, 111, 115, 115]⟩ : ByteArray)] : List ByteArray) : List ByteArray)).bind fun y115 => ((spec_l20Rd_pick.f k s0_0 bt105.2 2).bind fun bt118 => (if 0 ≤ bt118.1 then (if bt118.1 < (y115.length : Int) then ((spec_l20Thing.f k s0_0 bt118.2 (wrap64 (a1 - 1))).bind fun bt121 => (some (8, 0, rdOf ByteArray.empty y115 bt118.1, (([(⟨bt121.1, bt121.2.1, bt121.2.2.1, bt121.2.2.2.1⟩ : S25)] : List (S25))), bt121.2.2.2.2))) else (none)) else (none)))) else (some (4, 0, (⟨#[]⟩ : ByteArray), ([] : List (S25)), bt105.2))) else (some (4, 0, (⟨#[]⟩ : ByteArray), ([] : List (S25)), bt105.2))))))) = some (r1, r2, r3, r4, r5) := h
 clear h
 replace H := Option.bind_eq_some_iff.mp H
 obtain ⟨⟨t105, t106⟩, A30, H⟩ := H
 replace H : (if t105 = 0 then (some (5, 0, (⟨#[]⟩ : ByteArray), ([] : List (S25)), t106)) else (if t105 = 1 then ((spec_l20Rd_pick.f k s0_0 t106 4).bind fun bt107 => (some (3, bt107.1, (⟨#[]⟩ : ByteArray), ([] : List (S25)), bt107.2))) else (if t105 = 2 then ((some (([(⟨#[111, 119, 110, 101, 114]⟩ : ByteArray), (⟨#[98, 111, 115, 115]⟩ : ByteArray)] : List ByteArray) : List ByteArray)).bind fun y109 => ((spec_l20Rd_pick.f k s0_0 t106 2).bind fun bt112 => (if 0 ≤ bt112.1 then (if bt112.1 < (y109.length : Int) then (some (7, 0, rdOf ByteArray.empty y109 bt112.1, ([] : List (S25)), bt112.2)) else (none)) else (none)))) else (if t105 = 3 then (if a1 > 0 then ((some (([(⟨#[111, 119, 110, 101, 114]⟩ : ByteArray), (⟨#[98, 111, 115, 115]⟩ : ByteArray)] : List ByteArray) : List ByteArray)).bind fun y115 => ((spec_l20Rd_pick.f k s0_0 t106 2).bind fun bt118 => (if 0 ≤ bt118.1 then (if bt118.1 < (y115.length : Int) then ((spec_l20Thing.f k s0_0 bt118.2 (wrap64 (a1 - 1))).bind fun bt121 => (some (8, 0, rdOf ByteArray.empty y115 bt118.1, (([(⟨bt121.1, bt121.2.1, bt121.2.2.1, bt121.2.2.2.1⟩ : S25)] : List (S25))), bt121.2.2.2.2))) else (none)) else (none)))) else (some (4, 0, (⟨#[]⟩ : ByteArray), ([] : List (S25)), t106))) else (some (4, 0, (⟨#[]⟩ : ByteArray), ([] : List (S25)), t106)))))) = some (r1, r2, r3, r4, r5) := H
 have A3 := Aside0.mk A30
 clear A30
 by_cases c4 : t105 = 0
 ·
  rw [if_pos c4] at H; obtain ⟨c4b0, c4b1⟩ := eqY c4; clear c4
  simp only [Option.some.injEq, Prod.mk.injEq] at H
  obtain ⟨rfl, rfl, rfl, rfl, rfl⟩ := H
  go_enter Try.func49, Try.ntmps49
  go_wp2_with (first | ((with_reducible refine gate_dst (N := 4) rfl ?_); refine bx 4 #[.int .i64 0, .int .i64 0, .string (⟨#[]⟩ : ByteArray), .slice none 0 0] 25 ?_; intro gb104 hg w5 hbox hb; replace HB := bS HB hb; have BK104 := Aside0.mk (hbox); have GW104 := gwK HK hg; have GE104 := gwE HW0 (gwK HK hg); replace HK := kTb HK hb; have NB0_104 := il75 HI0 hg; have NB104_0 := ir75 HI0 hg; replace HI0 := ib75 HI0 hb; clear hb hbox hg) | ((with_reducible refine gate_callee (f := 36) rfl ?_); refine gl (some 6) Try.func36 #[.pointer (some ⟨g, 0, none⟩), .int .i64 5] ?_; (with_reducible refine (spec_l20Rd_pick.calls k g s0_0 s0_1 5 t105 t106 w0 _ ?side1 ?side2 A3.out).mono ?_); (case side1 => exact sw75 HI0.out); (case side2 => exact bw HB.out); rintro e w6 ⟨rfl, hi, hb, hk⟩; refine ⟨_, rfl, ?_⟩; replace BK104 := kB hk BK104 NB104_0; replace HK := kT HK hk; replace HB := Aside0.mk (hb); replace HI0 := Aside0.mk (hi); (try clear hb); (try clear hb2); (try clear hk); (try clear hi); have hnb7 := NB104_0.out; have hnc7 := NB0_104.out; obtain ⟨hcz8_0, hcz8_1, hcz8_2, hcz8_3⟩ := cs4 BK104.out; obtain ⟨hfz8_0, hfz8_1, hfz8_2, hfz8_3⟩ := fz4 BK104.out))
  refine bodyPost_ret (results_cell_row rfl _ _ gb104 25 #[.int .i64 5, .int .i64 0, .string (⟨#[]⟩ : ByteArray), .slice none 0 0] (0, 0) _ rfl (bp BK104) Try.underlying25 rfl (by kernel_rfl)) rfl ?_
  exact ⟨_, by first | rfl | (simp [errW_none, errW_some] <;> rfl) | (simp [*, errW_none, errW_some] <;> rfl), by first | exact Kd.R_nil _ _ _ _ _ | exact Kd.N_nil _ _ _ _ _ | exact Kd.V_nil _ _ _ _ _ | exact Kd.Q_nil _ _ _ _ _ | exact Kd.S_nil _ _ _ _ _, by exact sw75 HI0.out, by exact bw HB.out, by exact kw HK.out⟩
 ·
  rw [if_neg c4] at H; obtain ⟨c4b0, c4b1⟩ := eqN c4
  by_cases c9 : t105 = 1
  ·
   rw [if_pos c9] at H; obtain ⟨c9b0, c9b1⟩ := eqY c9; clear c9
   replace H := Option.bind_eq_some_iff.mp H
   obtain ⟨⟨t107, t108⟩, A100, H⟩ := H
   replace H : (some (3, t107, (⟨#[]⟩ : ByteArray), ([] : List (S25)), t108)) = some (r1, r2, r3, r4, r5) := H
   have A10 := Aside0.mk A100
   clear A100
   simp only [Option.some.injEq, Prod.mk.injEq] at H
   obtain ⟨rfl, rfl, rfl, rfl, rfl⟩ := H
   go_enter Try.func49, Try.ntmps49
   go_wp2_with (first | ((with_reducible refine gate_dst (N := 4) rfl ?_); refine bx 4 #[.int .i64 0, .int .i64 0, .string (⟨#[]⟩ : ByteArray), .slice none 0 0] 25 ?_; intro gb104 hg w11 hbox hb; replace HB := bS HB hb; have BK104 := Aside0.mk (hbox); have GW104 := gwK HK hg; have GE104 := gwE HW0 (gwK HK hg); replace HK := kTb HK hb; have NB0_104 := il75 HI0 hg; have NB104_0 := ir75 HI0 hg; replace HI0 := ib75 HI0 hb; clear hb hbox hg) | ((with_reducible refine gate_callee (f := 36) rfl ?_); refine gl (some 6) Try.func36 #[.pointer (some ⟨g, 0, none⟩), .int .i64 5] ?_; (with_reducible refine (spec_l20Rd_pick.calls k g s0_0 s0_1 5 t105 t106 w0 _ ?side1 ?side2 A3.out).mono ?_); (case side1 => exact sw75 HI0.out); (case side2 => exact bw HB.out); rintro e w12 ⟨rfl, hi, hb, hk⟩; refine ⟨_, rfl, ?_⟩; replace BK104 := kB hk BK104 NB104_0; replace HK := kT HK hk; replace HB := Aside0.mk (hb); replace HI0 := Aside0.mk (hi); (try clear hb); (try clear hb2); (try clear hk); (try clear hi)) | ((with_reducible refine gate_callee (f := 36) rfl ?_); refine gl (some 13) Try.func36 #[.pointer (some ⟨g, 0, none⟩), .int .i64 4] ?_; (with_reducible refine (spec_l20Rd_pick.calls k g s0_0 t106 4 t107 t108 w0 _ ?side1 ?side2 A10.out).mono ?_); (case side1 => exact sw75 HI0.out); (case side2 => exact bw HB.out); rintro e w13 ⟨rfl, hi, hb, hk⟩; refine ⟨_, rfl, ?_⟩; replace BK104 := kB hk BK104 NB104_0; replace HK := kT HK hk; replace HB := Aside0.mk (hb); replace HI0 := Aside0.mk (hi); (try clear hb); (try clear hb2); (try clear hk); (try clear hi); have hnb14 := NB104_0.out; have hnc14 := NB0_104.out; obtain ⟨hcz15_0, hcz15_1, hcz15_2, hcz15_3⟩ := cs4 BK104.out; obtain ⟨hfz15_0, hfz15_1, hfz15_2, hfz15_3⟩ := fz4 BK104.out))
   refine bodyPost_ret (results_cell_row rfl _ _ gb104 25 #[.int .i64 3, .int .i64 t107, .string (⟨#[]⟩ : ByteArray), .slice none 0 0] (0, 0) _ rfl (bp BK104) Try.underlying25 rfl (by kernel_rfl)) rfl ?_
   exact ⟨_, by first | rfl | (simp [errW_none, errW_some] <;> rfl) | (simp [*, errW_none, errW_some] <;> rfl), by first | exact Kd.R_nil _ _ _ _ _ | exact Kd.N_nil _ _ _ _ _ | exact Kd.V_nil _ _ _ _ _ | exact Kd.Q_nil _ _ _ _ _ | exact Kd.S_nil _ _ _ _ _, by exact sw75 HI0.out, by exact bw HB.out, by exact kw HK.out⟩
  ·
   rw [if_neg c9] at H; obtain ⟨c9b0, c9b1⟩ := eqN c9
   by_cases c16 : t105 = 2
   ·
    rw [if_pos c16] at H; obtain ⟨c16b0, c16b1⟩ := eqY c16; clear c16
    obtain ⟨y109, hy109⟩ : ∃ y_ : List ByteArray, y_ = (([(⟨#[111, 119, 110, 101, 114]⟩ : ByteArray), (⟨#[98, 111, 115, 115]⟩ : ByteArray)] : List ByteArray)) := ⟨_, rfl⟩
    replace H : ((spec_l20Rd_pick.f k s0_0 t106 2).bind fun bt112 => (if 0 ≤ bt112.1 then (if bt112.1 < (y109.length : Int) then (some (7, 0, rdOf ByteArray.empty y109 bt112.1, ([] : List (S25)), bt112.2)) else (none)) else (none))) = some (r1, r2, r3, r4, r5) := by first | (rw [hy109]; with_reducible exact H) | (have H2_ := (Option.bind_some _ _).symm.trans H; rw [hy109]; with_reducible exact H2_) | (have H2_ := (Option.bind_some _ _).symm.trans H; with_reducible exact H2_) | with_reducible exact H | (rw [hy109]; exact H) | exact H
    have Ny109 := Aside0.mk hy109
    clear hy109
    replace H := Option.bind_eq_some_iff.mp H
    obtain ⟨⟨t112, t113⟩, A170, H⟩ := H
    replace H : (if 0 ≤ t112 then (if t112 < (y109.length : Int) then (some (7, 0, rdOf ByteArray.empty y109 t112, ([] : List (S25)), t113)) else (none)) else (none)) = some (r1, r2, r3, r4, r5) := H
    have A17 := Aside0.mk A170
    clear A170
    by_cases c18 : 0 ≤ t112
    ·
     rw [if_pos c18] at H; have c18b0 : decide (0 ≤ t112) = true := decide_eq_true c18; clear c18
     by_cases c19 : t112 < (y109.length : Int)
     ·
      rw [if_pos c19] at H; have c19b0 : decide (t112 < (y109.length : Int)) = true := decide_eq_true c19; clear c19
      simp only [Option.some.injEq, Prod.mk.injEq] at H
      obtain ⟨rfl, rfl, rfl, rfl, rfl⟩ := H
      go_enter Try.func49, Try.ntmps49
      go_wp2_with (first | ((with_reducible refine gate_dst (N := 4) rfl ?_); refine bx 4 #[.int .i64 0, .int .i64 0, .string (⟨#[]⟩ : ByteArray), .slice none 0 0] 25 ?_; intro gb104 hg w20 hbox hb; replace HB := bS HB hb; have BK104 := Aside0.mk (hbox); have GW104 := gwK HK hg; have GE104 := gwE HW0 (gwK HK hg); replace HK := kTb HK hb; have NB0_104 := il75 HI0 hg; have NB104_0 := ir75 HI0 hg; replace HI0 := ib75 HI0 hb; clear hb hbox hg) | ((with_reducible refine gate_callee (f := 36) rfl ?_); refine gl (some 6) Try.func36 #[.pointer (some ⟨g, 0, none⟩), .int .i64 5] ?_; (with_reducible refine (spec_l20Rd_pick.calls k g s0_0 s0_1 5 t105 t106 w0 _ ?side1 ?side2 A3.out).mono ?_); (case side1 => exact sw75 HI0.out); (case side2 => exact bw HB.out); rintro e w21 ⟨rfl, hi, hb, hk⟩; refine ⟨_, rfl, ?_⟩; replace BK104 := kB hk BK104 NB104_0; replace HK := kT HK hk; replace HB := Aside0.mk (hb); replace HI0 := Aside0.mk (hi); (try clear hb); (try clear hb2); (try clear hk); (try clear hi)) | ((with_reducible refine gate_dst (N := 17) rfl ?_); refine Kd.R_lit Kd.string _ 9 ?hg (N := 17) ?hd (xs := ([(⟨#[111, 119, 110, 101, 114]⟩ : ByteArray), (⟨#[98, 111, 115, 115]⟩ : ByteArray)] : List ByteArray)) (inner := [.string (⟨#[111, 119, 110, 101, 114]⟩ : ByteArray), .string (⟨#[98, 111, 115, 115]⟩ : ByteArray)]) (ok := fun _ => True) (okp := fun _ => True) ?hr ?hp (fun _ hk => hk) trivial (Below.refl _ _) (Nat.le_refl _) (by simp) ?_; (case hd => rfl); (case hg => rfl); (case hr => first | (go_simp; done) | (go_simp; rfl)); (case hp => exact (Reps.one (show Kd.M Kd.string _ _ _ (⟨#[111, 119, 110, 101, 114]⟩ : ByteArray) [.string (⟨#[111, 119, 110, 101, 114]⟩ : ByteArray)] from rfl) (Reps.one (show Kd.M Kd.string _ _ _ (⟨#[98, 111, 115, 115]⟩ : ByteArray) [.string (⟨#[98, 111, 115, 115]⟩ : ByteArray)] from rfl) (Reps.none _ _)))); intro v110 w22 ho23 hb hg_ hnew_; clear hg_ hnew_; (first | rw [← Ny109.out] at ho23 | (simp only [Int.reduceToNat] at ho23; rw [← Ny109.out] at ho23)); have HO111 := Aside0.mk (Kd.R_lower (Kd.R_newM (M := fun k_ => (w.heap.size ≤ k_)) ho23 (kz HK) (fun k_ h_ => h_)) (kz HK)); replace HI0 := ib75 HI0 hb; replace BK104 := bB BK104 hb; replace HK := kTb HK hb; replace HB := bS HB hb; clear hb ho23) | ((with_reducible refine gate_callee (f := 36) rfl ?_); refine gl (some 19) Try.func36 #[.pointer (some ⟨g, 0, none⟩), .int .i64 2] ?_; (with_reducible refine (spec_l20Rd_pick.calls k g s0_0 t106 2 t112 t113 w0 _ ?side1 ?side2 A17.out).mono ?_); (case side1 => exact sw75 HI0.out); (case side2 => exact bw HB.out); rintro e w24 ⟨rfl, hi, hb, hk⟩; refine ⟨_, rfl, ?_⟩; replace BK104 := kB hk BK104 NB104_0; replace HO111 := Aside0.mk (Kd.R_mono (Kd.R_keep (IsS75.apart (show IsS75 w0 _ g s0_0 t106 from by exact sw75 HI0.out) (by exact Kd.xR HO111.out) (by decide)) hk (fun _ h => h.2)) (fun _ h => h.1)); replace HK := kT HK hk; replace HB := Aside0.mk (hb); replace HI0 := Aside0.mk (hi); (try clear hb); (try clear hb2); (try clear hk); (try clear hi); obtain ⟨Ao25, co25, eo25⟩ := Kd.R_slice HO111.out; subst eo25; have p114 : 0 ≤ (t112 : Int) := of_decide_eq_true (by first | (with_reducible assumption) | assumption); have q114 : t112 < (y109.length : Int) := of_decide_eq_true (by first | (with_reducible assumption) | assumption); obtain ⟨ad114, e114, hx114_0⟩ := Kd.at_string (Kd.R_reads' HO111.out).2.2 t112 p114 q114; cases e114; replace p114 := eq_true p114; replace q114 := eq_true q114; have hnb26 := NB104_0.out; have hnc26 := NB0_104.out; obtain ⟨hcz27_0, hcz27_1, hcz27_2, hcz27_3⟩ := cs4 BK104.out; obtain ⟨hfz27_0, hfz27_1, hfz27_2, hfz27_3⟩ := fz4 BK104.out))
      refine bodyPost_ret (results_cell_row rfl _ _ gb104 25 #[.int .i64 7, .int .i64 0, .string (rdOf ByteArray.empty y109 t112), .slice none 0 0] (0, 0) _ rfl (bp BK104) Try.underlying25 rfl (by kernel_rfl)) rfl ?_
      exact ⟨_, by first | rfl | (simp [errW_none, errW_some] <;> rfl) | (simp [*, errW_none, errW_some] <;> rfl), by first | exact Kd.R_nil _ _ _ _ _ | exact Kd.N_nil _ _ _ _ _ | exact Kd.V_nil _ _ _ _ _ | exact Kd.Q_nil _ _ _ _ _ | exact Kd.S_nil _ _ _ _ _, by exact sw75 HI0.out, by exact bw HB.out, by exact kw HK.out⟩
     ·
      rw [if_neg c19] at H; exact absurd H (by simp)
    ·
     rw [if_neg c18] at H; exact absurd H (by simp)
   ·
    rw [if_neg c16] at H; obtain ⟨c16b0, c16b1⟩ := eqN c16
    by_cases c28 : t105 = 3
    ·
     rw [if_pos c28] at H; obtain ⟨c28b0, c28b1⟩ := eqY c28; clear c28
     by_cases c29 : a1 > 0
     ·
      rw [if_pos c29] at H; have c29b0 : decide (0 < a1) = true := decide_eq_true c29; clear c29
      obtain ⟨y115, hy115⟩ : ∃ y_ : List ByteArray, y_ = (([(⟨#[111, 119, 110, 101, 114]⟩ : ByteArray), (⟨#[98, 111, 115, 115]⟩ : ByteArray)] : List ByteArray)) := ⟨_, rfl⟩
      replace H : ((spec_l20Rd_pick.f k s0_0 t106 2).bind fun bt118 => (if 0 ≤ bt118.1 then (if bt118.1 < (y115.length : Int) then ((spec_l20Thing.f k s0_0 bt118.2 (wrap64 (a1 - 1))).bind fun bt121 => (some (8, 0, rdOf ByteArray.empty y115 bt118.1, (([(⟨bt121.1, bt121.2.1, bt121.2.2.1, bt121.2.2.2.1⟩ : S25)] : List (S25))), bt121.2.2.2.2))) else (none)) else (none))) = some (r1, r2, r3, r4, r5) := by first | (rw [hy115]; with_reducible exact H) | (have H2_ := (Option.bind_some _ _).symm.trans H; rw [hy115]; with_reducible exact H2_) | (have H2_ := (Option.bind_some _ _).symm.trans H; with_reducible exact H2_) | with_reducible exact H | (rw [hy115]; exact H) | exact H
      have Ny115 := Aside0.mk hy115
      clear hy115
      replace H := Option.bind_eq_some_iff.mp H
      obtain ⟨⟨t118, t119⟩, A300, H⟩ := H
      replace H : (if 0 ≤ t118 then (if t118 < (y115.length : Int) then ((spec_l20Thing.f k s0_0 t119 (wrap64 (a1 - 1))).bind fun bt121 => (some (8, 0, rdOf ByteArray.empty y115 t118, (([(⟨bt121.1, bt121.2.1, bt121.2.2.1, bt121.2.2.2.1⟩ : S25)] : List (S25))), bt121.2.2.2.2))) else (none)) else (none)) = some (r1, r2, r3, r4, r5) := H
      have A30 := Aside0.mk A300
      clear A300
      by_cases c31 : 0 ≤ t118
      ·
       rw [if_pos c31] at H; have c31b0 : decide (0 ≤ t118) = true := decide_eq_true c31; clear c31
       by_cases c32 : t118 < (y115.length : Int)
       ·
        rw [if_pos c32] at H; have c32b0 : decide (t118 < (y115.length : Int)) = true := decide_eq_true c32; clear c32
        replace H := Option.bind_eq_some_iff.mp H
        obtain ⟨⟨t121, t122, t123, t124, t127⟩, A330, H⟩ := H
        replace H : (some (8, 0, rdOf ByteArray.empty y115 t118, (([(⟨t121, t122, t123, t124⟩ : S25)] : List (S25))), t127)) = some (r1, r2, r3, r4, r5) := H
        have A33 := Aside0.mk A330
        clear A330
        obtain ⟨y128, hy128⟩ : ∃ y_ : List (S25), y_ = (([(⟨t121, t122, t123, t124⟩ : S25)] : List (S25))) := ⟨_, rfl⟩
        replace H : (some (8, 0, rdOf ByteArray.empty y115 t118, y128, t127)) = some (r1, r2, r3, r4, r5) := by first | (rw [hy128]; with_reducible exact H) | (have H2_ := (Option.bind_some _ _).symm.trans H; rw [hy128]; with_reducible exact H2_) | (have H2_ := (Option.bind_some _ _).symm.trans H; with_reducible exact H2_) | with_reducible exact H | (rw [hy128]; exact H) | exact H
        have Ny128 := Aside0.mk hy128
        clear hy128
        simp only [Option.some.injEq, Prod.mk.injEq] at H
        obtain ⟨rfl, rfl, rfl, rfl, rfl⟩ := H
        go_enter Try.func49, Try.ntmps49
        try go_wp2_with (first | ((with_reducible refine gate_dst (N := 4) rfl ?_); refine bx 4 #[.int .i64 0, .int .i64 0, .string (⟨#[]⟩ : ByteArray), .slice none 0 0] 25 ?_; intro gb104 hg w34 hbox hb; replace HB := bS HB hb; have BK104 := Aside0.mk (hbox); have GW104 := gwK HK hg; have GE104 := gwE HW0 (gwK HK hg); replace HK := kTb HK hb; have NB0_104 := il75 HI0 hg; have NB104_0 := ir75 HI0 hg; replace HI0 := ib75 HI0 hb; clear hb hbox hg) | ((with_reducible refine gate_callee (f := 36) rfl ?_); refine gl (some 6) Try.func36 #[.pointer (some ⟨g, 0, none⟩), .int .i64 5] ?_; (with_reducible refine (spec_l20Rd_pick.calls k g s0_0 s0_1 5 t105 t106 w0 _ ?side1 ?side2 A3.out).mono ?_); (case side1 => exact sw75 HI0.out); (case side2 => exact bw HB.out); rintro e w35 ⟨rfl, hi, hb, hk⟩; refine ⟨_, rfl, ?_⟩; replace BK104 := kB hk BK104 NB104_0; replace HK := kT HK hk; replace HB := Aside0.mk (hb); replace HI0 := Aside0.mk (hi); (try clear hb); (try clear hb2); (try clear hk); (try clear hi)))
        have pi120 : (0 ≤ (t118 : Int)) = True := eq_true (of_decide_eq_true (by first | (with_reducible assumption) | assumption))
        have qi120 : (t118 < (y115.length : Int)) = True := eq_true (of_decide_eq_true (by first | (with_reducible assumption) | assumption))
        replace BK104 := Aside0.mk (blk_drew BK104.out)
        replace HI0 := Aside0.mk (IsS75.drew HI0.out)
        replace HK := Aside0.mk (keep_drew HK.out)
        replace HB := Aside0.mk (below_drew1 HB.out)
        refine start_ (n := 12) (S := fun w' => True) (ds := []) (mB 12 0) (by kernel_rfl) rfl rfl trivial (fun hHeld => ?_); refine with_tabW spec_l20Thing.tab10 spec_l20Thing.bits10 (fun HT_ HW_ => ?_)
        generalize w35.drew = w36 at BK104 HI0 HK HB hHeld ⊢
        refine pn 1 28 HT_.out ?_
        refine pn 5 32 HT_.out ?_
        refine pn 6 33 HT_.out ?_
        refine inv_at [0, 2, 3, 4, 7, 8, 9, 10, 11] (fun a0_ b a w' => ∃ (v116 : Value) (adz_v116 : Addr) (v125 : Value) (v129 : Value) (m3_ : Value) (m8_ : Value) (m10_ : Value), a = putSel a0_ b [(0, 27, v116), (2, 29, .int .i64 t118), (3, 30, m3_), (4, 31, .string (rdOf ByteArray.empty y115 t118)), (7, 34, .int .i64 (wrap64 (a1 - 1))), (8, 35, m8_), (9, 36, v129), (10, 37, m10_)] ∧ (b 11 = false → w'.heap[gb104]? = some (.cells #[.int .i64 0, .int .i64 0, .string (⟨#[]⟩ : ByteArray), .slice none 0 0] 25 (0, 0))) ∧ (b 2 = false → IsS75 w0 w' g s0_0 t106) ∧ (KeepBut w w' g none) ∧ (Below w0.heap.size w0 w') ∧ (b 0 = true → Kd.R Kd.string 9 w' w.heap.size (fun k_ => (w.heap.size ≤ k_)) v116 y115) ∧ (b 0 = true → ∃ c_, (v116 : Value) = .slice (some adz_v116) y115.length c_) ∧ (b 2 = true → b 8 = false → IsS75 w0 w' g s0_0 t119) ∧ (b 8 = true → b 9 = false → Kd.N k25 25 w' w.heap.size (fun k_ => (w.heap.size ≤ k_) ∧ k_ ≠ g ∧ k_ ≠ gb104) v125 t124) ∧ (b 8 = true → IsS75 w0 w' g s0_0 t127) ∧ (b 9 = true → Kd.N k25 25 w' w.heap.size (fun k_ => (w.heap.size ≤ k_) ∧ k_ ≠ g ∧ k_ ≠ gb104) v129 y128) ∧ (b 11 = true → w'.heap[gb104]? = some (.cells #[.int .i64 8, .int .i64 0, .string (rdOf ByteArray.empty y115 t118), v129] 25 (0, 0))) ∧ (b 3 = true → (m3_ : Value) = .pointer (some (adz_v116.add (t118).toNat))) ∧ (b 8 = true → (m8_ : Value) = .agg #[.int .i64 t121, .int .i64 t122, .string t123, v125]) ∧ (b 10 = true → (m10_ : Value) = .agg #[.int .i64 8, .int .i64 0, .string (rdOf ByteArray.empty y115 t118), v129])) HT_.out HW_.out (by kernel_rfl) (by kernel_rfl) ?_ ?_ ?_
        ·
         exact ⟨.bool false, ⟨0, 0, none⟩, .bool false, .bool false, .bool false, .bool false, .bool false, by simp only [putSel, Bool.false_eq_true, if_false], fun _ => BK104.out, fun _ => HI0.out, HK.out, HB.out, fun h_ => absurd h_ (by decide), fun h_ => absurd h_ (by decide), fun h_ => absurd h_ (by decide), fun h_ => absurd h_ (by decide), fun h_ => absurd h_ (by decide), fun h_ => absurd h_ (by decide), fun h_ => absurd h_ (by decide), fun h_ => absurd h_ (by decide), fun h_ => absurd h_ (by decide), fun h_ => absurd h_ (by decide)⟩
        ·
         skip
         clear BK104 HB HI0 HK
         refine steps_cons ?_ ?_
         ·
          rintro b a w' ⟨v116, adz_v116, v125, v129, m3_, m8_, m10_, ha, Q_BK104, Q_HI0, Q_HK, Q_HB, Q_HO117, Q_HA_HO117, Q_HI0_e2, Q_HO126, Q_HI0_e8, Q_HO130, Q_BK104_e11, Q_X3_, Q_X8_, Q_X10_⟩ hb_ hon hoff
          refine ⟨_, rfl, fun K hK => ?_⟩
          replace ha := Aside0.mk ha
          have BK104 := Aside0.mk (Q_BK104 (hoff 11 (by kernel_rfl)))
          have HK := Aside0.mk Q_HK
          have HB := Aside0.mk Q_HB
          refine Kd.R_lit_step Kd.string _ 9 ?hg (N := 27) ?hd (xs := ([(⟨#[111, 119, 110, 101, 114]⟩ : ByteArray), (⟨#[98, 111, 115, 115]⟩ : ByteArray)] : List ByteArray)) (inner := [.string (⟨#[111, 119, 110, 101, 114]⟩ : ByteArray), .string (⟨#[98, 111, 115, 115]⟩ : ByteArray)]) (ok := fun _ => True) (okp := fun _ => True) ?hr ?hp (fun _ hk => hk) trivial (Below.refl _ _) (Nat.le_refl _) (by simp) ?_; (case hd => rfl); (case hg => rfl); (case hr => first | (go_simp; done) | (go_simp; rfl)); (case hp => exact (Reps.one (show Kd.M Kd.string _ _ _ (⟨#[111, 119, 110, 101, 114]⟩ : ByteArray) [.string (⟨#[111, 119, 110, 101, 114]⟩ : ByteArray)] from rfl) (Reps.one (show Kd.M Kd.string _ _ _ (⟨#[98, 111, 115, 115]⟩ : ByteArray) [.string (⟨#[98, 111, 115, 115]⟩ : ByteArray)] from rfl) (Reps.none _ _))))
          intro v116 w37 ho38 hb hg_ hnew_
          clear hg_ hnew_
          (first | rw [← Ny115.out] at ho38 | (simp only [Int.reduceToNat] at ho38; rw [← Ny115.out] at ho38))
          have n0_ := Aside0.mk (Kd.R_lower (Kd.R_newM (M := fun k_ => (w.heap.size ≤ k_)) ho38 (kz HK) (fun k_ h_ => h_)) (kz HK))
          have n2_ := bB BK104 hb
          have n3_ := kTb HK hb
          have n4_ := bS HB hb
          have z_HI0 := fun (h0_ : b 2 = false) => (show IsS75 w0 w37 g s0_0 t106 from by first | exact (IsS75.below (by repeat (first | (with_reducible first | exact (Q_HI0 h0_) | apply IsS75.alloc | apply IsS75.drewN | apply IsS75.drew | apply IsS75.set_1 | refine IsS75.far ?_ NB0_104.out _) | exact (Q_HI0 h0_))) hb))
          have z_HI0_e2 := fun (h0_ : b 2 = true) (h1_ : b 8 = false) => (show IsS75 w0 w37 g s0_0 t119 from by first | exact (IsS75.below (by repeat (first | (with_reducible first | exact (Q_HI0_e2 h0_ h1_) | apply IsS75.alloc | apply IsS75.drewN | apply IsS75.drew | apply IsS75.set_1 | refine IsS75.far ?_ NB0_104.out _) | exact (Q_HI0_e2 h0_ h1_))) hb))
          have z_HO126 := fun (h0_ : b 8 = true) (h1_ : b 9 = false) => (show Kd.N k25 25 w37 w.heap.size (fun k_ => (w.heap.size ≤ k_) ∧ k_ ≠ g ∧ k_ ≠ gb104) v125 t124 from by first | exact (Kd.N_elder' (by (with_reducible repeat (first | apply Kd.N_alloc | apply Kd.N_drewN | apply Kd.N_drew)); exact (Q_HO126 h0_ h1_)) (Kd.R_base ho38) hb) | exact Kd.N_mono (Kd.N_elder' (by (with_reducible repeat (first | apply Kd.N_alloc | apply Kd.N_drewN | apply Kd.N_drew)); exact (Q_HO126 h0_ h1_)) (Kd.R_base ho38) hb) (fun _ h_ => by first | trivial | exact h_ | exact h_.1))
          have z_HI0_e8 := fun (h0_ : b 8 = true) => (show IsS75 w0 w37 g s0_0 t127 from by first | exact (IsS75.below (by repeat (first | (with_reducible first | exact (Q_HI0_e8 h0_) | apply IsS75.alloc | apply IsS75.drewN | apply IsS75.drew | apply IsS75.set_1 | refine IsS75.far ?_ NB0_104.out _) | exact (Q_HI0_e8 h0_))) hb))
          have z_HO130 := fun (h0_ : b 9 = true) => (show Kd.N k25 25 w37 w.heap.size (fun k_ => (w.heap.size ≤ k_) ∧ k_ ≠ g ∧ k_ ≠ gb104) v129 y128 from by first | exact (Kd.N_elder' (by (with_reducible repeat (first | apply Kd.N_alloc | apply Kd.N_drewN | apply Kd.N_drew)); exact (Q_HO130 h0_)) (Kd.R_base ho38) hb) | exact Kd.N_mono (Kd.N_elder' (by (with_reducible repeat (first | apply Kd.N_alloc | apply Kd.N_drewN | apply Kd.N_drew)); exact (Q_HO130 h0_)) (Kd.R_base ho38) hb) (fun _ h_ => by first | trivial | exact h_ | exact h_.1))
          clear BK104
          clear HK
          clear HB
          have HO117 := n0_
          have BK104 := n2_
          have HK := n3_
          have HB := n4_
          clear n0_ n2_ n3_ n4_
          clear hb ho38
          obtain ⟨Ao39, co39, eo39⟩ := Kd.R_slice HO117.out
          subst eo39
          obtain ⟨ado39, fo39, _⟩ := Kd.at_string (Kd.R_reads' HO117.out).2.2 0 (by decide) (by rw [Ny115.out]; simp)
          cases fo39
          refine hK.out _ _ ⟨.slice (some ado39) y115.length co39, ado39, v125, v129, m3_, m8_, m10_, (by rw [ha.out]; exact putSel_upk 0 hb_ rfl rfl rfl), fun _ => (by exact bk BK104.out), z_HI0, (by exact kw HK.out), (by exact bw HB.out), fun _ => (by (with_reducible repeat (first | apply Kd.R_alloc | apply Kd.R_drewN | apply Kd.R_drew)); exact Kd.R_mono HO117.out (fun _ hk => hk.1)), fun _ => ⟨_, rfl⟩, z_HI0_e2, z_HO126, z_HI0_e8, z_HO130, fun h0_ => absurd ((hoff 11 (by kernel_rfl)).symm.trans h0_) (by decide), fun h0_ => absurd ((hoff 3 (by kernel_rfl)).symm.trans h0_) (by decide), Q_X8_, fun h0_ => absurd ((hoff 10 (by kernel_rfl)).symm.trans h0_) (by decide)⟩
         refine steps_cons ?_ ?_
         ·
          rintro b a w' ⟨v116, adz_v116, v125, v129, m3_, m8_, m10_, ha, Q_BK104, Q_HI0, Q_HK, Q_HB, Q_HO117, Q_HA_HO117, Q_HI0_e2, Q_HO126, Q_HI0_e8, Q_HO130, Q_BK104_e11, Q_X3_, Q_X8_, Q_X10_⟩ hb_ hon hoff
          refine ⟨_, rfl, fun K hK => ?_⟩
          have e28 : a.tmps[28]? = some (.pointer (some ⟨g, 0, none⟩)) := by rw [ha]; exact (putSel_off rfl).trans rfl
          replace ha := Aside0.mk ha
          have BK104 := Aside0.mk (Q_BK104 (hoff 11 (by kernel_rfl)))
          have HI0 := Aside0.mk (Q_HI0 hb_)
          have HK := Aside0.mk Q_HK
          have HB := Aside0.mk Q_HB
          refine goes_ Try.func36 (by kernel_rfl) rfl #[.pointer (some ⟨g, 0, none⟩), .int .i64 2] (by rfl) rfl rfl (by first | (simp only [List.map_toArray, List.map_cons, List.map_nil, Act.eval, Array.getD_eq_getD_getElem?, Option.getD_some, e28]; done) | (simp only [List.map_toArray, List.map_cons, List.map_nil, Act.eval, Array.getD_eq_getD_getElem?, Option.getD_some, e28]; rfl)) ?_
          with_reducible refine (spec_l20Rd_pick.calls k g s0_0 t106 2 t118 t119 w0 _ ?side1 ?side2 A30.out).mono ?_
          (case side1 => exact sw75 HI0.out)
          (case side2 => exact bw HB.out)
          rintro e w37 ⟨rfl, hi, hb, hk⟩
          refine ⟨_, rfl, ?_⟩
          have n0_ := kB hk BK104 NB104_0
          have n1_ := kT HK hk
          have n2_ := Aside0.mk (hb)
          have n3_ := Aside0.mk (hi)
          have z_HO117 := fun (h0_ : b 0 = true) => (show Kd.R Kd.string 9 w37 w.heap.size (fun k_ => (w.heap.size ≤ k_)) v116 y115 from by first | exact (Kd.R_mono (Kd.R_keep (IsS75.apart (show IsS75 w0 _ g s0_0 t106 from by exact sw75 HI0.out) (by (with_reducible repeat (first | apply Kd.R_alloc | apply Kd.R_drewN | apply Kd.R_drew)); exact (Q_HO117 h0_)) (by decide)) hk (fun _ h => h.2)) (fun _ h => h.1)) | exact Kd.R_mono (Kd.R_mono (Kd.R_keep (IsS75.apart (show IsS75 w0 _ g s0_0 t106 from by exact sw75 HI0.out) (by (with_reducible repeat (first | apply Kd.R_alloc | apply Kd.R_drewN | apply Kd.R_drew)); exact (Q_HO117 h0_)) (by decide)) hk (fun _ h => h.2)) (fun _ h => h.1)) (fun _ h_ => by first | trivial | exact h_ | exact h_.1))
          clear BK104
          clear HK
          clear HB
          clear HI0
          have BK104 := n0_
          have HK := n1_
          have HB := n2_
          have HI0 := n3_
          clear n0_ n1_ n2_ n3_
          (try clear hb)
          (try clear hb2)
          (try clear hk)
          (try clear hi)
          refine hK.out _ _ ⟨v116, adz_v116, v125, v129, m3_, m8_, m10_, (by rw [ha.out]; exact putSel_upk 1 hb_ rfl rfl rfl), fun _ => (by exact bk BK104.out), fun h0_ => absurd ((up_self b 2).symm.trans h0_) (by decide), (by exact kw HK.out), (by exact bw HB.out), z_HO117, Q_HA_HO117, fun _ _ => (by exact sw75 HI0.out), fun h0_ _ => absurd ((hoff 8 (by kernel_rfl)).symm.trans h0_) (by decide), fun h0_ => absurd ((hoff 8 (by kernel_rfl)).symm.trans h0_) (by decide), fun h0_ => absurd ((hoff 9 (by kernel_rfl)).symm.trans h0_) (by decide), fun h0_ => absurd ((hoff 11 (by kernel_rfl)).symm.trans h0_) (by decide), fun h0_ => absurd ((hoff 3 (by kernel_rfl)).symm.trans h0_) (by decide), fun h0_ => absurd ((hoff 8 (by kernel_rfl)).symm.trans h0_) (by decide), fun h0_ => absurd ((hoff 10 (by kernel_rfl)).symm.trans h0_) (by decide)⟩
         refine steps_cons ?_ ?_
         ·
          rintro b a w' ⟨v116, adz_v116, v125, v129, m3_, m8_, m10_, ha, Q_BK104, Q_HI0, Q_HK, Q_HB, Q_HO117, Q_HA_HO117, Q_HI0_e2, Q_HO126, Q_HI0_e8, Q_HO130, Q_BK104_e11, Q_X3_, Q_X8_, Q_X10_⟩ hb_ hon hoff
          refine ⟨_, rfl, fun K hK => ?_⟩
          have e27 : a.tmps[27]? = some (v116) := by rw [ha]; exact putSel_on (e := (0, 27, v116)) 0 rfl rfl (hon 0 (by kernel_rfl)) rfl
          have e29 : a.tmps[29]? = some (.int .i64 t118) := by rw [ha]; exact putSel_on (e := (2, 29, .int .i64 t118)) 1 rfl rfl (hon 2 (by kernel_rfl)) rfl
          replace ha := Aside0.mk ha
          have BK104 := Aside0.mk (Q_BK104 (hoff 11 (by kernel_rfl)))
          have HK := Aside0.mk Q_HK
          have HB := Aside0.mk Q_HB
          have HO117 := Aside0.mk (Q_HO117 (hon 0 (by kernel_rfl)))
          have HA_HO117 := Aside0.mk (Q_HA_HO117 (hon 0 (by kernel_rfl)))
          obtain ⟨c_, hv_⟩ := HA_HO117.out
          rw [hv_] at e27
          refine value_ (w1 := w') (v := .pointer (some (adz_v116.add (t118).toNat))) (by rfl) rfl ?_ ?_
          ·
           go_simp
           (try simp only [i64_w])
           try rfl
          refine hK.out _ _ ⟨v116, adz_v116, v125, v129, (.pointer (some (adz_v116.add (t118).toNat))), m8_, m10_, (by rw [ha.out]; exact putSel_upk 2 hb_ rfl rfl rfl), Q_BK104, fun h0_ => absurd ((hon 2 (by kernel_rfl)).symm.trans h0_) (by decide), Q_HK, Q_HB, Q_HO117, Q_HA_HO117, Q_HI0_e2, Q_HO126, Q_HI0_e8, Q_HO130, fun h0_ => absurd ((hoff 11 (by kernel_rfl)).symm.trans h0_) (by decide), fun _ => rfl, Q_X8_, fun h0_ => absurd ((hoff 10 (by kernel_rfl)).symm.trans h0_) (by decide)⟩
         refine steps_cons ?_ ?_
         ·
          rintro b a w' ⟨v116, adz_v116, v125, v129, m3_, m8_, m10_, ha, Q_BK104, Q_HI0, Q_HK, Q_HB, Q_HO117, Q_HA_HO117, Q_HI0_e2, Q_HO126, Q_HI0_e8, Q_HO130, Q_BK104_e11, Q_X3_, Q_X8_, Q_X10_⟩ hb_ hon hoff
          refine ⟨_, rfl, fun K hK => ?_⟩
          have e30 : a.tmps[30]? = some (m3_) := by rw [ha]; exact putSel_on (e := (3, 30, m3_)) 2 rfl rfl (hon 3 (by kernel_rfl)) rfl
          rw [Q_X3_ (hon 3 (by kernel_rfl))] at e30
          replace ha := Aside0.mk ha
          have BK104 := Aside0.mk (Q_BK104 (hoff 11 (by kernel_rfl)))
          have HK := Aside0.mk Q_HK
          have HB := Aside0.mk Q_HB
          have HO117 := Aside0.mk (Q_HO117 (hon 0 (by kernel_rfl)))
          have HA_HO117 := Aside0.mk (Q_HA_HO117 (hon 0 (by kernel_rfl)))
          obtain ⟨c_, hv_⟩ := HA_HO117.out
          have hF_ := HO117.out
          rw [hv_] at hF_
          obtain ⟨ad_, ea_, hx_⟩ := Kd.at_string (Kd.R_reads' hF_).2.2 t118 (of_eq_true pi120) (of_eq_true qi120)
          cases ea_
          refine value_ (w1 := w') (v := .string (rdOf ByteArray.empty y115 t118)) (by rfl) rfl ?_ ?_
          ·
           go_simp
           (try simp only [i64_w])
           try rfl
          refine hK.out _ _ ⟨v116, adz_v116, v125, v129, m3_, m8_, m10_, (by rw [ha.out]; exact putSel_upk 3 hb_ rfl rfl rfl), Q_BK104, fun h0_ => absurd ((hon 2 (by kernel_rfl)).symm.trans h0_) (by decide), Q_HK, Q_HB, Q_HO117, Q_HA_HO117, Q_HI0_e2, Q_HO126, Q_HI0_e8, Q_HO130, fun h0_ => absurd ((hoff 11 (by kernel_rfl)).symm.trans h0_) (by decide), Q_X3_, Q_X8_, fun h0_ => absurd ((hoff 10 (by kernel_rfl)).symm.trans h0_) (by decide)⟩
         refine steps_cons ?_ ?_
         ·
          rintro b a w' ⟨v116, adz_v116, v125, v129, m3_, m8_, m10_, ha, Q_BK104, Q_HI0, Q_HK, Q_HB, Q_HO117, Q_HA_HO117, Q_HI0_e2, Q_HO126, Q_HI0_e8, Q_HO130, Q_BK104_e11, Q_X3_, Q_X8_, Q_X10_⟩ hb_ hon hoff
          refine ⟨_, rfl, fun K hK => ?_⟩
          have e33 : a.tmps[33]? = some (.int .i64 a1) := by rw [ha]; exact (putSel_off rfl).trans rfl
          replace ha := Aside0.mk ha
          have BK104 := Aside0.mk (Q_BK104 (hoff 11 (by kernel_rfl)))
          have HK := Aside0.mk Q_HK
          have HB := Aside0.mk Q_HB
          refine value_ (w1 := w') (v := .int .i64 (wrap64 (a1 - 1))) (by rfl) rfl ?_ ?_
          ·
           go_simp
           (try simp only [i64_w])
           try rfl
          refine hK.out _ _ ⟨v116, adz_v116, v125, v129, m3_, m8_, m10_, (by rw [ha.out]; exact putSel_upk 4 hb_ rfl rfl rfl), Q_BK104, Q_HI0, Q_HK, Q_HB, Q_HO117, Q_HA_HO117, Q_HI0_e2, fun h0_ _ => absurd ((hoff 8 (by kernel_rfl)).symm.trans h0_) (by decide), fun h0_ => absurd ((hoff 8 (by kernel_rfl)).symm.trans h0_) (by decide), fun h0_ => absurd ((hoff 9 (by kernel_rfl)).symm.trans h0_) (by decide), fun h0_ => absurd ((hoff 11 (by kernel_rfl)).symm.trans h0_) (by decide), Q_X3_, fun h0_ => absurd ((hoff 8 (by kernel_rfl)).symm.trans h0_) (by decide), fun h0_ => absurd ((hoff 10 (by kernel_rfl)).symm.trans h0_) (by decide)⟩
         refine steps_cons ?_ ?_
         ·
          rintro b a w' ⟨v116, adz_v116, v125, v129, m3_, m8_, m10_, ha, Q_BK104, Q_HI0, Q_HK, Q_HB, Q_HO117, Q_HA_HO117, Q_HI0_e2, Q_HO126, Q_HI0_e8, Q_HO130, Q_BK104_e11, Q_X3_, Q_X8_, Q_X10_⟩ hb_ hon hoff
          refine ⟨_, rfl, fun K hK => ?_⟩
          have e32 : a.tmps[32]? = some (.pointer (some ⟨g, 0, none⟩)) := by rw [ha]; exact (putSel_off rfl).trans rfl
          have e34 : a.tmps[34]? = some (.int .i64 (wrap64 (a1 - 1))) := by rw [ha]; exact putSel_on (e := (7, 34, .int .i64 (wrap64 (a1 - 1)))) 4 rfl rfl (hon 7 (by kernel_rfl)) rfl
          replace ha := Aside0.mk ha
          have BK104 := Aside0.mk (Q_BK104 (hoff 11 (by kernel_rfl)))
          have HK := Aside0.mk Q_HK
          have HB := Aside0.mk Q_HB
          have HI0 := Aside0.mk (Q_HI0_e2 (hon 2 (by kernel_rfl)) hb_)
          refine goes_ Try.func49 (by kernel_rfl) rfl #[.pointer (some ⟨g, 0, none⟩), .int .i64 (wrap64 (a1 - 1))] (by rfl) rfl rfl (by first | (simp only [List.map_toArray, List.map_cons, List.map_nil, Act.eval, Array.getD_eq_getD_getElem?, Option.getD_some, e32, e34]; done) | (simp only [List.map_toArray, List.map_cons, List.map_nil, Act.eval, Array.getD_eq_getD_getElem?, Option.getD_some, e32, e34]; rfl)) ?_
          with_reducible refine (ih k (by omega) g s0_0 t119 (wrap64 (a1 - 1)) t121 t122 t123 t124 t127 w0 _ ?side1 ?side2 A33.out).mono ?_
          (case side1 => exact sw75 HI0.out)
          (case side2 => exact bw HB.out)
          rintro e w39 ⟨v125, rfl, ho0, hi, hb, hk⟩
          refine ⟨_, rfl, ?_⟩
          have n0_ := kB hk BK104 NB104_0
          have n1_ := Aside0.mk (Kd.N_lower (Kd.N_mono (ok' := fun k_ => (w.heap.size ≤ k_) ∧ k_ ≠ gb104 ∧ k_ ≠ g) ho0 (fun k_ hk_ => ⟨(Nat.le_trans (kz HK) hk_), (Kd.freshB (by exact bk BK104.out) k_ hk_), (IsS75.fresh (by exact sw75 HI0.out) k_ hk_)⟩)) (kz HK))
          have n2_ := kT HK hk
          have n3_ := Aside0.mk (hb)
          have n4_ := Aside0.mk (hi)
          have z_HO117 := fun (h0_ : b 0 = true) => (show Kd.R Kd.string 9 w39 w.heap.size (fun k_ => (w.heap.size ≤ k_)) v116 y115 from by first | exact (Kd.R_mono (Kd.R_keep (IsS75.apart (show IsS75 w0 _ g s0_0 t119 from by exact sw75 HI0.out) (by (with_reducible repeat (first | apply Kd.R_alloc | apply Kd.R_drewN | apply Kd.R_drew)); exact (Q_HO117 h0_)) (by decide)) hk (fun _ h => h.2)) (fun _ h => h.1)) | exact Kd.R_mono (Kd.R_mono (Kd.R_keep (IsS75.apart (show IsS75 w0 _ g s0_0 t119 from by exact sw75 HI0.out) (by (with_reducible repeat (first | apply Kd.R_alloc | apply Kd.R_drewN | apply Kd.R_drew)); exact (Q_HO117 h0_)) (by decide)) hk (fun _ h => h.2)) (fun _ h => h.1)) (fun _ h_ => by first | trivial | exact h_ | exact h_.1))
          clear BK104
          clear HK
          clear HB
          clear HI0
          have BK104 := n0_
          have HO126 := n1_
          have HK := n2_
          have HB := n3_
          have HI0 := n4_
          clear n0_ n1_ n2_ n3_ n4_
          (try clear hb)
          (try clear hb2)
          (try clear hk)
          (try clear hi)
          (try clear ho0)
          refine hK.out _ _ ⟨v116, adz_v116, v125, v129, m3_, (.agg #[.int .i64 t121, .int .i64 t122, .string t123, v125]), m10_, (by rw [ha.out]; exact putSel_upk 5 hb_ rfl rfl rfl), fun _ => (by exact bk BK104.out), fun h0_ => absurd ((hon 2 (by kernel_rfl)).symm.trans h0_) (by decide), (by exact kw HK.out), (by exact bw HB.out), z_HO117, Q_HA_HO117, fun _ h1_ => absurd ((up_self b 8).symm.trans h1_) (by decide), fun _ _ => (by (with_reducible repeat (first | apply Kd.N_alloc | apply Kd.N_drewN | apply Kd.N_drew)); exact Kd.N_mono HO126.out (fun _ hk => okp hk)), fun _ => (by exact sw75 HI0.out), fun h0_ => absurd ((hoff 9 (by kernel_rfl)).symm.trans h0_) (by decide), fun h0_ => absurd ((hoff 11 (by kernel_rfl)).symm.trans h0_) (by decide), Q_X3_, fun _ => rfl, fun h0_ => absurd ((hoff 10 (by kernel_rfl)).symm.trans h0_) (by decide)⟩
         refine steps_cons ?_ ?_
         ·
          rintro b a w' ⟨v116, adz_v116, v125, v129, m3_, m8_, m10_, ha, Q_BK104, Q_HI0, Q_HK, Q_HB, Q_HO117, Q_HA_HO117, Q_HI0_e2, Q_HO126, Q_HI0_e8, Q_HO130, Q_BK104_e11, Q_X3_, Q_X8_, Q_X10_⟩ hb_ hon hoff
          refine ⟨_, rfl, fun K hK => ?_⟩
          have e35 : a.tmps[35]? = some (m8_) := by rw [ha]; exact putSel_on (e := (8, 35, m8_)) 5 rfl rfl (hon 8 (by kernel_rfl)) rfl
          rw [Q_X8_ (hon 8 (by kernel_rfl))] at e35
          replace ha := Aside0.mk ha
          have BK104 := Aside0.mk (Q_BK104 (hoff 11 (by kernel_rfl)))
          have HK := Aside0.mk Q_HK
          have HB := Aside0.mk Q_HB
          have HO126 := Aside0.mk (Q_HO126 (hon 8 (by kernel_rfl)) hb_)
          have HI0 := Aside0.mk (Q_HI0_e8 (hon 8 (by kernel_rfl)))
          obtain ⟨Ao40, co40, eo40⟩ := Kd.N_slice HO126.out
          (first | subst eo40 | (injection eo40 with f1_ f2_ f3_; have f4_ := f1_.symm; have f5_ := f3_.symm; clear f1_ f2_ f3_; subst f4_; subst f5_))
          refine Kd.N_lit_step k25 _ 25 ?hg (N' := 36) ?hd (xs := ([(⟨t121, t122, t123, t124⟩ : S25)] : List (S25))) (inner := [.int .i64 t121, .int .i64 t122, .string t123, .slice Ao40 t124.length co40]) (ok := (fun k_ => (w.heap.size ≤ k_) ∧ k_ ≠ gb104 ∧ k_ ≠ g)) (okp := (fun k_ => (w.heap.size ≤ k_) ∧ k_ ≠ gb104 ∧ k_ ≠ g)) ?hr ?hp (fun _ hk => hk) ((show ∀ k_, w'.heap.size ≤ k_ → (fun k_ => (w.heap.size ≤ k_) ∧ k_ ≠ gb104 ∧ k_ ≠ g) k_ from fun k_ hk => ⟨(Nat.le_trans (kz HK) hk), Kd.freshB (by exact bk BK104.out) k_ hk, IsS75.fresh (by exact sw75 HI0.out) k_ hk⟩) _ (Nat.le_refl _)) (Below.refl _ _) (Nat.le_refl _) (by simp) ?_; (case hd => rfl); (case hg => rfl); (case hr => first | (go_simp; done) | (go_simp; rfl)); (case hp => exact (Reps.c4 (show Kd.FK k25 _ _ (⟨t121, t122, t123, t124⟩ : S25) [.int .i64 t121, .int .i64 t122, .string t123, .slice Ao40 t124.length co40] from (k25_mkF _ _ (⟨t121, t122, t123, t124⟩ : S25) (Kd.N_reads' (Kd.N_mono (ok' := (fun k_ => (w.heap.size ≤ k_) ∧ k_ ≠ gb104 ∧ k_ ≠ g)) (HO126.out) (fun k_ hk => okp hk))).2.1 (Kd.N_F (Kd.N_mono (ok' := (fun k_ => (w.heap.size ≤ k_) ∧ k_ ≠ gb104 ∧ k_ ≠ g)) (HO126.out) (fun k_ hk => okp hk))))) (Reps.none _ _)))
          intro v129 w41 ho42 hb hg_ hnew_
          clear hg_ hnew_
          (first | rw [← Ny128.out] at ho42 | (simp only [Int.reduceToNat] at ho42; rw [← Ny128.out] at ho42))
          have n0_ := Aside0.mk (Kd.N_lower ho42 (kz HK))
          have n1_ := ib75 HI0 hb
          have n2_ := bB BK104 hb
          have n3_ := kTb HK hb
          have n4_ := bS HB hb
          have z_HO117 := fun (h0_ : b 0 = true) => (show Kd.R Kd.string 9 w41 w.heap.size (fun k_ => (w.heap.size ≤ k_)) v116 y115 from by first | exact (Kd.R_below (by (with_reducible repeat (first | apply Kd.R_alloc | apply Kd.R_drewN | apply Kd.R_drew)); exact (Q_HO117 h0_)) hb) | exact Kd.R_mono (Kd.R_below (by (with_reducible repeat (first | apply Kd.R_alloc | apply Kd.R_drewN | apply Kd.R_drew)); exact (Q_HO117 h0_)) hb) (fun _ h_ => by first | trivial | exact h_ | exact h_.1))
          clear HI0
          clear BK104
          clear HK
          clear HB
          clear HO126
          have HO130 := n0_
          have HI0 := n1_
          have BK104 := n2_
          have HK := n3_
          have HB := n4_
          clear n0_ n1_ n2_ n3_ n4_
          clear hb ho42
          refine hK.out _ _ ⟨v116, adz_v116, .slice Ao40 t124.length co40, v129, m3_, m8_, m10_, (by rw [ha.out]; exact putSel_upk 6 hb_ rfl rfl rfl), fun _ => (by exact bk BK104.out), fun h0_ => absurd ((hon 2 (by kernel_rfl)).symm.trans h0_) (by decide), (by exact kw HK.out), (by exact bw HB.out), z_HO117, Q_HA_HO117, fun _ h1_ => absurd ((hon 8 (by kernel_rfl)).symm.trans h1_) (by decide), fun _ h1_ => absurd ((up_self b 9).symm.trans h1_) (by decide), fun _ => (by exact sw75 HI0.out), fun _ => (by (with_reducible repeat (first | apply Kd.N_alloc | apply Kd.N_drewN | apply Kd.N_drew)); exact Kd.N_mono HO130.out (fun _ hk => okp hk)), fun h0_ => absurd ((hoff 11 (by kernel_rfl)).symm.trans h0_) (by decide), Q_X3_, Q_X8_, fun h0_ => absurd ((hoff 10 (by kernel_rfl)).symm.trans h0_) (by decide)⟩
         refine steps_cons ?_ ?_
         ·
          rintro b a w' ⟨v116, adz_v116, v125, v129, m3_, m8_, m10_, ha, Q_BK104, Q_HI0, Q_HK, Q_HB, Q_HO117, Q_HA_HO117, Q_HI0_e2, Q_HO126, Q_HI0_e8, Q_HO130, Q_BK104_e11, Q_X3_, Q_X8_, Q_X10_⟩ hb_ hon hoff
          refine ⟨_, rfl, fun K hK => ?_⟩
          have e31 : a.tmps[31]? = some (.string (rdOf ByteArray.empty y115 t118)) := by rw [ha]; exact putSel_on (e := (4, 31, .string (rdOf ByteArray.empty y115 t118))) 3 rfl rfl (hon 4 (by kernel_rfl)) rfl
          have e36 : a.tmps[36]? = some (v129) := by rw [ha]; exact putSel_on (e := (9, 36, v129)) 6 rfl rfl (hon 9 (by kernel_rfl)) rfl
          replace ha := Aside0.mk ha
          have BK104 := Aside0.mk (Q_BK104 (hoff 11 (by kernel_rfl)))
          have HK := Aside0.mk Q_HK
          have HB := Aside0.mk Q_HB
          have HO117 := Aside0.mk (Q_HO117 (hon 0 (by kernel_rfl)))
          have HA_HO117 := Aside0.mk (Q_HA_HO117 (hon 0 (by kernel_rfl)))
          have HI0 := Aside0.mk (Q_HI0_e8 (hon 8 (by kernel_rfl)))
          have HO130 := Aside0.mk (Q_HO130 (hon 9 (by kernel_rfl)))
          obtain ⟨Ao10_0, co10_0, eo_⟩ := Kd.N_slice HO130.out
          subst eo_
          refine value_ (w1 := w') (v := .agg #[.int .i64 8, .int .i64 0, .string (rdOf ByteArray.empty y115 t118), .slice Ao10_0 y128.length co10_0]) (by rfl) rfl ?_ ?_
          ·
           go_simp
           (try simp only [i64_w])
           try rfl
          refine hK.out _ _ ⟨v116, adz_v116, v125, .slice Ao10_0 y128.length co10_0, m3_, m8_, (.agg #[.int .i64 8, .int .i64 0, .string (rdOf ByteArray.empty y115 t118), .slice Ao10_0 y128.length co10_0]), (by rw [ha.out]; exact putSel_upk 7 hb_ rfl rfl rfl), Q_BK104, fun h0_ => absurd ((hon 2 (by kernel_rfl)).symm.trans h0_) (by decide), Q_HK, Q_HB, Q_HO117, Q_HA_HO117, fun _ h1_ => absurd ((hon 8 (by kernel_rfl)).symm.trans h1_) (by decide), fun _ h1_ => absurd ((hon 9 (by kernel_rfl)).symm.trans h1_) (by decide), Q_HI0_e8, Q_HO130, fun h0_ => absurd ((hoff 11 (by kernel_rfl)).symm.trans h0_) (by decide), Q_X3_, Q_X8_, fun _ => rfl⟩
         refine steps_cons ?_ ?_
         ·
          rintro b a w' ⟨v116, adz_v116, v125, v129, m3_, m8_, m10_, ha, Q_BK104, Q_HI0, Q_HK, Q_HB, Q_HO117, Q_HA_HO117, Q_HI0_e2, Q_HO126, Q_HI0_e8, Q_HO130, Q_BK104_e11, Q_X3_, Q_X8_, Q_X10_⟩ hb_ hon hoff
          refine ⟨_, rfl, fun K hK => ?_⟩
          have e4 : a.tmps[4]? = some (.pointer (some ⟨gb104, 0, none⟩)) := by rw [ha]; exact (putSel_off rfl).trans rfl
          have e37 : a.tmps[37]? = some (m10_) := by rw [ha]; exact putSel_on (e := (10, 37, m10_)) 7 rfl rfl (hon 10 (by kernel_rfl)) rfl
          rw [Q_X10_ (hon 10 (by kernel_rfl))] at e37
          replace ha := Aside0.mk ha
          have BK104 := Aside0.mk (Q_BK104 hb_)
          have HK := Aside0.mk Q_HK
          have HB := Aside0.mk Q_HB
          have HO117 := Aside0.mk (Q_HO117 (hon 0 (by kernel_rfl)))
          have HA_HO117 := Aside0.mk (Q_HA_HO117 (hon 0 (by kernel_rfl)))
          have HI0 := Aside0.mk (Q_HI0_e8 (hon 8 (by kernel_rfl)))
          have HO130 := Aside0.mk (Q_HO130 (hon 9 (by kernel_rfl)))
          obtain ⟨co47, eo47⟩ := HA_HO117.out
          clear HA_HO117
          subst eo47
          obtain ⟨Ao48, co48, eo48⟩ := Kd.N_slice HO130.out
          (first | subst eo48 | (injection eo48 with f1_ f2_ f3_; have f4_ := f1_.symm; have f5_ := f3_.symm; clear f1_ f2_ f3_; subst f4_; subst f5_))
          have hs49 : w'.cell? ⟨gb104, 0, none⟩ = some (.int .i64 0) := (blk_cell BK104.out 0).trans rfl
          have hfs49 := blk_frozen BK104.out 0
          have hs50 : w'.cell? ⟨gb104, 1, none⟩ = some (.int .i64 0) := (blk_cell BK104.out 1).trans rfl
          have hfs50 := blk_frozen BK104.out 1
          have hs51 : w'.cell? ⟨gb104, 2, none⟩ = some (.string (⟨#[]⟩ : ByteArray)) := (blk_cell BK104.out 2).trans rfl
          have hfs51 := blk_frozen BK104.out 2
          have hs52 : w'.cell? ⟨gb104, 3, none⟩ = some (.slice none 0 0) := (blk_cell BK104.out 3).trans rfl
          have hfs52 := blk_frozen BK104.out 3
          refine skip_ (w1 := ?_) (by rfl) rfl ?_ ?_
          rotate_left
          ·
           go_simp
           rfl
          refine hK.out _ _ ⟨.slice (some adz_v116) y115.length co47, adz_v116, v125, .slice Ao48 y128.length co48, m3_, m8_, m10_, (by rw [ha.out]; exact putSel_none (v := undef) rfl), fun h0_ => absurd ((up_self b 11).symm.trans h0_) (by decide), fun h0_ => absurd ((hon 2 (by kernel_rfl)).symm.trans h0_) (by decide), (by exact kw HK.out), (by exact bw HB.out), fun _ => (by (with_reducible repeat (first | apply Kd.R_alloc | apply Kd.R_drewN | apply Kd.R_drew)); exact Kd.R_mono (Kd.R_far (p := ⟨gb104, 3, none⟩) (Kd.R_far (p := ⟨gb104, 2, none⟩) (Kd.R_far (p := ⟨gb104, 1, none⟩) (Kd.R_far (p := ⟨gb104, 0, none⟩) (Kd.R_types HO117.out BK104.out (by decide)) (fun _ hk => hk.2) (.int .i64 8)) (fun _ hk => hk.2) (.int .i64 0)) (fun _ hk => hk.2) (.string (rdOf ByteArray.empty y115 t118))) (fun _ hk => hk.2) (.slice Ao48 y128.length co48)) (fun _ hk => hk.1)), fun _ => ⟨_, rfl⟩, fun _ h1_ => absurd ((hon 8 (by kernel_rfl)).symm.trans h1_) (by decide), fun _ h1_ => absurd ((hon 9 (by kernel_rfl)).symm.trans h1_) (by decide), fun _ => (by exact sw75 HI0.out), fun _ => (by (with_reducible repeat (first | apply Kd.N_alloc | apply Kd.N_drewN | apply Kd.N_drew)); exact Kd.N_mono (Kd.N_far (p := ⟨gb104, 3, none⟩) (Kd.N_far (p := ⟨gb104, 2, none⟩) (Kd.N_far (p := ⟨gb104, 1, none⟩) (Kd.N_far (p := ⟨gb104, 0, none⟩) (Kd.N_mono HO130.out (fun k_ hk => (⟨hk, okp hk⟩ : _ ∧ k_ ≠ gb104))) (fun _ hk => hk.2) (.int .i64 8)) (fun _ hk => hk.2) (.int .i64 0)) (fun _ hk => hk.2) (.string (rdOf ByteArray.empty y115 t118))) (fun _ hk => hk.2) (.slice Ao48 y128.length co48)) (fun _ hk => okp hk)), fun _ => (bp BK104), Q_X3_, Q_X8_, Q_X10_⟩
         exact steps_nil
        rintro b a w50 hall ⟨v116, adz_v116, v125, v129, m3_, m8_, m10_, ha, Q_BK104, Q_HI0, Q_HK, Q_HB, Q_HO117, Q_HA_HO117, Q_HI0_e2, Q_HO126, Q_HI0_e8, Q_HO130, Q_BK104_e11, Q_X3_, Q_X8_, Q_X10_⟩
        clear BK104 HB HI0 HK
        have hb0_ := hall 0 (by kernel_rfl)
        have hb2_ := hall 2 (by kernel_rfl)
        have hb3_ := hall 3 (by kernel_rfl)
        have hb4_ := hall 4 (by kernel_rfl)
        have hb7_ := hall 7 (by kernel_rfl)
        have hb8_ := hall 8 (by kernel_rfl)
        have hb9_ := hall 9 (by kernel_rfl)
        have hb10_ := hall 10 (by kernel_rfl)
        have hb11_ := hall 11 (by kernel_rfl)
        subst ha
        obtain rfl := Q_X3_ hb3_
        obtain rfl := Q_X8_ hb8_
        obtain rfl := Q_X10_ hb10_
        simp only [putSel, hb0_, hb2_, hb3_, hb4_, hb7_, hb8_, hb9_, hb10_, hb11_, if_true, Act.put, List.setIfInBounds_toArray, List.set_cons_zero, List.set_cons_succ]
        clear Q_BK104
        clear Q_HI0
        have HK := Aside0.mk Q_HK
        clear Q_HK
        have HB := Aside0.mk Q_HB
        clear Q_HB
        have HO117 := Aside0.mk (Q_HO117 hb0_)
        clear Q_HO117
        have HA_HO117 := Aside0.mk (Q_HA_HO117 hb0_)
        clear Q_HA_HO117
        clear Q_HI0_e2
        clear Q_HO126
        have HI0 := Aside0.mk (Q_HI0_e8 hb8_)
        clear Q_HI0_e8
        have HO130 := Aside0.mk (Q_HO130 hb9_)
        clear Q_HO130
        have BK104 := Aside0.mk (Q_BK104_e11 hb11_)
        clear Q_BK104_e11
        clear hall hb0_ hb2_ hb3_ hb4_ hb7_ hb8_ hb9_ hb10_ hb11_
        obtain ⟨co51, eo51⟩ := HA_HO117.out
        clear HA_HO117
        subst eo51
        obtain ⟨Ao52, co52, eo52⟩ := Kd.N_slice HO130.out
        (first | subst eo52 | (injection eo52 with f1_ f2_ f3_; have f4_ := f1_.symm; have f5_ := f3_.symm; clear f1_ f2_ f3_; subst f4_; subst f5_))
        try go_wp2
        refine bodyPost_ret (results_cell_row rfl _ _ gb104 25 #[.int .i64 8, .int .i64 0, .string (rdOf ByteArray.empty y115 t118), .slice Ao52 y128.length co52] (0, 0) _ rfl (by exact bk BK104.out) Try.underlying25 rfl (by kernel_rfl)) rfl ?_
        exact ⟨_, by first | rfl | (simp [errW_none, errW_some] <;> rfl) | (simp [*, errW_none, errW_some] <;> rfl), by (with_reducible repeat (first | apply Kd.N_alloc | apply Kd.N_drewN | apply Kd.N_drew)); exact Kd.N_mono HO130.out (fun _ hk => hk.1), by exact sw75 HI0.out, by exact bw HB.out, by exact kw HK.out⟩
       ·
        rw [if_neg c32] at H; exact absurd H (by simp)
      ·
       rw [if_neg c31] at H; exact absurd H (by simp)
     ·
      rw [if_neg c29] at H; have c29b0 : decide (0 < a1) = false := decide_eq_false c29; clear c29
      simp only [Option.some.injEq, Prod.mk.injEq] at H
      obtain ⟨rfl, rfl, rfl, rfl, rfl⟩ := H
      go_enter Try.func49, Try.ntmps49
      go_wp2_with (first | ((with_reducible refine gate_dst (N := 4) rfl ?_); refine bx 4 #[.int .i64 0, .int .i64 0, .string (⟨#[]⟩ : ByteArray), .slice none 0 0] 25 ?_; intro gb104 hg w53 hbox hb; replace HB := bS HB hb; have BK104 := Aside0.mk (hbox); have GW104 := gwK HK hg; have GE104 := gwE HW0 (gwK HK hg); replace HK := kTb HK hb; have NB0_104 := il75 HI0 hg; have NB104_0 := ir75 HI0 hg; replace HI0 := ib75 HI0 hb; clear hb hbox hg) | ((with_reducible refine gate_callee (f := 36) rfl ?_); refine gl (some 6) Try.func36 #[.pointer (some ⟨g, 0, none⟩), .int .i64 5] ?_; (with_reducible refine (spec_l20Rd_pick.calls k g s0_0 s0_1 5 t105 t106 w0 _ ?side1 ?side2 A3.out).mono ?_); (case side1 => exact sw75 HI0.out); (case side2 => exact bw HB.out); rintro e w54 ⟨rfl, hi, hb, hk⟩; refine ⟨_, rfl, ?_⟩; replace BK104 := kB hk BK104 NB104_0; replace HK := kT HK hk; replace HB := Aside0.mk (hb); replace HI0 := Aside0.mk (hi); (try clear hb); (try clear hb2); (try clear hk); (try clear hi); have hnb55 := NB104_0.out; have hnc55 := NB0_104.out; obtain ⟨hcz56_0, hcz56_1, hcz56_2, hcz56_3⟩ := cs4 BK104.out; obtain ⟨hfz56_0, hfz56_1, hfz56_2, hfz56_3⟩ := fz4 BK104.out))
      refine bodyPost_ret (results_cell_row rfl _ _ gb104 25 #[.int .i64 4, .int .i64 0, .string (⟨#[]⟩ : ByteArray), .slice none 0 0] (0, 0) _ rfl (bp BK104) Try.underlying25 rfl (by kernel_rfl)) rfl ?_
      exact ⟨_, by first | rfl | (simp [errW_none, errW_some] <;> rfl) | (simp [*, errW_none, errW_some] <;> rfl), by first | exact Kd.R_nil _ _ _ _ _ | exact Kd.N_nil _ _ _ _ _ | exact Kd.V_nil _ _ _ _ _ | exact Kd.Q_nil _ _ _ _ _ | exact Kd.S_nil _ _ _ _ _, by exact sw75 HI0.out, by exact bw HB.out, by exact kw HK.out⟩
    ·
     rw [if_neg c28] at H; obtain ⟨c28b0, c28b1⟩ := eqN c28
     simp only [Option.some.injEq, Prod.mk.injEq] at H
     obtain ⟨rfl, rfl, rfl, rfl, rfl⟩ := H
     go_enter Try.func49, Try.ntmps49
     go_wp2_with (first | ((with_reducible refine gate_dst (N := 4) rfl ?_); refine bx 4 #[.int .i64 0, .int .i64 0, .string (⟨#[]⟩ : ByteArray), .slice none 0 0] 25 ?_; intro gb104 hg w57 hbox hb; replace HB := bS HB hb; have BK104 := Aside0.mk (hbox); have GW104 := gwK HK hg; have GE104 := gwE HW0 (gwK HK hg); replace HK := kTb HK hb; have NB0_104 := il75 HI0 hg; have NB104_0 := ir75 HI0 hg; replace HI0 := ib75 HI0 hb; clear hb hbox hg) | ((with_reducible refine gate_callee (f := 36) rfl ?_); refine gl (some 6) Try.func36 #[.pointer (some ⟨g, 0, none⟩), .int .i64 5] ?_; (with_reducible refine (spec_l20Rd_pick.calls k g s0_0 s0_1 5 t105 t106 w0 _ ?side1 ?side2 A3.out).mono ?_); (case side1 => exact sw75 HI0.out); (case side2 => exact bw HB.out); rintro e w58 ⟨rfl, hi, hb, hk⟩; refine ⟨_, rfl, ?_⟩; replace BK104 := kB hk BK104 NB104_0; replace HK := kT HK hk; replace HB := Aside0.mk (hb); replace HI0 := Aside0.mk (hi); (try clear hb); (try clear hb2); (try clear hk); (try clear hi); have hnb59 := NB104_0.out; have hnc59 := NB0_104.out; obtain ⟨hcz60_0, hcz60_1, hcz60_2, hcz60_3⟩ := cs4 BK104.out; obtain ⟨hfz60_0, hfz60_1, hfz60_2, hfz60_3⟩ := fz4 BK104.out))
     refine bodyPost_ret (results_cell_row rfl _ _ gb104 25 #[.int .i64 4, .int .i64 0, .string (⟨#[]⟩ : ByteArray), .slice none 0 0] (0, 0) _ rfl (bp BK104) Try.underlying25 rfl (by kernel_rfl)) rfl ?_
     exact ⟨_, by first | rfl | (simp [errW_none, errW_some] <;> rfl) | (simp [*, errW_none, errW_some] <;> rfl), by first | exact Kd.R_nil _ _ _ _ _ | exact Kd.N_nil _ _ _ _ _ | exact Kd.V_nil _ _ _ _ _ | exact Kd.Q_nil _ _ _ _ _ | exact Kd.S_nil _ _ _ _ _, by exact sw75 HI0.out, by exact bw HB.out, by exact kw HK.out⟩
theorem spec_l20Thing.calls (k : Nat) : ∀ (g : Nat) (s0_0 : List Int) (s0_1 : Int) (a1 : Int) (r1 : Int) (r2 : Int) (r3 : ByteArray) (r4 : List (S25)) (r5 : Int) (w0 w : World) (hI : IsS75 w0 w g s0_0 s0_1) (hB : Below w0.heap.size w0 w) (h : spec_l20Thing.f k s0_0 s0_1 a1 = some (r1, r2, r3, r4, r5)),
    Calls Try.prog 49 #[.pointer (some ⟨g, 0, none⟩), .int .i64 a1] w fun e w' => ∃ v3_ : Value, e = .returned (.agg #[.int .i64 r1, .int .i64 r2, .string r3, v3_]) ∧ Kd.V k25 25 w' w.heap.size (fun k_ => (w.heap.size ≤ k_)) v3_ r4 ∧ IsS75 w0 w' g s0_0 r5 ∧ Below w0.heap.size w0 w' ∧ KeepBut w w' g none := by
  intro g s0_0 s0_1 a1 r1 r2 r3 r4 r5 w0 w hI hB h
  refine (spec_l20Thing.calls0 k g s0_0 s0_1 a1 r1 r2 r3 r4 r5 w0 w hI hB h).mono ?_
  rintro e_ w_ ⟨v_, he_, hv_, hr_⟩
  exact ⟨v_, he_, Kd.N_V hv_, hr_⟩

end Go.Proofs.Ytjpeciodihnolaa.P
