-- Written by a program of this session (wip/tool).
import Derived.Test.YtejfaenmgdkaoaaPx0
import Derived.Test.YtejfaenmgdkaoaaPx1
import Derived.Test.YtejfaenmgdkaoaaPx2
namespace Go.Proofs.Ytejfaenmgdkaoaa.P
open Go.RowKit Go.Proofs.YtejfaenmgdkaoaaW.PrintWords Go.Proofs.YtejfaenmgdkaoaaW.PrintLast Go.Proofs.YtejfaenmgdkaoaaW.PrintMore
attribute [local go_sem] max2_int min2_int max_two min_two max_three min_three max_four min_four   -- for this text's walks alone
set_option linter.unusedVariables false
set_option linter.unusedSimpArgs false

/-! ### spec_l20Name: function 93 -/
def spec_l20Name.f (k : Nat) (s0_0 : List Int) (s0_1 : Int) (a1 : Int) : Option (ByteArray × Int) := (spec_l20Rd_odd.f k s0_0 s0_1 a1).bind fun bt727 => (if bt727.1 = true then ((some (([(⟨#[]⟩ : ByteArray), (⟨#[65]⟩ : ByteArray), (⟨#[97, 49]⟩ : ByteArray), (⟨#[97, 98, 99, 100, 101, 102, 103, 104, 105]⟩ : ByteArray)] : List ByteArray) : List ByteArray)).bind fun y729 => ((spec_l20Rd_pick.f k s0_0 bt727.2 4).bind fun bt732 => (if 0 ≤ bt732.1 then (if bt732.1 < (y729.length : Int) then (some (rdOf ByteArray.empty y729 bt732.1, bt732.2)) else (none)) else (none)))) else ((some (([(⟨#[108, 101, 118, 101, 108]⟩ : ByteArray), (⟨#[111, 119, 110, 101, 114]⟩ : ByteArray), (⟨#[111, 112, 101, 110]⟩ : ByteArray), (⟨#[97, 103, 101]⟩ : ByteArray), (⟨#[98, 111, 115, 115]⟩ : ByteArray)] : List ByteArray) : List ByteArray)).bind fun y735 => ((spec_l20Rd_pick.f k s0_0 bt727.2 5).bind fun bt738 => (if 0 ≤ bt738.1 then (if bt738.1 < (y735.length : Int) then (some (rdOf ByteArray.empty y735 bt738.1, bt738.2)) else (none)) else (none)))))
theorem spec_l20Name.mono : ∀ a0 a1 a2 k, LeO (spec_l20Name.f k a0 a1 a2) (spec_l20Name.f (k + 1) a0 a1 a2) := by
 intro a0 a1 a2 k
 unfold spec_l20Name.f
 repeat' first
   | (with_reducible exact spec_l20Rd_odd.mono _ _ _ _)
   | (with_reducible exact spec_l20Rd_pick.mono _ _ _ _)
   | (with_reducible exact LeO.refl _)
   | (with_reducible exact LeO.none _)
   | (with_reducible refine LeO.ite ?_ ?_)
   | (with_reducible refine LeO.bind ?_ (fun _ => ?_))
   | exact spec_l20Rd_odd.mono _ _ _ _
   | exact spec_l20Rd_pick.mono _ _ _ _
   | exact LeO.none _
   | refine LeO.ite ?_ ?_
   | refine LeO.bind ?_ (fun _ => ?_)
set_option maxHeartbeats 8000000 in
set_option maxRecDepth 100000 in
theorem spec_l20Name.calls (k : Nat) (g : Nat) (s0_0 : List Int) (s0_1 : Int) (a1 : Int) (r1 : ByteArray) (r2 : Int) (w0 w : World) (hI : IsS105 w0 w g s0_0 s0_1) (hB : Below w0.heap.size w0 w) (h : spec_l20Name.f k s0_0 s0_1 a1 = some (r1, r2)) :
  Calls Try.prog 93 #[.pointer (some ⟨g, 0, none⟩), .int .i64 a1] w fun e w' => e = .returned (.string r1) ∧ IsS105 w0 w' g s0_0 r2 ∧ Below w0.heap.size w0 w' ∧ KeepBut w w' g none := by
 have HI0 := Aside0.mk hI
 have HK := Aside0.mk (KeepBut.refl w g none)
 have HL := Aside0.mk hB.size
 have HG0 := Aside0.mk (IsS105.ge hI)
 clear hI
 have HW0 := Aside0.mk hB.size
 have HB := Aside0.mk hB
 clear hB
 have H : ((spec_l20Rd_odd.f k s0_0 s0_1 a1).bind fun bt727 => (if bt727.1 = true then ((some (([(⟨#[]⟩ : ByteArray), (⟨#[65]⟩ : ByteArray), (⟨#[97, 49]⟩ : ByteArray), (⟨#[97, 98, 99, 100, 101, 102, 103, 104, 105]⟩ : ByteArray)] : List ByteArray) : List ByteArray)).bind fun y729 => ((spec_l20Rd_pick.f k s0_0 bt727.2 4).bind fun bt732 => (if 0 ≤ bt732.1 then (if bt732.1 < (y729.length : Int) then (some (rdOf ByteArray.empty y729 bt732.1, bt732.2)) else (none)) else (none)))) else ((some (([(⟨#[108, 101, 118, 101, 108]⟩ : ByteArray), (⟨#[111, 119, 110, 101, 114]⟩ : ByteArray), (⟨#[111, 112, 101, 110]⟩ : ByteArray), (⟨#[97, 103, 101]⟩ : ByteArray), (⟨#[98, 111, 115, 115]⟩ : ByteArray)] : List ByteArray) : List ByteArray)).bind fun y735 => ((spec_l20Rd_pick.f k s0_0 bt727.2 5).bind fun bt738 => (if 0 ≤ bt738.1 then (if bt738.1 < (y735.length : Int) then (some (rdOf ByteArray.empty y735 bt738.1, bt738.2)) else (none)) else (none)))))) = some (r1, r2) := h
 clear h
 replace H := Option.bind_eq_some_iff.mp H
 obtain ⟨⟨t727, t728⟩, A30, H⟩ := H
 replace H : (if t727 = true then ((some (([(⟨#[]⟩ : ByteArray), (⟨#[65]⟩ : ByteArray), (⟨#[97, 49]⟩ : ByteArray), (⟨#[97, 98, 99, 100, 101, 102, 103, 104, 105]⟩ : ByteArray)] : List ByteArray) : List ByteArray)).bind fun y729 => ((spec_l20Rd_pick.f k s0_0 t728 4).bind fun bt732 => (if 0 ≤ bt732.1 then (if bt732.1 < (y729.length : Int) then (some (rdOf ByteArray.empty y729 bt732.1, bt732.2)) else (none)) else (none)))) else ((some (([(⟨#[108, 101, 118, 101, 108]⟩ : ByteArray), (⟨#[111, 119, 110, 101, 114]⟩ : ByteArray), (⟨#[111, 112, 101, 110]⟩ : ByteArray), (⟨#[97, 103, 101]⟩ : ByteArray), (⟨#[98, 111, 115, 115]⟩ : ByteArray)] : List ByteArray) : List ByteArray)).bind fun y735 => ((spec_l20Rd_pick.f k s0_0 t728 5).bind fun bt738 => (if 0 ≤ bt738.1 then (if bt738.1 < (y735.length : Int) then (some (rdOf ByteArray.empty y735 bt738.1, bt738.2)) else (none)) else (none))))) = some (r1, r2) := H
 have A3 := Aside0.mk A30
 clear A30
 by_cases c4 : t727 = true
 ·
  subst c4
  have H1 : ((some (([(⟨#[]⟩ : ByteArray), (⟨#[65]⟩ : ByteArray), (⟨#[97, 49]⟩ : ByteArray), (⟨#[97, 98, 99, 100, 101, 102, 103, 104, 105]⟩ : ByteArray)] : List ByteArray) : List ByteArray)).bind fun y729 => ((spec_l20Rd_pick.f k s0_0 t728 4).bind fun bt732 => (if 0 ≤ bt732.1 then (if bt732.1 < (y729.length : Int) then (some (rdOf ByteArray.empty y729 bt732.1, bt732.2)) else (none)) else (none)))) = some (r1, r2) := by rw [if_pos rfl] at H; exact H
  clear H
  have H := H1
  clear H1
  obtain ⟨y729, hy729⟩ : ∃ y_ : List ByteArray, y_ = (([(⟨#[]⟩ : ByteArray), (⟨#[65]⟩ : ByteArray), (⟨#[97, 49]⟩ : ByteArray), (⟨#[97, 98, 99, 100, 101, 102, 103, 104, 105]⟩ : ByteArray)] : List ByteArray)) := ⟨_, rfl⟩
  replace H : ((spec_l20Rd_pick.f k s0_0 t728 4).bind fun bt732 => (if 0 ≤ bt732.1 then (if bt732.1 < (y729.length : Int) then (some (rdOf ByteArray.empty y729 bt732.1, bt732.2)) else (none)) else (none))) = some (r1, r2) := by first | (rw [hy729]; with_reducible exact H) | (have H2_ := (Option.bind_some _ _).symm.trans H; rw [hy729]; with_reducible exact H2_) | (have H2_ := (Option.bind_some _ _).symm.trans H; with_reducible exact H2_) | with_reducible exact H | (rw [hy729]; exact H) | exact H
  have Ny729 := Aside0.mk hy729
  clear hy729
  replace H := Option.bind_eq_some_iff.mp H
  obtain ⟨⟨t732, t733⟩, A50, H⟩ := H
  replace H : (if 0 ≤ t732 then (if t732 < (y729.length : Int) then (some (rdOf ByteArray.empty y729 t732, t733)) else (none)) else (none)) = some (r1, r2) := H
  have A5 := Aside0.mk A50
  clear A50
  by_cases c6 : 0 ≤ t732
  ·
   rw [if_pos c6] at H
   have c6b0 : decide (0 ≤ t732) = true := decide_eq_true c6
   clear c6
   by_cases c7 : t732 < (y729.length : Int)
   ·
    rw [if_pos c7] at H
    have c7b0 : decide (t732 < (y729.length : Int)) = true := decide_eq_true c7
    clear c7
    simp only [Option.some.injEq, Prod.mk.injEq] at H
    obtain ⟨rfl, rfl⟩ := H
    go_enter Try.func93, Try.ntmps93
    go_wp2_with (first | ((with_reducible refine gate_callee (f := 72) rfl ?_); refine gl (some 7) Try.func72 #[.pointer (some ⟨g, 0, none⟩), .int .i64 a1] ?_; (with_reducible refine (spec_l20Rd_odd.calls k g s0_0 s0_1 a1 true t728 w0 _ ?side1 ?side2 A3.out).mono ?_); (case side1 => exact sw105 HI0.out); (case side2 => exact bw HB.out); rintro e w8 ⟨rfl, hi, hb, hk⟩; refine ⟨_, rfl, ?_⟩; have n0_ := Aside0.mk (KeepBut.trans (by exact kw HK.out) hk (.inl rfl)); have n1_ := Aside0.mk (hb); have n2_ := Aside0.mk (hi); clear HK; clear HB; clear HI0; have HK := n0_; have HB := n1_; have HI0 := n2_; clear n0_ n1_ n2_; (try clear hb); (try clear hb2); (try clear hk); (try clear hi)) | ((with_reducible refine gate_dst (N := 8) rfl ?_); refine Kd.R_lit Kd.string _ 9 ?hg (N := 8) ?hd (xs := ([(⟨#[]⟩ : ByteArray), (⟨#[65]⟩ : ByteArray), (⟨#[97, 49]⟩ : ByteArray), (⟨#[97, 98, 99, 100, 101, 102, 103, 104, 105]⟩ : ByteArray)] : List ByteArray)) (inner := [.string (⟨#[]⟩ : ByteArray), .string (⟨#[65]⟩ : ByteArray), .string (⟨#[97, 49]⟩ : ByteArray), .string (⟨#[97, 98, 99, 100, 101, 102, 103, 104, 105]⟩ : ByteArray)]) (ok := fun _ => True) (okp := fun _ => True) ?hr ?hp (fun _ hk => hk) trivial (Below.refl _ _) (Nat.le_refl _) (by simp) ?_; (case hd => rfl); (case hg => rfl); (case hr => first | (go_simp; done) | (go_simp; rfl)); (case hp => exact (Reps.one (show Kd.M Kd.string _ _ _ (⟨#[]⟩ : ByteArray) [.string (⟨#[]⟩ : ByteArray)] from rfl) (Reps.one (show Kd.M Kd.string _ _ _ (⟨#[65]⟩ : ByteArray) [.string (⟨#[65]⟩ : ByteArray)] from rfl) (Reps.one (show Kd.M Kd.string _ _ _ (⟨#[97, 49]⟩ : ByteArray) [.string (⟨#[97, 49]⟩ : ByteArray)] from rfl) (Reps.one (show Kd.M Kd.string _ _ _ (⟨#[97, 98, 99, 100, 101, 102, 103, 104, 105]⟩ : ByteArray) [.string (⟨#[97, 98, 99, 100, 101, 102, 103, 104, 105]⟩ : ByteArray)] from rfl) (Reps.none _ _)))))); intro v730 w9 ho10 hb hg_ hnew_; clear hg_ hnew_; (first | rw [← Ny729.out] at ho10 | (simp only [Int.reduceToNat] at ho10; rw [← Ny729.out] at ho10)); have n0_ := Aside0.mk (Kd.R_lower ho10 (keep_size (w := w) (g := g) (row := none) (by exact kw HK.out))); have n1_ := Aside0.mk (IsS105.below (by exact sw105 HI0.out) hb); have n2_ := Aside0.mk (KeepBut.trans (by exact kw HK.out) (KeepBut.of_below hb g none) (.inl rfl)); have n3_ := Aside0.mk (below_step (by exact bw HB.out) hb); clear HI0; clear HK; clear HB; have HO731 := n0_; have HI0 := n1_; have HK := n2_; have HB := n3_; clear n0_ n1_ n2_ n3_; clear hb ho10) | ((with_reducible refine gate_callee (f := 62) rfl ?_); refine gl (some 10) Try.func62 #[.pointer (some ⟨g, 0, none⟩), .int .i64 4] ?_; (with_reducible refine (spec_l20Rd_pick.calls k g s0_0 t728 4 t732 t733 w0 _ ?side1 ?side2 A5.out).mono ?_); (case side1 => exact sw105 HI0.out); (case side2 => exact bw HB.out); rintro e w11 ⟨rfl, hi, hb, hk⟩; refine ⟨_, rfl, ?_⟩; have n0_ := Aside0.mk (Kd.R_mono (Kd.R_keep (IsS105.apart (show IsS105 w0 _ g s0_0 t728 from by exact sw105 HI0.out) (by exact Kd.xR HO731.out) (by decide)) hk (fun _ h => h.2)) (fun _ h => h.1)); have n1_ := Aside0.mk (KeepBut.trans (by exact kw HK.out) hk (.inl rfl)); have n2_ := Aside0.mk (hb); have n3_ := Aside0.mk (hi); clear HO731; clear HK; clear HB; clear HI0; have HO731 := n0_; have HK := n1_; have HB := n2_; have HI0 := n3_; clear n0_ n1_ n2_ n3_; (try clear hb); (try clear hb2); (try clear hk); (try clear hi); obtain ⟨Ao12, co12, eo12⟩ := Kd.R_slice HO731.out; subst eo12; have p734 : 0 ≤ (t732 : Int) := of_decide_eq_true (by first | (with_reducible assumption) | assumption); have q734 : t732 < (y729.length : Int) := of_decide_eq_true (by first | (with_reducible assumption) | assumption); obtain ⟨ad734, e734, hx734_0⟩ := Kd.at_string (Kd.R_reads' HO731.out).2.2 t732 p734 q734; cases e734; replace p734 := eq_true p734; replace q734 := eq_true q734))
    go_ret
    exact ⟨by first | rfl | (simp [errW_none, errW_some] <;> rfl) | (simp [*, errW_none, errW_some] <;> rfl), by exact sw105 HI0.out, by exact bw HB.out, by exact kw HK.out⟩
   ·
    rw [if_neg c7] at H
    exact absurd H (by simp)
  ·
   rw [if_neg c6] at H
   exact absurd H (by simp)
 ·
  replace c4 := Bool.eq_false_iff.mpr c4
  subst c4
  have H1 : ((some (([(⟨#[108, 101, 118, 101, 108]⟩ : ByteArray), (⟨#[111, 119, 110, 101, 114]⟩ : ByteArray), (⟨#[111, 112, 101, 110]⟩ : ByteArray), (⟨#[97, 103, 101]⟩ : ByteArray), (⟨#[98, 111, 115, 115]⟩ : ByteArray)] : List ByteArray) : List ByteArray)).bind fun y735 => ((spec_l20Rd_pick.f k s0_0 t728 5).bind fun bt738 => (if 0 ≤ bt738.1 then (if bt738.1 < (y735.length : Int) then (some (rdOf ByteArray.empty y735 bt738.1, bt738.2)) else (none)) else (none)))) = some (r1, r2) := by rw [if_neg (show ¬ (false = true) by decide)] at H; exact H
  clear H
  have H := H1
  clear H1
  obtain ⟨y735, hy735⟩ : ∃ y_ : List ByteArray, y_ = (([(⟨#[108, 101, 118, 101, 108]⟩ : ByteArray), (⟨#[111, 119, 110, 101, 114]⟩ : ByteArray), (⟨#[111, 112, 101, 110]⟩ : ByteArray), (⟨#[97, 103, 101]⟩ : ByteArray), (⟨#[98, 111, 115, 115]⟩ : ByteArray)] : List ByteArray)) := ⟨_, rfl⟩
  replace H : ((spec_l20Rd_pick.f k s0_0 t728 5).bind fun bt738 => (if 0 ≤ bt738.1 then (if bt738.1 < (y735.length : Int) then (some (rdOf ByteArray.empty y735 bt738.1, bt738.2)) else (none)) else (none))) = some (r1, r2) := by first | (rw [hy735]; with_reducible exact H) | (have H2_ := (Option.bind_some _ _).symm.trans H; rw [hy735]; with_reducible exact H2_) | (have H2_ := (Option.bind_some _ _).symm.trans H; with_reducible exact H2_) | with_reducible exact H | (rw [hy735]; exact H) | exact H
  have Ny735 := Aside0.mk hy735
  clear hy735
  replace H := Option.bind_eq_some_iff.mp H
  obtain ⟨⟨t738, t739⟩, A130, H⟩ := H
  replace H : (if 0 ≤ t738 then (if t738 < (y735.length : Int) then (some (rdOf ByteArray.empty y735 t738, t739)) else (none)) else (none)) = some (r1, r2) := H
  have A13 := Aside0.mk A130
  clear A130
  by_cases c14 : 0 ≤ t738
  ·
   rw [if_pos c14] at H
   have c14b0 : decide (0 ≤ t738) = true := decide_eq_true c14
   clear c14
   by_cases c15 : t738 < (y735.length : Int)
   ·
    rw [if_pos c15] at H
    have c15b0 : decide (t738 < (y735.length : Int)) = true := decide_eq_true c15
    clear c15
    simp only [Option.some.injEq, Prod.mk.injEq] at H
    obtain ⟨rfl, rfl⟩ := H
    go_enter Try.func93, Try.ntmps93
    go_wp2_with (first | ((with_reducible refine gate_callee (f := 72) rfl ?_); refine gl (some 7) Try.func72 #[.pointer (some ⟨g, 0, none⟩), .int .i64 a1] ?_; (with_reducible refine (spec_l20Rd_odd.calls k g s0_0 s0_1 a1 false t728 w0 _ ?side1 ?side2 A3.out).mono ?_); (case side1 => exact sw105 HI0.out); (case side2 => exact bw HB.out); rintro e w16 ⟨rfl, hi, hb, hk⟩; refine ⟨_, rfl, ?_⟩; have n0_ := Aside0.mk (KeepBut.trans (by exact kw HK.out) hk (.inl rfl)); have n1_ := Aside0.mk (hb); have n2_ := Aside0.mk (hi); clear HK; clear HB; clear HI0; have HK := n0_; have HB := n1_; have HI0 := n2_; clear n0_ n1_ n2_; (try clear hb); (try clear hb2); (try clear hk); (try clear hi)) | ((with_reducible refine gate_dst (N := 13) rfl ?_); refine Kd.R_lit Kd.string _ 9 ?hg (N := 13) ?hd (xs := ([(⟨#[108, 101, 118, 101, 108]⟩ : ByteArray), (⟨#[111, 119, 110, 101, 114]⟩ : ByteArray), (⟨#[111, 112, 101, 110]⟩ : ByteArray), (⟨#[97, 103, 101]⟩ : ByteArray), (⟨#[98, 111, 115, 115]⟩ : ByteArray)] : List ByteArray)) (inner := [.string (⟨#[108, 101, 118, 101, 108]⟩ : ByteArray), .string (⟨#[111, 119, 110, 101, 114]⟩ : ByteArray), .string (⟨#[111, 112, 101, 110]⟩ : ByteArray), .string (⟨#[97, 103, 101]⟩ : ByteArray), .string (⟨#[98, 111, 115, 115]⟩ : ByteArray)]) (ok := fun _ => True) (okp := fun _ => True) ?hr ?hp (fun _ hk => hk) trivial (Below.refl _ _) (Nat.le_refl _) (by simp) ?_; (case hd => rfl); (case hg => rfl); (case hr => first | (go_simp; done) | (go_simp; rfl)); (case hp => exact (Reps.one (show Kd.M Kd.string _ _ _ (⟨#[108, 101, 118, 101, 108]⟩ : ByteArray) [.string (⟨#[108, 101, 118, 101, 108]⟩ : ByteArray)] from rfl) (Reps.one (show Kd.M Kd.string _ _ _ (⟨#[111, 119, 110, 101, 114]⟩ : ByteArray) [.string (⟨#[111, 119, 110, 101, 114]⟩ : ByteArray)] from rfl) (Reps.one (show Kd.M Kd.string _ _ _ (⟨#[111, 112, 101, 110]⟩ : ByteArray) [.string (⟨#[111, 112, 101, 110]⟩ : ByteArray)] from rfl) (Reps.one (show Kd.M Kd.string _ _ _ (⟨#[97, 103, 101]⟩ : ByteArray) [.string (⟨#[97, 103, 101]⟩ : ByteArray)] from rfl) (Reps.one (show Kd.M Kd.string _ _ _ (⟨#[98, 111, 115, 115]⟩ : ByteArray) [.string (⟨#[98, 111, 115, 115]⟩ : ByteArray)] from rfl) (Reps.none _ _))))))); intro v736 w17 ho18 hb hg_ hnew_; clear hg_ hnew_; (first | rw [← Ny735.out] at ho18 | (simp only [Int.reduceToNat] at ho18; rw [← Ny735.out] at ho18)); have n0_ := Aside0.mk (Kd.R_lower ho18 (keep_size (w := w) (g := g) (row := none) (by exact kw HK.out))); have n1_ := Aside0.mk (IsS105.below (by exact sw105 HI0.out) hb); have n2_ := Aside0.mk (KeepBut.trans (by exact kw HK.out) (KeepBut.of_below hb g none) (.inl rfl)); have n3_ := Aside0.mk (below_step (by exact bw HB.out) hb); clear HI0; clear HK; clear HB; have HO737 := n0_; have HI0 := n1_; have HK := n2_; have HB := n3_; clear n0_ n1_ n2_ n3_; clear hb ho18) | ((with_reducible refine gate_callee (f := 62) rfl ?_); refine gl (some 15) Try.func62 #[.pointer (some ⟨g, 0, none⟩), .int .i64 5] ?_; (with_reducible refine (spec_l20Rd_pick.calls k g s0_0 t728 5 t738 t739 w0 _ ?side1 ?side2 A13.out).mono ?_); (case side1 => exact sw105 HI0.out); (case side2 => exact bw HB.out); rintro e w19 ⟨rfl, hi, hb, hk⟩; refine ⟨_, rfl, ?_⟩; have n0_ := Aside0.mk (Kd.R_mono (Kd.R_keep (IsS105.apart (show IsS105 w0 _ g s0_0 t728 from by exact sw105 HI0.out) (by exact Kd.xR HO737.out) (by decide)) hk (fun _ h => h.2)) (fun _ h => h.1)); have n1_ := Aside0.mk (KeepBut.trans (by exact kw HK.out) hk (.inl rfl)); have n2_ := Aside0.mk (hb); have n3_ := Aside0.mk (hi); clear HO737; clear HK; clear HB; clear HI0; have HO737 := n0_; have HK := n1_; have HB := n2_; have HI0 := n3_; clear n0_ n1_ n2_ n3_; (try clear hb); (try clear hb2); (try clear hk); (try clear hi); obtain ⟨Ao20, co20, eo20⟩ := Kd.R_slice HO737.out; subst eo20; have p740 : 0 ≤ (t738 : Int) := of_decide_eq_true (by first | (with_reducible assumption) | assumption); have q740 : t738 < (y735.length : Int) := of_decide_eq_true (by first | (with_reducible assumption) | assumption); obtain ⟨ad740, e740, hx740_0⟩ := Kd.at_string (Kd.R_reads' HO737.out).2.2 t738 p740 q740; cases e740; replace p740 := eq_true p740; replace q740 := eq_true q740))
    go_ret
    exact ⟨by first | rfl | (simp [errW_none, errW_some] <;> rfl) | (simp [*, errW_none, errW_some] <;> rfl), by exact sw105 HI0.out, by exact bw HB.out, by exact kw HK.out⟩
   ·
    rw [if_neg c15] at H
    exact absurd H (by simp)
  ·
   rw [if_neg c14] at H
   exact absurd H (by simp)

end Go.Proofs.Ytejfaenmgdkaoaa.P
