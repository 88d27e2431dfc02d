-- Written by a program of this session (wip/tool).
import Derived.Test.YtjpeciodihnolaaPx0
import Derived.Test.YtjpeciodihnolaaPx1036
import Derived.Test.YtjpeciodihnolaaPx1049
namespace Go.Proofs.Ytjpeciodihnolaa.P
open Go.RowKit Go.Proofs.YtjpeciodihnolaaW.PrintWords Go.Proofs.YtjpeciodihnolaaW.PrintLast Go.Proofs.YtjpeciodihnolaaW.PrintMore
attribute [local go_sem] max2_int min2_int max_two min_two max_three min_three max_four min_four   -- for this text's walks alone
set_option linter.unusedVariables false
set_option linter.unusedSimpArgs false

/-! ### spec_l20Number: function 48 -/
def spec_l20Number.j0 : Nat → Int → Int → List Int → Int → Option (Int × Int × ByteArray × (List (S25)) × Int)
 | 0, _, _, _, _ => none
 | k + 1, x1, x6, x1000, x1001 => if x6 = 0 then (some (6, 0, (⟨#[]⟩ : ByteArray), ([] : List (S25)), x1001)) else (if x6 = 1 then ((some (([(⟨#[108, 101, 118, 101, 108]⟩ : ByteArray), (⟨#[97, 103, 101]⟩ : ByteArray)] : List ByteArray) : List ByteArray)).bind fun y134 => ((spec_l20Rd_pick.f k x1000 x1001 2).bind fun bt137 => (if 0 ≤ bt137.1 then (if bt137.1 < (y134.length : Int) then (some (7, 0, rdOf ByteArray.empty y134 bt137.1, ([] : List (S25)), bt137.2)) else (none)) else (none)))) else (if x6 = 2 then (if x1 > 0 then ((some (([(⟨#[108, 101, 118, 101, 108]⟩ : ByteArray), (⟨#[97, 103, 101]⟩ : ByteArray)] : List ByteArray) : List ByteArray)).bind fun y140 => ((spec_l20Rd_pick.f k x1000 x1001 2).bind fun bt143 => (if 0 ≤ bt143.1 then (if bt143.1 < (y140.length : Int) then ((spec_l20Thing.f k x1000 bt143.2 (wrap64 (x1 - 1))).bind fun bt146 => (some (8, 0, rdOf ByteArray.empty y140 bt143.1, (([(⟨bt146.1, bt146.2.1, bt146.2.2.1, bt146.2.2.2.1⟩ : S25)] : List (S25))), bt146.2.2.2.2))) else (none)) else (none)))) else ((spec_l20Rd_pick.f k x1000 x1001 5).bind fun bt156 => (some (2, bt156.1, (⟨#[]⟩ : ByteArray), ([] : List (S25)), bt156.2)))) else ((spec_l20Rd_pick.f k x1000 x1001 5).bind fun bt158 => (some (2, bt158.1, (⟨#[]⟩ : ByteArray), ([] : List (S25)), bt158.2)))))
def spec_l20Number.f (k : Nat) (s0_0 : List Int) (s0_1 : Int) (a1 : Int) : Option (Int × Int × ByteArray × (List (S25)) × Int) := (spec_l20Rd_pick.f k s0_0 s0_1 4).bind fun bt132 => (spec_l20Number.j0 k a1 bt132.1 s0_0 bt132.2)
theorem spec_l20Number.mono_l : ∀ k, (∀ y0 y1 y2 y3, LeO (spec_l20Number.j0 k y0 y1 y2 y3) (spec_l20Number.j0 (k + 1) y0 y1 y2 y3))
 | 0 => fun _ _ _ _ r h => by simp [spec_l20Number.j0] at h
 | k + 1 => by
  have ih0 := spec_l20Number.mono_l k
  ·
   intro y0 y1 y2 y3
   unfold spec_l20Number.j0
   repeat' first
   | (with_reducible exact ih0 _ _ _ _)
   | (with_reducible exact spec_l20Rd_pick.mono _ _ _ _)
   | (with_reducible exact spec_l20Thing.mono _ _ _ _)
   | (with_reducible exact LeO.refl _)
   | (with_reducible exact LeO.none _)
   | (with_reducible refine LeO.ite ?_ ?_)
   | (with_reducible refine LeO.bind ?_ (fun _ => ?_))
   | exact ih0 _ _ _ _
   | exact spec_l20Rd_pick.mono _ _ _ _
   | exact spec_l20Thing.mono _ _ _ _
   | exact LeO.none _
   | refine LeO.ite ?_ ?_
   | refine LeO.bind ?_ (fun _ => ?_)
theorem spec_l20Number.mono : ∀ a0 a1 a2 k, LeO (spec_l20Number.f k a0 a1 a2) (spec_l20Number.f (k + 1) a0 a1 a2) := by
 intro a0 a1 a2 k
 have ih0 := spec_l20Number.mono_l k
 unfold spec_l20Number.f
 repeat' first
   | (with_reducible exact ih0 _ _ _ _)
   | (with_reducible exact spec_l20Rd_pick.mono _ _ _ _)
   | (with_reducible exact spec_l20Thing.mono _ _ _ _)
   | (with_reducible exact LeO.refl _)
   | (with_reducible exact LeO.none _)
   | (with_reducible refine LeO.ite ?_ ?_)
   | (with_reducible refine LeO.bind ?_ (fun _ => ?_))
   | exact ih0 _ _ _ _
   | exact spec_l20Rd_pick.mono _ _ _ _
   | exact spec_l20Thing.mono _ _ _ _
   | exact LeO.none _
   | refine LeO.ite ?_ ?_
   | refine LeO.bind ?_ (fun _ => ?_)
def spec_l20Number.T8 : Bool × List (List Nat × List Nat) := (true, [([], []), ([], []), ([1], [1]), ([0, 2], [0, 2]), ([3], [3]), ([], []), ([], []), ([6], [6]), ([5, 7, 2], [5, 7]), ([8], [8]), ([4, 9], [4, 9]), ([10, 8, 0, 1, 2, 3, 4, 5, 6, 7, 8, 9, 10], [10])])
def spec_l20Number.B8 : List Nat := [0, 0, 2, 7, 15, 0, 0, 64, 230, 486, 1023, 2047]
theorem spec_l20Number.tab8 : rtab .any (opsOf Try.f48 8) = spec_l20Number.T8 := by kernel_rfl
theorem spec_l20Number.bits8 : waitsOk spec_l20Number.T8.2 spec_l20Number.B8 = true := by kernel_rfl
set_option maxHeartbeats 8000000 in
set_option maxRecDepth 100000 in
theorem spec_l20Number.calls (k : Nat) (g : Nat) (s0_0 : List Int) (s0_1 : Int) (a1 : Int) (r1 : Int) (r2 : Int) (r3 : ByteArray) (r4 : List (S25)) (r5 : Int) (w0 w : World) (hI : IsS75 w0 w g s0_0 s0_1) (hB : Below w0.heap.size w0 w) (h : spec_l20Number.f k s0_0 s0_1 a1 = some (r1, r2, r3, r4, r5)) :
  Calls Try.prog 48 #[.pointer (some ⟨g, 0, none⟩), .int .i64 a1] w fun e w' => ∃ v3_ : Value, e = .returned (.agg #[.int .i64 r1, .int .i64 r2, .string r3, v3_]) ∧ Kd.N k25 25 w' w.heap.size (fun k_ => (w.heap.size ≤ k_)) v3_ r4 ∧ IsS75 w0 w' g s0_0 r5 ∧ Below w0.heap.size w0 w' ∧ KeepBut w w' g none := by
 have hu25 := Try.underlying25
 have HI0 := Aside0.mk hI
 have HK := Aside0.mk (KeepBut.refl w g none)
 have HL := Aside0.mk hB.size
 have HG0 := Aside0.mk (IsS75.ge hI)
 clear hI
 have HW0 := Aside0.mk hB.size
 have HB := Aside0.mk hB
 clear hB
 have H : ((spec_l20Rd_pick.f k s0_0 s0_1 4).bind fun bt132 => (spec_l20Number.j0 k a1 bt132.1 s0_0 bt132.2)) = some (r1, r2, r3, r4, r5) := h
 clear h
 have HC3 := Aside0.mk H
 clear H
 go_enter Try.func48, Try.ntmps48
 go_upto_region 1 with (first | ((with_reducible refine gate_dst (N := 4) rfl ?_); refine bx 4 #[.int .i64 0, .int .i64 0, .string (⟨#[]⟩ : ByteArray), .slice none 0 0] 25 ?_; intro gb131 hg w4 hbox hb; replace HB := bS HB hb; have BK131 := Aside0.mk (hbox); have GW131 := gwK HK hg; have GE131 := gwE HW0 (gwK HK hg); replace HK := kTb HK hb; have NB0_131 := il75 HI0 hg; have NB131_0 := ir75 HI0 hg; replace HI0 := ib75 HI0 hb; clear hb hbox hg))
 (try simp only [Act.put, List.setIfInBounds_toArray, List.set_cons_zero, List.set_cons_succ])
 go_cut [6] (fun v6 wc => ∃ (kq : Nat) (x6_2 : Int) (x1001_2 : Int), v6 = .int .i64 x6_2 ∧ Aside0 (spec_l20Number.j0 kq a1 x6_2 s0_0 x1001_2 = some (r1, r2, r3, r4, r5)) ∧ Aside0 (kq ≤ k) ∧ Aside0 (wc.heap[gb131]? = some (.cells #[.int .i64 0, .int .i64 0, .string (⟨#[]⟩ : ByteArray), (.slice none 0 0)] 25 (0, 0))) ∧ Aside0 (IsS75 w0 wc g s0_0 x1001_2) ∧ Aside0 (KeepBut w wc g none) ∧ Aside0 (Below w0.heap.size w0 wc))
 case first =>
  have H := HC3.out
  clear HC3
  replace H := Option.bind_eq_some_iff.mp H
  obtain ⟨⟨t132, t133⟩, A50, H⟩ := H
  replace H : (spec_l20Number.j0 k a1 t132 s0_0 t133) = some (r1, r2, r3, r4, r5) := H
  have A5 := Aside0.mk A50
  clear A50
  have H' := Aside0.mk H
  clear H
  go_wp2_with (first | ((with_reducible refine gate_callee (f := 36) rfl ?_); refine gl (some 6) Try.func36 #[.pointer (some ⟨g, 0, none⟩), .int .i64 4] ?_; (with_reducible refine (spec_l20Rd_pick.calls k g s0_0 s0_1 4 t132 t133 w0 _ ?side1 ?side2 A5.out).mono ?_); (case side1 => exact sw75 HI0.out); (case side2 => exact bw HB.out); rintro e w6 ⟨rfl, hi, hb, hk⟩; refine ⟨_, rfl, ?_⟩; replace BK131 := kB hk BK131 NB131_0; replace HK := kT HK hk; replace HB := Aside0.mk (hb); replace HI0 := Aside0.mk (hi); (try clear hb); (try clear hb2); (try clear hk); (try clear hi)))
  go_meet
  case rel => exact ⟨_, (t132), (t133), (by first | rfl | (simp; done) | (simp [*]; done)), H', ⟨by first | omega | exact Nat.le_refl _⟩, ⟨by exact bk BK131.out⟩, ⟨by exact sw75 HI0.out⟩, ⟨by exact kw HK.out⟩, ⟨by exact bw HB.out⟩⟩
 case rest =>
  clear HC3
  try clear p2
  try clear c3
  try clear c4
  obtain ⟨kq, x6_2, x1001_2, rfl, HA, HJ2, BK131, HI0, HK, HB⟩ := hcut
  cases kq with
  | zero => exact absurd HA.out (by simp [spec_l20Number.j0])
  | succ kj2 =>
   have H := HA.out
   clear HA
   simp only [spec_l20Number.j0] at H
   by_cases c7 : x6_2 = 0
   ·
    rw [if_pos c7] at H; obtain ⟨c7b0, c7b1⟩ := eqY c7; clear c7
    simp only [Option.some.injEq, Prod.mk.injEq] at H
    obtain ⟨rfl, rfl, rfl, rfl, rfl⟩ := H
    have hnb8 := NB131_0.out
    have hnc8 := NB0_131.out
    have hcz9_0 : wc.cell? ⟨gb131, 0, none⟩ = some (.int .i64 0) := (blk_cell BK131.out 0).trans rfl
    have hcz9_1 : wc.cell? ⟨gb131, 1, none⟩ = some (.int .i64 0) := (blk_cell BK131.out 1).trans rfl
    have hcz9_2 : wc.cell? ⟨gb131, 2, none⟩ = some (.string (⟨#[]⟩ : ByteArray)) := (blk_cell BK131.out 2).trans rfl
    have hcz9_3 : wc.cell? ⟨gb131, 3, none⟩ = some (.slice none 0 0) := (blk_cell BK131.out 3).trans rfl
    have hfz9_0 := blk_frozen BK131.out 0
    have hfz9_1 := blk_frozen BK131.out 1
    have hfz9_2 := blk_frozen BK131.out 2
    have hfz9_3 := blk_frozen BK131.out 3
    go_wp2
    refine bodyPost_ret (results_cell_row rfl _ _ gb131 25 #[.int .i64 6, .int .i64 0, .string (⟨#[]⟩ : ByteArray), .slice none 0 0] (0, 0) _ rfl (bp BK131) Try.underlying25 rfl (by kernel_rfl)) rfl ?_
    exact ⟨_, by first | rfl | (simp [errW_none, errW_some] <;> rfl) | (simp [*, errW_none, errW_some] <;> rfl), by first | exact Kd.R_nil _ _ _ _ _ | exact Kd.N_nil _ _ _ _ _ | exact Kd.V_nil _ _ _ _ _ | exact Kd.Q_nil _ _ _ _ _ | exact Kd.S_nil _ _ _ _ _, by exact sw75 HI0.out, by exact bw HB.out, by exact kw HK.out⟩
   ·
    rw [if_neg c7] at H; obtain ⟨c7b0, c7b1⟩ := eqN c7
    by_cases c10 : x6_2 = 1
    ·
     rw [if_pos c10] at H; obtain ⟨c10b0, c10b1⟩ := eqY c10; clear c10
     obtain ⟨y134, hy134⟩ : ∃ y_ : List ByteArray, y_ = (([(⟨#[108, 101, 118, 101, 108]⟩ : ByteArray), (⟨#[97, 103, 101]⟩ : ByteArray)] : List ByteArray)) := ⟨_, rfl⟩
     replace H : ((spec_l20Rd_pick.f kj2 s0_0 x1001_2 2).bind fun bt137 => (if 0 ≤ bt137.1 then (if bt137.1 < (y134.length : Int) then (some (7, 0, rdOf ByteArray.empty y134 bt137.1, ([] : List (S25)), bt137.2)) else (none)) else (none))) = some (r1, r2, r3, r4, r5) := by first | (rw [hy134]; with_reducible exact H) | (have H2_ := (Option.bind_some _ _).symm.trans H; rw [hy134]; with_reducible exact H2_) | (have H2_ := (Option.bind_some _ _).symm.trans H; with_reducible exact H2_) | with_reducible exact H | (rw [hy134]; exact H) | exact H
     have Ny134 := Aside0.mk hy134
     clear hy134
     replace H := Option.bind_eq_some_iff.mp H
     obtain ⟨⟨t137, t138⟩, A110, H⟩ := H
     replace H : (if 0 ≤ t137 then (if t137 < (y134.length : Int) then (some (7, 0, rdOf ByteArray.empty y134 t137, ([] : List (S25)), t138)) else (none)) else (none)) = some (r1, r2, r3, r4, r5) := H
     have A11 := Aside0.mk A110
     clear A110
     by_cases c12 : 0 ≤ t137
     ·
      rw [if_pos c12] at H; have c12b0 : decide (0 ≤ t137) = true := decide_eq_true c12; clear c12
      by_cases c13 : t137 < (y134.length : Int)
      ·
       rw [if_pos c13] at H; have c13b0 : decide (t137 < (y134.length : Int)) = true := decide_eq_true c13; clear c13
       simp only [Option.some.injEq, Prod.mk.injEq] at H
       obtain ⟨rfl, rfl, rfl, rfl, rfl⟩ := H
       go_wp2_with (first | ((with_reducible refine gate_dst (N := 12) rfl ?_); refine Kd.R_lit Kd.string _ 9 ?hg (N := 12) ?hd (xs := ([(⟨#[108, 101, 118, 101, 108]⟩ : ByteArray), (⟨#[97, 103, 101]⟩ : ByteArray)] : List ByteArray)) (inner := [.string (⟨#[108, 101, 118, 101, 108]⟩ : ByteArray), .string (⟨#[97, 103, 101]⟩ : ByteArray)]) (ok := fun _ => True) (okp := fun _ => True) ?hr ?hp (fun _ hk => hk) trivial (Below.refl _ _) (Nat.le_refl _) (by simp) ?_; (case hd => rfl); (case hg => rfl); (case hr => first | (go_simp; done) | (go_simp; rfl)); (case hp => exact (Reps.one (show Kd.M Kd.string _ _ _ (⟨#[108, 101, 118, 101, 108]⟩ : ByteArray) [.string (⟨#[108, 101, 118, 101, 108]⟩ : ByteArray)] from rfl) (Reps.one (show Kd.M Kd.string _ _ _ (⟨#[97, 103, 101]⟩ : ByteArray) [.string (⟨#[97, 103, 101]⟩ : ByteArray)] from rfl) (Reps.none _ _)))); intro v135 w14 ho15 hb hg_ hnew_; clear hg_ hnew_; (first | rw [← Ny134.out] at ho15 | (simp only [Int.reduceToNat] at ho15; rw [← Ny134.out] at ho15)); have HO136 := Aside0.mk (Kd.R_lower (Kd.R_newM (M := fun k_ => (w.heap.size ≤ k_)) ho15 (kz HK) (fun k_ h_ => h_)) (kz HK)); replace BK131 := bB BK131 hb; replace HI0 := ib75 HI0 hb; replace HK := kTb HK hb; replace HB := bS HB hb; clear hb ho15) | ((with_reducible refine gate_callee (f := 36) rfl ?_); refine gl (some 14) Try.func36 #[.pointer (some ⟨g, 0, none⟩), .int .i64 2] ?_; (with_reducible refine (spec_l20Rd_pick.calls kj2 g s0_0 x1001_2 2 t137 t138 w0 _ ?side1 ?side2 A11.out).mono ?_); (case side1 => exact sw75 HI0.out); (case side2 => exact bw HB.out); rintro e w16 ⟨rfl, hi, hb, hk⟩; refine ⟨_, rfl, ?_⟩; replace BK131 := kB hk BK131 NB131_0; replace HO136 := Aside0.mk (Kd.R_mono (Kd.R_keep (IsS75.apart (show IsS75 w0 _ g s0_0 x1001_2 from by exact sw75 HI0.out) (by exact Kd.xR HO136.out) (by decide)) hk (fun _ h => h.2)) (fun _ h => h.1)); replace HK := kT HK hk; replace HB := Aside0.mk (hb); replace HI0 := Aside0.mk (hi); (try clear hb); (try clear hb2); (try clear hk); (try clear hi); obtain ⟨Ao17, co17, eo17⟩ := Kd.R_slice HO136.out; subst eo17; have p139 : 0 ≤ (t137 : Int) := of_decide_eq_true (by first | (with_reducible assumption) | assumption); have q139 : t137 < (y134.length : Int) := of_decide_eq_true (by first | (with_reducible assumption) | assumption); obtain ⟨ad139, e139, hx139_0⟩ := Kd.at_string (Kd.R_reads' HO136.out).2.2 t137 p139 q139; cases e139; replace p139 := eq_true p139; replace q139 := eq_true q139; have hnb18 := NB131_0.out; have hnc18 := NB0_131.out; obtain ⟨hcz19_0, hcz19_1, hcz19_2, hcz19_3⟩ := cs4 BK131.out; obtain ⟨hfz19_0, hfz19_1, hfz19_2, hfz19_3⟩ := fz4 BK131.out))
       refine bodyPost_ret (results_cell_row rfl _ _ gb131 25 #[.int .i64 7, .int .i64 0, .string (rdOf ByteArray.empty y134 t137), .slice none 0 0] (0, 0) _ rfl (bp BK131) Try.underlying25 rfl (by kernel_rfl)) rfl ?_
       exact ⟨_, by first | rfl | (simp [errW_none, errW_some] <;> rfl) | (simp [*, errW_none, errW_some] <;> rfl), by first | exact Kd.R_nil _ _ _ _ _ | exact Kd.N_nil _ _ _ _ _ | exact Kd.V_nil _ _ _ _ _ | exact Kd.Q_nil _ _ _ _ _ | exact Kd.S_nil _ _ _ _ _, by exact sw75 HI0.out, by exact bw HB.out, by exact kw HK.out⟩
      ·
       rw [if_neg c13] at H; exact absurd H (by simp)
     ·
      rw [if_neg c12] at H; exact absurd H (by simp)
    ·
     rw [if_neg c10] at H; obtain ⟨c10b0, c10b1⟩ := eqN c10
     by_cases c20 : x6_2 = 2
     ·
      rw [if_pos c20] at H; obtain ⟨c20b0, c20b1⟩ := eqY c20; clear c20
      by_cases c21 : a1 > 0
      ·
       rw [if_pos c21] at H; have c21b0 : decide (0 < a1) = true := decide_eq_true c21; clear c21
       obtain ⟨y140, hy140⟩ : ∃ y_ : List ByteArray, y_ = (([(⟨#[108, 101, 118, 101, 108]⟩ : ByteArray), (⟨#[97, 103, 101]⟩ : ByteArray)] : List ByteArray)) := ⟨_, rfl⟩
       replace H : ((spec_l20Rd_pick.f kj2 s0_0 x1001_2 2).bind fun bt143 => (if 0 ≤ bt143.1 then (if bt143.1 < (y140.length : Int) then ((spec_l20Thing.f kj2 s0_0 bt143.2 (wrap64 (a1 - 1))).bind fun bt146 => (some (8, 0, rdOf ByteArray.empty y140 bt143.1, (([(⟨bt146.1, bt146.2.1, bt146.2.2.1, bt146.2.2.2.1⟩ : S25)] : List (S25))), bt146.2.2.2.2))) else (none)) else (none))) = some (r1, r2, r3, r4, r5) := by first | (rw [hy140]; with_reducible exact H) | (have H2_ := (Option.bind_some _ _).symm.trans H; rw [hy140]; with_reducible exact H2_) | (have H2_ := (Option.bind_some _ _).symm.trans H; with_reducible exact H2_) | with_reducible exact H | (rw [hy140]; exact H) | exact H
       have Ny140 := Aside0.mk hy140
       clear hy140
       replace H := Option.bind_eq_some_iff.mp H
       obtain ⟨⟨t143, t144⟩, A220, H⟩ := H
       replace H : (if 0 ≤ t143 then (if t143 < (y140.length : Int) then ((spec_l20Thing.f kj2 s0_0 t144 (wrap64 (a1 - 1))).bind fun bt146 => (some (8, 0, rdOf ByteArray.empty y140 t143, (([(⟨bt146.1, bt146.2.1, bt146.2.2.1, bt146.2.2.2.1⟩ : S25)] : List (S25))), bt146.2.2.2.2))) else (none)) else (none)) = some (r1, r2, r3, r4, r5) := H
       have A22 := Aside0.mk A220
       clear A220
       by_cases c23 : 0 ≤ t143
       ·
        rw [if_pos c23] at H; have c23b0 : decide (0 ≤ t143) = true := decide_eq_true c23; clear c23
        by_cases c24 : t143 < (y140.length : Int)
        ·
         rw [if_pos c24] at H; have c24b0 : decide (t143 < (y140.length : Int)) = true := decide_eq_true c24; clear c24
         replace H := Option.bind_eq_some_iff.mp H
         obtain ⟨⟨t146, t147, t148, t149, t152⟩, A250, H⟩ := H
         replace H : (some (8, 0, rdOf ByteArray.empty y140 t143, (([(⟨t146, t147, t148, t149⟩ : S25)] : List (S25))), t152)) = some (r1, r2, r3, r4, r5) := H
         have A25 := Aside0.mk A250
         clear A250
         obtain ⟨y153, hy153⟩ : ∃ y_ : List (S25), y_ = (([(⟨t146, t147, t148, t149⟩ : S25)] : List (S25))) := ⟨_, rfl⟩
         replace H : (some (8, 0, rdOf ByteArray.empty y140 t143, y153, t152)) = some (r1, r2, r3, r4, r5) := by first | (rw [hy153]; with_reducible exact H) | (have H2_ := (Option.bind_some _ _).symm.trans H; rw [hy153]; with_reducible exact H2_) | (have H2_ := (Option.bind_some _ _).symm.trans H; with_reducible exact H2_) | with_reducible exact H | (rw [hy153]; exact H) | exact H
         have Ny153 := Aside0.mk hy153
         clear hy153
         simp only [Option.some.injEq, Prod.mk.injEq] at H
         obtain ⟨rfl, rfl, rfl, rfl, rfl⟩ := H
         try go_wp2
         have pi145 : (0 ≤ (t143 : Int)) = True := eq_true (of_decide_eq_true (by first | (with_reducible assumption) | assumption))
         have qi145 : (t143 < (y140.length : Int)) = True := eq_true (of_decide_eq_true (by first | (with_reducible assumption) | assumption))
         replace BK131 := Aside0.mk (blk_drew BK131.out)
         replace HI0 := Aside0.mk (IsS75.drew HI0.out)
         replace HK := Aside0.mk (keep_drew HK.out)
         replace HB := Aside0.mk (below_drew1 HB.out)
         refine start_ (n := 12) (S := fun w' => True) (ds := []) (mB 12 0) (by kernel_rfl) rfl rfl trivial (fun hHeld => ?_); refine with_tabW spec_l20Number.tab8 spec_l20Number.bits8 (fun HT_ HW_ => ?_)
         generalize wc.drew = w26 at BK131 HI0 HK HB hHeld ⊢
         refine pn 1 23 HT_.out ?_
         refine pn 5 27 HT_.out ?_
         refine pn 6 28 HT_.out ?_
         refine inv_at [0, 2, 3, 4, 7, 8, 9, 10, 11] (fun a0_ b a w' => ∃ (v141 : Value) (adz_v141 : Addr) (v150 : Value) (v154 : Value) (m3_ : Value) (m8_ : Value) (m10_ : Value), a = putSel a0_ b [(0, 22, v141), (2, 24, .int .i64 t143), (3, 25, m3_), (4, 26, .string (rdOf ByteArray.empty y140 t143)), (7, 29, .int .i64 (wrap64 (a1 - 1))), (8, 30, m8_), (9, 31, v154), (10, 32, m10_)] ∧ (b 11 = false → w'.heap[gb131]? = some (.cells #[.int .i64 0, .int .i64 0, .string (⟨#[]⟩ : ByteArray), .slice none 0 0] 25 (0, 0))) ∧ (b 2 = false → IsS75 w0 w' g s0_0 x1001_2) ∧ (KeepBut w w' g none) ∧ (Below w0.heap.size w0 w') ∧ (b 0 = true → Kd.R Kd.string 9 w' w.heap.size (fun k_ => (w.heap.size ≤ k_)) v141 y140) ∧ (b 0 = true → ∃ c_, (v141 : Value) = .slice (some adz_v141) y140.length c_) ∧ (b 2 = true → b 8 = false → IsS75 w0 w' g s0_0 t144) ∧ (b 8 = true → Kd.V k25 25 w' w.heap.size (fun k_ => (w.heap.size ≤ k_) ∧ k_ ≠ g ∧ k_ ≠ gb131) v150 t149) ∧ (b 8 = true → IsS75 w0 w' g s0_0 t152) ∧ (b 9 = true → Kd.N k25 25 w' w.heap.size (fun k_ => (w.heap.size ≤ k_) ∧ k_ ≠ g ∧ k_ ≠ gb131) v154 y153) ∧ (b 11 = true → w'.heap[gb131]? = some (.cells #[.int .i64 8, .int .i64 0, .string (rdOf ByteArray.empty y140 t143), v154] 25 (0, 0))) ∧ (b 3 = true → (m3_ : Value) = .pointer (some (adz_v141.add (t143).toNat))) ∧ (b 8 = true → (m8_ : Value) = .agg #[.int .i64 t146, .int .i64 t147, .string t148, v150]) ∧ (b 10 = true → (m10_ : Value) = .agg #[.int .i64 8, .int .i64 0, .string (rdOf ByteArray.empty y140 t143), v154])) HT_.out HW_.out (by kernel_rfl) (by kernel_rfl) ?_ ?_ ?_
         ·
          exact ⟨.bool false, ⟨0, 0, none⟩, .bool false, .bool false, .bool false, .bool false, .bool false, by simp only [putSel, Bool.false_eq_true, if_false], fun _ => BK131.out, fun _ => HI0.out, HK.out, HB.out, fun h_ => absurd h_ (by decide), fun h_ => absurd h_ (by decide), fun h_ => absurd h_ (by decide), fun h_ => absurd h_ (by decide), fun h_ => absurd h_ (by decide), fun h_ => absurd h_ (by decide), fun h_ => absurd h_ (by decide), fun h_ => absurd h_ (by decide), fun h_ => absurd h_ (by decide), fun h_ => absurd h_ (by decide)⟩
         ·
          skip
          clear BK131 HB HI0 HK
          refine steps_cons ?_ ?_
          ·
           rintro b a w' ⟨v141, adz_v141, v150, v154, m3_, m8_, m10_, ha, Q_BK131, Q_HI0, Q_HK, Q_HB, Q_HO142, Q_HA_HO142, Q_HI0_e2, Q_HO151, Q_HI0_e8, Q_HO155, Q_BK131_e11, Q_X3_, Q_X8_, Q_X10_⟩ hb_ hon hoff
           refine ⟨_, rfl, fun K hK => ?_⟩
           replace ha := Aside0.mk ha
           have BK131 := Aside0.mk (Q_BK131 (hoff 11 (by kernel_rfl)))
           have HK := Aside0.mk Q_HK
           have HB := Aside0.mk Q_HB
           refine Kd.R_lit_step Kd.string _ 9 ?hg (N := 22) ?hd (xs := ([(⟨#[108, 101, 118, 101, 108]⟩ : ByteArray), (⟨#[97, 103, 101]⟩ : ByteArray)] : List ByteArray)) (inner := [.string (⟨#[108, 101, 118, 101, 108]⟩ : ByteArray), .string (⟨#[97, 103, 101]⟩ : ByteArray)]) (ok := fun _ => True) (okp := fun _ => True) ?hr ?hp (fun _ hk => hk) trivial (Below.refl _ _) (Nat.le_refl _) (by simp) ?_; (case hd => rfl); (case hg => rfl); (case hr => first | (go_simp; done) | (go_simp; rfl)); (case hp => exact (Reps.one (show Kd.M Kd.string _ _ _ (⟨#[108, 101, 118, 101, 108]⟩ : ByteArray) [.string (⟨#[108, 101, 118, 101, 108]⟩ : ByteArray)] from rfl) (Reps.one (show Kd.M Kd.string _ _ _ (⟨#[97, 103, 101]⟩ : ByteArray) [.string (⟨#[97, 103, 101]⟩ : ByteArray)] from rfl) (Reps.none _ _))))
           intro v141 w27 ho28 hb hg_ hnew_
           clear hg_ hnew_
           (first | rw [← Ny140.out] at ho28 | (simp only [Int.reduceToNat] at ho28; rw [← Ny140.out] at ho28))
           have n0_ := Aside0.mk (Kd.R_lower (Kd.R_newM (M := fun k_ => (w.heap.size ≤ k_)) ho28 (kz HK) (fun k_ h_ => h_)) (kz HK))
           have n1_ := bB BK131 hb
           have n3_ := kTb HK hb
           have n4_ := bS HB hb
           have z_HI0 := fun (h0_ : b 2 = false) => (show IsS75 w0 w27 g s0_0 x1001_2 from by first | exact (IsS75.below (by repeat (first | (with_reducible first | exact (Q_HI0 h0_) | apply IsS75.alloc | apply IsS75.drewN | apply IsS75.drew | apply IsS75.set_1 | refine IsS75.far ?_ NB0_131.out _) | exact (Q_HI0 h0_))) hb))
           have z_HI0_e2 := fun (h0_ : b 2 = true) (h1_ : b 8 = false) => (show IsS75 w0 w27 g s0_0 t144 from by first | exact (IsS75.below (by repeat (first | (with_reducible first | exact (Q_HI0_e2 h0_ h1_) | apply IsS75.alloc | apply IsS75.drewN | apply IsS75.drew | apply IsS75.set_1 | refine IsS75.far ?_ NB0_131.out _) | exact (Q_HI0_e2 h0_ h1_))) hb))
           have z_HO151 := fun (h0_ : b 8 = true) => (show Kd.V k25 25 w27 w.heap.size (fun k_ => (w.heap.size ≤ k_) ∧ k_ ≠ g ∧ k_ ≠ gb131) v150 t149 from by first | exact (Kd.V_elder' (by (with_reducible repeat (first | apply Kd.V_alloc | apply Kd.V_drewN | apply Kd.V_drew)); exact (Q_HO151 h0_)) (Kd.R_base ho28) hb) | exact Kd.V_mono (Kd.V_elder' (by (with_reducible repeat (first | apply Kd.V_alloc | apply Kd.V_drewN | apply Kd.V_drew)); exact (Q_HO151 h0_)) (Kd.R_base ho28) hb) (fun _ h_ => by first | trivial | exact h_ | exact h_.1))
           have z_HI0_e8 := fun (h0_ : b 8 = true) => (show IsS75 w0 w27 g s0_0 t152 from by first | exact (IsS75.below (by repeat (first | (with_reducible first | exact (Q_HI0_e8 h0_) | apply IsS75.alloc | apply IsS75.drewN | apply IsS75.drew | apply IsS75.set_1 | refine IsS75.far ?_ NB0_131.out _) | exact (Q_HI0_e8 h0_))) hb))
           have z_HO155 := fun (h0_ : b 9 = true) => (show Kd.N k25 25 w27 w.heap.size (fun k_ => (w.heap.size ≤ k_) ∧ k_ ≠ g ∧ k_ ≠ gb131) v154 y153 from by first | exact (Kd.N_elder' (by (with_reducible repeat (first | apply Kd.N_alloc | apply Kd.N_drewN | apply Kd.N_drew)); exact (Q_HO155 h0_)) (Kd.R_base ho28) hb) | exact Kd.N_mono (Kd.N_elder' (by (with_reducible repeat (first | apply Kd.N_alloc | apply Kd.N_drewN | apply Kd.N_drew)); exact (Q_HO155 h0_)) (Kd.R_base ho28) hb) (fun _ h_ => by first | trivial | exact h_ | exact h_.1))
           clear BK131
           clear HK
           clear HB
           have HO142 := n0_
           have BK131 := n1_
           have HK := n3_
           have HB := n4_
           clear n0_ n1_ n3_ n4_
           clear hb ho28
           obtain ⟨Ao29, co29, eo29⟩ := Kd.R_slice HO142.out
           subst eo29
           obtain ⟨ado29, fo29, _⟩ := Kd.at_string (Kd.R_reads' HO142.out).2.2 0 (by decide) (by rw [Ny140.out]; simp)
           cases fo29
           refine hK.out _ _ ⟨.slice (some ado29) y140.length co29, ado29, v150, v154, m3_, m8_, m10_, (by rw [ha.out]; exact putSel_upk 0 hb_ rfl rfl rfl), fun _ => (by exact bk BK131.out), z_HI0, (by exact kw HK.out), (by exact bw HB.out), fun _ => (by (with_reducible repeat (first | apply Kd.R_alloc | apply Kd.R_drewN | apply Kd.R_drew)); exact Kd.R_mono HO142.out (fun _ hk => hk.1)), fun _ => ⟨_, rfl⟩, z_HI0_e2, z_HO151, z_HI0_e8, z_HO155, fun h0_ => absurd ((hoff 11 (by kernel_rfl)).symm.trans h0_) (by decide), fun h0_ => absurd ((hoff 3 (by kernel_rfl)).symm.trans h0_) (by decide), Q_X8_, fun h0_ => absurd ((hoff 10 (by kernel_rfl)).symm.trans h0_) (by decide)⟩
          refine steps_cons ?_ ?_
          ·
           rintro b a w' ⟨v141, adz_v141, v150, v154, m3_, m8_, m10_, ha, Q_BK131, Q_HI0, Q_HK, Q_HB, Q_HO142, Q_HA_HO142, Q_HI0_e2, Q_HO151, Q_HI0_e8, Q_HO155, Q_BK131_e11, Q_X3_, Q_X8_, Q_X10_⟩ hb_ hon hoff
           refine ⟨_, rfl, fun K hK => ?_⟩
           have e23 : a.tmps[23]? = some (.pointer (some ⟨g, 0, none⟩)) := by rw [ha]; exact (putSel_off rfl).trans rfl
           replace ha := Aside0.mk ha
           have BK131 := Aside0.mk (Q_BK131 (hoff 11 (by kernel_rfl)))
           have HI0 := Aside0.mk (Q_HI0 hb_)
           have HK := Aside0.mk Q_HK
           have HB := Aside0.mk Q_HB
           refine goes_ Try.func36 (by kernel_rfl) rfl #[.pointer (some ⟨g, 0, none⟩), .int .i64 2] (by rfl) rfl rfl (by first | (simp only [List.map_toArray, List.map_cons, List.map_nil, Act.eval, Array.getD_eq_getD_getElem?, Option.getD_some, e23]; done) | (simp only [List.map_toArray, List.map_cons, List.map_nil, Act.eval, Array.getD_eq_getD_getElem?, Option.getD_some, e23]; rfl)) ?_
           with_reducible refine (spec_l20Rd_pick.calls kj2 g s0_0 x1001_2 2 t143 t144 w0 _ ?side1 ?side2 A22.out).mono ?_
           (case side1 => exact sw75 HI0.out)
           (case side2 => exact bw HB.out)
           rintro e w27 ⟨rfl, hi, hb, hk⟩
           refine ⟨_, rfl, ?_⟩
           have n0_ := kB hk BK131 NB131_0
           have n1_ := kT HK hk
           have n2_ := Aside0.mk (hb)
           have n3_ := Aside0.mk (hi)
           have z_HO142 := fun (h0_ : b 0 = true) => (show Kd.R Kd.string 9 w27 w.heap.size (fun k_ => (w.heap.size ≤ k_)) v141 y140 from by first | exact (Kd.R_mono (Kd.R_keep (IsS75.apart (show IsS75 w0 _ g s0_0 x1001_2 from by exact sw75 HI0.out) (by (with_reducible repeat (first | apply Kd.R_alloc | apply Kd.R_drewN | apply Kd.R_drew)); exact (Q_HO142 h0_)) (by decide)) hk (fun _ h => h.2)) (fun _ h => h.1)) | exact Kd.R_mono (Kd.R_mono (Kd.R_keep (IsS75.apart (show IsS75 w0 _ g s0_0 x1001_2 from by exact sw75 HI0.out) (by (with_reducible repeat (first | apply Kd.R_alloc | apply Kd.R_drewN | apply Kd.R_drew)); exact (Q_HO142 h0_)) (by decide)) hk (fun _ h => h.2)) (fun _ h => h.1)) (fun _ h_ => by first | trivial | exact h_ | exact h_.1))
           clear BK131
           clear HK
           clear HB
           clear HI0
           have BK131 := n0_
           have HK := n1_
           have HB := n2_
           have HI0 := n3_
           clear n0_ n1_ n2_ n3_
           (try clear hb)
           (try clear hb2)
           (try clear hk)
           (try clear hi)
           refine hK.out _ _ ⟨v141, adz_v141, v150, v154, m3_, m8_, m10_, (by rw [ha.out]; exact putSel_upk 1 hb_ rfl rfl rfl), fun _ => (by exact bk BK131.out), fun h0_ => absurd ((up_self b 2).symm.trans h0_) (by decide), (by exact kw HK.out), (by exact bw HB.out), z_HO142, Q_HA_HO142, fun _ _ => (by exact sw75 HI0.out), fun h0_ => absurd ((hoff 8 (by kernel_rfl)).symm.trans h0_) (by decide), fun h0_ => absurd ((hoff 8 (by kernel_rfl)).symm.trans h0_) (by decide), fun h0_ => absurd ((hoff 9 (by kernel_rfl)).symm.trans h0_) (by decide), fun h0_ => absurd ((hoff 11 (by kernel_rfl)).symm.trans h0_) (by decide), fun h0_ => absurd ((hoff 3 (by kernel_rfl)).symm.trans h0_) (by decide), fun h0_ => absurd ((hoff 8 (by kernel_rfl)).symm.trans h0_) (by decide), fun h0_ => absurd ((hoff 10 (by kernel_rfl)).symm.trans h0_) (by decide)⟩
          refine steps_cons ?_ ?_
          ·
           rintro b a w' ⟨v141, adz_v141, v150, v154, m3_, m8_, m10_, ha, Q_BK131, Q_HI0, Q_HK, Q_HB, Q_HO142, Q_HA_HO142, Q_HI0_e2, Q_HO151, Q_HI0_e8, Q_HO155, Q_BK131_e11, Q_X3_, Q_X8_, Q_X10_⟩ hb_ hon hoff
           refine ⟨_, rfl, fun K hK => ?_⟩
           have e22 : a.tmps[22]? = some (v141) := by rw [ha]; exact putSel_on (e := (0, 22, v141)) 0 rfl rfl (hon 0 (by kernel_rfl)) rfl
           have e24 : a.tmps[24]? = some (.int .i64 t143) := by rw [ha]; exact putSel_on (e := (2, 24, .int .i64 t143)) 1 rfl rfl (hon 2 (by kernel_rfl)) rfl
           replace ha := Aside0.mk ha
           have BK131 := Aside0.mk (Q_BK131 (hoff 11 (by kernel_rfl)))
           have HK := Aside0.mk Q_HK
           have HB := Aside0.mk Q_HB
           have HO142 := Aside0.mk (Q_HO142 (hon 0 (by kernel_rfl)))
           have HA_HO142 := Aside0.mk (Q_HA_HO142 (hon 0 (by kernel_rfl)))
           obtain ⟨c_, hv_⟩ := HA_HO142.out
           rw [hv_] at e22
           refine value_ (w1 := w') (v := .pointer (some (adz_v141.add (t143).toNat))) (by rfl) rfl ?_ ?_
           ·
            go_simp
            (try simp only [i64_w])
            try rfl
           refine hK.out _ _ ⟨v141, adz_v141, v150, v154, (.pointer (some (adz_v141.add (t143).toNat))), m8_, m10_, (by rw [ha.out]; exact putSel_upk 2 hb_ rfl rfl rfl), Q_BK131, fun h0_ => absurd ((hon 2 (by kernel_rfl)).symm.trans h0_) (by decide), Q_HK, Q_HB, Q_HO142, Q_HA_HO142, Q_HI0_e2, Q_HO151, Q_HI0_e8, Q_HO155, fun h0_ => absurd ((hoff 11 (by kernel_rfl)).symm.trans h0_) (by decide), fun _ => rfl, Q_X8_, fun h0_ => absurd ((hoff 10 (by kernel_rfl)).symm.trans h0_) (by decide)⟩
          refine steps_cons ?_ ?_
          ·
           rintro b a w' ⟨v141, adz_v141, v150, v154, m3_, m8_, m10_, ha, Q_BK131, Q_HI0, Q_HK, Q_HB, Q_HO142, Q_HA_HO142, Q_HI0_e2, Q_HO151, Q_HI0_e8, Q_HO155, Q_BK131_e11, Q_X3_, Q_X8_, Q_X10_⟩ hb_ hon hoff
           refine ⟨_, rfl, fun K hK => ?_⟩
           have e25 : a.tmps[25]? = some (m3_) := by rw [ha]; exact putSel_on (e := (3, 25, m3_)) 2 rfl rfl (hon 3 (by kernel_rfl)) rfl
           rw [Q_X3_ (hon 3 (by kernel_rfl))] at e25
           replace ha := Aside0.mk ha
           have BK131 := Aside0.mk (Q_BK131 (hoff 11 (by kernel_rfl)))
           have HK := Aside0.mk Q_HK
           have HB := Aside0.mk Q_HB
           have HO142 := Aside0.mk (Q_HO142 (hon 0 (by kernel_rfl)))
           have HA_HO142 := Aside0.mk (Q_HA_HO142 (hon 0 (by kernel_rfl)))
           obtain ⟨c_, hv_⟩ := HA_HO142.out
           have hF_ := HO142.out
           rw [hv_] at hF_
           obtain ⟨ad_, ea_, hx_⟩ := Kd.at_string (Kd.R_reads' hF_).2.2 t143 (of_eq_true pi145) (of_eq_true qi145)
           cases ea_
           refine value_ (w1 := w') (v := .string (rdOf ByteArray.empty y140 t143)) (by rfl) rfl ?_ ?_
           ·
            go_simp
            (try simp only [i64_w])
            try rfl
           refine hK.out _ _ ⟨v141, adz_v141, v150, v154, m3_, m8_, m10_, (by rw [ha.out]; exact putSel_upk 3 hb_ rfl rfl rfl), Q_BK131, fun h0_ => absurd ((hon 2 (by kernel_rfl)).symm.trans h0_) (by decide), Q_HK, Q_HB, Q_HO142, Q_HA_HO142, Q_HI0_e2, Q_HO151, Q_HI0_e8, Q_HO155, fun h0_ => absurd ((hoff 11 (by kernel_rfl)).symm.trans h0_) (by decide), Q_X3_, Q_X8_, fun h0_ => absurd ((hoff 10 (by kernel_rfl)).symm.trans h0_) (by decide)⟩
          refine steps_cons ?_ ?_
          ·
           rintro b a w' ⟨v141, adz_v141, v150, v154, m3_, m8_, m10_, ha, Q_BK131, Q_HI0, Q_HK, Q_HB, Q_HO142, Q_HA_HO142, Q_HI0_e2, Q_HO151, Q_HI0_e8, Q_HO155, Q_BK131_e11, Q_X3_, Q_X8_, Q_X10_⟩ hb_ hon hoff
           refine ⟨_, rfl, fun K hK => ?_⟩
           have e28 : a.tmps[28]? = some (.int .i64 a1) := by rw [ha]; exact (putSel_off rfl).trans rfl
           replace ha := Aside0.mk ha
           have BK131 := Aside0.mk (Q_BK131 (hoff 11 (by kernel_rfl)))
           have HK := Aside0.mk Q_HK
           have HB := Aside0.mk Q_HB
           refine value_ (w1 := w') (v := .int .i64 (wrap64 (a1 - 1))) (by rfl) rfl ?_ ?_
           ·
            go_simp
            (try simp only [i64_w])
            try rfl
           refine hK.out _ _ ⟨v141, adz_v141, v150, v154, m3_, m8_, m10_, (by rw [ha.out]; exact putSel_upk 4 hb_ rfl rfl rfl), Q_BK131, Q_HI0, Q_HK, Q_HB, Q_HO142, Q_HA_HO142, Q_HI0_e2, fun h0_ => absurd ((hoff 8 (by kernel_rfl)).symm.trans h0_) (by decide), fun h0_ => absurd ((hoff 8 (by kernel_rfl)).symm.trans h0_) (by decide), fun h0_ => absurd ((hoff 9 (by kernel_rfl)).symm.trans h0_) (by decide), fun h0_ => absurd ((hoff 11 (by kernel_rfl)).symm.trans h0_) (by decide), Q_X3_, fun h0_ => absurd ((hoff 8 (by kernel_rfl)).symm.trans h0_) (by decide), fun h0_ => absurd ((hoff 10 (by kernel_rfl)).symm.trans h0_) (by decide)⟩
          refine steps_cons ?_ ?_
          ·
           rintro b a w' ⟨v141, adz_v141, v150, v154, m3_, m8_, m10_, ha, Q_BK131, Q_HI0, Q_HK, Q_HB, Q_HO142, Q_HA_HO142, Q_HI0_e2, Q_HO151, Q_HI0_e8, Q_HO155, Q_BK131_e11, Q_X3_, Q_X8_, Q_X10_⟩ hb_ hon hoff
           refine ⟨_, rfl, fun K hK => ?_⟩
           have e27 : a.tmps[27]? = some (.pointer (some ⟨g, 0, none⟩)) := by rw [ha]; exact (putSel_off rfl).trans rfl
           have e29 : a.tmps[29]? = some (.int .i64 (wrap64 (a1 - 1))) := by rw [ha]; exact putSel_on (e := (7, 29, .int .i64 (wrap64 (a1 - 1)))) 4 rfl rfl (hon 7 (by kernel_rfl)) rfl
           replace ha := Aside0.mk ha
           have BK131 := Aside0.mk (Q_BK131 (hoff 11 (by kernel_rfl)))
           have HK := Aside0.mk Q_HK
           have HB := Aside0.mk Q_HB
           have HI0 := Aside0.mk (Q_HI0_e2 (hon 2 (by kernel_rfl)) hb_)
           refine goes_ Try.func49 (by kernel_rfl) rfl #[.pointer (some ⟨g, 0, none⟩), .int .i64 (wrap64 (a1 - 1))] (by rfl) rfl rfl (by first | (simp only [List.map_toArray, List.map_cons, List.map_nil, Act.eval, Array.getD_eq_getD_getElem?, Option.getD_some, e27, e29]; done) | (simp only [List.map_toArray, List.map_cons, List.map_nil, Act.eval, Array.getD_eq_getD_getElem?, Option.getD_some, e27, e29]; rfl)) ?_
           with_reducible refine (spec_l20Thing.calls kj2 g s0_0 t144 (wrap64 (a1 - 1)) t146 t147 t148 t149 t152 w0 _ ?side1 ?side2 A25.out).mono ?_
           (case side1 => exact sw75 HI0.out)
           (case side2 => exact bw HB.out)
           rintro e w29 ⟨v150, rfl, ho0, hi, hb, hk⟩
           refine ⟨_, rfl, ?_⟩
           have n0_ := kB hk BK131 NB131_0
           have n1_ := Aside0.mk (Kd.V_lower (Kd.V_mono (ok' := fun k_ => (w.heap.size ≤ k_) ∧ k_ ≠ gb131 ∧ k_ ≠ g) ho0 (fun k_ hk_ => ⟨(Nat.le_trans (kz HK) hk_), (Kd.freshB (by exact bk BK131.out) k_ hk_), (IsS75.fresh (by exact sw75 HI0.out) k_ hk_)⟩)) (kz HK))
           have n2_ := kT HK hk
           have n3_ := Aside0.mk (hb)
           have n4_ := Aside0.mk (hi)
           have z_HO142 := fun (h0_ : b 0 = true) => (show Kd.R Kd.string 9 w29 w.heap.size (fun k_ => (w.heap.size ≤ k_)) v141 y140 from by first | exact (Kd.R_mono (Kd.R_keep (IsS75.apart (show IsS75 w0 _ g s0_0 t144 from by exact sw75 HI0.out) (by (with_reducible repeat (first | apply Kd.R_alloc | apply Kd.R_drewN | apply Kd.R_drew)); exact (Q_HO142 h0_)) (by decide)) hk (fun _ h => h.2)) (fun _ h => h.1)) | exact Kd.R_mono (Kd.R_mono (Kd.R_keep (IsS75.apart (show IsS75 w0 _ g s0_0 t144 from by exact sw75 HI0.out) (by (with_reducible repeat (first | apply Kd.R_alloc | apply Kd.R_drewN | apply Kd.R_drew)); exact (Q_HO142 h0_)) (by decide)) hk (fun _ h => h.2)) (fun _ h => h.1)) (fun _ h_ => by first | trivial | exact h_ | exact h_.1))
           clear BK131
           clear HK
           clear HB
           clear HI0
           have BK131 := n0_
           have HO151 := n1_
           have HK := n2_
           have HB := n3_
           have HI0 := n4_
           clear n0_ n1_ n2_ n3_ n4_
           (try clear hb)
           (try clear hb2)
           (try clear hk)
           (try clear hi)
           (try clear ho0)
           refine hK.out _ _ ⟨v141, adz_v141, v150, v154, m3_, (.agg #[.int .i64 t146, .int .i64 t147, .string t148, v150]), m10_, (by rw [ha.out]; exact putSel_upk 5 hb_ rfl rfl rfl), fun _ => (by exact bk BK131.out), fun h0_ => absurd ((hon 2 (by kernel_rfl)).symm.trans h0_) (by decide), (by exact kw HK.out), (by exact bw HB.out), z_HO142, Q_HA_HO142, fun _ h1_ => absurd ((up_self b 8).symm.trans h1_) (by decide), fun _ => (by (with_reducible repeat (first | apply Kd.V_alloc | apply Kd.V_drewN | apply Kd.V_drew)); exact Kd.V_mono HO151.out (fun _ hk => okp hk)), fun _ => (by exact sw75 HI0.out), fun h0_ => absurd ((hoff 9 (by kernel_rfl)).symm.trans h0_) (by decide), fun h0_ => absurd ((hoff 11 (by kernel_rfl)).symm.trans h0_) (by decide), Q_X3_, fun _ => rfl, fun h0_ => absurd ((hoff 10 (by kernel_rfl)).symm.trans h0_) (by decide)⟩
          refine steps_cons ?_ ?_
          ·
           rintro b a w' ⟨v141, adz_v141, v150, v154, m3_, m8_, m10_, ha, Q_BK131, Q_HI0, Q_HK, Q_HB, Q_HO142, Q_HA_HO142, Q_HI0_e2, Q_HO151, Q_HI0_e8, Q_HO155, Q_BK131_e11, Q_X3_, Q_X8_, Q_X10_⟩ hb_ hon hoff
           refine ⟨_, rfl, fun K hK => ?_⟩
           have e30 : a.tmps[30]? = some (m8_) := by rw [ha]; exact putSel_on (e := (8, 30, m8_)) 5 rfl rfl (hon 8 (by kernel_rfl)) rfl
           rw [Q_X8_ (hon 8 (by kernel_rfl))] at e30
           replace ha := Aside0.mk ha
           have BK131 := Aside0.mk (Q_BK131 (hoff 11 (by kernel_rfl)))
           have HK := Aside0.mk Q_HK
           have HB := Aside0.mk Q_HB
           have HO151 := Aside0.mk (Q_HO151 (hon 8 (by kernel_rfl)))
           have HI0 := Aside0.mk (Q_HI0_e8 (hon 8 (by kernel_rfl)))
           obtain ⟨Ao30, co30, eo30⟩ := Kd.V_slice HO151.out
           (first | subst eo30 | (injection eo30 with f1_ f2_ f3_; have f4_ := f1_.symm; have f5_ := f3_.symm; clear f1_ f2_ f3_; subst f4_; subst f5_))
           refine Kd.N_lit_step k25 _ 25 ?hg (N' := 31) ?hd (xs := ([(⟨t146, t147, t148, t149⟩ : S25)] : List (S25))) (inner := [.int .i64 t146, .int .i64 t147, .string t148, .slice Ao30 t149.length co30]) (ok := (fun k_ => (w.heap.size ≤ k_) ∧ k_ ≠ gb131 ∧ k_ ≠ g)) (okp := (fun k_ => (w.heap.size ≤ k_) ∧ k_ ≠ gb131 ∧ k_ ≠ g)) ?hr ?hp (fun _ hk => hk) ((show ∀ k_, w'.heap.size ≤ k_ → (fun k_ => (w.heap.size ≤ k_) ∧ k_ ≠ gb131 ∧ k_ ≠ g) k_ from fun k_ hk => ⟨(Nat.le_trans (kz HK) hk), Kd.freshB (by exact bk BK131.out) k_ hk, IsS75.fresh (by exact sw75 HI0.out) k_ hk⟩) _ (Nat.le_refl _)) (Below.refl _ _) (Nat.le_refl _) (by simp) ?_; (case hd => rfl); (case hg => rfl); (case hr => first | (go_simp; done) | (go_simp; rfl)); (case hp => exact (Reps.c4 (show Kd.FK k25 _ _ (⟨t146, t147, t148, t149⟩ : S25) [.int .i64 t146, .int .i64 t147, .string t148, .slice Ao30 t149.length co30] from (k25_mkF _ _ (⟨t146, t147, t148, t149⟩ : S25) (Kd.V_reads' (Kd.V_mono (ok' := (fun k_ => (w.heap.size ≤ k_) ∧ k_ ≠ gb131 ∧ k_ ≠ g)) (HO151.out) (fun k_ hk => okp hk))).2.1 (Kd.V_F (Kd.V_mono (ok' := (fun k_ => (w.heap.size ≤ k_) ∧ k_ ≠ gb131 ∧ k_ ≠ g)) (HO151.out) (fun k_ hk => okp hk))))) (Reps.none _ _)))
           intro v154 w31 ho32 hb hg_ hnew_
           clear hg_ hnew_
           (first | rw [← Ny153.out] at ho32 | (simp only [Int.reduceToNat] at ho32; rw [← Ny153.out] at ho32))
           have n0_ := Aside0.mk (Kd.V_elder' (by exact Kd.xV HO151.out) (Kd.N_base ho32) hb)
           have n1_ := Aside0.mk (Kd.N_lower ho32 (kz HK))
           have n2_ := bB BK131 hb
           have n3_ := ib75 HI0 hb
           have n4_ := kTb HK hb
           have n5_ := bS HB hb
           have z_HO142 := fun (h0_ : b 0 = true) => (show Kd.R Kd.string 9 w31 w.heap.size (fun k_ => (w.heap.size ≤ k_)) v141 y140 from by first | exact (Kd.R_below (by (with_reducible repeat (first | apply Kd.R_alloc | apply Kd.R_drewN | apply Kd.R_drew)); exact (Q_HO142 h0_)) hb) | exact Kd.R_mono (Kd.R_below (by (with_reducible repeat (first | apply Kd.R_alloc | apply Kd.R_drewN | apply Kd.R_drew)); exact (Q_HO142 h0_)) hb) (fun _ h_ => by first | trivial | exact h_ | exact h_.1))
           clear HO151
           clear BK131
           clear HI0
           clear HK
           clear HB
           have HO151 := n0_
           have HO155 := n1_
           have BK131 := n2_
           have HI0 := n3_
           have HK := n4_
           have HB := n5_
           clear n0_ n1_ n2_ n3_ n4_ n5_
           clear hb ho32
           refine hK.out _ _ ⟨v141, adz_v141, .slice Ao30 t149.length co30, v154, m3_, m8_, m10_, (by rw [ha.out]; exact putSel_upk 6 hb_ rfl rfl rfl), fun _ => (by exact bk BK131.out), fun h0_ => absurd ((hon 2 (by kernel_rfl)).symm.trans h0_) (by decide), (by exact kw HK.out), (by exact bw HB.out), z_HO142, Q_HA_HO142, fun _ h1_ => absurd ((hon 8 (by kernel_rfl)).symm.trans h1_) (by decide), fun _ => (by (with_reducible repeat (first | apply Kd.V_alloc | apply Kd.V_drewN | apply Kd.V_drew)); exact Kd.V_mono HO151.out (fun _ hk => okp hk)), fun _ => (by exact sw75 HI0.out), fun _ => (by (with_reducible repeat (first | apply Kd.N_alloc | apply Kd.N_drewN | apply Kd.N_drew)); exact Kd.N_mono HO155.out (fun _ hk => okp hk)), fun h0_ => absurd ((hoff 11 (by kernel_rfl)).symm.trans h0_) (by decide), Q_X3_, Q_X8_, fun h0_ => absurd ((hoff 10 (by kernel_rfl)).symm.trans h0_) (by decide)⟩
          refine steps_cons ?_ ?_
          ·
           rintro b a w' ⟨v141, adz_v141, v150, v154, m3_, m8_, m10_, ha, Q_BK131, Q_HI0, Q_HK, Q_HB, Q_HO142, Q_HA_HO142, Q_HI0_e2, Q_HO151, Q_HI0_e8, Q_HO155, Q_BK131_e11, Q_X3_, Q_X8_, Q_X10_⟩ hb_ hon hoff
           refine ⟨_, rfl, fun K hK => ?_⟩
           have e26 : a.tmps[26]? = some (.string (rdOf ByteArray.empty y140 t143)) := by rw [ha]; exact putSel_on (e := (4, 26, .string (rdOf ByteArray.empty y140 t143))) 3 rfl rfl (hon 4 (by kernel_rfl)) rfl
           have e31 : a.tmps[31]? = some (v154) := by rw [ha]; exact putSel_on (e := (9, 31, v154)) 6 rfl rfl (hon 9 (by kernel_rfl)) rfl
           replace ha := Aside0.mk ha
           have BK131 := Aside0.mk (Q_BK131 (hoff 11 (by kernel_rfl)))
           have HK := Aside0.mk Q_HK
           have HB := Aside0.mk Q_HB
           have HO142 := Aside0.mk (Q_HO142 (hon 0 (by kernel_rfl)))
           have HA_HO142 := Aside0.mk (Q_HA_HO142 (hon 0 (by kernel_rfl)))
           have HO151 := Aside0.mk (Q_HO151 (hon 8 (by kernel_rfl)))
           have HI0 := Aside0.mk (Q_HI0_e8 (hon 8 (by kernel_rfl)))
           have HO155 := Aside0.mk (Q_HO155 (hon 9 (by kernel_rfl)))
           obtain ⟨Ao10_0, co10_0, eo_⟩ := Kd.N_slice HO155.out
           subst eo_
           refine value_ (w1 := w') (v := .agg #[.int .i64 8, .int .i64 0, .string (rdOf ByteArray.empty y140 t143), .slice Ao10_0 y153.length co10_0]) (by rfl) rfl ?_ ?_
           ·
            go_simp
            (try simp only [i64_w])
            try rfl
           refine hK.out _ _ ⟨v141, adz_v141, v150, .slice Ao10_0 y153.length co10_0, m3_, m8_, (.agg #[.int .i64 8, .int .i64 0, .string (rdOf ByteArray.empty y140 t143), .slice Ao10_0 y153.length co10_0]), (by rw [ha.out]; exact putSel_upk 7 hb_ rfl rfl rfl), Q_BK131, fun h0_ => absurd ((hon 2 (by kernel_rfl)).symm.trans h0_) (by decide), Q_HK, Q_HB, Q_HO142, Q_HA_HO142, fun _ h1_ => absurd ((hon 8 (by kernel_rfl)).symm.trans h1_) (by decide), Q_HO151, Q_HI0_e8, Q_HO155, fun h0_ => absurd ((hoff 11 (by kernel_rfl)).symm.trans h0_) (by decide), Q_X3_, Q_X8_, fun _ => rfl⟩
          refine steps_cons ?_ ?_
          ·
           rintro b a w' ⟨v141, adz_v141, v150, v154, m3_, m8_, m10_, ha, Q_BK131, Q_HI0, Q_HK, Q_HB, Q_HO142, Q_HA_HO142, Q_HI0_e2, Q_HO151, Q_HI0_e8, Q_HO155, Q_BK131_e11, Q_X3_, Q_X8_, Q_X10_⟩ hb_ hon hoff
           refine ⟨_, rfl, fun K hK => ?_⟩
           have e4 : a.tmps[4]? = some (.pointer (some ⟨gb131, 0, none⟩)) := by rw [ha]; exact (putSel_off rfl).trans rfl
           have e32 : a.tmps[32]? = some (m10_) := by rw [ha]; exact putSel_on (e := (10, 32, m10_)) 7 rfl rfl (hon 10 (by kernel_rfl)) rfl
           rw [Q_X10_ (hon 10 (by kernel_rfl))] at e32
           replace ha := Aside0.mk ha
           have BK131 := Aside0.mk (Q_BK131 hb_)
           have HK := Aside0.mk Q_HK
           have HB := Aside0.mk Q_HB
           have HO142 := Aside0.mk (Q_HO142 (hon 0 (by kernel_rfl)))
           have HA_HO142 := Aside0.mk (Q_HA_HO142 (hon 0 (by kernel_rfl)))
           have HO151 := Aside0.mk (Q_HO151 (hon 8 (by kernel_rfl)))
           have HI0 := Aside0.mk (Q_HI0_e8 (hon 8 (by kernel_rfl)))
           have HO155 := Aside0.mk (Q_HO155 (hon 9 (by kernel_rfl)))
           obtain ⟨co37, eo37⟩ := HA_HO142.out
           clear HA_HO142
           subst eo37
           obtain ⟨Ao38, co38, eo38⟩ := Kd.N_slice HO155.out
           (first | subst eo38 | (injection eo38 with f1_ f2_ f3_; have f4_ := f1_.symm; have f5_ := f3_.symm; clear f1_ f2_ f3_; subst f4_; subst f5_))
           have hs39 : w'.cell? ⟨gb131, 0, none⟩ = some (.int .i64 0) := (blk_cell BK131.out 0).trans rfl
           have hfs39 := blk_frozen BK131.out 0
           have hs40 : w'.cell? ⟨gb131, 1, none⟩ = some (.int .i64 0) := (blk_cell BK131.out 1).trans rfl
           have hfs40 := blk_frozen BK131.out 1
           have hs41 : w'.cell? ⟨gb131, 2, none⟩ = some (.string (⟨#[]⟩ : ByteArray)) := (blk_cell BK131.out 2).trans rfl
           have hfs41 := blk_frozen BK131.out 2
           have hs42 : w'.cell? ⟨gb131, 3, none⟩ = some (.slice none 0 0) := (blk_cell BK131.out 3).trans rfl
           have hfs42 := blk_frozen BK131.out 3
           refine skip_ (w1 := ?_) (by rfl) rfl ?_ ?_
           rotate_left
           ·
            go_simp
            rfl
           refine hK.out _ _ ⟨.slice (some adz_v141) y140.length co37, adz_v141, v150, .slice Ao38 y153.length co38, m3_, m8_, m10_, (by rw [ha.out]; exact putSel_none (v := undef) rfl), fun h0_ => absurd ((up_self b 11).symm.trans h0_) (by decide), fun h0_ => absurd ((hon 2 (by kernel_rfl)).symm.trans h0_) (by decide), (by exact kw HK.out), (by exact bw HB.out), fun _ => (by (with_reducible repeat (first | apply Kd.R_alloc | apply Kd.R_drewN | apply Kd.R_drew)); exact Kd.R_mono (Kd.R_far (p := ⟨gb131, 3, none⟩) (Kd.R_far (p := ⟨gb131, 2, none⟩) (Kd.R_far (p := ⟨gb131, 1, none⟩) (Kd.R_far (p := ⟨gb131, 0, none⟩) (Kd.R_types HO142.out BK131.out (by decide)) (fun _ hk => hk.2) (.int .i64 8)) (fun _ hk => hk.2) (.int .i64 0)) (fun _ hk => hk.2) (.string (rdOf ByteArray.empty y140 t143))) (fun _ hk => hk.2) (.slice Ao38 y153.length co38)) (fun _ hk => hk.1)), fun _ => ⟨_, rfl⟩, fun _ h1_ => absurd ((hon 8 (by kernel_rfl)).symm.trans h1_) (by decide), fun _ => (by (with_reducible repeat (first | apply Kd.V_alloc | apply Kd.V_drewN | apply Kd.V_drew)); exact Kd.V_mono (Kd.V_far (p := ⟨gb131, 3, none⟩) (Kd.V_far (p := ⟨gb131, 2, none⟩) (Kd.V_far (p := ⟨gb131, 1, none⟩) (Kd.V_far (p := ⟨gb131, 0, none⟩) (Kd.V_mono HO151.out (fun k_ hk => (⟨hk, okp hk⟩ : _ ∧ k_ ≠ gb131))) (fun _ hk => hk.2) (.int .i64 8)) (fun _ hk => hk.2) (.int .i64 0)) (fun _ hk => hk.2) (.string (rdOf ByteArray.empty y140 t143))) (fun _ hk => hk.2) (.slice Ao38 y153.length co38)) (fun _ hk => okp hk)), fun _ => (by exact sw75 HI0.out), fun _ => (by (with_reducible repeat (first | apply Kd.N_alloc | apply Kd.N_drewN | apply Kd.N_drew)); exact Kd.N_mono (Kd.N_far (p := ⟨gb131, 3, none⟩) (Kd.N_far (p := ⟨gb131, 2, none⟩) (Kd.N_far (p := ⟨gb131, 1, none⟩) (Kd.N_far (p := ⟨gb131, 0, none⟩) (Kd.N_mono HO155.out (fun k_ hk => (⟨hk, okp hk⟩ : _ ∧ k_ ≠ gb131))) (fun _ hk => hk.2) (.int .i64 8)) (fun _ hk => hk.2) (.int .i64 0)) (fun _ hk => hk.2) (.string (rdOf ByteArray.empty y140 t143))) (fun _ hk => hk.2) (.slice Ao38 y153.length co38)) (fun _ hk => okp hk)), fun _ => (bp BK131), Q_X3_, Q_X8_, Q_X10_⟩
          exact steps_nil
         rintro b a w40 hall ⟨v141, adz_v141, v150, v154, m3_, m8_, m10_, ha, Q_BK131, Q_HI0, Q_HK, Q_HB, Q_HO142, Q_HA_HO142, Q_HI0_e2, Q_HO151, Q_HI0_e8, Q_HO155, Q_BK131_e11, Q_X3_, Q_X8_, Q_X10_⟩
         clear BK131 HB HI0 HK
         have hb0_ := hall 0 (by kernel_rfl)
         have hb2_ := hall 2 (by kernel_rfl)
         have hb3_ := hall 3 (by kernel_rfl)
         have hb4_ := hall 4 (by kernel_rfl)
         have hb7_ := hall 7 (by kernel_rfl)
         have hb8_ := hall 8 (by kernel_rfl)
         have hb9_ := hall 9 (by kernel_rfl)
         have hb10_ := hall 10 (by kernel_rfl)
         have hb11_ := hall 11 (by kernel_rfl)
         subst ha
         obtain rfl := Q_X3_ hb3_
         obtain rfl := Q_X8_ hb8_
         obtain rfl := Q_X10_ hb10_
         simp only [putSel, hb0_, hb2_, hb3_, hb4_, hb7_, hb8_, hb9_, hb10_, hb11_, if_true, Act.put, List.setIfInBounds_toArray, List.set_cons_zero, List.set_cons_succ]
         clear Q_BK131
         clear Q_HI0
         have HK := Aside0.mk Q_HK
         clear Q_HK
         have HB := Aside0.mk Q_HB
         clear Q_HB
         have HO142 := Aside0.mk (Q_HO142 hb0_)
         clear Q_HO142
         have HA_HO142 := Aside0.mk (Q_HA_HO142 hb0_)
         clear Q_HA_HO142
         clear Q_HI0_e2
         have HO151 := Aside0.mk (Q_HO151 hb8_)
         clear Q_HO151
         have HI0 := Aside0.mk (Q_HI0_e8 hb8_)
         clear Q_HI0_e8
         have HO155 := Aside0.mk (Q_HO155 hb9_)
         clear Q_HO155
         have BK131 := Aside0.mk (Q_BK131_e11 hb11_)
         clear Q_BK131_e11
         clear hall hb0_ hb2_ hb3_ hb4_ hb7_ hb8_ hb9_ hb10_ hb11_
         obtain ⟨co41, eo41⟩ := HA_HO142.out
         clear HA_HO142
         subst eo41
         obtain ⟨Ao42, co42, eo42⟩ := Kd.N_slice HO155.out
         (first | subst eo42 | (injection eo42 with f1_ f2_ f3_; have f4_ := f1_.symm; have f5_ := f3_.symm; clear f1_ f2_ f3_; subst f4_; subst f5_))
         try go_wp2
         refine bodyPost_ret (results_cell_row rfl _ _ gb131 25 #[.int .i64 8, .int .i64 0, .string (rdOf ByteArray.empty y140 t143), .slice Ao42 y153.length co42] (0, 0) _ rfl (by exact bk BK131.out) Try.underlying25 rfl (by kernel_rfl)) rfl ?_
         exact ⟨_, by first | rfl | (simp [errW_none, errW_some] <;> rfl) | (simp [*, errW_none, errW_some] <;> rfl), by (with_reducible repeat (first | apply Kd.N_alloc | apply Kd.N_drewN | apply Kd.N_drew)); exact Kd.N_mono HO155.out (fun _ hk => hk.1), by exact sw75 HI0.out, by exact bw HB.out, by exact kw HK.out⟩
        ·
         rw [if_neg c24] at H; exact absurd H (by simp)
       ·
        rw [if_neg c23] at H; exact absurd H (by simp)
      ·
       rw [if_neg c21] at H; have c21b0 : decide (0 < a1) = false := decide_eq_false c21; clear c21
       replace H := Option.bind_eq_some_iff.mp H
       obtain ⟨⟨t156, t157⟩, A430, H⟩ := H
       replace H : (some (2, t156, (⟨#[]⟩ : ByteArray), ([] : List (S25)), t157)) = some (r1, r2, r3, r4, r5) := H
       have A43 := Aside0.mk A430
       clear A430
       simp only [Option.some.injEq, Prod.mk.injEq] at H
       obtain ⟨rfl, rfl, rfl, rfl, rfl⟩ := H
       go_wp2_with (first | ((with_reducible refine gate_callee (f := 36) rfl ?_); refine gl (some 34) Try.func36 #[.pointer (some ⟨g, 0, none⟩), .int .i64 5] ?_; (with_reducible refine (spec_l20Rd_pick.calls kj2 g s0_0 x1001_2 5 t156 t157 w0 _ ?side1 ?side2 A43.out).mono ?_); (case side1 => exact sw75 HI0.out); (case side2 => exact bw HB.out); rintro e w44 ⟨rfl, hi, hb, hk⟩; refine ⟨_, rfl, ?_⟩; replace BK131 := kB hk BK131 NB131_0; replace HK := kT HK hk; replace HB := Aside0.mk (hb); replace HI0 := Aside0.mk (hi); (try clear hb); (try clear hb2); (try clear hk); (try clear hi); have hnb45 := NB131_0.out; have hnc45 := NB0_131.out; obtain ⟨hcz46_0, hcz46_1, hcz46_2, hcz46_3⟩ := cs4 BK131.out; obtain ⟨hfz46_0, hfz46_1, hfz46_2, hfz46_3⟩ := fz4 BK131.out))
       refine bodyPost_ret (results_cell_row rfl _ _ gb131 25 #[.int .i64 2, .int .i64 t156, .string (⟨#[]⟩ : ByteArray), .slice none 0 0] (0, 0) _ rfl (bp BK131) Try.underlying25 rfl (by kernel_rfl)) rfl ?_
       exact ⟨_, by first | rfl | (simp [errW_none, errW_some] <;> rfl) | (simp [*, errW_none, errW_some] <;> rfl), by first | exact Kd.R_nil _ _ _ _ _ | exact Kd.N_nil _ _ _ _ _ | exact Kd.V_nil _ _ _ _ _ | exact Kd.Q_nil _ _ _ _ _ | exact Kd.S_nil _ _ _ _ _, by exact sw75 HI0.out, by exact bw HB.out, by exact kw HK.out⟩
     ·
      rw [if_neg c20] at H; obtain ⟨c20b0, c20b1⟩ := eqN c20
      replace H := Option.bind_eq_some_iff.mp H
      obtain ⟨⟨t158, t159⟩, A470, H⟩ := H
      replace H : (some (2, t158, (⟨#[]⟩ : ByteArray), ([] : List (S25)), t159)) = some (r1, r2, r3, r4, r5) := H
      have A47 := Aside0.mk A470
      clear A470
      simp only [Option.some.injEq, Prod.mk.injEq] at H
      obtain ⟨rfl, rfl, rfl, rfl, rfl⟩ := H
      go_wp2_with (first | ((with_reducible refine gate_callee (f := 36) rfl ?_); refine gl (some 34) Try.func36 #[.pointer (some ⟨g, 0, none⟩), .int .i64 5] ?_; (with_reducible refine (spec_l20Rd_pick.calls kj2 g s0_0 x1001_2 5 t158 t159 w0 _ ?side1 ?side2 A47.out).mono ?_); (case side1 => exact sw75 HI0.out); (case side2 => exact bw HB.out); rintro e w48 ⟨rfl, hi, hb, hk⟩; refine ⟨_, rfl, ?_⟩; replace BK131 := kB hk BK131 NB131_0; replace HK := kT HK hk; replace HB := Aside0.mk (hb); replace HI0 := Aside0.mk (hi); (try clear hb); (try clear hb2); (try clear hk); (try clear hi); have hnb49 := NB131_0.out; have hnc49 := NB0_131.out; obtain ⟨hcz50_0, hcz50_1, hcz50_2, hcz50_3⟩ := cs4 BK131.out; obtain ⟨hfz50_0, hfz50_1, hfz50_2, hfz50_3⟩ := fz4 BK131.out))
      refine bodyPost_ret (results_cell_row rfl _ _ gb131 25 #[.int .i64 2, .int .i64 t158, .string (⟨#[]⟩ : ByteArray), .slice none 0 0] (0, 0) _ rfl (bp BK131) Try.underlying25 rfl (by kernel_rfl)) rfl ?_
      exact ⟨_, by first | rfl | (simp [errW_none, errW_some] <;> rfl) | (simp [*, errW_none, errW_some] <;> rfl), by first | exact Kd.R_nil _ _ _ _ _ | exact Kd.N_nil _ _ _ _ _ | exact Kd.V_nil _ _ _ _ _ | exact Kd.Q_nil _ _ _ _ _ | exact Kd.S_nil _ _ _ _ _, by exact sw75 HI0.out, by exact bw HB.out, by exact kw HK.out⟩

end Go.Proofs.Ytjpeciodihnolaa.P
