-- Written by a program of this session (wip/tool).
import Derived.Test.YtbbbgochcfccgaaPx0
import Derived.Test.YtbbbgochcfccgaaPx1048
namespace Go.Proofs.Ytbbbgochcfccgaa.P
open Go.RowKit Go.Proofs.YtbbbgochcfccgaaW.PrintWords Go.Proofs.YtbbbgochcfccgaaW.PrintLast Go.Proofs.YtbbbgochcfccgaaW.PrintMore
attribute [local go_sem] max2_int min2_int max_two min_two max_three min_three max_four min_four   -- for this text's walks alone
set_option linter.unusedVariables false
set_option linter.unusedSimpArgs false

/-! ### impl_Expr_size: function 63 -/
mutual
def impl_Expr_size.j0 : Nat → Int → Bool → Int → Int → ByteArray → List (S29) → Option (Int)
 | 0, _, _, _, _, _, _ => none
 | k + 1, x1, x56, x173000, x173001, x173002, x173003 => if x56 = true then (some 0) else (impl_Expr_size.l0 k x1 1 x173003 (x173003.length : Int) 0)
def impl_Expr_size.l0 : Nat → Int → Int → List (S29) → Int → Int → Option (Int)
 | 0, _, _, _, _, _ => none
 | k + 1, x1, x7, x58, x59, x60 => if x60 < x59 then (if 0 ≤ x60 then (if x60 < (x58.length : Int) then ((impl_Expr_size.f k ((rd_T29 x58 x60).f0) ((rd_T29 x58 x60).f1) ((rd_T29 x58 x60).f2) ((rd_T29 x58 x60).f3) (wrap64 (x1 - 1))).bind fun t181 => (if t181 = 0 then (some 0) else (impl_Expr_size.l0 k x1 (wrap64 (x7 + t181)) x58 x59 (wrap64 (x60 + 1))))) else (none)) else (none)) else (some x7)
def impl_Expr_size.f : Nat → Int → Int → ByteArray → List (S29) → Int → Option (Int)
 | 0, _, _, _, _, _ => none
 | k + 1, a0_0, a0_1, a0_2, l0_3, a1 => (impl_partsOf.f k a0_0).bind fun bt173 => (if a1 = 0 then (impl_Expr_size.j0 k a1 true a0_0 a0_1 a0_2 l0_3) else ((impl_in.f a0_0 1 15).bind fun t175 => (if t175 = true then ((impl_greatestNumber.f a0_0).bind fun t176 => ((impl_in.f a0_1 0 t176).bind fun t177 => (if t177 = true then (if (l0_3.length : Int) = bt173.1 then (if a0_2.toList = ([] : List UInt8) then (if bt173.2 = true then (impl_Expr_size.j0 k a1 true a0_0 a0_1 a0_2 l0_3) else (impl_Expr_size.j0 k a1 false a0_0 a0_1 a0_2 l0_3)) else (if bt173.2 = true then ((impl_NameValid.f k a0_2).bind fun t178 => (impl_Expr_size.j0 k a1 (!t178) a0_0 a0_1 a0_2 l0_3)) else (impl_Expr_size.j0 k a1 true a0_0 a0_1 a0_2 l0_3))) else (impl_Expr_size.j0 k a1 true a0_0 a0_1 a0_2 l0_3)) else (impl_Expr_size.j0 k a1 true a0_0 a0_1 a0_2 l0_3)))) else (impl_Expr_size.j0 k a1 true a0_0 a0_1 a0_2 l0_3))))
end
theorem impl_Expr_size.mono_l : ∀ k, (∀ y0 y1 y2 y3 y4, LeO (impl_Expr_size.f k y0 y1 y2 y3 y4) (impl_Expr_size.f (k + 1) y0 y1 y2 y3 y4)) ∧ (∀ y0 y1 y2 y3 y4 y5, LeO (impl_Expr_size.j0 k y0 y1 y2 y3 y4 y5) (impl_Expr_size.j0 (k + 1) y0 y1 y2 y3 y4 y5)) ∧ (∀ y0 y1 y2 y3 y4, LeO (impl_Expr_size.l0 k y0 y1 y2 y3 y4) (impl_Expr_size.l0 (k + 1) y0 y1 y2 y3 y4))
 | 0 => ⟨fun _ _ _ _ _ r h => by simp [impl_Expr_size.f] at h, fun _ _ _ _ _ _ r h => by simp [impl_Expr_size.j0] at h, fun _ _ _ _ _ r h => by simp [impl_Expr_size.l0] at h⟩
 | k + 1 => by
  obtain ⟨ih0, ih1, ih2⟩ := impl_Expr_size.mono_l k
  refine ⟨?_, ?_, ?_⟩
  ·
   intro y0 y1 y2 y3 y4
   unfold impl_Expr_size.f
   repeat' first
   | (with_reducible exact ih0 _ _ _ _ _)
   | (with_reducible exact ih1 _ _ _ _ _ _)
   | (with_reducible exact ih2 _ _ _ _ _)
   | (with_reducible exact impl_NameValid.mono _ _)
   | (with_reducible exact impl_partsOf.mono _ _)
   | (with_reducible exact LeO.refl _)
   | (with_reducible exact LeO.none _)
   | (with_reducible refine LeO.ite ?_ ?_)
   | (with_reducible refine LeO.bind ?_ (fun _ => ?_))
   | exact ih0 _ _ _ _ _
   | exact ih1 _ _ _ _ _ _
   | exact ih2 _ _ _ _ _
   | exact impl_NameValid.mono _ _
   | exact impl_partsOf.mono _ _
   | exact LeO.none _
   | refine LeO.ite ?_ ?_
   | refine LeO.bind ?_ (fun _ => ?_)
  ·
   intro y0 y1 y2 y3 y4 y5
   unfold impl_Expr_size.j0
   repeat' first
   | (with_reducible exact ih0 _ _ _ _ _)
   | (with_reducible exact ih1 _ _ _ _ _ _)
   | (with_reducible exact ih2 _ _ _ _ _)
   | (with_reducible exact impl_NameValid.mono _ _)
   | (with_reducible exact impl_partsOf.mono _ _)
   | (with_reducible exact LeO.refl _)
   | (with_reducible exact LeO.none _)
   | (with_reducible refine LeO.ite ?_ ?_)
   | (with_reducible refine LeO.bind ?_ (fun _ => ?_))
   | exact ih0 _ _ _ _ _
   | exact ih1 _ _ _ _ _ _
   | exact ih2 _ _ _ _ _
   | exact impl_NameValid.mono _ _
   | exact impl_partsOf.mono _ _
   | exact LeO.none _
   | refine LeO.ite ?_ ?_
   | refine LeO.bind ?_ (fun _ => ?_)
  ·
   intro y0 y1 y2 y3 y4
   unfold impl_Expr_size.l0
   repeat' first
   | (with_reducible exact ih0 _ _ _ _ _)
   | (with_reducible exact ih1 _ _ _ _ _ _)
   | (with_reducible exact ih2 _ _ _ _ _)
   | (with_reducible exact impl_NameValid.mono _ _)
   | (with_reducible exact impl_partsOf.mono _ _)
   | (with_reducible exact LeO.refl _)
   | (with_reducible exact LeO.none _)
   | (with_reducible refine LeO.ite ?_ ?_)
   | (with_reducible refine LeO.bind ?_ (fun _ => ?_))
   | exact ih0 _ _ _ _ _
   | exact ih1 _ _ _ _ _ _
   | exact ih2 _ _ _ _ _
   | exact impl_NameValid.mono _ _
   | exact impl_partsOf.mono _ _
   | exact LeO.none _
   | refine LeO.ite ?_ ?_
   | refine LeO.bind ?_ (fun _ => ?_)
theorem impl_Expr_size.mono : ∀ a0 a1 a2 a3 a4 k, LeO (impl_Expr_size.f k a0 a1 a2 a3 a4) (impl_Expr_size.f (k + 1) a0 a1 a2 a3 a4) := by
 intro a0 a1 a2 a3 a4 k
 obtain ⟨ih0, ih1, ih2⟩ := impl_Expr_size.mono_l k
 exact ih0 a0 a1 a2 a3 a4
def impl_Expr_size.T2 : Bool × List (List Nat × List Nat) := (true, [([], []), ([0], [0]), ([1], [1]), ([2], [2]), ([3, 2], [2, 3]), ([4, 2, 2], [2, 4]), ([5, 2], [2, 5]), ([2, 6], [2, 6]), ([7, 5], [7]), ([8], [8]), ([9, 8], [8, 9]), ([8], [8]), ([11, 8], [8, 11]), ([12, 8, 8], [8, 12]), ([10, 13, 13, 8], [8, 10, 13]), ([14, 8], [8, 14]), ([8, 15], [8, 15]), ([16, 14], [16]), ([17], [17]), ([18, 17], [17, 18]), ([19, 17], [17, 19]), ([17], [17]), ([20, 21, 17], [17, 20, 21]), ([17, 22], [17, 22]), ([23, 17], [23]), ([24], [24]), ([24], [24]), ([26, 24], [24, 26]), ([27, 24], [24, 27]), ([25, 28, 24], [24, 25, 28]), ([24, 29], [24, 29]), ([30, 24], [30]), ([31], [31]), ([32, 31, 31], [31, 32]), ([33], [33]), ([34, 33], [33, 34]), ([35, 33, 33], [33, 35]), ([36, 33], [33, 36]), ([33, 37, 31], [31, 33, 37]), ([31, 38], [31, 38])])
def impl_Expr_size.B2 : List Nat := [0, 1, 3, 7, 15, 31, 63, 127, 255, 511, 1023, 511, 2559, 6655, 16383, 32767, 65535, 131071, 262143, 524287, 1048575, 262143, 4194303, 8388607, 16777215, 33554431, 33554431, 100663295, 234881023, 536870911, 1073741823, 2147483647, 4294967295, 8589934591, 17179869183, 34359738367, 68719476735, 137438953471, 274877906943, 549755813887]
theorem impl_Expr_size.tab2 : rtab .any (opsOf Try.f63 2) = impl_Expr_size.T2 := by kernel_rfl
theorem impl_Expr_size.bits2 : waitsOk impl_Expr_size.T2.2 impl_Expr_size.B2 = true := by kernel_rfl
set_option maxHeartbeats 8000000 in
set_option maxRecDepth 100000 in
theorem impl_Expr_size.calls (k : Nat) : ∀ (a0_0 : Int) (a0_1 : Int) (a0_2 : ByteArray) (A0_3 : Option Addr) (c0_3 : Nat) (l0_3 : List (S29)) (a1 : Int) (r : Int) (w : World) (hr0_3 : Kd.C k29 w A0_3 l0_3.length l0_3) (hc0_3 : l0_3.length ≤ c0_3) (h : impl_Expr_size.f k a0_0 a0_1 a0_2 l0_3 a1 = some r),
  Calls Try.prog 63 #[.agg #[.int .i64 a0_0, .int .i64 a0_1, .string a0_2, .slice A0_3 l0_3.length c0_3], .int .i64 a1] w fun e w' => e = .returned (.int .i64 r) ∧ Below w.heap.size w w' := by
 induction k using Nat.strongRecOn with
 | _ k ih =>
 intro a0_0 a0_1 a0_2 A0_3 c0_3 l0_3 a1 r w hr0_3 hc0_3 h
 cases k with
 | zero => exact absurd h (by simp [impl_Expr_size.f])
 | succ k =>
 simp only [impl_Expr_size.f] at h
 have hu29 := Try.underlying29
 have HR0_3 := Aside0.mk hr0_3
 have HC0_3 := Aside0.mk hc0_3
 clear hr0_3 hc0_3
 have HB := Aside0.mk (Below.refl w.heap.size w)
 have H : ((impl_partsOf.f k a0_0).bind fun bt173 => (if a1 = 0 then (impl_Expr_size.j0 k a1 true a0_0 a0_1 a0_2 l0_3) else ((impl_in.f a0_0 1 15).bind fun t175 => (if t175 = true then ((impl_greatestNumber.f a0_0).bind fun t176 => ((impl_in.f a0_1 0 t176).bind fun t177 => (if t177 = true then (if (l0_3.length : Int) = bt173.1 then (if a0_2.toList = ([] : List UInt8) then (if bt173.2 = true then (impl_Expr_size.j0 k a1 true a0_0 a0_1 a0_2 l0_3) else (impl_Expr_size.j0 k a1 false a0_0 a0_1 a0_2 l0_3)) else (if bt173.2 = true then ((impl_NameValid.f k a0_2).bind fun t178 => (impl_Expr_size.j0 k a1 (!t178) a0_0 a0_1 a0_2 l0_3)) else (impl_Expr_size.j0 k a1 true a0_0 a0_1 a0_2 l0_3))) else (impl_Expr_size.j0 k a1 true a0_0 a0_1 a0_2 l0_3)) else (impl_Expr_size.j0 k a1 true a0_0 a0_1 a0_2 l0_3)))) else (impl_Expr_size.j0 k a1 true a0_0 a0_1 a0_2 l0_3))))) = some r := h
 clear h
 replace H := Option.bind_eq_some_iff.mp H
 obtain ⟨⟨t173, t174⟩, A30, H⟩ := H
 replace H : (if a1 = 0 then (impl_Expr_size.j0 k a1 true a0_0 a0_1 a0_2 l0_3) else ((impl_in.f a0_0 1 15).bind fun t175 => (if t175 = true then ((impl_greatestNumber.f a0_0).bind fun t176 => ((impl_in.f a0_1 0 t176).bind fun t177 => (if t177 = true then (if (l0_3.length : Int) = t173 then (if a0_2.toList = ([] : List UInt8) then (if t174 = true then (impl_Expr_size.j0 k a1 true a0_0 a0_1 a0_2 l0_3) else (impl_Expr_size.j0 k a1 false a0_0 a0_1 a0_2 l0_3)) else (if t174 = true then ((impl_NameValid.f k a0_2).bind fun t178 => (impl_Expr_size.j0 k a1 (!t178) a0_0 a0_1 a0_2 l0_3)) else (impl_Expr_size.j0 k a1 true a0_0 a0_1 a0_2 l0_3))) else (impl_Expr_size.j0 k a1 true a0_0 a0_1 a0_2 l0_3)) else (impl_Expr_size.j0 k a1 true a0_0 a0_1 a0_2 l0_3)))) else (impl_Expr_size.j0 k a1 true a0_0 a0_1 a0_2 l0_3)))) = some r := H
 have A3 := Aside0.mk A30
 clear A30
 have HC4 := Aside0.mk H
 clear H
 go_enter Try.func63, Try.ntmps63
 go_upto_region 2 with (first | ((with_reducible refine gate_dst (N := 2) rfl ?_); (try (refine gate_guard (by rfl) ?_; dsimp only)); refine bx 2 #[.int .i64 a0_0, .int .i64 a0_1, .string a0_2, .slice A0_3 l0_3.length c0_3] 29 ?_; intro gb172 hg w5 hbox hb; have BK172 := Aside0.mk (hbox); have GW172 := gwB HB hg; have GE172 := gwB HB hg; replace HB := bS HB hb; clear hb hbox hg; obtain ⟨hcz6_0, hcz6_1, hcz6_2, hcz6_3⟩ := cs4 BK172.out; obtain ⟨hfz6_0, hfz6_1, hfz6_2, hfz6_3⟩ := fz4 BK172.out) | ((with_reducible refine gate_callee (f := 85) rfl ?_); refine gl (some 14) Try.func85 #[.int .i64 a0_0] ?_; (with_reducible refine (impl_partsOf.calls k a0_0 t173 t174 _ A3.out).mono ?_); rintro e w' ⟨rfl, ⟨nd, rfl⟩⟩; refine ⟨_, rfl, ?_⟩; (try (rw [drewN_self w5]; generalize hq_ : World.drewN w5 _ = w5; have n0_ : Aside0 (w5.heap[gb172]? = some (.cells #[.int .i64 a0_0, .int .i64 a0_1, .string a0_2, .slice A0_3 l0_3.length c0_3] 29 (0, 0))) := ⟨by rw [← hq_]; exact (by exact bk BK172.out)⟩; have n1_ : Aside0 (Below w.heap.size w w5) := ⟨by rw [← hq_]; exact (by exact bw HB.out)⟩; clear BK172 HB hq_; have BK172 := n0_; have HB := n1_; clear n0_ n1_))))
 (try simp only [Act.put, List.setIfInBounds_toArray, List.set_cons_zero, List.set_cons_succ])
 go_cut [56] (fun v56 wc => ∃ (kq : Nat) (x56_3 : Bool), v56 = .bool x56_3 ∧ Aside0 (impl_Expr_size.j0 kq a1 x56_3 a0_0 a0_1 a0_2 l0_3 = some r) ∧ Aside0 (kq ≤ k) ∧ Aside0 (wc.heap[gb172]? = some (.cells #[.int .i64 a0_0, .int .i64 a0_1, .string a0_2, (.slice A0_3 l0_3.length c0_3)] 29 (0, 0))) ∧ Aside0 (Below w.heap.size w wc))
 case first =>
  have H := HC4.out
  clear HC4
  by_cases c7 : a1 = 0
  ·
   rw [if_pos c7] at H; obtain ⟨c7b0, c7b1⟩ := eqY c7; clear c7
   (first | rw [c7b0] | (simp only [i64_w, i32_w]; rw [c7b0]) | rw [c7b2] | rw [c7b1] | skip)
   have H' := Aside0.mk H
   clear H
   try go_wp2
   replace BK172 := Aside0.mk (blk_drew BK172.out)
   replace HB := Aside0.mk (below_drew1 HB.out)
   refine start_ (n := 40) (S := fun w' => True) (ds := []) (mB 40 0) (by kernel_rfl) rfl rfl trivial (fun hHeld => ?_); refine with_tabW impl_Expr_size.tab2 impl_Expr_size.bits2 (fun HT_ HW_ => ?_)
   generalize w5.drew = w8 at BK172 HB hHeld ⊢
   refine pn 0 17 HT_.out ?_
   refine pn 1 18 HT_.out ?_
   refine pn 2 19 HT_.out ?_
   refine pf 3 20 HT_.out ?_
   refine pf 4 21 HT_.out ?_
   refine pf 5 22 HT_.out ?_
   refine pf 6 23 HT_.out ?_
   refine pn 7 24 HT_.out ?_
   refine pn 8 25 HT_.out ?_
   refine pf 9 26 HT_.out ?_
   refine pf 10 27 HT_.out ?_
   refine pf 11 28 HT_.out ?_
   refine pf 12 29 HT_.out ?_
   refine pf 13 30 HT_.out ?_
   refine pf 14 31 HT_.out ?_
   refine pf 15 32 HT_.out ?_
   refine pn 16 33 HT_.out ?_
   refine pn 17 34 HT_.out ?_
   refine pf 18 35 HT_.out ?_
   refine pf 19 36 HT_.out ?_
   refine pf 20 37 HT_.out ?_
   refine pf 21 38 HT_.out ?_
   refine pf 22 39 HT_.out ?_
   refine pn 23 40 HT_.out ?_
   refine pn 24 41 HT_.out ?_
   refine pf 25 42 HT_.out ?_
   refine pf 26 43 HT_.out ?_
   refine pf 27 44 HT_.out ?_
   refine pf 28 45 HT_.out ?_
   refine pf 29 46 HT_.out ?_
   refine pn 30 47 HT_.out ?_
   refine pn 31 48 HT_.out ?_
   refine pf 32 49 HT_.out ?_
   refine pf 33 50 HT_.out ?_
   refine pf 34 51 HT_.out ?_
   refine pf 35 52 HT_.out ?_
   refine pf 36 53 HT_.out ?_
   refine pf 37 54 HT_.out ?_
   refine pf 38 55 HT_.out ?_
   refine pn 39 56 HT_.out ?_
   refine done_ (done_of HT_.out (by kernel_rfl)) ?_
   try go_wp2
   go_meet
   case rel => exact ⟨_, (true), (by first | rfl | (simp; done) | (simp [*]; done)), H', ⟨by first | omega | exact Nat.le_refl _⟩, ⟨by exact bk BK172.out⟩, ⟨by exact bw HB.out⟩⟩
  ·
   rw [if_neg c7] at H; obtain ⟨c7b0, c7b1⟩ := eqN c7
   (first | rw [c7b0] | (simp only [i64_w, i32_w]; rw [c7b0]) | rw [c7b2] | rw [c7b1] | skip)
   replace H := Option.bind_eq_some_iff.mp H
   obtain ⟨t175, A90, H⟩ := H
   replace H : (if t175 = true then ((impl_greatestNumber.f a0_0).bind fun t176 => ((impl_in.f a0_1 0 t176).bind fun t177 => (if t177 = true then (if (l0_3.length : Int) = t173 then (if a0_2.toList = ([] : List UInt8) then (if t174 = true then (impl_Expr_size.j0 k a1 true a0_0 a0_1 a0_2 l0_3) else (impl_Expr_size.j0 k a1 false a0_0 a0_1 a0_2 l0_3)) else (if t174 = true then ((impl_NameValid.f k a0_2).bind fun t178 => (impl_Expr_size.j0 k a1 (!t178) a0_0 a0_1 a0_2 l0_3)) else (impl_Expr_size.j0 k a1 true a0_0 a0_1 a0_2 l0_3))) else (impl_Expr_size.j0 k a1 true a0_0 a0_1 a0_2 l0_3)) else (impl_Expr_size.j0 k a1 true a0_0 a0_1 a0_2 l0_3)))) else (impl_Expr_size.j0 k a1 true a0_0 a0_1 a0_2 l0_3)) = some r := H
   have A9 := Aside0.mk A90
   clear A90
   by_cases c10 : t175 = true
   ·
    subst c10
    have H1 : ((impl_greatestNumber.f a0_0).bind fun t176 => ((impl_in.f a0_1 0 t176).bind fun t177 => (if t177 = true then (if (l0_3.length : Int) = t173 then (if a0_2.toList = ([] : List UInt8) then (if t174 = true then (impl_Expr_size.j0 k a1 true a0_0 a0_1 a0_2 l0_3) else (impl_Expr_size.j0 k a1 false a0_0 a0_1 a0_2 l0_3)) else (if t174 = true then ((impl_NameValid.f k a0_2).bind fun t178 => (impl_Expr_size.j0 k a1 (!t178) a0_0 a0_1 a0_2 l0_3)) else (impl_Expr_size.j0 k a1 true a0_0 a0_1 a0_2 l0_3))) else (impl_Expr_size.j0 k a1 true a0_0 a0_1 a0_2 l0_3)) else (impl_Expr_size.j0 k a1 true a0_0 a0_1 a0_2 l0_3)))) = some r := by rw [if_pos rfl] at H; exact H
    clear H
    have H := H1
    clear H1
    replace H := Option.bind_eq_some_iff.mp H
    obtain ⟨t176, A110, H⟩ := H
    replace H : ((impl_in.f a0_1 0 t176).bind fun t177 => (if t177 = true then (if (l0_3.length : Int) = t173 then (if a0_2.toList = ([] : List UInt8) then (if t174 = true then (impl_Expr_size.j0 k a1 true a0_0 a0_1 a0_2 l0_3) else (impl_Expr_size.j0 k a1 false a0_0 a0_1 a0_2 l0_3)) else (if t174 = true then ((impl_NameValid.f k a0_2).bind fun t178 => (impl_Expr_size.j0 k a1 (!t178) a0_0 a0_1 a0_2 l0_3)) else (impl_Expr_size.j0 k a1 true a0_0 a0_1 a0_2 l0_3))) else (impl_Expr_size.j0 k a1 true a0_0 a0_1 a0_2 l0_3)) else (impl_Expr_size.j0 k a1 true a0_0 a0_1 a0_2 l0_3))) = some r := H
    have A11 := Aside0.mk A110
    clear A110
    replace H := Option.bind_eq_some_iff.mp H
    obtain ⟨t177, A120, H⟩ := H
    replace H : (if t177 = true then (if (l0_3.length : Int) = t173 then (if a0_2.toList = ([] : List UInt8) then (if t174 = true then (impl_Expr_size.j0 k a1 true a0_0 a0_1 a0_2 l0_3) else (impl_Expr_size.j0 k a1 false a0_0 a0_1 a0_2 l0_3)) else (if t174 = true then ((impl_NameValid.f k a0_2).bind fun t178 => (impl_Expr_size.j0 k a1 (!t178) a0_0 a0_1 a0_2 l0_3)) else (impl_Expr_size.j0 k a1 true a0_0 a0_1 a0_2 l0_3))) else (impl_Expr_size.j0 k a1 true a0_0 a0_1 a0_2 l0_3)) else (impl_Expr_size.j0 k a1 true a0_0 a0_1 a0_2 l0_3)) = some r := H
    have A12 := Aside0.mk A120
    clear A120
    by_cases c13 : t177 = true
    ·
     subst c13
     have H1 : (if (l0_3.length : Int) = t173 then (if a0_2.toList = ([] : List UInt8) then (if t174 = true then (impl_Expr_size.j0 k a1 true a0_0 a0_1 a0_2 l0_3) else (impl_Expr_size.j0 k a1 false a0_0 a0_1 a0_2 l0_3)) else (if t174 = true then ((impl_NameValid.f k a0_2).bind fun t178 => (impl_Expr_size.j0 k a1 (!t178) a0_0 a0_1 a0_2 l0_3)) else (impl_Expr_size.j0 k a1 true a0_0 a0_1 a0_2 l0_3))) else (impl_Expr_size.j0 k a1 true a0_0 a0_1 a0_2 l0_3)) = some r := by rw [if_pos rfl] at H; exact H
     clear H
     have H := H1
     clear H1
     by_cases c14 : (l0_3.length : Int) = t173
     ·
      rw [if_pos c14] at H; obtain ⟨c14b0, c14b1⟩ := eqY c14; clear c14
      by_cases c15 : a0_2.toList = ([] : List UInt8)
      ·
       rw [if_pos c15] at H; have c15b0 : a0_2.toList.isEmpty = true := (by rw [c15]; rfl)
       have c15b1 : (a0_2.toList == ([] : List UInt8)) = true := beq_iff_eq.mpr c15
       have c15b2 : (a0_2.toList != ([] : List UInt8)) = false := bne_eq_false_iff_eq.mpr c15
       (try (have c15b3 : a0_2.toList = ([] : List UInt8) := c15))
       clear c15
       by_cases c16 : t174 = true
       ·
        subst c16
        have H1 : (impl_Expr_size.j0 k a1 true a0_0 a0_1 a0_2 l0_3) = some r := by rw [if_pos rfl] at H; exact H
        clear H
        have H := H1
        clear H1
        have H' := Aside0.mk H
        clear H
        try go_wp2
        replace BK172 := Aside0.mk (blk_drew BK172.out)
        replace HB := Aside0.mk (below_drew1 HB.out)
        refine start_ (n := 40) (S := fun w' => w'.cell? ⟨gb172, 0, none⟩ = some (.int .i64 a0_0) ∧ w'.cell? ⟨gb172, 1, none⟩ = some (.int .i64 a0_1) ∧ w'.cell? ⟨gb172, 2, none⟩ = some (.string a0_2) ∧ w'.cell? ⟨gb172, 3, none⟩ = some (.slice A0_3 l0_3.length c0_3)) (ds := []) (mB 40 0) (by kernel_rfl) rfl rfl (cs4 BK172.out) (fun hHeld => ?_); refine with_tabW impl_Expr_size.tab2 impl_Expr_size.bits2 (fun HT_ HW_ => ?_)
        generalize w5.drew = w17 at BK172 HB hHeld ⊢
        refine pn 0 17 HT_.out ?_
        refine pn 1 18 HT_.out ?_
        refine pn 2 19 HT_.out ?_
        refine pn 3 20 HT_.out ?_
        refine tk 4 21 HT_.out HW_.out hHeld ?_
        refine on 5 22 HT_.out (fun K hK => ?_)
        refine gs Try.func48 #[.int .i64 a0_0, .int .i64 1, .int .i64 15] ?_
        with_reducible refine (impl_in.calls a0_0 1 15 true _ A9.out).mono ?_
        rintro e w' ⟨rfl, ⟨nd, rfl⟩⟩
        refine ⟨_, rfl, ?_⟩
        refine hK.out _ _ (cs4 BK172.out) (fun hHeld => ?_)
        clear hK K
        refine nm (some 22) ?_
        refine pn 6 23 HT_.out ?_
        refine pn 7 24 HT_.out ?_
        refine pn 8 25 HT_.out ?_
        refine pn 9 26 HT_.out ?_
        refine pn 11 28 HT_.out ?_
        refine tk 10 27 HT_.out HW_.out hHeld ?_
        refine tk 12 29 HT_.out HW_.out hHeld ?_
        refine on 13 30 HT_.out (fun K hK => ?_)
        refine gs Try.func86 #[.int .i64 a0_0] ?_
        with_reducible refine (impl_greatestNumber.calls a0_0 t176 _ A11.out).mono ?_
        rintro e w' ⟨rfl, ⟨nd, rfl⟩⟩
        refine ⟨_, rfl, ?_⟩
        refine hK.out _ _ (cs4 BK172.out) (fun hHeld => ?_)
        clear hK K
        refine nm (some 30) ?_
        refine on 14 31 HT_.out (fun K hK => ?_)
        refine gs Try.func48 #[.int .i64 a0_1, .int .i64 0, .int .i64 t176] ?_
        with_reducible refine (impl_in.calls a0_1 0 t176 true _ A12.out).mono ?_
        rintro e w' ⟨rfl, ⟨nd, rfl⟩⟩
        refine ⟨_, rfl, ?_⟩
        refine hK.out _ _ (cs4 BK172.out) (fun hHeld => ?_)
        clear hK K
        refine nm (some 31) ?_
        refine pn 15 32 HT_.out ?_
        refine pn 16 33 HT_.out ?_
        refine pn 17 34 HT_.out ?_
        refine pn 18 35 HT_.out ?_
        refine pn 21 38 HT_.out ?_
        refine tk 19 36 HT_.out HW_.out hHeld ?_
        refine pn 20 37 HT_.out ?_
        refine pn 22 39 HT_.out ?_
        refine pn 23 40 HT_.out ?_
        refine pn 24 41 HT_.out ?_
        refine pn 25 42 HT_.out ?_
        refine pn 26 43 HT_.out ?_
        refine tk 27 44 HT_.out HW_.out hHeld ?_
        refine pn 28 45 HT_.out ?_
        refine pn 29 46 HT_.out ?_
        refine pn 30 47 HT_.out ?_
        refine pn 31 48 HT_.out ?_
        refine pf 32 49 HT_.out ?_
        refine pf 33 50 HT_.out ?_
        refine pf 34 51 HT_.out ?_
        refine pf 35 52 HT_.out ?_
        refine pf 36 53 HT_.out ?_
        refine pf 37 54 HT_.out ?_
        refine pf 38 55 HT_.out ?_
        refine pn 39 56 HT_.out ?_
        refine done_ (done_of HT_.out (by kernel_rfl)) ?_
        try go_wp2
        go_meet
        case rel => exact ⟨_, (true), (by first | rfl | (simp; done) | (simp [*]; done)), H', ⟨by first | omega | exact Nat.le_refl _⟩, ⟨by exact bk BK172.out⟩, ⟨by exact bw HB.out⟩⟩
       ·
        replace c16 := Bool.eq_false_iff.mpr c16
        subst c16
        have H1 : (impl_Expr_size.j0 k a1 false a0_0 a0_1 a0_2 l0_3) = some r := by rw [if_neg (show ¬ (false = true) by decide)] at H; exact H
        clear H
        have H := H1
        clear H1
        have H' := Aside0.mk H
        clear H
        try go_wp2
        replace BK172 := Aside0.mk (blk_drew BK172.out)
        replace HB := Aside0.mk (below_drew1 HB.out)
        refine start_ (n := 40) (S := fun w' => w'.cell? ⟨gb172, 0, none⟩ = some (.int .i64 a0_0) ∧ w'.cell? ⟨gb172, 1, none⟩ = some (.int .i64 a0_1) ∧ w'.cell? ⟨gb172, 2, none⟩ = some (.string a0_2) ∧ w'.cell? ⟨gb172, 3, none⟩ = some (.slice A0_3 l0_3.length c0_3)) (ds := []) (mB 40 0) (by kernel_rfl) rfl rfl (cs4 BK172.out) (fun hHeld => ?_); refine with_tabW impl_Expr_size.tab2 impl_Expr_size.bits2 (fun HT_ HW_ => ?_)
        generalize w5.drew = w18 at BK172 HB hHeld ⊢
        refine pn 0 17 HT_.out ?_
        refine pn 1 18 HT_.out ?_
        refine pn 2 19 HT_.out ?_
        refine pn 3 20 HT_.out ?_
        refine tk 4 21 HT_.out HW_.out hHeld ?_
        refine on 5 22 HT_.out (fun K hK => ?_)
        refine gs Try.func48 #[.int .i64 a0_0, .int .i64 1, .int .i64 15] ?_
        with_reducible refine (impl_in.calls a0_0 1 15 true _ A9.out).mono ?_
        rintro e w' ⟨rfl, ⟨nd, rfl⟩⟩
        refine ⟨_, rfl, ?_⟩
        refine hK.out _ _ (cs4 BK172.out) (fun hHeld => ?_)
        clear hK K
        refine nm (some 22) ?_
        refine pn 6 23 HT_.out ?_
        refine pn 7 24 HT_.out ?_
        refine pn 8 25 HT_.out ?_
        refine pn 9 26 HT_.out ?_
        refine pn 11 28 HT_.out ?_
        refine tk 10 27 HT_.out HW_.out hHeld ?_
        refine tk 12 29 HT_.out HW_.out hHeld ?_
        refine on 13 30 HT_.out (fun K hK => ?_)
        refine gs Try.func86 #[.int .i64 a0_0] ?_
        with_reducible refine (impl_greatestNumber.calls a0_0 t176 _ A11.out).mono ?_
        rintro e w' ⟨rfl, ⟨nd, rfl⟩⟩
        refine ⟨_, rfl, ?_⟩
        refine hK.out _ _ (cs4 BK172.out) (fun hHeld => ?_)
        clear hK K
        refine nm (some 30) ?_
        refine on 14 31 HT_.out (fun K hK => ?_)
        refine gs Try.func48 #[.int .i64 a0_1, .int .i64 0, .int .i64 t176] ?_
        with_reducible refine (impl_in.calls a0_1 0 t176 true _ A12.out).mono ?_
        rintro e w' ⟨rfl, ⟨nd, rfl⟩⟩
        refine ⟨_, rfl, ?_⟩
        refine hK.out _ _ (cs4 BK172.out) (fun hHeld => ?_)
        clear hK K
        refine nm (some 31) ?_
        refine pn 15 32 HT_.out ?_
        refine pn 16 33 HT_.out ?_
        refine pn 17 34 HT_.out ?_
        refine pn 18 35 HT_.out ?_
        refine pn 21 38 HT_.out ?_
        refine tk 19 36 HT_.out HW_.out hHeld ?_
        refine pn 20 37 HT_.out ?_
        refine pn 22 39 HT_.out ?_
        refine pn 23 40 HT_.out ?_
        refine pn 24 41 HT_.out ?_
        refine pn 25 42 HT_.out ?_
        refine pn 26 43 HT_.out ?_
        refine tk 27 44 HT_.out HW_.out hHeld ?_
        refine pn 28 45 HT_.out ?_
        refine pn 29 46 HT_.out ?_
        refine pn 30 47 HT_.out ?_
        refine pn 31 48 HT_.out ?_
        refine pn 32 49 HT_.out ?_
        refine pn 33 50 HT_.out ?_
        refine pf 34 51 HT_.out ?_
        refine pf 35 52 HT_.out ?_
        refine pf 36 53 HT_.out ?_
        refine pf 37 54 HT_.out ?_
        refine pn 38 55 HT_.out ?_
        refine pn 39 56 HT_.out ?_
        refine done_ (done_of HT_.out (by kernel_rfl)) ?_
        try go_wp2
        go_meet
        case rel => exact ⟨_, (false), (by first | rfl | (simp; done) | (simp [*]; done)), H', ⟨by first | omega | exact Nat.le_refl _⟩, ⟨by exact bk BK172.out⟩, ⟨by exact bw HB.out⟩⟩
      ·
       rw [if_neg c15] at H; have c15b0 : a0_2.toList.isEmpty = false := (by cases h_ : (a0_2.toList).isEmpty <;> simp_all)
       have c15b1 : (a0_2.toList == ([] : List UInt8)) = false := beq_eq_false_iff_ne.mpr c15
       have c15b2 : (a0_2.toList != ([] : List UInt8)) = true := bne_iff_ne.mpr c15
       (try (have c15b3 : ¬ a0_2.toList = ([] : List UInt8) := c15))
       by_cases c19 : t174 = true
       ·
        subst c19
        have H1 : ((impl_NameValid.f k a0_2).bind fun t178 => (impl_Expr_size.j0 k a1 (!t178) a0_0 a0_1 a0_2 l0_3)) = some r := by rw [if_pos rfl] at H; exact H
        clear H
        have H := H1
        clear H1
        replace H := Option.bind_eq_some_iff.mp H
        obtain ⟨t178, A200, H⟩ := H
        replace H : (impl_Expr_size.j0 k a1 (!t178) a0_0 a0_1 a0_2 l0_3) = some r := H
        have A20 := Aside0.mk A200
        clear A200
        have H' := Aside0.mk H
        clear H
        try go_wp2
        replace BK172 := Aside0.mk (blk_drew BK172.out)
        replace HB := Aside0.mk (below_drew1 HB.out)
        refine start_ (n := 40) (S := fun w' => w'.cell? ⟨gb172, 0, none⟩ = some (.int .i64 a0_0) ∧ w'.cell? ⟨gb172, 1, none⟩ = some (.int .i64 a0_1) ∧ w'.cell? ⟨gb172, 2, none⟩ = some (.string a0_2) ∧ w'.cell? ⟨gb172, 3, none⟩ = some (.slice A0_3 l0_3.length c0_3)) (ds := []) (mB 40 0) (by kernel_rfl) rfl rfl (cs4 BK172.out) (fun hHeld => ?_); refine with_tabW impl_Expr_size.tab2 impl_Expr_size.bits2 (fun HT_ HW_ => ?_)
        generalize w5.drew = w21 at BK172 HB hHeld ⊢
        refine pn 0 17 HT_.out ?_
        refine pn 1 18 HT_.out ?_
        refine pn 2 19 HT_.out ?_
        refine pn 3 20 HT_.out ?_
        refine tk 4 21 HT_.out HW_.out hHeld ?_
        refine on 5 22 HT_.out (fun K hK => ?_)
        refine gs Try.func48 #[.int .i64 a0_0, .int .i64 1, .int .i64 15] ?_
        with_reducible refine (impl_in.calls a0_0 1 15 true _ A9.out).mono ?_
        rintro e w' ⟨rfl, ⟨nd, rfl⟩⟩
        refine ⟨_, rfl, ?_⟩
        refine hK.out _ _ (cs4 BK172.out) (fun hHeld => ?_)
        clear hK K
        refine nm (some 22) ?_
        refine pn 6 23 HT_.out ?_
        refine pn 7 24 HT_.out ?_
        refine pn 8 25 HT_.out ?_
        refine pn 9 26 HT_.out ?_
        refine pn 11 28 HT_.out ?_
        refine tk 10 27 HT_.out HW_.out hHeld ?_
        refine tk 12 29 HT_.out HW_.out hHeld ?_
        refine on 13 30 HT_.out (fun K hK => ?_)
        refine gs Try.func86 #[.int .i64 a0_0] ?_
        with_reducible refine (impl_greatestNumber.calls a0_0 t176 _ A11.out).mono ?_
        rintro e w' ⟨rfl, ⟨nd, rfl⟩⟩
        refine ⟨_, rfl, ?_⟩
        refine hK.out _ _ (cs4 BK172.out) (fun hHeld => ?_)
        clear hK K
        refine nm (some 30) ?_
        refine on 14 31 HT_.out (fun K hK => ?_)
        refine gs Try.func48 #[.int .i64 a0_1, .int .i64 0, .int .i64 t176] ?_
        with_reducible refine (impl_in.calls a0_1 0 t176 true _ A12.out).mono ?_
        rintro e w' ⟨rfl, ⟨nd, rfl⟩⟩
        refine ⟨_, rfl, ?_⟩
        refine hK.out _ _ (cs4 BK172.out) (fun hHeld => ?_)
        clear hK K
        refine nm (some 31) ?_
        refine pn 15 32 HT_.out ?_
        refine pn 16 33 HT_.out ?_
        refine pn 17 34 HT_.out ?_
        refine pn 18 35 HT_.out ?_
        refine pn 21 38 HT_.out ?_
        refine tk 19 36 HT_.out HW_.out hHeld ?_
        refine pn 20 37 HT_.out ?_
        refine pn 22 39 HT_.out ?_
        refine pn 23 40 HT_.out ?_
        refine pn 24 41 HT_.out ?_
        refine pn 25 42 HT_.out ?_
        refine pn 26 43 HT_.out ?_
        refine tk 27 44 HT_.out HW_.out hHeld ?_
        refine pn 28 45 HT_.out ?_
        refine pn 29 46 HT_.out ?_
        refine pn 30 47 HT_.out ?_
        refine pn 31 48 HT_.out ?_
        refine pn 32 49 HT_.out ?_
        refine pn 33 50 HT_.out ?_
        refine pn 34 51 HT_.out ?_
        refine tk 35 52 HT_.out HW_.out hHeld ?_
        refine on 36 53 HT_.out (fun K hK => ?_)
        refine gs Try.func68 #[.string a0_2] ?_
        with_reducible refine (impl_NameValid.calls k a0_2 t178 _ A20.out).mono ?_
        rintro e w' ⟨rfl, ⟨nd, rfl⟩⟩
        refine ⟨_, rfl, ?_⟩
        refine hK.out _ _ (cs4 BK172.out) (fun hHeld => ?_)
        clear hK K
        refine nm (some 53) ?_
        refine pn 37 54 HT_.out ?_
        refine pn 38 55 HT_.out ?_
        refine pn 39 56 HT_.out ?_
        refine done_ (done_of HT_.out (by kernel_rfl)) ?_
        try go_wp2
        go_meet
        case rel => exact ⟨_, (!t178), (by first | rfl | (simp; done) | (simp [*]; done)), H', ⟨by first | omega | exact Nat.le_refl _⟩, ⟨by exact bk BK172.out⟩, ⟨by exact bw HB.out⟩⟩
       ·
        replace c19 := Bool.eq_false_iff.mpr c19
        subst c19
        have H1 : (impl_Expr_size.j0 k a1 true a0_0 a0_1 a0_2 l0_3) = some r := by rw [if_neg (show ¬ (false = true) by decide)] at H; exact H
        clear H
        have H := H1
        clear H1
        have H' := Aside0.mk H
        clear H
        try go_wp2
        replace BK172 := Aside0.mk (blk_drew BK172.out)
        replace HB := Aside0.mk (below_drew1 HB.out)
        refine start_ (n := 40) (S := fun w' => w'.cell? ⟨gb172, 0, none⟩ = some (.int .i64 a0_0) ∧ w'.cell? ⟨gb172, 1, none⟩ = some (.int .i64 a0_1) ∧ w'.cell? ⟨gb172, 2, none⟩ = some (.string a0_2) ∧ w'.cell? ⟨gb172, 3, none⟩ = some (.slice A0_3 l0_3.length c0_3)) (ds := []) (mB 40 0) (by kernel_rfl) rfl rfl (cs4 BK172.out) (fun hHeld => ?_); refine with_tabW impl_Expr_size.tab2 impl_Expr_size.bits2 (fun HT_ HW_ => ?_)
        generalize w5.drew = w22 at BK172 HB hHeld ⊢
        refine pn 0 17 HT_.out ?_
        refine pn 1 18 HT_.out ?_
        refine pn 2 19 HT_.out ?_
        refine pn 3 20 HT_.out ?_
        refine tk 4 21 HT_.out HW_.out hHeld ?_
        refine on 5 22 HT_.out (fun K hK => ?_)
        refine gs Try.func48 #[.int .i64 a0_0, .int .i64 1, .int .i64 15] ?_
        with_reducible refine (impl_in.calls a0_0 1 15 true _ A9.out).mono ?_
        rintro e w' ⟨rfl, ⟨nd, rfl⟩⟩
        refine ⟨_, rfl, ?_⟩
        refine hK.out _ _ (cs4 BK172.out) (fun hHeld => ?_)
        clear hK K
        refine nm (some 22) ?_
        refine pn 6 23 HT_.out ?_
        refine pn 7 24 HT_.out ?_
        refine pn 8 25 HT_.out ?_
        refine pn 9 26 HT_.out ?_
        refine pn 11 28 HT_.out ?_
        refine tk 10 27 HT_.out HW_.out hHeld ?_
        refine tk 12 29 HT_.out HW_.out hHeld ?_
        refine on 13 30 HT_.out (fun K hK => ?_)
        refine gs Try.func86 #[.int .i64 a0_0] ?_
        with_reducible refine (impl_greatestNumber.calls a0_0 t176 _ A11.out).mono ?_
        rintro e w' ⟨rfl, ⟨nd, rfl⟩⟩
        refine ⟨_, rfl, ?_⟩
        refine hK.out _ _ (cs4 BK172.out) (fun hHeld => ?_)
        clear hK K
        refine nm (some 30) ?_
        refine on 14 31 HT_.out (fun K hK => ?_)
        refine gs Try.func48 #[.int .i64 a0_1, .int .i64 0, .int .i64 t176] ?_
        with_reducible refine (impl_in.calls a0_1 0 t176 true _ A12.out).mono ?_
        rintro e w' ⟨rfl, ⟨nd, rfl⟩⟩
        refine ⟨_, rfl, ?_⟩
        refine hK.out _ _ (cs4 BK172.out) (fun hHeld => ?_)
        clear hK K
        refine nm (some 31) ?_
        refine pn 15 32 HT_.out ?_
        refine pn 16 33 HT_.out ?_
        refine pn 17 34 HT_.out ?_
        refine pn 18 35 HT_.out ?_
        refine pn 21 38 HT_.out ?_
        refine tk 19 36 HT_.out HW_.out hHeld ?_
        refine pn 20 37 HT_.out ?_
        refine pn 22 39 HT_.out ?_
        refine pn 23 40 HT_.out ?_
        refine pn 24 41 HT_.out ?_
        refine pn 25 42 HT_.out ?_
        refine pn 26 43 HT_.out ?_
        refine tk 27 44 HT_.out HW_.out hHeld ?_
        refine pn 28 45 HT_.out ?_
        refine pn 29 46 HT_.out ?_
        refine pn 30 47 HT_.out ?_
        refine pn 31 48 HT_.out ?_
        refine pf 32 49 HT_.out ?_
        refine pf 33 50 HT_.out ?_
        refine pf 34 51 HT_.out ?_
        refine pf 35 52 HT_.out ?_
        refine pf 36 53 HT_.out ?_
        refine pf 37 54 HT_.out ?_
        refine pf 38 55 HT_.out ?_
        refine pn 39 56 HT_.out ?_
        refine done_ (done_of HT_.out (by kernel_rfl)) ?_
        try go_wp2
        go_meet
        case rel => exact ⟨_, (true), (by first | rfl | (simp; done) | (simp [*]; done)), H', ⟨by first | omega | exact Nat.le_refl _⟩, ⟨by exact bk BK172.out⟩, ⟨by exact bw HB.out⟩⟩
     ·
      rw [if_neg c14] at H; obtain ⟨c14b0, c14b1⟩ := eqN c14
      have H' := Aside0.mk H
      clear H
      try go_wp2
      replace BK172 := Aside0.mk (blk_drew BK172.out)
      replace HB := Aside0.mk (below_drew1 HB.out)
      refine start_ (n := 40) (S := fun w' => w'.cell? ⟨gb172, 0, none⟩ = some (.int .i64 a0_0) ∧ w'.cell? ⟨gb172, 1, none⟩ = some (.int .i64 a0_1) ∧ w'.cell? ⟨gb172, 2, none⟩ = some (.string a0_2) ∧ w'.cell? ⟨gb172, 3, none⟩ = some (.slice A0_3 l0_3.length c0_3)) (ds := []) (mB 40 0) (by kernel_rfl) rfl rfl (cs4 BK172.out) (fun hHeld => ?_); refine with_tabW impl_Expr_size.tab2 impl_Expr_size.bits2 (fun HT_ HW_ => ?_)
      generalize w5.drew = w23 at BK172 HB hHeld ⊢
      refine pn 0 17 HT_.out ?_
      refine pn 1 18 HT_.out ?_
      refine pn 2 19 HT_.out ?_
      refine pn 3 20 HT_.out ?_
      refine tk 4 21 HT_.out HW_.out hHeld ?_
      refine on 5 22 HT_.out (fun K hK => ?_)
      refine gs Try.func48 #[.int .i64 a0_0, .int .i64 1, .int .i64 15] ?_
      with_reducible refine (impl_in.calls a0_0 1 15 true _ A9.out).mono ?_
      rintro e w' ⟨rfl, ⟨nd, rfl⟩⟩
      refine ⟨_, rfl, ?_⟩
      refine hK.out _ _ (cs4 BK172.out) (fun hHeld => ?_)
      clear hK K
      refine nm (some 22) ?_
      refine pn 6 23 HT_.out ?_
      refine pn 7 24 HT_.out ?_
      refine pn 8 25 HT_.out ?_
      refine pn 9 26 HT_.out ?_
      refine pn 11 28 HT_.out ?_
      refine tk 10 27 HT_.out HW_.out hHeld ?_
      refine tk 12 29 HT_.out HW_.out hHeld ?_
      refine on 13 30 HT_.out (fun K hK => ?_)
      refine gs Try.func86 #[.int .i64 a0_0] ?_
      with_reducible refine (impl_greatestNumber.calls a0_0 t176 _ A11.out).mono ?_
      rintro e w' ⟨rfl, ⟨nd, rfl⟩⟩
      refine ⟨_, rfl, ?_⟩
      refine hK.out _ _ (cs4 BK172.out) (fun hHeld => ?_)
      clear hK K
      refine nm (some 30) ?_
      refine on 14 31 HT_.out (fun K hK => ?_)
      refine gs Try.func48 #[.int .i64 a0_1, .int .i64 0, .int .i64 t176] ?_
      with_reducible refine (impl_in.calls a0_1 0 t176 true _ A12.out).mono ?_
      rintro e w' ⟨rfl, ⟨nd, rfl⟩⟩
      refine ⟨_, rfl, ?_⟩
      refine hK.out _ _ (cs4 BK172.out) (fun hHeld => ?_)
      clear hK K
      refine nm (some 31) ?_
      refine pn 15 32 HT_.out ?_
      refine pn 16 33 HT_.out ?_
      refine pn 17 34 HT_.out ?_
      refine pn 18 35 HT_.out ?_
      refine pn 21 38 HT_.out ?_
      refine tk 19 36 HT_.out HW_.out hHeld ?_
      refine pn 20 37 HT_.out ?_
      refine pn 22 39 HT_.out ?_
      refine pn 23 40 HT_.out ?_
      refine pn 24 41 HT_.out ?_
      refine pf 25 42 HT_.out ?_
      refine pf 26 43 HT_.out ?_
      refine pf 27 44 HT_.out ?_
      refine pf 28 45 HT_.out ?_
      refine pf 29 46 HT_.out ?_
      refine pn 30 47 HT_.out ?_
      refine pn 31 48 HT_.out ?_
      refine pf 32 49 HT_.out ?_
      refine pf 33 50 HT_.out ?_
      refine pf 34 51 HT_.out ?_
      refine pf 35 52 HT_.out ?_
      refine pf 36 53 HT_.out ?_
      refine pf 37 54 HT_.out ?_
      refine pf 38 55 HT_.out ?_
      refine pn 39 56 HT_.out ?_
      refine done_ (done_of HT_.out (by kernel_rfl)) ?_
      try go_wp2
      go_meet
      case rel => exact ⟨_, (true), (by first | rfl | (simp; done) | (simp [*]; done)), H', ⟨by first | omega | exact Nat.le_refl _⟩, ⟨by exact bk BK172.out⟩, ⟨by exact bw HB.out⟩⟩
    ·
     replace c13 := Bool.eq_false_iff.mpr c13
     subst c13
     have H1 : (impl_Expr_size.j0 k a1 true a0_0 a0_1 a0_2 l0_3) = some r := by rw [if_neg (show ¬ (false = true) by decide)] at H; exact H
     clear H
     have H := H1
     clear H1
     have H' := Aside0.mk H
     clear H
     try go_wp2
     replace BK172 := Aside0.mk (blk_drew BK172.out)
     replace HB := Aside0.mk (below_drew1 HB.out)
     refine start_ (n := 40) (S := fun w' => w'.cell? ⟨gb172, 0, none⟩ = some (.int .i64 a0_0) ∧ w'.cell? ⟨gb172, 1, none⟩ = some (.int .i64 a0_1) ∧ w'.cell? ⟨gb172, 2, none⟩ = some (.string a0_2) ∧ w'.cell? ⟨gb172, 3, none⟩ = some (.slice A0_3 l0_3.length c0_3)) (ds := []) (mB 40 0) (by kernel_rfl) rfl rfl (cs4 BK172.out) (fun hHeld => ?_); refine with_tabW impl_Expr_size.tab2 impl_Expr_size.bits2 (fun HT_ HW_ => ?_)
     generalize w5.drew = w24 at BK172 HB hHeld ⊢
     refine pn 0 17 HT_.out ?_
     refine pn 1 18 HT_.out ?_
     refine pn 2 19 HT_.out ?_
     refine pn 3 20 HT_.out ?_
     refine tk 4 21 HT_.out HW_.out hHeld ?_
     refine on 5 22 HT_.out (fun K hK => ?_)
     refine gs Try.func48 #[.int .i64 a0_0, .int .i64 1, .int .i64 15] ?_
     with_reducible refine (impl_in.calls a0_0 1 15 true _ A9.out).mono ?_
     rintro e w' ⟨rfl, ⟨nd, rfl⟩⟩
     refine ⟨_, rfl, ?_⟩
     refine hK.out _ _ (cs4 BK172.out) (fun hHeld => ?_)
     clear hK K
     refine nm (some 22) ?_
     refine pn 6 23 HT_.out ?_
     refine pn 7 24 HT_.out ?_
     refine pn 8 25 HT_.out ?_
     refine pn 9 26 HT_.out ?_
     refine pn 11 28 HT_.out ?_
     refine tk 10 27 HT_.out HW_.out hHeld ?_
     refine tk 12 29 HT_.out HW_.out hHeld ?_
     refine on 13 30 HT_.out (fun K hK => ?_)
     refine gs Try.func86 #[.int .i64 a0_0] ?_
     with_reducible refine (impl_greatestNumber.calls a0_0 t176 _ A11.out).mono ?_
     rintro e w' ⟨rfl, ⟨nd, rfl⟩⟩
     refine ⟨_, rfl, ?_⟩
     refine hK.out _ _ (cs4 BK172.out) (fun hHeld => ?_)
     clear hK K
     refine nm (some 30) ?_
     refine on 14 31 HT_.out (fun K hK => ?_)
     refine gs Try.func48 #[.int .i64 a0_1, .int .i64 0, .int .i64 t176] ?_
     with_reducible refine (impl_in.calls a0_1 0 t176 false _ A12.out).mono ?_
     rintro e w' ⟨rfl, ⟨nd, rfl⟩⟩
     refine ⟨_, rfl, ?_⟩
     refine hK.out _ _ (cs4 BK172.out) (fun hHeld => ?_)
     clear hK K
     refine nm (some 31) ?_
     refine pn 15 32 HT_.out ?_
     refine pn 16 33 HT_.out ?_
     refine pn 17 34 HT_.out ?_
     refine pf 18 35 HT_.out ?_
     refine pf 19 36 HT_.out ?_
     refine pf 20 37 HT_.out ?_
     refine pf 21 38 HT_.out ?_
     refine pf 22 39 HT_.out ?_
     refine pn 23 40 HT_.out ?_
     refine pn 24 41 HT_.out ?_
     refine pf 25 42 HT_.out ?_
     refine pf 26 43 HT_.out ?_
     refine pf 27 44 HT_.out ?_
     refine pf 28 45 HT_.out ?_
     refine pf 29 46 HT_.out ?_
     refine pn 30 47 HT_.out ?_
     refine pn 31 48 HT_.out ?_
     refine pf 32 49 HT_.out ?_
     refine pf 33 50 HT_.out ?_
     refine pf 34 51 HT_.out ?_
     refine pf 35 52 HT_.out ?_
     refine pf 36 53 HT_.out ?_
     refine pf 37 54 HT_.out ?_
     refine pf 38 55 HT_.out ?_
     refine pn 39 56 HT_.out ?_
     refine done_ (done_of HT_.out (by kernel_rfl)) ?_
     try go_wp2
     go_meet
     case rel => exact ⟨_, (true), (by first | rfl | (simp; done) | (simp [*]; done)), H', ⟨by first | omega | exact Nat.le_refl _⟩, ⟨by exact bk BK172.out⟩, ⟨by exact bw HB.out⟩⟩
   ·
    replace c10 := Bool.eq_false_iff.mpr c10
    subst c10
    have H1 : (impl_Expr_size.j0 k a1 true a0_0 a0_1 a0_2 l0_3) = some r := by rw [if_neg (show ¬ (false = true) by decide)] at H; exact H
    clear H
    have H := H1
    clear H1
    have H' := Aside0.mk H
    clear H
    try go_wp2
    replace BK172 := Aside0.mk (blk_drew BK172.out)
    replace HB := Aside0.mk (below_drew1 HB.out)
    refine start_ (n := 40) (S := fun w' => w'.cell? ⟨gb172, 0, none⟩ = some (.int .i64 a0_0) ∧ w'.cell? ⟨gb172, 1, none⟩ = some (.int .i64 a0_1) ∧ w'.cell? ⟨gb172, 2, none⟩ = some (.string a0_2) ∧ w'.cell? ⟨gb172, 3, none⟩ = some (.slice A0_3 l0_3.length c0_3)) (ds := []) (mB 40 0) (by kernel_rfl) rfl rfl (cs4 BK172.out) (fun hHeld => ?_); refine with_tabW impl_Expr_size.tab2 impl_Expr_size.bits2 (fun HT_ HW_ => ?_)
    generalize w5.drew = w25 at BK172 HB hHeld ⊢
    refine pn 0 17 HT_.out ?_
    refine pn 1 18 HT_.out ?_
    refine pn 2 19 HT_.out ?_
    refine pn 3 20 HT_.out ?_
    refine tk 4 21 HT_.out HW_.out hHeld ?_
    refine on 5 22 HT_.out (fun K hK => ?_)
    refine gs Try.func48 #[.int .i64 a0_0, .int .i64 1, .int .i64 15] ?_
    with_reducible refine (impl_in.calls a0_0 1 15 false _ A9.out).mono ?_
    rintro e w' ⟨rfl, ⟨nd, rfl⟩⟩
    refine ⟨_, rfl, ?_⟩
    refine hK.out _ _ (cs4 BK172.out) (fun hHeld => ?_)
    clear hK K
    refine nm (some 22) ?_
    refine pn 6 23 HT_.out ?_
    refine pn 7 24 HT_.out ?_
    refine pn 8 25 HT_.out ?_
    refine pf 9 26 HT_.out ?_
    refine pf 10 27 HT_.out ?_
    refine pf 11 28 HT_.out ?_
    refine pf 12 29 HT_.out ?_
    refine pf 13 30 HT_.out ?_
    refine pf 14 31 HT_.out ?_
    refine pf 15 32 HT_.out ?_
    refine pn 16 33 HT_.out ?_
    refine pn 17 34 HT_.out ?_
    refine pf 18 35 HT_.out ?_
    refine pf 19 36 HT_.out ?_
    refine pf 20 37 HT_.out ?_
    refine pf 21 38 HT_.out ?_
    refine pf 22 39 HT_.out ?_
    refine pn 23 40 HT_.out ?_
    refine pn 24 41 HT_.out ?_
    refine pf 25 42 HT_.out ?_
    refine pf 26 43 HT_.out ?_
    refine pf 27 44 HT_.out ?_
    refine pf 28 45 HT_.out ?_
    refine pf 29 46 HT_.out ?_
    refine pn 30 47 HT_.out ?_
    refine pn 31 48 HT_.out ?_
    refine pf 32 49 HT_.out ?_
    refine pf 33 50 HT_.out ?_
    refine pf 34 51 HT_.out ?_
    refine pf 35 52 HT_.out ?_
    refine pf 36 53 HT_.out ?_
    refine pf 37 54 HT_.out ?_
    refine pf 38 55 HT_.out ?_
    refine pn 39 56 HT_.out ?_
    refine done_ (done_of HT_.out (by kernel_rfl)) ?_
    try go_wp2
    go_meet
    case rel => exact ⟨_, (true), (by first | rfl | (simp; done) | (simp [*]; done)), H', ⟨by first | omega | exact Nat.le_refl _⟩, ⟨by exact bk BK172.out⟩, ⟨by exact bw HB.out⟩⟩
 case rest =>
  clear HC4
  try clear c1
  try clear p2
  try clear c4
  try clear c8
  try clear c10
  try clear c13
  obtain ⟨kq, x56_3, rfl, HA, HJ3, BK172, HB⟩ := hcut
  cases kq with
  | zero => exact absurd HA.out (by simp [impl_Expr_size.j0])
  | succ kj3 =>
   have H := HA.out
   clear HA
   simp only [impl_Expr_size.j0] at H
   by_cases c26 : x56_3 = true
   ·
    subst c26
    have H1 : (some 0) = some r := by rw [if_pos rfl] at H; exact H
    clear H
    have H := H1
    clear H1
    obtain rfl := Option.some.inj H
    go_wp2
    go_ret
    exact ⟨by first | rfl | (simp [errW_none, errW_some] <;> rfl) | (simp [*, errW_none, errW_some] <;> rfl), by exact bw HB.out⟩
   ·
    replace c26 := Bool.eq_false_iff.mpr c26
    subst c26
    have H1 : (impl_Expr_size.l0 kj3 a1 1 l0_3 (l0_3.length : Int) 0) = some r := by rw [if_neg (show ¬ (false = true) by decide)] at H; exact H
    clear H
    have H := H1
    clear H1
    have H' := Aside0.mk H
    clear H
    have hcz27_0 : wc.cell? ⟨gb172, 0, none⟩ = some (.int .i64 a0_0) := (blk_cell BK172.out 0).trans rfl
    have hcz27_1 : wc.cell? ⟨gb172, 1, none⟩ = some (.int .i64 a0_1) := (blk_cell BK172.out 1).trans rfl
    have hcz27_2 : wc.cell? ⟨gb172, 2, none⟩ = some (.string a0_2) := (blk_cell BK172.out 2).trans rfl
    have hcz27_3 : wc.cell? ⟨gb172, 3, none⟩ = some (.slice A0_3 l0_3.length c0_3) := (blk_cell BK172.out 3).trans rfl
    have hfz27_0 := blk_frozen BK172.out 0
    have hfz27_1 := blk_frozen BK172.out 1
    have hfz27_2 := blk_frozen BK172.out 2
    have hfz27_3 := blk_frozen BK172.out 3
    go_wp2
    go_loopg [7, 60] kj3 (fun kq v7 v60 w' => ∃ (x7_2 : Int) (x60_2 : Int), v7 = .int .i64 x7_2 ∧ v60 = .int .i64 x60_2 ∧ Aside0 (impl_Expr_size.l0 kq a1 x7_2 l0_3 (l0_3.length : Int) x60_2 = some r) ∧ Aside0 (kq ≤ kj3) ∧ Aside0 (w'.heap[gb172]? = some (.cells #[.int .i64 a0_0, .int .i64 a0_1, .string a0_2, (.slice A0_3 l0_3.length c0_3)] 29 (0, 0))) ∧ Aside0 (Below w.heap.size w w'))
    case atStart => exact ⟨(1), (0), (by first | rfl | (simp; done) | (simp [*]; done)), (by first | rfl | (simp; done) | (simp [*]; done)), H', ⟨Nat.le_refl _⟩, ⟨by exact bk BK172.out⟩, ⟨by exact bw HB.out⟩⟩
    case round =>
     clear H'
     try clear c1
     try clear c2
     try clear p2
     try clear c4
     try clear c8
     try clear c10
     try clear c13
     try clear c26
     try clear hcz27_0
     try clear hcz27_1
     try clear hcz27_2
     try clear hcz27_3
     try clear hfz27_0
     try clear hfz27_1
     try clear hfz27_2
     try clear hfz27_3
     try clear p2
     obtain ⟨x7_2, x60_2, rfl, rfl, HA, HK2, BK172, HB⟩ := hrel
     cases gk with
     | zero => exact absurd HA.out (by simp [impl_Expr_size.l0])
     | succ k2 =>
      have H := HA.out
      clear HA
      simp only [impl_Expr_size.l0] at H
      by_cases c28 : x60_2 < (l0_3.length : Int)
      ·
       rw [if_pos c28] at H; have c28b0 : decide (x60_2 < (l0_3.length : Int)) = true := decide_eq_true c28; clear c28
       by_cases c29 : 0 ≤ x60_2
       ·
        rw [if_pos c29] at H; have c29b0 : decide (0 ≤ x60_2) = true := decide_eq_true c29; clear c29
        by_cases c30 : x60_2 < (l0_3.length : Int)
        ·
         rw [if_pos c30] at H; have c30b0 : decide (x60_2 < (l0_3.length : Int)) = true := decide_eq_true c30; clear c30
         replace H := Option.bind_eq_some_iff.mp H
         obtain ⟨t181, A310, H⟩ := H
         replace H : (if t181 = 0 then (some 0) else (impl_Expr_size.l0 k2 a1 (wrap64 (x7_2 + t181)) l0_3 (l0_3.length : Int) (wrap64 (x60_2 + 1)))) = some r := H
         have A31 := Aside0.mk A310
         clear A310
         by_cases c32 : t181 = 0
         ·
          rw [if_pos c32] at H; obtain ⟨c32b0, c32b1⟩ := eqY c32; clear c32
          obtain rfl := Option.some.inj H
          have p179 : 0 ≤ (x60_2 : Int) := of_decide_eq_true (by first | (with_reducible assumption) | assumption)
          have q179 : x60_2 < (l0_3.length : Int) := of_decide_eq_true (by first | (with_reducible assumption) | assumption)
          obtain ⟨ad179, A179_3, c179_3, e179, hx179_0, hx179_1, hx179_2, hx179_3, hl179_3, hi179_3⟩ := at_T29 HR0_3.out x60_2 p179 q179
          cases e179
          first | replace hx179_0 := (HB.out.cell (World.block_lt_of_cell? w _ hx179_0)).trans hx179_0 | skip
          first | replace hx179_1 := (HB.out.cell (World.block_lt_of_cell? w _ hx179_1)).trans hx179_1 | skip
          first | replace hx179_2 := (HB.out.cell (World.block_lt_of_cell? w _ hx179_2)).trans hx179_2 | skip
          first | replace hx179_3 := (HB.out.cell (World.block_lt_of_cell? w _ hx179_3)).trans hx179_3 | skip
          have HR179_3 := Aside0.mk hi179_3
          have HC179_3 := Aside0.mk hl179_3
          clear hi179_3 hl179_3
          replace p179 := eq_true p179
          replace q179 := eq_true q179
          go_wp2_with (first | ((with_reducible refine gate_dst (N := 9) rfl ?_); (try (refine gate_guard (by rfl) ?_; dsimp only)); refine bx 9 #[.int .i64 0, .int .i64 0, .string (⟨#[]⟩ : ByteArray), .slice none 0 0] 29 ?_; intro gb180 hg w33 hbox hb; have BK180 := Aside0.mk (hbox); have GW180 := gwB HB hg; have GE180 := gwB HB hg; replace HB := bS HB hb; have NB172_180 := nbL BK172 hg; have NB180_172 := nbR BK172 hg; replace BK172 := bB BK172 hb; clear hb hbox hg; have hnb34 := NB180_172.out; have hnc34 := NB172_180.out; obtain ⟨hcz35_0, hcz35_1, hcz35_2, hcz35_3⟩ := cs4 BK180.out; obtain ⟨hfz35_0, hfz35_1, hfz35_2, hfz35_3⟩ := fz4 BK180.out) | ((with_reducible refine gate_callee (f := 63) rfl ?_); refine gl (some 67) Try.func63 #[.agg #[.int .i64 ((rd_T29 l0_3 x60_2).f0), .int .i64 ((rd_T29 l0_3 x60_2).f1), .string ((rd_T29 l0_3 x60_2).f2), .slice A179_3 ((rd_T29 l0_3 x60_2).f3).length c179_3], .int .i64 (wrap64 (a1 - 1))] ?_; (with_reducible refine (ih k2 (by have := HJ3.out; have := HK2.out; omega) ((rd_T29 l0_3 x60_2).f0) ((rd_T29 l0_3 x60_2).f1) ((rd_T29 l0_3 x60_2).f2) _ _ ((rd_T29 l0_3 x60_2).f3) (wrap64 (a1 - 1)) t181 _ ?side1 ?side2 A31.out).mono ?_); (case side1 => exact Kd.C_below HR179_3.out (by exact bw HB.out)); (case side2 => exact HC179_3.out); rintro e w36 ⟨rfl, hb⟩; refine ⟨_, rfl, ?_⟩; replace BK172 := Aside0.mk (blk_below (g := gb172) (o := .cells #[.int .i64 a0_0, .int .i64 a0_1, .string a0_2, .slice (some ad179) l0_3.length c0_3] 29 (0, 0)) (bo BK172) hb); replace BK180 := Aside0.mk (blk_below (g := gb180) (o := .cells #[.int .i64 ((rd_T29 l0_3 x60_2).f0), .int .i64 ((rd_T29 l0_3 x60_2).f1), .string ((rd_T29 l0_3 x60_2).f2), .slice A179_3 ((rd_T29 l0_3 x60_2).f3).length c179_3] 29 (0, 0)) (bp BK180) hb); replace HB := bS HB hb; (try clear hb); (try clear hb2); (try clear hk); (try clear hi)))
          go_ret
          exact ⟨by first | rfl | (simp [errW_none, errW_some] <;> rfl) | (simp [*, errW_none, errW_some] <;> rfl), by exact bw HB.out⟩
         ·
          rw [if_neg c32] at H; obtain ⟨c32b0, c32b1⟩ := eqN c32
          have H' := Aside0.mk H
          clear H
          have p179 : 0 ≤ (x60_2 : Int) := of_decide_eq_true (by first | (with_reducible assumption) | assumption)
          have q179 : x60_2 < (l0_3.length : Int) := of_decide_eq_true (by first | (with_reducible assumption) | assumption)
          obtain ⟨ad179, A179_3, c179_3, e179, hx179_0, hx179_1, hx179_2, hx179_3, hl179_3, hi179_3⟩ := at_T29 HR0_3.out x60_2 p179 q179
          cases e179
          first | replace hx179_0 := (HB.out.cell (World.block_lt_of_cell? w _ hx179_0)).trans hx179_0 | skip
          first | replace hx179_1 := (HB.out.cell (World.block_lt_of_cell? w _ hx179_1)).trans hx179_1 | skip
          first | replace hx179_2 := (HB.out.cell (World.block_lt_of_cell? w _ hx179_2)).trans hx179_2 | skip
          first | replace hx179_3 := (HB.out.cell (World.block_lt_of_cell? w _ hx179_3)).trans hx179_3 | skip
          have HR179_3 := Aside0.mk hi179_3
          have HC179_3 := Aside0.mk hl179_3
          clear hi179_3 hl179_3
          replace p179 := eq_true p179
          replace q179 := eq_true q179
          go_wp2_with (first | ((with_reducible refine gate_dst (N := 9) rfl ?_); (try (refine gate_guard (by rfl) ?_; dsimp only)); refine bx 9 #[.int .i64 0, .int .i64 0, .string (⟨#[]⟩ : ByteArray), .slice none 0 0] 29 ?_; intro gb180 hg w37 hbox hb; have BK180 := Aside0.mk (hbox); have GW180 := gwB HB hg; have GE180 := gwB HB hg; replace HB := bS HB hb; have NB172_180 := nbL BK172 hg; have NB180_172 := nbR BK172 hg; replace BK172 := bB BK172 hb; clear hb hbox hg; have hnb38 := NB180_172.out; have hnc38 := NB172_180.out; obtain ⟨hcz39_0, hcz39_1, hcz39_2, hcz39_3⟩ := cs4 BK180.out; obtain ⟨hfz39_0, hfz39_1, hfz39_2, hfz39_3⟩ := fz4 BK180.out) | ((with_reducible refine gate_callee (f := 63) rfl ?_); refine gl (some 67) Try.func63 #[.agg #[.int .i64 ((rd_T29 l0_3 x60_2).f0), .int .i64 ((rd_T29 l0_3 x60_2).f1), .string ((rd_T29 l0_3 x60_2).f2), .slice A179_3 ((rd_T29 l0_3 x60_2).f3).length c179_3], .int .i64 (wrap64 (a1 - 1))] ?_; (with_reducible refine (ih k2 (by have := HJ3.out; have := HK2.out; omega) ((rd_T29 l0_3 x60_2).f0) ((rd_T29 l0_3 x60_2).f1) ((rd_T29 l0_3 x60_2).f2) _ _ ((rd_T29 l0_3 x60_2).f3) (wrap64 (a1 - 1)) t181 _ ?side1 ?side2 A31.out).mono ?_); (case side1 => exact Kd.C_below HR179_3.out (by exact bw HB.out)); (case side2 => exact HC179_3.out); rintro e w40 ⟨rfl, hb⟩; refine ⟨_, rfl, ?_⟩; replace BK172 := Aside0.mk (blk_below (g := gb172) (o := .cells #[.int .i64 a0_0, .int .i64 a0_1, .string a0_2, .slice (some ad179) l0_3.length c0_3] 29 (0, 0)) (bo BK172) hb); replace BK180 := Aside0.mk (blk_below (g := gb180) (o := .cells #[.int .i64 ((rd_T29 l0_3 x60_2).f0), .int .i64 ((rd_T29 l0_3 x60_2).f1), .string ((rd_T29 l0_3 x60_2).f2), .slice A179_3 ((rd_T29 l0_3 x60_2).f3).length c179_3] 29 (0, 0)) (bp BK180) hb); replace HB := bS HB hb; (try clear hb); (try clear hb2); (try clear hk); (try clear hi)))
          go_roundg k2
          case measure => have := HJ3.out; have := HK2.out; omega
          case rel => exact ⟨(wrap64 (x7_2 + t181)), (wrap64 (x60_2 + 1)), (by first | rfl | (simp; done) | (simp [*]; done)), (by first | rfl | (simp; done) | (simp [*]; done)), H', ⟨by have := HJ3.out; have := HK2.out; omega⟩, ⟨by exact bk BK172.out⟩, ⟨by exact bw HB.out⟩⟩
        ·
         rw [if_neg c30] at H; exact absurd H (by simp)
       ·
        rw [if_neg c29] at H; exact absurd H (by simp)
      ·
       rw [if_neg c28] at H; have c28b0 : decide (x60_2 < (l0_3.length : Int)) = false := decide_eq_false c28; clear c28
       obtain rfl := Option.some.inj H
       go_wp2
       go_ret
       exact ⟨by first | rfl | (simp [errW_none, errW_some] <;> rfl) | (simp [*, errW_none, errW_some] <;> rfl), by exact bw HB.out⟩

end Go.Proofs.Ytbbbgochcfccgaa.P
