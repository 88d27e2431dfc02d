-- Written by a program of this session (wip/tool).
import Derived.Shelf.Abstract
import Derived.Test.YtjpeciodihnolaaPx0
import Derived.Test.YtjpeciodihnolaaPx1023
import Derived.Test.YtjpeciodihnolaaPx1029
namespace Go.Proofs.Ytjpeciodihnolaa.P
open Go.RowKit Go.Proofs.YtjpeciodihnolaaW.PrintWords Go.Proofs.YtjpeciodihnolaaW.PrintLast Go.Proofs.YtjpeciodihnolaaW.PrintMore
attribute [local go_sem] max2_int min2_int max_two min_two max_three min_three max_four min_four   -- for this text's walks alone
set_option linter.unusedVariables false
set_option linter.unusedSimpArgs false

/-! ### impl_ExprValid: function 9 -/
def impl_ExprValid.f (k : Nat) (a0_0 : Int) (a0_1 : Int) (a0_2 : ByteArray) (l0_3 : List (S25)) : Option (Bool) := (impl_Expr_size.f k a0_0 a0_1 a0_2 l0_3 7).bind fun t403 => ((impl_in.f t403 1 40).bind fun t404 => (some t404))
theorem impl_ExprValid.mono : ∀ a0 a1 a2 a3 k, LeO (impl_ExprValid.f k a0 a1 a2 a3) (impl_ExprValid.f (k + 1) a0 a1 a2 a3) := by
 intro a0 a1 a2 a3 k
 unfold impl_ExprValid.f
 repeat' first
   | (with_reducible exact impl_Expr_size.mono _ _ _ _ _ _)
   | (with_reducible exact LeO.refl _)
   | (with_reducible exact LeO.none _)
   | (with_reducible refine LeO.ite ?_ ?_)
   | (with_reducible refine LeO.bind ?_ (fun _ => ?_))
   | exact impl_Expr_size.mono _ _ _ _ _ _
   | exact LeO.none _
   | refine LeO.ite ?_ ?_
   | refine LeO.bind ?_ (fun _ => ?_)
set_option maxHeartbeats 8000000 in
set_option maxRecDepth 100000 in
theorem impl_ExprValid.calls (k : Nat) (a0_0 : Int) (a0_1 : Int) (a0_2 : ByteArray) (A0_3 : Option Addr) (c0_3 : Nat) (l0_3 : List (S25)) (r : Bool) (w : World) (hr0_3 : Kd.C k25 w A0_3 l0_3.length l0_3) (hc0_3 : l0_3.length ≤ c0_3) (h : impl_ExprValid.f k a0_0 a0_1 a0_2 l0_3 = some r) :
  Calls Try.prog 9 #[.agg #[.int .i64 a0_0, .int .i64 a0_1, .string a0_2, .slice A0_3 l0_3.length c0_3]] w fun e w' => e = .returned (.bool r) ∧ Below w.heap.size w w' := by
 have hu25 := Try.underlying25
 have HR0_3 := Aside0.mk hr0_3
 have HC0_3 := Aside0.mk hc0_3
 clear hr0_3 hc0_3
 have HB := Aside0.mk (Below.refl w.heap.size w)
 have H : ((impl_Expr_size.f k a0_0 a0_1 a0_2 l0_3 7).bind fun t403 => ((impl_in.f t403 1 40).bind fun t404 => (some t404))) = some r := h
 clear h
 replace H := Option.bind_eq_some_iff.mp H
 obtain ⟨t403, A20, H⟩ := H
 replace H : ((impl_in.f t403 1 40).bind fun t404 => (some t404)) = some r := H
 have A2 := Aside0.mk A20
 clear A20
 replace H := Option.bind_eq_some_iff.mp H
 obtain ⟨t404, A30, H⟩ := H
 replace H : (some t404) = some r := H
 have A3 := Aside0.mk A30
 clear A30
 obtain rfl := Option.some.inj H
 go_enter Try.func9, Try.ntmps9
 go_wp2_with (first | ((with_reducible refine gate_dst (N := 1) rfl ?_); refine bx 1 #[.int .i64 a0_0, .int .i64 a0_1, .string a0_2, .slice A0_3 l0_3.length c0_3] 25 ?_; intro gb402 hg w4 hbox hb; have BK402 := Aside0.mk (hbox); have GW402 := gwB HB hg; have GE402 := gwB HB hg; replace HB := bS HB hb; clear hb hbox hg; obtain ⟨hcz5_0, hcz5_1, hcz5_2, hcz5_3⟩ := cs4 BK402.out; obtain ⟨hfz5_0, hfz5_1, hfz5_2, hfz5_3⟩ := fz4 BK402.out) | ((with_reducible refine gate_callee (f := 29) rfl ?_); refine gl (some 4) Try.func29 #[.agg #[.int .i64 a0_0, .int .i64 a0_1, .string a0_2, .slice A0_3 l0_3.length c0_3], .int .i64 7] ?_; (with_reducible refine (impl_Expr_size.calls k a0_0 a0_1 a0_2 _ _ l0_3 7 t403 _ ?side1 ?side2 A2.out).mono ?_); (case side1 => repeat (first | exact (Kd.C_below HR0_3.out HB.out) | (with_reducible refine Kd.C_alloc ?_ _) | (with_reducible refine Kd.C_drewN ?_ _) | (with_reducible refine Kd.C_drew ?_))); (case side2 => exact HC0_3.out); rintro e w6 ⟨rfl, hb⟩; refine ⟨_, rfl, ?_⟩; replace BK402 := bB BK402 hb; replace HB := bS HB hb; (try clear hb); (try clear hb2); (try clear hk); (try clear hi)) | ((with_reducible refine gate_callee (f := 28) rfl ?_); refine gl (some 5) Try.func28 #[.int .i64 t403, .int .i64 1, .int .i64 40] ?_; (with_reducible refine (impl_in.calls t403 1 40 t404 _ A3.out).mono ?_); rintro e w' ⟨rfl, ⟨nd, rfl⟩⟩; refine ⟨_, rfl, ?_⟩))
 go_ret
 exact ⟨by first | rfl | (simp [errW_none, errW_some] <;> rfl) | (simp [*, errW_none, errW_some] <;> rfl), by exact bw HB.out⟩

/-! ### impl_Expr_each, for the closure of impl_ThingsUsed: function 24 -/
mutual
def impl_Expr_each.l0 : Nat → List (S25) → Int → Int → Option (Int)
 | 0, _, _, _ => none
 | k + 1, x0, x1, x2 => if x1 < (x0.length : Int) then (if 0 ≤ x1 then ((impl_Expr_each.f k ((rd_T25 x0 x1).f0) ((rd_T25 x0 x1).f1) ((rd_T25 x0 x1).f3) x2).bind fun t1 => (impl_Expr_each.l0 k x0 (wrap64 (x1 + 1)) t1)) else (none)) else (some x2)
def impl_Expr_each.f : Nat → Int → Int → List (S25) → Int → Option (Int)
 | 0, _, _, _, _ => none
 | k + 1, a0, a1, l2, a3 => (impl_Expr_each.l0 k l2 0 a3).bind fun t1 => (some (if a0 = 3 then (if t1 < a1 then a1 else t1) else t1))
end
theorem impl_Expr_each.mono_l : ∀ k, (∀ y0 y1 y2, LeO (impl_Expr_each.l0 k y0 y1 y2) (impl_Expr_each.l0 (k + 1) y0 y1 y2)) ∧ (∀ y0 y1 y2 y3, LeO (impl_Expr_each.f k y0 y1 y2 y3) (impl_Expr_each.f (k + 1) y0 y1 y2 y3))
 | 0 => ⟨fun _ _ _ r h => by simp [impl_Expr_each.l0] at h, fun _ _ _ _ r h => by simp [impl_Expr_each.f] at h⟩
 | k + 1 => by
  obtain ⟨ih0, ih1⟩ := impl_Expr_each.mono_l k
  refine ⟨?_, ?_⟩
  · intro y0 y1 y2
    unfold impl_Expr_each.l0
    repeat' first
    | exact ih0 _ _ _
    | exact ih1 _ _ _ _
    | exact LeO.refl _
    | refine LeO.ite ?_ ?_
    | refine LeO.bind ?_ (fun _ => ?_)
  · intro y0 y1 y2 y3
    unfold impl_Expr_each.f
    repeat' first
    | exact ih0 _ _ _
    | exact LeO.refl _
    | refine LeO.ite ?_ ?_
    | refine LeO.bind ?_ (fun _ => ?_)
/-- The function literal. -/
theorem impl_Expr_each.lit {W0 w : World} {kd n v : Int} {s : ByteArray} {A : Option Addr} {m c : Nat} {go : Nat} (hB : Below W0.heap.size W0 w) (hg : W0.heap.size ≤ go) (hw : w.heap[go]? = some (.cells #[.int .i64 v] 3 (0, 0))) :
    Calls Try.prog 25 #[.agg #[.int .i64 kd, .int .i64 n, .string s, .slice A m c], .pointer (some ⟨go, 0, none⟩)] w fun e w' => e = .returned (.tuple #[]) ∧ Below W0.heap.size W0 w' ∧ KeepBut w w' go none ∧ w'.heap[go]? = some (.cells #[.int .i64 (if kd = 3 then (if v < n then n else v) else v)] 3 (0, 0)) := by
  have HB := Aside0.mk hB
  have HG := Aside0.mk hg
  have BO := Aside0.mk hw
  have HK := Aside0.mk (KeepBut.refl w go none)
  clear hB hg hw
  have fin : ∀ (w1 : World) (x : Int), w1.heap[go]? = some (.cells #[.int .i64 v] 3 (0, 0)) → Below W0.heap.size W0 w1 → KeepBut w w1 go none → Below W0.heap.size W0 (w1.setCell ⟨go, 0, none⟩ (.int .i64 x)) ∧ KeepBut w (w1.setCell ⟨go, 0, none⟩ (.int .i64 x)) go none ∧ (w1.setCell ⟨go, 0, none⟩ (.int .i64 x)).heap[go]? = some (.cells #[.int .i64 x] 3 (0, 0)) := fun w1 x h1 h2 h3 =>
    ⟨below_set h2 HG.out, KeepBut.set_ h3 _ _, blk_put (cs := #[.int .i64 v]) h1 0 _ rfl⟩
  by_cases c1 : kd = 3
  · obtain ⟨c1b0, c1b1⟩ := eqY c1
    subst c1
    by_cases c2 : v < n
    · rw [if_pos rfl, if_pos c2]
      go_enter Try.func25, Try.ntmps25
      go_wp2_with ((with_reducible refine gate_dst (N := 2) rfl ?_); refine bx 2 #[.int .i64 3, .int .i64 n, .string s, .slice A m c] 25 ?_; intro gb hg w1 hbox hb; have BK := Aside0.mk hbox; have NB := nbL BO hg; have NC := nbR BO hg; replace BO := bB BO hb; replace HB : Aside0 (Below W0.heap.size W0 w1) := ⟨below_step HB.out hb⟩; replace HK := kTb HK hb; clear hb hbox hg; obtain ⟨hcz_0, hcz_1, hcz_2, hcz_3⟩ := cs4 BK.out; have hco_0 : w1.cell? ⟨go, 0, none⟩ = some (.int .i64 v) := (blk_cell BO.out 0).trans rfl; have hfo_0 := blk_frozen BO.out 0)
      exact bodyPost_end (results_none rfl _ _ _) rfl ⟨rfl, fin _ _ BO.out HB.out HK.out⟩
    · rw [if_pos rfl, if_neg c2]
      go_enter Try.func25, Try.ntmps25
      go_wp2_with ((with_reducible refine gate_dst (N := 2) rfl ?_); refine bx 2 #[.int .i64 3, .int .i64 n, .string s, .slice A m c] 25 ?_; intro gb hg w1 hbox hb; have BK := Aside0.mk hbox; have NB := nbL BO hg; have NC := nbR BO hg; replace BO := bB BO hb; replace HB : Aside0 (Below W0.heap.size W0 w1) := ⟨below_step HB.out hb⟩; replace HK := kTb HK hb; clear hb hbox hg; obtain ⟨hcz_0, hcz_1, hcz_2, hcz_3⟩ := cs4 BK.out; have hco_0 : w1.cell? ⟨go, 0, none⟩ = some (.int .i64 v) := (blk_cell BO.out 0).trans rfl; have hfo_0 := blk_frozen BO.out 0)
      exact bodyPost_end (results_none rfl _ _ _) rfl ⟨rfl, fin _ _ BO.out HB.out HK.out⟩
  · obtain ⟨c1b0, c1b1⟩ := eqN c1
    rw [if_neg c1]
    clear fin
    go_enter Try.func25, Try.ntmps25
    go_wp2_with ((with_reducible refine gate_dst (N := 2) rfl ?_); refine bx 2 #[.int .i64 kd, .int .i64 n, .string s, .slice A m c] 25 ?_; intro gb hg w1 hbox hb; have BK := Aside0.mk hbox; have NB := nbL BO hg; have NC := nbR BO hg; replace BO := bB BO hb; replace HB : Aside0 (Below W0.heap.size W0 w1) := ⟨below_step HB.out hb⟩; replace HK := kTb HK hb; clear hb hbox hg; obtain ⟨hcz_0, hcz_1, hcz_2, hcz_3⟩ := cs4 BK.out; have hco_0 : w1.cell? ⟨go, 0, none⟩ = some (.int .i64 v) := (blk_cell BO.out 0).trans rfl; have hfo_0 := blk_frozen BO.out 0)
    exact bodyPost_end (results_none rfl _ _ _) rfl ⟨rfl, HB.out, HK.out, BO.out⟩
set_option maxHeartbeats 2000000 in
theorem impl_Expr_each.step (k : Nat) : ∀ (W0 w : World) (kd n v : Int) (s : ByteArray) (A : Option Addr) (c : Nat) (l : List (S25)) (go : Nat) (r : Int), Below W0.heap.size W0 w → W0.heap.size ≤ go → w.heap[go]? = some (.cells #[.int .i64 v] 3 (0, 0)) → Kd.C k25 W0 A l.length l → l.length ≤ c → impl_Expr_each.f k kd n l v = some r →
    Calls Try.prog 24 #[.agg #[.int .i64 kd, .int .i64 n, .string s, .slice A l.length c], .func (.func 25) #[] #[.pointer (some ⟨go, 0, none⟩)]] w fun e w' => e = .returned (.tuple #[]) ∧ Below W0.heap.size W0 w' ∧ KeepBut w w' go none ∧ w'.heap[go]? = some (.cells #[.int .i64 r] 3 (0, 0)) := by
  induction k using Nat.strongRecOn with
  | _ k ih =>
  intro W0 w kd n v s A c l go r hB hg hw hC hc h
  have eg : ∀ (args : Array Value) (w : World), (callFunc 25 args).run Try.prog w = .ok (.enter 25 args) w := enters_ Try.func25 (by kernel_rfl) rfl
  cases k with
  | zero => exact absurd h (by simp [impl_Expr_each.f])
  | succ k =>
  simp only [impl_Expr_each.f] at h
  obtain ⟨v1, h1, h2⟩ := Option.bind_eq_some_iff.mp h
  clear h
  have HR := Option.some.inj h2
  have H := Aside0.mk h1
  have HB := Aside0.mk hB
  have HG := Aside0.mk hg
  have BO := Aside0.mk hw
  have HK := Aside0.mk (KeepBut.refl w go none)
  have HC := Aside0.mk hC
  have HL := Aside0.mk hc
  have HN := Aside0.mk hC.2.1
  clear hB hg hw h1 h2 hC hc
  go_enter Try.func24, Try.ntmps24
  go_wp2_with ((with_reducible refine gate_dst (N := 2) rfl ?_); refine bx 2 #[.int .i64 kd, .int .i64 n, .string s, .slice A l.length c] 25 ?_; intro gb hg w1 hbox hb; have BK := Aside0.mk hbox; have NB := nbL BO hg; have NC := nbR BO hg; replace BO := bB BO hb; replace HB : Aside0 (Below W0.heap.size W0 w1) := ⟨below_step HB.out hb⟩; replace HK := kTb HK hb; clear hb hbox hg; obtain ⟨hcz_0, hcz_1, hcz_2, hcz_3⟩ := cs4 BK.out)
  clear hcz_0 hcz_1 hcz_2 hcz_3
  have keepB : ∀ {Wc w' : World}, KeepBut Wc w' go none → Wc.heap[gb]? = some (.cells #[.int .i64 kd, .int .i64 n, .string s, .slice A l.length c] 25 (0, 0)) → w'.heap[gb]? = some (.cells #[.int .i64 kd, .int .i64 n, .string s, .slice A l.length c] 25 (0, 0)) := fun hk hb => KeepBut.blk hk hb NC.out (by simp)
  go_loopg [9] k (fun kq v9 w' => ∃ (x : Int) (v' : Int), v9 = .int .i64 x ∧ Aside0 (impl_Expr_each.l0 kq l x v' = some v1) ∧ Aside0 (kq ≤ k) ∧ Aside0 (w'.heap[gb]? = some (.cells #[.int .i64 kd, .int .i64 n, .string s, .slice A l.length c] 25 (0, 0))) ∧ Aside0 (w'.heap[go]? = some (.cells #[.int .i64 v'] 3 (0, 0))) ∧ Aside0 (KeepBut w w' go none) ∧ Aside0 (Below W0.heap.size W0 w'))
  case atStart => exact ⟨0, v, rfl, H, ⟨Nat.le_refl _⟩, BK, BO, HK, HB⟩
  case round =>
    clear H BK BO HK HB
    obtain ⟨x, v', rfl, H, HQ, BK, BO, HK, HB⟩ := hrel
    cases gk with
    | zero => exact absurd H.out (by simp [impl_Expr_each.l0])
    | succ q =>
      have h := H.out
      clear H
      simp only [impl_Expr_each.l0] at h
      by_cases c1 : x < (l.length : Int)
      · rw [if_pos c1] at h
        by_cases c2 : 0 ≤ x
        · rw [if_pos c2] at h
          obtain ⟨t1, h1, h2⟩ := Option.bind_eq_some_iff.mp h
          clear h
          have A1 := Aside0.mk h1
          have A2 := Aside0.mk h2
          clear h1 h2
          obtain ⟨ad, A3, c3, e3, hx0, hx1, hx2, hx3, hl3, hi3⟩ := at_T25 HC.out x c2 c1
          cases e3
          have HC3 := Aside0.mk hi3
          have HL3 := Aside0.mk hl3
          clear hi3 hl3
          replace hx0 := (HB.out.cell (World.block_lt_of_cell? W0 _ hx0)).trans hx0
          replace hx1 := (HB.out.cell (World.block_lt_of_cell? W0 _ hx1)).trans hx1
          replace hx2 := (HB.out.cell (World.block_lt_of_cell? W0 _ hx2)).trans hx2
          replace hx3 := (HB.out.cell (World.block_lt_of_cell? W0 _ hx3)).trans hx3
          have c1b := decide_eq_true c1
          replace c1 := eq_true c1
          replace c2 := eq_true c2
          have hih := fun W0 w s A c go r => ih q (by have := HQ.out; omega) W0 w (rd_T25 l x).f0 (rd_T25 l x).f1 v' s A c (rd_T25 l x).f3 go r
          have HI := Aside0.mk hih
          clear ih hih
          go_wp2_with (first
            | ((with_reducible refine gate_dst (N := 5) rfl ?_); (try (refine gate_guard (by rfl) ?_; dsimp only)); refine bx 5 #[.int .i64 0, .int .i64 0, .string (⟨#[]⟩ : ByteArray), .slice none 0 0] 25 ?_; intro gp hg w2 hbox hb; have BP := Aside0.mk hbox; have GW := gwB HB hg; have GK := gwK HK hg; have NB1 := nbL BK hg; have NB2 := nbL BO hg; replace BK := bB BK hb; replace BO := bB BO hb; replace HB : Aside0 (Below W0.heap.size W0 w2) := ⟨below_step HB.out hb⟩; replace HK := kTb HK hb; clear hb hbox hg; obtain ⟨hcz_0, hcz_1, hcz_2, hcz_3⟩ := cs4 BP.out; obtain ⟨hfz_0, hfz_1, hfz_2, hfz_3⟩ := fz4 BP.out; have hnb := NB1.out; have hnc := NB2.out)
            | (go_at_call 24; refine (HI.out W0 _ _ _ _ go t1 (by exact bw HB.out) HG.out (bo BO) HC3.out HL3.out A1.out).mono ?_; rintro e w' ⟨rfl, hb, hk, hgo⟩; replace BK := Aside0.mk (keepB hk (bo BK)); replace BO := Aside0.mk hgo; replace HK := kT HK hk; replace HB := Aside0.mk hb; clear hb hk hgo))
          go_roundg q
          case measure => have := HQ.out; omega
          case rel => exact ⟨_, t1, rfl, A2, ⟨by have := HQ.out; omega⟩, BK, BO, HK, HB⟩
        · rw [if_neg c2] at h
          cases h
      · rw [if_neg c1] at h
        have c1b := decide_eq_false c1
        obtain rfl := Option.some.inj h
        clear h keepB
        obtain ⟨hcz_0, hcz_1, hcz_2, hcz_3⟩ := cs4 BK.out
        go_wp2_with (go_at_fn 25; refine (impl_Expr_each.lit HB.out HG.out BO.out).mono ?_; rintro e w' ⟨rfl, hb, hk, hgo⟩)
        subst HR
        exact bodyPost_end (results_none rfl _ _ _) rfl ⟨rfl, hb, KeepBut.trans HK.out hk (.inl rfl), hgo⟩
theorem impl_Expr_each.mono : ∀ a0 a1 a2 a3 k, LeO (impl_Expr_each.f k a0 a1 a2 a3) (impl_Expr_each.f (k + 1) a0 a1 a2 a3) := fun a0 a1 a2 a3 k => (impl_Expr_each.mono_l k).2 a0 a1 a2 a3
/-! ### impl_ThingsUsed: function 7 -/
def impl_ThingsUsed.f (k : Nat) (a0_0 : Int) (a0_1 : Int) (a0_2 : ByteArray) (l0_3 : List (S25)) : Option (Int) := (impl_ExprValid.f k a0_0 a0_1 a0_2 l0_3).bind fun t1 => (if t1 = true then ((impl_Expr_each.f k a0_0 a0_1 l0_3 (-1)).bind fun t2 => (some t2)) else (some (-1)))
theorem impl_ThingsUsed.mono : ∀ a0 a1 a2 a3 k, LeO (impl_ThingsUsed.f k a0 a1 a2 a3) (impl_ThingsUsed.f (k + 1) a0 a1 a2 a3) := fun a0 a1 a2 a3 k => by
  unfold impl_ThingsUsed.f
  refine LeO.bind (impl_ExprValid.mono _ _ _ _ _) (fun _ => LeO.ite (LeO.bind (impl_Expr_each.mono _ _ _ _ _) (fun _ => LeO.refl _)) (LeO.refl _))
set_option maxHeartbeats 2000000 in
theorem impl_ThingsUsed.calls (k : Nat) (a0_0 : Int) (a0_1 : Int) (a0_2 : ByteArray) (A0_3 : Option Addr) (c0_3 : Nat) (l0_3 : List (S25)) (r : Int) (w : World) (hr0_3 : Kd.C k25 w A0_3 l0_3.length l0_3) (hc0_3 : l0_3.length ≤ c0_3) (h : impl_ThingsUsed.f k a0_0 a0_1 a0_2 l0_3 = some r) :
    Calls Try.prog 7 #[.agg #[.int .i64 a0_0, .int .i64 a0_1, .string a0_2, .slice A0_3 l0_3.length c0_3]] w fun e w' => e = .returned (.int .i64 r) ∧ Below w.heap.size w w' := by
  unfold impl_ThingsUsed.f at h
  obtain ⟨t1, h1, h⟩ := Option.bind_eq_some_iff.mp h
  have A1 := Aside0.mk h1
  have HC := Aside0.mk hr0_3
  have HL := Aside0.mk hc0_3
  have HB := Aside0.mk (Below.refl w.heap.size w)
  clear h1 hr0_3 hc0_3
  cases t1 with
  | true =>
    rw [if_pos rfl] at h
    obtain ⟨t2, h2, h⟩ := Option.bind_eq_some_iff.mp h
    obtain rfl := Option.some.inj h
    have A2 := Aside0.mk h2
    clear h2 h
    go_enter Try.func7, Try.ntmps7
    go_wp2_with (first
      | ((with_reducible refine gate_dst (N := 1) rfl ?_); refine bx 1 #[.int .i64 a0_0, .int .i64 a0_1, .string a0_2, .slice A0_3 l0_3.length c0_3] 25 ?_; intro gb hg w1 hbox hb; have BK := Aside0.mk hbox; have GW := gwB HB hg; replace HB := bS HB hb; clear hb hbox hg; obtain ⟨hcz_0, hcz_1, hcz_2, hcz_3⟩ := cs4 BK.out)
      | ((with_reducible refine gate_dst (N := 3) rfl ?_); refine bx 3 #[.int .i64 0] 3 ?_; intro go hg w2 hbox hb; have BO := Aside0.mk hbox; have GO := gwB HB hg; have NB := nbL BK hg; have NC := nbR BK hg; replace BK := bB BK hb; replace HB := bS HB hb; clear hb hbox hg; have hco_0 : w2.cell? ⟨go, 0, none⟩ = some (.int .i64 0) := (blk_cell BO.out 0).trans rfl; have hfo_0 := blk_frozen BO.out 0; have hnb := NB.out; have hnc := NC.out; clear hcz_0 hcz_1 hcz_2 hcz_3; obtain ⟨hcz_0, hcz_1, hcz_2, hcz_3⟩ := cs4 BK.out)
      | (go_at_call 9; refine (impl_ExprValid.calls k _ _ _ _ _ _ _ _ (Kd.C_below HC.out (by exact bw HB.out)) HL.out A1.out).mono ?_; rintro e w3 ⟨rfl, hb⟩; replace BK := Aside0.mk (blk_below (bo BK) hb); replace BO := Aside0.mk (blk_below (bp BO) hb); replace HB := bS HB hb; clear hb; obtain ⟨hcz_0, hcz_1, hcz_2, hcz_3⟩ := cs4 BK.out; have hco_0 : w3.cell? ⟨go, 0, none⟩ = some (.int .i64 (-1)) := (blk_cell BO.out 0).trans rfl)
      | (go_at_call 24; refine (impl_Expr_each.step k w _ _ _ _ _ _ _ _ _ _ (by exact bw HB.out) GO.out (bo BO) HC.out HL.out A2.out).mono ?_; rintro e w4 ⟨rfl, hb, hk, hgo⟩; have hco_1 : w4.cell? ⟨go, 0, none⟩ = some (.int .i64 t2) := (blk_cell hgo 0).trans rfl))
    go_ret
    exact ⟨rfl, hb⟩
  | false =>
    rw [if_neg (by decide)] at h
    obtain rfl := Option.some.inj h
    go_enter Try.func7, Try.ntmps7
    go_wp2_with (first
      | ((with_reducible refine gate_dst (N := 1) rfl ?_); refine bx 1 #[.int .i64 a0_0, .int .i64 a0_1, .string a0_2, .slice A0_3 l0_3.length c0_3] 25 ?_; intro gb hg w1 hbox hb; have BK := Aside0.mk hbox; have GW := gwB HB hg; replace HB := bS HB hb; clear hb hbox hg; obtain ⟨hcz_0, hcz_1, hcz_2, hcz_3⟩ := cs4 BK.out)
      | ((with_reducible refine gate_dst (N := 3) rfl ?_); refine bx 3 #[.int .i64 0] 3 ?_; intro go hg w2 hbox hb; have BO := Aside0.mk hbox; have GO := gwB HB hg; have NB := nbL BK hg; have NC := nbR BK hg; replace BK := bB BK hb; replace HB := bS HB hb; clear hb hbox hg; have hco_0 : w2.cell? ⟨go, 0, none⟩ = some (.int .i64 0) := (blk_cell BO.out 0).trans rfl; have hfo_0 := blk_frozen BO.out 0; have hnb := NB.out; have hnc := NC.out; clear hcz_0 hcz_1 hcz_2 hcz_3; obtain ⟨hcz_0, hcz_1, hcz_2, hcz_3⟩ := cs4 BK.out)
      | (go_at_call 9; refine (impl_ExprValid.calls k _ _ _ _ _ _ _ _ (Kd.C_below HC.out (by exact bw HB.out)) HL.out A1.out).mono ?_; rintro e w3 ⟨rfl, hb⟩; replace BK := Aside0.mk (blk_below (bo BK) hb); replace BO := Aside0.mk (blk_below (bp BO) hb); replace HB := bS HB hb; clear hb; obtain ⟨hcz_0, hcz_1, hcz_2, hcz_3⟩ := cs4 BK.out; have hco_0 : w3.cell? ⟨go, 0, none⟩ = some (.int .i64 (-1)) := (blk_cell BO.out 0).trans rfl))
    go_ret
    exact ⟨rfl, by exact bw HB.out⟩

/-! ### spec_l1In: function 74 -/
def spec_l1In.f (a0 : Int) (a1 : Int) (a2 : Int) : Option (Bool) := if a0 ≥ a1 then (some (decide (a0 ≤ a2))) else (some false)
set_option maxHeartbeats 8000000 in
set_option maxRecDepth 100000 in
theorem spec_l1In.calls (a0 : Int) (a1 : Int) (a2 : Int) (r : Bool) (w : World) (h : spec_l1In.f a0 a1 a2 = some r) :
  Calls Try.prog 74 #[.int .i64 a0, .int .i64 a1, .int .i64 a2] w fun e w' => e = .returned (.bool r) ∧ Drawn0 w w' := by
 have H : (if a0 ≥ a1 then (some (decide (a0 ≤ a2))) else (some false)) = some r := h
 clear h
 by_cases c4 : a0 ≥ a1
 ·
  rw [if_pos c4] at H; have c4b0 : decide (a1 ≤ a0) = true := decide_eq_true c4; clear c4
  obtain rfl := Option.some.inj H
  go_enter Try.func74, Try.ntmps74
  go_wp2
  go_ret
  exact ⟨by first | rfl | (simp; done) | (simp [*]; done), by repeat (first | exact Drawn0.refl _ | apply Drawn0.step)⟩
 ·
  rw [if_neg c4] at H; have c4b0 : decide (a1 ≤ a0) = false := decide_eq_false c4; clear c4
  obtain rfl := Option.some.inj H
  go_enter Try.func74, Try.ntmps74
  go_wp2
  go_ret
  exact ⟨by first | rfl | (simp; done) | (simp [*]; done), by repeat (first | exact Drawn0.refl _ | apply Drawn0.step)⟩

/-! ### spec_l4Parts: function 73 -/
def spec_l4Parts.f (a0 : Int) : Option (Int) := (spec_l1In.f a0 1 15).bind fun t405 => (if t405 = true then ((some (([0, 0, 0, 0, 0, 0, 0, 1, 1, 2, 2, 2, 1, 2, 2] : List Int) : List Int)).bind fun y406 => (if 0 ≤ (wrap64 (a0 - 1)) then (if (wrap64 (a0 - 1)) < (y406.length : Int) then (some (rd y406 (wrap64 (a0 - 1)))) else (none)) else (none))) else (some (-1)))
set_option maxHeartbeats 8000000 in
set_option maxRecDepth 100000 in
theorem spec_l4Parts.calls (a0 : Int) (r : Int) (w : World) (h : spec_l4Parts.f a0 = some r) :
  Calls Try.prog 73 #[.int .i64 a0] w fun e w' => e = .returned (.int .i64 r) ∧ Below w.heap.size w w' := by
 have HB := Aside0.mk (Below.refl w.heap.size w)
 have H : ((spec_l1In.f a0 1 15).bind fun t405 => (if t405 = true then ((some (([0, 0, 0, 0, 0, 0, 0, 1, 1, 2, 2, 2, 1, 2, 2] : List Int) : List Int)).bind fun y406 => (if 0 ≤ (wrap64 (a0 - 1)) then (if (wrap64 (a0 - 1)) < (y406.length : Int) then (some (rd y406 (wrap64 (a0 - 1)))) else (none)) else (none))) else (some (-1)))) = some r := h
 clear h
 replace H := Option.bind_eq_some_iff.mp H
 obtain ⟨t405, A20, H⟩ := H
 replace H : (if t405 = true then ((some (([0, 0, 0, 0, 0, 0, 0, 1, 1, 2, 2, 2, 1, 2, 2] : List Int) : List Int)).bind fun y406 => (if 0 ≤ (wrap64 (a0 - 1)) then (if (wrap64 (a0 - 1)) < (y406.length : Int) then (some (rd y406 (wrap64 (a0 - 1)))) else (none)) else (none))) else (some (-1))) = some r := H
 have A2 := Aside0.mk A20
 clear A20
 by_cases c3 : t405 = true
 ·
  subst c3
  have H1 : ((some (([0, 0, 0, 0, 0, 0, 0, 1, 1, 2, 2, 2, 1, 2, 2] : List Int) : List Int)).bind fun y406 => (if 0 ≤ (wrap64 (a0 - 1)) then (if (wrap64 (a0 - 1)) < (y406.length : Int) then (some (rd y406 (wrap64 (a0 - 1)))) else (none)) else (none))) = some r := by rw [if_pos rfl] at H; exact H
  clear H
  have H := H1
  clear H1
  obtain ⟨y406, hy406⟩ : ∃ y_ : List Int, y_ = (([0, 0, 0, 0, 0, 0, 0, 1, 1, 2, 2, 2, 1, 2, 2] : List Int)) := ⟨_, rfl⟩
  replace H : (if 0 ≤ (wrap64 (a0 - 1)) then (if (wrap64 (a0 - 1)) < (y406.length : Int) then (some (rd y406 (wrap64 (a0 - 1)))) else (none)) else (none)) = some r := by first | (rw [hy406]; with_reducible exact H) | (have H2_ := (Option.bind_some _ _).symm.trans H; rw [hy406]; with_reducible exact H2_) | (have H2_ := (Option.bind_some _ _).symm.trans H; with_reducible exact H2_) | with_reducible exact H | (rw [hy406]; exact H) | exact H
  have Ny406 := Aside0.mk hy406
  clear hy406
  obtain ⟨ji4, hji4⟩ : ∃ j_ : Int, (wrap64 (a0 - 1)) = j_ := ⟨_, rfl⟩
  replace H : (if 0 ≤ (ji4) then (if (ji4) < (y406.length : Int) then (some (rd y406 (ji4))) else (none)) else (none)) = some r := by first | (rw [hji4] at H; exact H) | (simp only [hji4] at H ⊢; exact H)
  (try rw [hji4] at A2)
  have hji4w : (IntKind.i64.wrap (a0 - 1)) = ji4 := (i64_w _).trans hji4
  by_cases c5 : 0 ≤ (ji4)
  ·
   rw [if_pos c5] at H; have c5b0 : decide (0 ≤ (ji4)) = true := decide_eq_true c5; clear c5
   by_cases c6 : (ji4) < (y406.length : Int)
   ·
    rw [if_pos c6] at H; have c6b0 : decide ((ji4) < (y406.length : Int)) = true := decide_eq_true c6; clear c6
    obtain rfl := Option.some.inj H
    go_enter Try.func73, Try.ntmps73
    go_wp2_with (first | ((with_reducible refine gate_callee (f := 74) rfl ?_); refine gl (some 4) Try.func74 #[.int .i64 a0, .int .i64 1, .int .i64 15] ?_; (with_reducible refine (spec_l1In.calls a0 1 15 true _ A2.out).mono ?_); rintro e w' ⟨rfl, ⟨nd, rfl⟩⟩; refine ⟨_, rfl, ?_⟩) | ((with_reducible refine gate_dst (N := 6) rfl ?_); refine Kd.R_lit (Kd.int .i64) _ 3 ?hg (N := 6) ?hd (xs := ([0, 0, 0, 0, 0, 0, 0, 1, 1, 2, 2, 2, 1, 2, 2] : List Int)) (inner := [.int .i64 0, .int .i64 0, .int .i64 0, .int .i64 0, .int .i64 0, .int .i64 0, .int .i64 0, .int .i64 1, .int .i64 1, .int .i64 2, .int .i64 2, .int .i64 2, .int .i64 1, .int .i64 2, .int .i64 2]) (ok := fun _ => True) (okp := fun _ => True) ?hr ?hp (fun _ hk => hk) trivial (Below.refl _ _) (Nat.le_refl _) (by simp) ?_; (case hd => rfl); (case hg => rfl); (case hr => first | (go_simp; done) | (go_simp; rfl)); (case hp => exact (Reps.one (show Kd.M (Kd.int .i64) _ _ _ 0 [.int .i64 0] from rfl) (Reps.one (show Kd.M (Kd.int .i64) _ _ _ 0 [.int .i64 0] from rfl) (Reps.one (show Kd.M (Kd.int .i64) _ _ _ 0 [.int .i64 0] from rfl) (Reps.one (show Kd.M (Kd.int .i64) _ _ _ 0 [.int .i64 0] from rfl) (Reps.one (show Kd.M (Kd.int .i64) _ _ _ 0 [.int .i64 0] from rfl) (Reps.one (show Kd.M (Kd.int .i64) _ _ _ 0 [.int .i64 0] from rfl) (Reps.one (show Kd.M (Kd.int .i64) _ _ _ 0 [.int .i64 0] from rfl) (Reps.one (show Kd.M (Kd.int .i64) _ _ _ 1 [.int .i64 1] from rfl) (Reps.one (show Kd.M (Kd.int .i64) _ _ _ 1 [.int .i64 1] from rfl) (Reps.one (show Kd.M (Kd.int .i64) _ _ _ 2 [.int .i64 2] from rfl) (Reps.one (show Kd.M (Kd.int .i64) _ _ _ 2 [.int .i64 2] from rfl) (Reps.one (show Kd.M (Kd.int .i64) _ _ _ 2 [.int .i64 2] from rfl) (Reps.one (show Kd.M (Kd.int .i64) _ _ _ 1 [.int .i64 1] from rfl) (Reps.one (show Kd.M (Kd.int .i64) _ _ _ 2 [.int .i64 2] from rfl) (Reps.one (show Kd.M (Kd.int .i64) _ _ _ 2 [.int .i64 2] from rfl) (Reps.none _ _))))))))))))))))); intro v407 w7 ho8 hb hg_ hnew_; clear hg_ hnew_; (first | rw [← Ny406.out] at ho8 | (simp only [Int.reduceToNat] at ho8; rw [← Ny406.out] at ho8)); have HO408 := Aside0.mk (Kd.R_lower ho8 (below_size (by exact bw HB.out))); replace HB := bS HB hb; clear hb ho8; obtain ⟨Ao9, co9, eo9⟩ := Kd.R_slice HO408.out; subst eo9; have p409 : 0 ≤ ((ji4) : Int) := of_decide_eq_true (by first | (with_reducible assumption) | assumption); have q409 : (ji4) < (y406.length : Int) := of_decide_eq_true (by first | (with_reducible assumption) | assumption); obtain ⟨ad409, e409, hx409_0⟩ := Kd.at_int (Kd.R_reads' HO408.out).2.2 (ji4) p409 q409; cases e409; replace p409 := eq_true p409; replace q409 := eq_true q409))
    go_ret
    exact ⟨by first | rfl | (simp [errW_none, errW_some] <;> rfl) | (simp only [← hji4]; first | rfl | (simp [errW_none, errW_some] <;> rfl)) | (simp [*, errW_none, errW_some] <;> rfl), by exact bw HB.out⟩
   ·
    rw [if_neg c6] at H; exact absurd H (by simp)
  ·
   rw [if_neg c5] at H; exact absurd H (by simp)
 ·
  replace c3 := Bool.eq_false_iff.mpr c3
  subst c3
  have H1 : (some (-1)) = some r := by rw [if_neg (show ¬ (false = true) by decide)] at H; exact H
  clear H
  have H := H1
  clear H1
  obtain rfl := Option.some.inj H
  go_enter Try.func73, Try.ntmps73
  go_wp2_with (first | ((with_reducible refine gate_callee (f := 74) rfl ?_); refine gl (some 4) Try.func74 #[.int .i64 a0, .int .i64 1, .int .i64 15] ?_; (with_reducible refine (spec_l1In.calls a0 1 15 false _ A2.out).mono ?_); rintro e w' ⟨rfl, ⟨nd, rfl⟩⟩; refine ⟨_, rfl, ?_⟩))
  go_ret
  exact ⟨by first | rfl | (simp [errW_none, errW_some] <;> rfl) | (simp [*, errW_none, errW_some] <;> rfl), by exact bw HB.out⟩

/-! ### spec_NameValid: function 75 -/
def spec_NameValid.l0 : Nat → ByteArray → Int → Option (Bool)
 | 0, _, _ => none
 | k + 1, x0, x3 => if x3 < (x0.size : Int) then (if 0 ≤ x3 then (if (bt x0 x3) < 97 then (some false) else (if (bt x0 x3) > 122 then (some false) else (spec_NameValid.l0 k x0 (wrap64 (x3 + 1))))) else (none)) else ((spec_l1In.f (x0.size : Int) 1 8).bind fun t410 => (some t410))
def spec_NameValid.f (k : Nat) (a0 : ByteArray) : Option (Bool) := spec_NameValid.l0 k a0 0
theorem spec_NameValid.mono_l : ∀ k, (∀ y0 y1, LeO (spec_NameValid.l0 k y0 y1) (spec_NameValid.l0 (k + 1) y0 y1))
 | 0 => fun _ _ r h => by simp [spec_NameValid.l0] at h
 | k + 1 => by
  have ih0 := spec_NameValid.mono_l k
  ·
   intro y0 y1
   unfold spec_NameValid.l0
   repeat' first
   | (with_reducible exact ih0 _ _)
   | (with_reducible exact LeO.refl _)
   | (with_reducible exact LeO.none _)
   | (with_reducible refine LeO.ite ?_ ?_)
   | (with_reducible refine LeO.bind ?_ (fun _ => ?_))
   | exact ih0 _ _
   | exact LeO.none _
   | refine LeO.ite ?_ ?_
   | refine LeO.bind ?_ (fun _ => ?_)
theorem spec_NameValid.mono : ∀ a0 k, LeO (spec_NameValid.f k a0) (spec_NameValid.f (k + 1) a0) := by
 intro a0 k
 have ih0 := spec_NameValid.mono_l k
 unfold spec_NameValid.f
 repeat' first
   | (with_reducible exact ih0 _ _)
   | (with_reducible exact LeO.refl _)
   | (with_reducible exact LeO.none _)
   | (with_reducible refine LeO.ite ?_ ?_)
   | (with_reducible refine LeO.bind ?_ (fun _ => ?_))
   | exact ih0 _ _
   | exact LeO.none _
   | refine LeO.ite ?_ ?_
   | refine LeO.bind ?_ (fun _ => ?_)
set_option maxHeartbeats 8000000 in
set_option maxRecDepth 100000 in
theorem spec_NameValid.calls (k : Nat) (a0 : ByteArray) (r : Bool) (w : World) (h : spec_NameValid.f k a0 = some r) :
  Calls Try.prog 75 #[.string a0] w fun e w' => e = .returned (.bool r) ∧ Drawn0 w w' := by
 have H : (spec_NameValid.l0 k a0 0) = some r := h
 clear h
 have H' := Aside0.mk H
 clear H
 go_enter Try.func75, Try.ntmps75
 go_wp2
 go_loopg [3] k (fun kq v3 w' => ∃ (x3_1 : Int), v3 = .int .i64 x3_1 ∧ Aside0 (spec_NameValid.l0 kq a0 x3_1 = some r) ∧ Aside0 (kq ≤ k) ∧ Drawn0 w w')
 case atStart => exact ⟨(0), (by first | rfl | (simp; done) | (simp [*]; done)), H', ⟨Nat.le_refl _⟩, by repeat (first | exact Drawn0.refl _ | apply Drawn0.step)⟩
 case round =>
  clear H'
  obtain ⟨x3_1, rfl, HA, HK1, ⟨m1, rfl⟩⟩ := hrel
  cases gk with
  | zero => exact absurd HA.out (by simp [spec_NameValid.l0])
  | succ k1 =>
   have H := HA.out
   clear HA
   simp only [spec_NameValid.l0] at H
   by_cases c2 : x3_1 < (a0.size : Int)
   ·
    rw [if_pos c2] at H; have c2b0 : decide (x3_1 < (a0.size : Int)) = true := decide_eq_true c2; clear c2
    by_cases c3 : 0 ≤ x3_1
    ·
     rw [if_pos c3] at H; have c3b0 : decide (0 ≤ x3_1) = true := decide_eq_true c3; clear c3
     by_cases c5 : (bt a0 x3_1) < 97
     ·
      rw [if_pos c5] at H; have c5b0 : decide ((bt a0 x3_1) < 97) = true := decide_eq_true c5; clear c5
      obtain rfl := Option.some.inj H
      have p4 : 0 ≤ (x3_1 : Int) := of_decide_eq_true (by first | (with_reducible assumption) | assumption)
      have q4 : x3_1 < (a0.size : Int) := of_decide_eq_true (by first | (with_reducible assumption) | assumption)
      have hx4 := bt_at a0 x3_1
      replace p4 := eq_true p4
      replace q4 := eq_true q4
      go_wp2
      go_ret
      exact ⟨by first | rfl | (simp; done) | (simp [*]; done), by repeat (first | exact Drawn0.refl _ | apply Drawn0.step)⟩
     ·
      rw [if_neg c5] at H; have c5b0 : decide ((bt a0 x3_1) < 97) = false := decide_eq_false c5; clear c5
      by_cases c7 : (bt a0 x3_1) > 122
      ·
       rw [if_pos c7] at H; have c7b0 : decide (122 < (bt a0 x3_1)) = true := decide_eq_true c7; clear c7
       obtain rfl := Option.some.inj H
       have p4 : 0 ≤ (x3_1 : Int) := of_decide_eq_true (by first | (with_reducible assumption) | assumption)
       have q4 : x3_1 < (a0.size : Int) := of_decide_eq_true (by first | (with_reducible assumption) | assumption)
       have hx4 := bt_at a0 x3_1
       replace p4 := eq_true p4
       replace q4 := eq_true q4
       have p6 : 0 ≤ (x3_1 : Int) := of_decide_eq_true (by first | (with_reducible assumption) | assumption)
       have q6 : x3_1 < (a0.size : Int) := of_decide_eq_true (by first | (with_reducible assumption) | assumption)
       have hx6 := bt_at a0 x3_1
       replace p6 := eq_true p6
       replace q6 := eq_true q6
       go_wp2
       go_ret
       exact ⟨by first | rfl | (simp; done) | (simp [*]; done), by repeat (first | exact Drawn0.refl _ | apply Drawn0.step)⟩
      ·
       rw [if_neg c7] at H; have c7b0 : decide (122 < (bt a0 x3_1)) = false := decide_eq_false c7; clear c7
       have H' := Aside0.mk H
       clear H
       have p4 : 0 ≤ (x3_1 : Int) := of_decide_eq_true (by first | (with_reducible assumption) | assumption)
       have q4 : x3_1 < (a0.size : Int) := of_decide_eq_true (by first | (with_reducible assumption) | assumption)
       have hx4 := bt_at a0 x3_1
       replace p4 := eq_true p4
       replace q4 := eq_true q4
       have p6 : 0 ≤ (x3_1 : Int) := of_decide_eq_true (by first | (with_reducible assumption) | assumption)
       have q6 : x3_1 < (a0.size : Int) := of_decide_eq_true (by first | (with_reducible assumption) | assumption)
       have hx6 := bt_at a0 x3_1
       replace p6 := eq_true p6
       replace q6 := eq_true q6
       go_wp2
       go_roundg k1
       case measure => have := HK1.out; omega
       case rel => exact ⟨(wrap64 (x3_1 + 1)), (by first | rfl | (simp; done) | (simp [*]; done)), H', ⟨by have := HK1.out; omega⟩, by repeat (first | exact Drawn0.refl _ | apply Drawn0.step)⟩
    ·
     rw [if_neg c3] at H; exact absurd H (by simp)
   ·
    rw [if_neg c2] at H; have c2b0 : decide (x3_1 < (a0.size : Int)) = false := decide_eq_false c2; clear c2
    replace H := Option.bind_eq_some_iff.mp H
    obtain ⟨t410, A80, H⟩ := H
    replace H : (some t410) = some r := H
    have A8 := Aside0.mk A80
    clear A80
    obtain rfl := Option.some.inj H
    go_wp2_with (first | ((with_reducible refine gate_callee (f := 74) rfl ?_); refine gl (some 22) Try.func74 #[.int .i64 (a0.size : Int), .int .i64 1, .int .i64 8] ?_; (with_reducible refine (spec_l1In.calls (a0.size : Int) 1 8 t410 _ A8.out).mono ?_); rintro e w' ⟨rfl, ⟨nd, rfl⟩⟩; refine ⟨_, rfl, ?_⟩))
    go_ret
    exact ⟨by first | rfl | (simp; done) | (simp [*]; done), by repeat (first | exact Drawn0.refl _ | apply Drawn0.step)⟩

end Go.Proofs.Ytjpeciodihnolaa.P
