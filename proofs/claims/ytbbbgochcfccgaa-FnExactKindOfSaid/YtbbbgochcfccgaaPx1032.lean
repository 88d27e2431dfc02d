-- Written by a program of this session (wip/tool).
import Derived.Shelf.Abstract
import Derived.Test.YtbbbgochcfccgaaPx0
import Derived.Test.YtbbbgochcfccgaaPx1048
import Derived.Test.YtbbbgochcfccgaaPx1063
namespace Go.Proofs.Ytbbbgochcfccgaa.P
open Go.RowKit Go.Proofs.YtbbbgochcfccgaaW.PrintWords Go.Proofs.YtbbbgochcfccgaaW.PrintLast Go.Proofs.YtbbbgochcfccgaaW.PrintMore
attribute [local go_sem] max2_int min2_int max_two min_two max_three min_three max_four min_four   -- for this text's walks alone
set_option linter.unusedVariables false
set_option linter.unusedSimpArgs false

/-! ### impl_ExprValid: function 32 -/
def impl_ExprValid.f (k : Nat) (a0_0 : Int) (a0_1 : Int) (a0_2 : ByteArray) (l0_3 : List (S29)) : Option (Bool) := (impl_Expr_size.f k a0_0 a0_1 a0_2 l0_3 7).bind fun t183 => ((impl_in.f t183 1 40).bind fun t184 => (some t184))
theorem impl_ExprValid.mono : ∀ a0 a1 a2 a3 k, LeO (impl_ExprValid.f k a0 a1 a2 a3) (impl_ExprValid.f (k + 1) a0 a1 a2 a3) := by
 intro a0 a1 a2 a3 k
 unfold impl_ExprValid.f
 repeat' first
   | (with_reducible exact impl_Expr_size.mono _ _ _ _ _ _)
   | (with_reducible exact LeO.refl _)
   | (with_reducible exact LeO.none _)
   | (with_reducible refine LeO.ite ?_ ?_)
   | (with_reducible refine LeO.bind ?_ (fun _ => ?_))
   | exact impl_Expr_size.mono _ _ _ _ _ _
   | exact LeO.none _
   | refine LeO.ite ?_ ?_
   | refine LeO.bind ?_ (fun _ => ?_)
set_option maxHeartbeats 8000000 in
set_option maxRecDepth 100000 in
theorem impl_ExprValid.calls (k : Nat) (a0_0 : Int) (a0_1 : Int) (a0_2 : ByteArray) (A0_3 : Option Addr) (c0_3 : Nat) (l0_3 : List (S29)) (r : Bool) (w : World) (hr0_3 : Kd.C k29 w A0_3 l0_3.length l0_3) (hc0_3 : l0_3.length ≤ c0_3) (h : impl_ExprValid.f k a0_0 a0_1 a0_2 l0_3 = some r) :
  Calls Try.prog 32 #[.agg #[.int .i64 a0_0, .int .i64 a0_1, .string a0_2, .slice A0_3 l0_3.length c0_3]] w fun e w' => e = .returned (.bool r) ∧ Below w.heap.size w w' := by
 have hu29 := Try.underlying29
 have HR0_3 := Aside0.mk hr0_3
 have HC0_3 := Aside0.mk hc0_3
 clear hr0_3 hc0_3
 have HB := Aside0.mk (Below.refl w.heap.size w)
 have H : ((impl_Expr_size.f k a0_0 a0_1 a0_2 l0_3 7).bind fun t183 => ((impl_in.f t183 1 40).bind fun t184 => (some t184))) = some r := h
 clear h
 replace H := Option.bind_eq_some_iff.mp H
 obtain ⟨t183, A20, H⟩ := H
 replace H : ((impl_in.f t183 1 40).bind fun t184 => (some t184)) = some r := H
 have A2 := Aside0.mk A20
 clear A20
 replace H := Option.bind_eq_some_iff.mp H
 obtain ⟨t184, A30, H⟩ := H
 replace H : (some t184) = some r := H
 have A3 := Aside0.mk A30
 clear A30
 obtain rfl := Option.some.inj H
 go_enter Try.func32, Try.ntmps32
 go_wp2_with (first | ((with_reducible refine gate_dst (N := 1) rfl ?_); refine bx 1 #[.int .i64 a0_0, .int .i64 a0_1, .string a0_2, .slice A0_3 l0_3.length c0_3] 29 ?_; intro gb182 hg w4 hbox hb; have BK182 := Aside0.mk (hbox); have GW182 := gwB HB hg; have GE182 := gwB HB hg; replace HB := bS HB hb; clear hb hbox hg; obtain ⟨hcz5_0, hcz5_1, hcz5_2, hcz5_3⟩ := cs4 BK182.out; obtain ⟨hfz5_0, hfz5_1, hfz5_2, hfz5_3⟩ := fz4 BK182.out) | ((with_reducible refine gate_callee (f := 63) rfl ?_); refine gl (some 4) Try.func63 #[.agg #[.int .i64 a0_0, .int .i64 a0_1, .string a0_2, .slice A0_3 l0_3.length c0_3], .int .i64 7] ?_; (with_reducible refine (impl_Expr_size.calls k a0_0 a0_1 a0_2 _ _ l0_3 7 t183 _ ?side1 ?side2 A2.out).mono ?_); (case side1 => repeat (first | exact (Kd.C_below HR0_3.out HB.out) | (with_reducible refine Kd.C_alloc ?_ _) | (with_reducible refine Kd.C_drewN ?_ _) | (with_reducible refine Kd.C_drew ?_))); (case side2 => exact HC0_3.out); rintro e w6 ⟨rfl, hb⟩; refine ⟨_, rfl, ?_⟩; replace BK182 := bB BK182 hb; replace HB := bS HB hb; (try clear hb); (try clear hb2); (try clear hk); (try clear hi)) | ((with_reducible refine gate_callee (f := 48) rfl ?_); refine gl (some 5) Try.func48 #[.int .i64 t183, .int .i64 1, .int .i64 40] ?_; (with_reducible refine (impl_in.calls t183 1 40 t184 _ A3.out).mono ?_); rintro e w' ⟨rfl, ⟨nd, rfl⟩⟩; refine ⟨_, rfl, ?_⟩))
 go_ret
 exact ⟨by first | rfl | (simp [errW_none, errW_some] <;> rfl) | (simp [*, errW_none, errW_some] <;> rfl), by exact bw HB.out⟩

/-! ### impl_Expr_each, for the closure of impl_ThingsUsed: function 33 -/
mutual
def impl_Expr_each.l0 : Nat → List (S29) → Int → Int → Option (Int)
 | 0, _, _, _ => none
 | k + 1, x0, x1, x2 => if x1 < (x0.length : Int) then (if 0 ≤ x1 then ((impl_Expr_each.f k ((rd_T29 x0 x1).f0) ((rd_T29 x0 x1).f1) ((rd_T29 x0 x1).f3) x2).bind fun t1 => (impl_Expr_each.l0 k x0 (wrap64 (x1 + 1)) t1)) else (none)) else (some x2)
def impl_Expr_each.f : Nat → Int → Int → List (S29) → Int → Option (Int)
 | 0, _, _, _, _ => none
 | k + 1, a0, a1, l2, a3 => (impl_Expr_each.l0 k l2 0 a3).bind fun t1 => (some (if a0 = 3 then (if t1 < a1 then a1 else t1) else t1))
end
theorem impl_Expr_each.mono_l : ∀ k, (∀ y0 y1 y2, LeO (impl_Expr_each.l0 k y0 y1 y2) (impl_Expr_each.l0 (k + 1) y0 y1 y2)) ∧ (∀ y0 y1 y2 y3, LeO (impl_Expr_each.f k y0 y1 y2 y3) (impl_Expr_each.f (k + 1) y0 y1 y2 y3))
 | 0 => ⟨fun _ _ _ r h => by simp [impl_Expr_each.l0] at h, fun _ _ _ _ r h => by simp [impl_Expr_each.f] at h⟩
 | k + 1 => by
  obtain ⟨ih0, ih1⟩ := impl_Expr_each.mono_l k
  refine ⟨?_, ?_⟩
  · intro y0 y1 y2
    unfold impl_Expr_each.l0
    repeat' first
    | exact ih0 _ _ _
    | exact ih1 _ _ _ _
    | exact LeO.refl _
    | refine LeO.ite ?_ ?_
    | refine LeO.bind ?_ (fun _ => ?_)
  · intro y0 y1 y2 y3
    unfold impl_Expr_each.f
    repeat' first
    | exact ih0 _ _ _
    | exact LeO.refl _
    | refine LeO.ite ?_ ?_
    | refine LeO.bind ?_ (fun _ => ?_)
/-- The function literal. -/
theorem impl_Expr_each.lit {W0 w : World} {kd n v : Int} {s : ByteArray} {A : Option Addr} {m c : Nat} {go : Nat} (hB : Below W0.heap.size W0 w) (hg : W0.heap.size ≤ go) (hw : w.heap[go]? = some (.cells #[.int .i64 v] 3 (0, 0))) :
    Calls Try.prog 34 #[.agg #[.int .i64 kd, .int .i64 n, .string s, .slice A m c], .pointer (some ⟨go, 0, none⟩)] w fun e w' => e = .returned (.tuple #[]) ∧ Below W0.heap.size W0 w' ∧ KeepBut w w' go none ∧ w'.heap[go]? = some (.cells #[.int .i64 (if kd = 3 then (if v < n then n else v) else v)] 3 (0, 0)) := by
  have HB := Aside0.mk hB
  have HG := Aside0.mk hg
  have BO := Aside0.mk hw
  have HK := Aside0.mk (KeepBut.refl w go none)
  clear hB hg hw
  have fin : ∀ (w1 : World) (x : Int), w1.heap[go]? = some (.cells #[.int .i64 v] 3 (0, 0)) → Below W0.heap.size W0 w1 → KeepBut w w1 go none → Below W0.heap.size W0 (w1.setCell ⟨go, 0, none⟩ (.int .i64 x)) ∧ KeepBut w (w1.setCell ⟨go, 0, none⟩ (.int .i64 x)) go none ∧ (w1.setCell ⟨go, 0, none⟩ (.int .i64 x)).heap[go]? = some (.cells #[.int .i64 x] 3 (0, 0)) := fun w1 x h1 h2 h3 =>
    ⟨below_set h2 HG.out, KeepBut.set_ h3 _ _, blk_put (cs := #[.int .i64 v]) h1 0 _ rfl⟩
  by_cases c1 : kd = 3
  · obtain ⟨c1b0, c1b1⟩ := eqY c1
    subst c1
    by_cases c2 : v < n
    · rw [if_pos rfl, if_pos c2]
      go_enter Try.func34, Try.ntmps34
      go_wp2_with ((with_reducible refine gate_dst (N := 2) rfl ?_); refine bx 2 #[.int .i64 3, .int .i64 n, .string s, .slice A m c] 29 ?_; intro gb hg w1 hbox hb; have BK := Aside0.mk hbox; have NB := nbL BO hg; have NC := nbR BO hg; replace BO := bB BO hb; replace HB : Aside0 (Below W0.heap.size W0 w1) := ⟨below_step HB.out hb⟩; replace HK := kTb HK hb; clear hb hbox hg; obtain ⟨hcz_0, hcz_1, hcz_2, hcz_3⟩ := cs4 BK.out; have hco_0 : w1.cell? ⟨go, 0, none⟩ = some (.int .i64 v) := (blk_cell BO.out 0).trans rfl; have hfo_0 := blk_frozen BO.out 0)
      exact bodyPost_end (results_none rfl _ _ _) rfl ⟨rfl, fin _ _ BO.out HB.out HK.out⟩
    · rw [if_pos rfl, if_neg c2]
      go_enter Try.func34, Try.ntmps34
      go_wp2_with ((with_reducible refine gate_dst (N := 2) rfl ?_); refine bx 2 #[.int .i64 3, .int .i64 n, .string s, .slice A m c] 29 ?_; intro gb hg w1 hbox hb; have BK := Aside0.mk hbox; have NB := nbL BO hg; have NC := nbR BO hg; replace BO := bB BO hb; replace HB : Aside0 (Below W0.heap.size W0 w1) := ⟨below_step HB.out hb⟩; replace HK := kTb HK hb; clear hb hbox hg; obtain ⟨hcz_0, hcz_1, hcz_2, hcz_3⟩ := cs4 BK.out; have hco_0 : w1.cell? ⟨go, 0, none⟩ = some (.int .i64 v) := (blk_cell BO.out 0).trans rfl; have hfo_0 := blk_frozen BO.out 0)
      exact bodyPost_end (results_none rfl _ _ _) rfl ⟨rfl, fin _ _ BO.out HB.out HK.out⟩
  · obtain ⟨c1b0, c1b1⟩ := eqN c1
    rw [if_neg c1]
    clear fin
    go_enter Try.func34, Try.ntmps34
    go_wp2_with ((with_reducible refine gate_dst (N := 2) rfl ?_); refine bx 2 #[.int .i64 kd, .int .i64 n, .string s, .slice A m c] 29 ?_; intro gb hg w1 hbox hb; have BK := Aside0.mk hbox; have NB := nbL BO hg; have NC := nbR BO hg; replace BO := bB BO hb; replace HB : Aside0 (Below W0.heap.size W0 w1) := ⟨below_step HB.out hb⟩; replace HK := kTb HK hb; clear hb hbox hg; obtain ⟨hcz_0, hcz_1, hcz_2, hcz_3⟩ := cs4 BK.out; have hco_0 : w1.cell? ⟨go, 0, none⟩ = some (.int .i64 v) := (blk_cell BO.out 0).trans rfl; have hfo_0 := blk_frozen BO.out 0)
    exact bodyPost_end (results_none rfl _ _ _) rfl ⟨rfl, HB.out, HK.out, BO.out⟩
set_option maxHeartbeats 2000000 in
theorem impl_Expr_each.step (k : Nat) : ∀ (W0 w : World) (kd n v : Int) (s : ByteArray) (A : Option Addr) (c : Nat) (l : List (S29)) (go : Nat) (r : Int), Below W0.heap.size W0 w → W0.heap.size ≤ go → w.heap[go]? = some (.cells #[.int .i64 v] 3 (0, 0)) → Kd.C k29 W0 A l.length l → l.length ≤ c → impl_Expr_each.f k kd n l v = some r →
    Calls Try.prog 33 #[.agg #[.int .i64 kd, .int .i64 n, .string s, .slice A l.length c], .func (.func 34) #[] #[.pointer (some ⟨go, 0, none⟩)]] w fun e w' => e = .returned (.tuple #[]) ∧ Below W0.heap.size W0 w' ∧ KeepBut w w' go none ∧ w'.heap[go]? = some (.cells #[.int .i64 r] 3 (0, 0)) := by
  induction k using Nat.strongRecOn with
  | _ k ih =>
  intro W0 w kd n v s A c l go r hB hg hw hC hc h
  have eg : ∀ (args : Array Value) (w : World), (callFunc 34 args).run Try.prog w = .ok (.enter 34 args) w := enters_ Try.func34 (by kernel_rfl) rfl
  cases k with
  | zero => exact absurd h (by simp [impl_Expr_each.f])
  | succ k =>
  simp only [impl_Expr_each.f] at h
  obtain ⟨v1, h1, h2⟩ := Option.bind_eq_some_iff.mp h
  clear h
  have HR := Option.some.inj h2
  have H := Aside0.mk h1
  have HB := Aside0.mk hB
  have HG := Aside0.mk hg
  have BO := Aside0.mk hw
  have HK := Aside0.mk (KeepBut.refl w go none)
  have HC := Aside0.mk hC
  have HL := Aside0.mk hc
  have HN := Aside0.mk hC.2.1
  clear hB hg hw h1 h2 hC hc
  go_enter Try.func33, Try.ntmps33
  go_wp2_with ((with_reducible refine gate_dst (N := 2) rfl ?_); refine bx 2 #[.int .i64 kd, .int .i64 n, .string s, .slice A l.length c] 29 ?_; intro gb hg w1 hbox hb; have BK := Aside0.mk hbox; have NB := nbL BO hg; have NC := nbR BO hg; replace BO := bB BO hb; replace HB : Aside0 (Below W0.heap.size W0 w1) := ⟨below_step HB.out hb⟩; replace HK := kTb HK hb; clear hb hbox hg; obtain ⟨hcz_0, hcz_1, hcz_2, hcz_3⟩ := cs4 BK.out)
  clear hcz_0 hcz_1 hcz_2 hcz_3
  have keepB : ∀ {Wc w' : World}, KeepBut Wc w' go none → Wc.heap[gb]? = some (.cells #[.int .i64 kd, .int .i64 n, .string s, .slice A l.length c] 29 (0, 0)) → w'.heap[gb]? = some (.cells #[.int .i64 kd, .int .i64 n, .string s, .slice A l.length c] 29 (0, 0)) := fun hk hb => KeepBut.blk hk hb NC.out (by simp)
  go_loopg [9] k (fun kq v9 w' => ∃ (x : Int) (v' : Int), v9 = .int .i64 x ∧ Aside0 (impl_Expr_each.l0 kq l x v' = some v1) ∧ Aside0 (kq ≤ k) ∧ Aside0 (w'.heap[gb]? = some (.cells #[.int .i64 kd, .int .i64 n, .string s, .slice A l.length c] 29 (0, 0))) ∧ Aside0 (w'.heap[go]? = some (.cells #[.int .i64 v'] 3 (0, 0))) ∧ Aside0 (KeepBut w w' go none) ∧ Aside0 (Below W0.heap.size W0 w'))
  case atStart => exact ⟨0, v, rfl, H, ⟨Nat.le_refl _⟩, BK, BO, HK, HB⟩
  case round =>
    clear H BK BO HK HB
    obtain ⟨x, v', rfl, H, HQ, BK, BO, HK, HB⟩ := hrel
    cases gk with
    | zero => exact absurd H.out (by simp [impl_Expr_each.l0])
    | succ q =>
      have h := H.out
      clear H
      simp only [impl_Expr_each.l0] at h
      by_cases c1 : x < (l.length : Int)
      · rw [if_pos c1] at h
        by_cases c2 : 0 ≤ x
        · rw [if_pos c2] at h
          obtain ⟨t1, h1, h2⟩ := Option.bind_eq_some_iff.mp h
          clear h
          have A1 := Aside0.mk h1
          have A2 := Aside0.mk h2
          clear h1 h2
          obtain ⟨ad, A3, c3, e3, hx0, hx1, hx2, hx3, hl3, hi3⟩ := at_T29 HC.out x c2 c1
          cases e3
          have HC3 := Aside0.mk hi3
          have HL3 := Aside0.mk hl3
          clear hi3 hl3
          replace hx0 := (HB.out.cell (World.block_lt_of_cell? W0 _ hx0)).trans hx0
          replace hx1 := (HB.out.cell (World.block_lt_of_cell? W0 _ hx1)).trans hx1
          replace hx2 := (HB.out.cell (World.block_lt_of_cell? W0 _ hx2)).trans hx2
          replace hx3 := (HB.out.cell (World.block_lt_of_cell? W0 _ hx3)).trans hx3
          have c1b := decide_eq_true c1
          replace c1 := eq_true c1
          replace c2 := eq_true c2
          have hih := fun W0 w s A c go r => ih q (by have := HQ.out; omega) W0 w (rd_T29 l x).f0 (rd_T29 l x).f1 v' s A c (rd_T29 l x).f3 go r
          have HI := Aside0.mk hih
          clear ih hih
          go_wp2_with (first
            | ((with_reducible refine gate_dst (N := 5) rfl ?_); (try (refine gate_guard (by rfl) ?_; dsimp only)); refine bx 5 #[.int .i64 0, .int .i64 0, .string (⟨#[]⟩ : ByteArray), .slice none 0 0] 29 ?_; intro gp hg w2 hbox hb; have BP := Aside0.mk hbox; have GW := gwB HB hg; have GK := gwK HK hg; have NB1 := nbL BK hg; have NB2 := nbL BO hg; replace BK := bB BK hb; replace BO := bB BO hb; replace HB : Aside0 (Below W0.heap.size W0 w2) := ⟨below_step HB.out hb⟩; replace HK := kTb HK hb; clear hb hbox hg; obtain ⟨hcz_0, hcz_1, hcz_2, hcz_3⟩ := cs4 BP.out; obtain ⟨hfz_0, hfz_1, hfz_2, hfz_3⟩ := fz4 BP.out; have hnb := NB1.out; have hnc := NB2.out)
            | (go_at_call 33; refine (HI.out W0 _ _ _ _ go t1 (by exact bw HB.out) HG.out (bo BO) HC3.out HL3.out A1.out).mono ?_; rintro e w' ⟨rfl, hb, hk, hgo⟩; replace BK := Aside0.mk (keepB hk (bo BK)); replace BO := Aside0.mk hgo; replace HK := kT HK hk; replace HB := Aside0.mk hb; clear hb hk hgo))
          go_roundg q
          case measure => have := HQ.out; omega
          case rel => exact ⟨_, t1, rfl, A2, ⟨by have := HQ.out; omega⟩, BK, BO, HK, HB⟩
        · rw [if_neg c2] at h
          cases h
      · rw [if_neg c1] at h
        have c1b := decide_eq_false c1
        obtain rfl := Option.some.inj h
        clear h keepB
        obtain ⟨hcz_0, hcz_1, hcz_2, hcz_3⟩ := cs4 BK.out
        go_wp2_with (go_at_fn 34; refine (impl_Expr_each.lit HB.out HG.out BO.out).mono ?_; rintro e w' ⟨rfl, hb, hk, hgo⟩)
        subst HR
        exact bodyPost_end (results_none rfl _ _ _) rfl ⟨rfl, hb, KeepBut.trans HK.out hk (.inl rfl), hgo⟩
theorem impl_Expr_each.mono : ∀ a0 a1 a2 a3 k, LeO (impl_Expr_each.f k a0 a1 a2 a3) (impl_Expr_each.f (k + 1) a0 a1 a2 a3) := fun a0 a1 a2 a3 k => (impl_Expr_each.mono_l k).2 a0 a1 a2 a3
/-! ### impl_ThingsUsed: function 10 -/
def impl_ThingsUsed.f (k : Nat) (a0_0 : Int) (a0_1 : Int) (a0_2 : ByteArray) (l0_3 : List (S29)) : Option (Int) := (impl_ExprValid.f k a0_0 a0_1 a0_2 l0_3).bind fun t1 => (if t1 = true then ((impl_Expr_each.f k a0_0 a0_1 l0_3 (-1)).bind fun t2 => (some t2)) else (some (-1)))
theorem impl_ThingsUsed.mono : ∀ a0 a1 a2 a3 k, LeO (impl_ThingsUsed.f k a0 a1 a2 a3) (impl_ThingsUsed.f (k + 1) a0 a1 a2 a3) := fun a0 a1 a2 a3 k => by
  unfold impl_ThingsUsed.f
  refine LeO.bind (impl_ExprValid.mono _ _ _ _ _) (fun _ => LeO.ite (LeO.bind (impl_Expr_each.mono _ _ _ _ _) (fun _ => LeO.refl _)) (LeO.refl _))
set_option maxHeartbeats 2000000 in
theorem impl_ThingsUsed.calls (k : Nat) (a0_0 : Int) (a0_1 : Int) (a0_2 : ByteArray) (A0_3 : Option Addr) (c0_3 : Nat) (l0_3 : List (S29)) (r : Int) (w : World) (hr0_3 : Kd.C k29 w A0_3 l0_3.length l0_3) (hc0_3 : l0_3.length ≤ c0_3) (h : impl_ThingsUsed.f k a0_0 a0_1 a0_2 l0_3 = some r) :
    Calls Try.prog 10 #[.agg #[.int .i64 a0_0, .int .i64 a0_1, .string a0_2, .slice A0_3 l0_3.length c0_3]] w fun e w' => e = .returned (.int .i64 r) ∧ Below w.heap.size w w' := by
  unfold impl_ThingsUsed.f at h
  obtain ⟨t1, h1, h⟩ := Option.bind_eq_some_iff.mp h
  have A1 := Aside0.mk h1
  have HC := Aside0.mk hr0_3
  have HL := Aside0.mk hc0_3
  have HB := Aside0.mk (Below.refl w.heap.size w)
  clear h1 hr0_3 hc0_3
  cases t1 with
  | true =>
    rw [if_pos rfl] at h
    obtain ⟨t2, h2, h⟩ := Option.bind_eq_some_iff.mp h
    obtain rfl := Option.some.inj h
    have A2 := Aside0.mk h2
    clear h2 h
    go_enter Try.func10, Try.ntmps10
    go_wp2_with (first
      | ((with_reducible refine gate_dst (N := 1) rfl ?_); refine bx 1 #[.int .i64 a0_0, .int .i64 a0_1, .string a0_2, .slice A0_3 l0_3.length c0_3] 29 ?_; intro gb hg w1 hbox hb; have BK := Aside0.mk hbox; have GW := gwB HB hg; replace HB := bS HB hb; clear hb hbox hg; obtain ⟨hcz_0, hcz_1, hcz_2, hcz_3⟩ := cs4 BK.out)
      | ((with_reducible refine gate_dst (N := 3) rfl ?_); refine bx 3 #[.int .i64 0] 3 ?_; intro go hg w2 hbox hb; have BO := Aside0.mk hbox; have GO := gwB HB hg; have NB := nbL BK hg; have NC := nbR BK hg; replace BK := bB BK hb; replace HB := bS HB hb; clear hb hbox hg; have hco_0 : w2.cell? ⟨go, 0, none⟩ = some (.int .i64 0) := (blk_cell BO.out 0).trans rfl; have hfo_0 := blk_frozen BO.out 0; have hnb := NB.out; have hnc := NC.out; clear hcz_0 hcz_1 hcz_2 hcz_3; obtain ⟨hcz_0, hcz_1, hcz_2, hcz_3⟩ := cs4 BK.out)
      | (go_at_call 32; refine (impl_ExprValid.calls k _ _ _ _ _ _ _ _ (Kd.C_below HC.out (by exact bw HB.out)) HL.out A1.out).mono ?_; rintro e w3 ⟨rfl, hb⟩; replace BK := Aside0.mk (blk_below (bo BK) hb); replace BO := Aside0.mk (blk_below (bp BO) hb); replace HB := bS HB hb; clear hb; obtain ⟨hcz_0, hcz_1, hcz_2, hcz_3⟩ := cs4 BK.out; have hco_0 : w3.cell? ⟨go, 0, none⟩ = some (.int .i64 (-1)) := (blk_cell BO.out 0).trans rfl)
      | (go_at_call 33; refine (impl_Expr_each.step k w _ _ _ _ _ _ _ _ _ _ (by exact bw HB.out) GO.out (bo BO) HC.out HL.out A2.out).mono ?_; rintro e w4 ⟨rfl, hb, hk, hgo⟩; have hco_1 : w4.cell? ⟨go, 0, none⟩ = some (.int .i64 t2) := (blk_cell hgo 0).trans rfl))
    go_ret
    exact ⟨rfl, hb⟩
  | false =>
    rw [if_neg (by decide)] at h
    obtain rfl := Option.some.inj h
    go_enter Try.func10, Try.ntmps10
    go_wp2_with (first
      | ((with_reducible refine gate_dst (N := 1) rfl ?_); refine bx 1 #[.int .i64 a0_0, .int .i64 a0_1, .string a0_2, .slice A0_3 l0_3.length c0_3] 29 ?_; intro gb hg w1 hbox hb; have BK := Aside0.mk hbox; have GW := gwB HB hg; replace HB := bS HB hb; clear hb hbox hg; obtain ⟨hcz_0, hcz_1, hcz_2, hcz_3⟩ := cs4 BK.out)
      | ((with_reducible refine gate_dst (N := 3) rfl ?_); refine bx 3 #[.int .i64 0] 3 ?_; intro go hg w2 hbox hb; have BO := Aside0.mk hbox; have GO := gwB HB hg; have NB := nbL BK hg; have NC := nbR BK hg; replace BK := bB BK hb; replace HB := bS HB hb; clear hb hbox hg; have hco_0 : w2.cell? ⟨go, 0, none⟩ = some (.int .i64 0) := (blk_cell BO.out 0).trans rfl; have hfo_0 := blk_frozen BO.out 0; have hnb := NB.out; have hnc := NC.out; clear hcz_0 hcz_1 hcz_2 hcz_3; obtain ⟨hcz_0, hcz_1, hcz_2, hcz_3⟩ := cs4 BK.out)
      | (go_at_call 32; refine (impl_ExprValid.calls k _ _ _ _ _ _ _ _ (Kd.C_below HC.out (by exact bw HB.out)) HL.out A1.out).mono ?_; rintro e w3 ⟨rfl, hb⟩; replace BK := Aside0.mk (blk_below (bo BK) hb); replace BO := Aside0.mk (blk_below (bp BO) hb); replace HB := bS HB hb; clear hb; obtain ⟨hcz_0, hcz_1, hcz_2, hcz_3⟩ := cs4 BK.out; have hco_0 : w3.cell? ⟨go, 0, none⟩ = some (.int .i64 (-1)) := (blk_cell BO.out 0).trans rfl))
    go_ret
    exact ⟨rfl, by exact bw HB.out⟩

end Go.Proofs.Ytbbbgochcfccgaa.P
