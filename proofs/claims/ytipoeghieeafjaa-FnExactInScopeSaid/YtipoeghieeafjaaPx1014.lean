-- Written by a program of this session (wip/tool).
import Derived.Test.YtipoeghieeafjaaPx0
import Derived.Test.YtipoeghieeafjaaPx1050
namespace Go.Proofs.Ytipoeghieeafjaa.P
open Go.RowKit Go.Proofs.YtipoeghieeafjaaW.PrintWords Go.Proofs.YtipoeghieeafjaaW.PrintLast Go.Proofs.YtipoeghieeafjaaW.PrintMore
attribute [local go_sem] max2_int min2_int max_two min_two max_three min_three max_four min_four   -- for this text's walks alone
set_option linter.unusedVariables false
set_option linter.unusedSimpArgs false

/-! ### laws_toPolicy: function 14 -/
def laws_toPolicy.f (k : Nat) (a0_0 : ByteArray) (a0_1 : Bool) (a0_2 : Int) (a0_3 : Int) (a0_4 : Int) (a0_5 : Int) (a0_6 : Int) (a0_7 : ByteArray) (l0_8 : List (S28)) : Option (ByteArray × Bool × Int × Int × Int × Int × Int × ByteArray × (List (S43))) := (laws_toExpr.f k a0_5 a0_6 a0_7 l0_8).bind fun bt271 => (some (a0_0, a0_1, a0_2, a0_3, a0_4, bt271.1, bt271.2.1, bt271.2.2.1, bt271.2.2.2))
theorem laws_toPolicy.mono : ∀ a0 a1 a2 a3 a4 a5 a6 a7 a8 k, LeO (laws_toPolicy.f k a0 a1 a2 a3 a4 a5 a6 a7 a8) (laws_toPolicy.f (k + 1) a0 a1 a2 a3 a4 a5 a6 a7 a8) := by
 intro a0 a1 a2 a3 a4 a5 a6 a7 a8 k
 unfold laws_toPolicy.f
 repeat' first
   | (with_reducible exact laws_toExpr.mono _ _ _ _ _)
   | (with_reducible exact LeO.refl _)
   | (with_reducible exact LeO.none _)
   | (with_reducible refine LeO.ite ?_ ?_)
   | (with_reducible refine LeO.bind ?_ (fun _ => ?_))
   | exact laws_toExpr.mono _ _ _ _ _
   | exact LeO.none _
   | refine LeO.ite ?_ ?_
   | refine LeO.bind ?_ (fun _ => ?_)
set_option maxHeartbeats 8000000 in
set_option maxRecDepth 100000 in
theorem laws_toPolicy.calls (k : Nat) (a0_0 : ByteArray) (a0_1 : Bool) (a0_2 : Int) (a0_3 : Int) (a0_4 : Int) (a0_5 : Int) (a0_6 : Int) (a0_7 : ByteArray) (A0_8 : Option Addr) (c0_8 : Nat) (l0_8 : List (S28)) (r1 : ByteArray) (r2 : Bool) (r3 : Int) (r4 : Int) (r5 : Int) (r6 : Int) (r7 : Int) (r8 : ByteArray) (r9 : List (S43)) (w : World) (hr0_8 : Kd.C k28 w A0_8 l0_8.length l0_8) (hc0_8 : l0_8.length ≤ c0_8) (h : laws_toPolicy.f k a0_0 a0_1 a0_2 a0_3 a0_4 a0_5 a0_6 a0_7 l0_8 = some (r1, r2, r3, r4, r5, r6, r7, r8, r9)) :
  Calls Try.prog 14 #[.agg #[.string a0_0, .bool a0_1, .int .i64 a0_2, .int .i64 a0_3, .int .i64 a0_4, .int .i64 a0_5, .int .i64 a0_6, .string a0_7, .slice A0_8 l0_8.length c0_8]] w fun e w' => ∃ v8_ : Value, e = .returned (.agg #[.string r1, .bool r2, .int .i64 r3, .int .i64 r4, .int .i64 r5, .int .i64 r6, .int .i64 r7, .string r8, v8_]) ∧ Kd.R k43 43 w' w.heap.size (fun _ => True) v8_ r9 ∧ Below w.heap.size w w' := by
 have hu30 := Try.underlying30
 have hu45 := Try.underlying45
 have hu28 := Try.underlying28
 have hu43 := Try.underlying43
 have HR0_8 := Aside0.mk hr0_8
 have HC0_8 := Aside0.mk hc0_8
 clear hr0_8 hc0_8
 have HB := Aside0.mk (Below.refl w.heap.size w)
 have H : ((laws_toExpr.f k a0_5 a0_6 a0_7 l0_8).bind fun bt271 => (some (a0_0, a0_1, a0_2, a0_3, a0_4, bt271.1, bt271.2.1, bt271.2.2.1, bt271.2.2.2))) = some (r1, r2, r3, r4, r5, r6, r7, r8, r9) := h
 clear h
 replace H := Option.bind_eq_some_iff.mp H
 obtain ⟨⟨t271, t272, t273, t274⟩, A20, H⟩ := H
 replace H : (some (a0_0, a0_1, a0_2, a0_3, a0_4, t271, t272, t273, t274)) = some (r1, r2, r3, r4, r5, r6, r7, r8, r9) := H
 have A2 := Aside0.mk A20
 clear A20
 simp only [Option.some.injEq, Prod.mk.injEq] at H
 obtain ⟨rfl, rfl, rfl, rfl, rfl, rfl, rfl, rfl, rfl⟩ := H
 go_enter Try.func14, Try.ntmps14
 go_wp2_with (first | ((with_reducible refine gate_dst (N := 1) rfl ?_); refine bx 1 #[.string a0_0, .bool a0_1, .int .i64 a0_2, .int .i64 a0_3, .int .i64 a0_4, .int .i64 a0_5, .int .i64 a0_6, .string a0_7, .slice A0_8 l0_8.length c0_8] 30 ?_; intro gb268 hg w3 hbox hb; have BK268 := Aside0.mk (hbox); have GW268 := gwB HB hg; have GE268 := gwB HB hg; replace HB := bS HB hb; clear hb hbox hg) | ((with_reducible refine gate_dst (N := 2) rfl ?_); refine bx 2 #[.string (⟨#[]⟩ : ByteArray), .bool false, .int .i64 0, .int .i64 0, .int .i64 0, .int .i64 0, .int .i64 0, .string (⟨#[]⟩ : ByteArray), .slice none 0 0] 45 ?_; intro gb269 hg w4 hbox hb; have BK269 := Aside0.mk (hbox); have GW269 := gwB HB hg; have GE269 := gwB HB hg; replace HB := bS HB hb; have NB268_269 := nbL BK268 hg; have NB269_268 := nbR BK268 hg; replace BK268 := bB BK268 hb; clear hb hbox hg) | ((with_reducible refine gate_dst (N := 3) rfl ?_); refine bx 3 #[.string (⟨#[]⟩ : ByteArray), .bool false, .int .i64 0, .int .i64 0, .int .i64 0, .int .i64 0, .int .i64 0, .string (⟨#[]⟩ : ByteArray), .slice none 0 0] 45 ?_; intro gb270 hg w5 hbox hb; have BK270 := Aside0.mk (hbox); have GW270 := gwB HB hg; have GE270 := gwB HB hg; replace HB := bS HB hb; have NB268_270 := nbL BK268 hg; have NB270_268 := nbR BK268 hg; replace BK268 := bB BK268 hb; have NB269_270 := nbL BK269 hg; have NB270_269 := nbR BK269 hg; replace BK269 := bB BK269 hb; clear hb hbox hg; have hnb6 := NB268_269.out; have hnc6 := NB269_268.out; have hnb7 := NB268_270.out; have hnc7 := NB270_268.out; obtain ⟨hcz8_0, hcz8_1, hcz8_2, hcz8_3, hcz8_4, hcz8_5, hcz8_6, hcz8_7, hcz8_8⟩ := cs9 BK268.out; obtain ⟨hfz8_0, hfz8_1, hfz8_2, hfz8_3, hfz8_4, hfz8_5, hfz8_6, hfz8_7, hfz8_8⟩ := fz9 BK268.out; have hnb9 := NB270_269.out; have hnc9 := NB269_270.out; obtain ⟨hcz10_0, hcz10_1, hcz10_2, hcz10_3, hcz10_4, hcz10_5, hcz10_6, hcz10_7, hcz10_8⟩ := cs9 BK270.out; obtain ⟨hfz10_0, hfz10_1, hfz10_2, hfz10_3, hfz10_4, hfz10_5, hfz10_6, hfz10_7, hfz10_8⟩ := fz9 BK270.out) | ((with_reducible refine gate_callee (f := 21) rfl ?_); refine gl (some 21) Try.func21 #[.agg #[.int .i64 a0_5, .int .i64 a0_6, .string a0_7, .slice A0_8 l0_8.length c0_8]] ?_; (with_reducible refine (laws_toExpr.calls k a0_5 a0_6 a0_7 _ _ l0_8 t271 t272 t273 t274 _ ?side1 ?side2 A2.out).mono ?_); (case side1 => exact Kd.C_below HR0_8.out (by exact bw HB.out)); (case side2 => exact HC0_8.out); rintro e w11 ⟨v275, rfl, ho0, hb⟩; refine ⟨_, rfl, ?_⟩; have HO276 := Aside0.mk (Kd.R_lower ho0 (below_size (by exact bw HB.out))); replace BK268 := Aside0.mk (blk_below (g := gb268) (o := .cells #[.string a0_0, .bool a0_1, .int .i64 a0_2, .int .i64 a0_3, .int .i64 a0_4, .int .i64 a0_5, .int .i64 a0_6, .string a0_7, .slice A0_8 l0_8.length c0_8] 30 (0, 0)) (bo BK268) hb); replace BK269 := Aside0.mk (blk_below (g := gb269) (o := .cells #[.string (⟨#[]⟩ : ByteArray), .bool false, .int .i64 0, .int .i64 0, .int .i64 0, .int .i64 0, .int .i64 0, .string (⟨#[]⟩ : ByteArray), .slice none 0 0] 45 (0, 0)) (bo BK269) hb); replace BK270 := Aside0.mk (blk_below (g := gb270) (o := .cells #[.string a0_0, .bool a0_1, .int .i64 a0_2, .int .i64 a0_3, .int .i64 a0_4, .int .i64 0, .int .i64 0, .string (⟨#[]⟩ : ByteArray), .slice none 0 0] 45 (0, 0)) (bp BK270) hb); replace HB := bS HB hb; (try clear hb); (try clear hb2); (try clear hk); (try clear hi); (try clear ho0); obtain ⟨hcz12_0, hcz12_1, hcz12_2, hcz12_3, hcz12_4, hcz12_5, hcz12_6, hcz12_7, hcz12_8⟩ := cs9 BK270.out; obtain ⟨hfz12_0, hfz12_1, hfz12_2, hfz12_3, hfz12_4, hfz12_5, hfz12_6, hfz12_7, hfz12_8⟩ := fz9 BK270.out; obtain ⟨Ao13, co13, eo13⟩ := Kd.R_slice HO276.out; subst eo13; obtain ⟨hcz14_0, hcz14_1, hcz14_2, hcz14_3, hcz14_4, hcz14_5, hcz14_6, hcz14_7, hcz14_8⟩ := cs9 BK269.out; obtain ⟨hfz14_0, hfz14_1, hfz14_2, hfz14_3, hfz14_4, hfz14_5, hfz14_6, hfz14_7, hfz14_8⟩ := fz9 BK269.out))
 refine bodyPost_ret (results_cell_row rfl _ _ gb269 45 #[.string a0_0, .bool a0_1, .int .i64 a0_2, .int .i64 a0_3, .int .i64 a0_4, .int .i64 t271, .int .i64 t272, .string t273, .slice Ao13 t274.length co13] (0, 0) _ rfl (bp BK269) Try.underlying45 rfl (by kernel_rfl)) rfl ?_
 exact ⟨_, by first | rfl | (simp [errW_none, errW_some] <;> rfl) | (simp [*, errW_none, errW_some] <;> rfl), by (with_reducible repeat (first | apply Kd.R_alloc | apply Kd.R_drewN | apply Kd.R_drew)); exact Kd.R_mono (Kd.R_far (p := ⟨gb269, 8, none⟩) (Kd.R_far (p := ⟨gb269, 7, none⟩) (Kd.R_far (p := ⟨gb269, 6, none⟩) (Kd.R_far (p := ⟨gb269, 5, none⟩) (Kd.R_far (p := ⟨gb269, 4, none⟩) (Kd.R_far (p := ⟨gb269, 3, none⟩) (Kd.R_far (p := ⟨gb269, 2, none⟩) (Kd.R_far (p := ⟨gb269, 1, none⟩) (Kd.R_far (p := ⟨gb269, 0, none⟩) (Kd.R_far (p := ⟨gb270, 8, none⟩) (Kd.R_far (p := ⟨gb270, 7, none⟩) (Kd.R_far (p := ⟨gb270, 6, none⟩) (Kd.R_far (p := ⟨gb270, 5, none⟩) (Kd.R_types (Kd.R_types HO276.out BK270.out (by decide)) BK269.out (by decide)) (fun _ hk => hk.1.2) (.int .i64 t271)) (fun _ hk => hk.1.2) (.int .i64 t272)) (fun _ hk => hk.1.2) (.string t273)) (fun _ hk => hk.1.2) (.slice Ao13 t274.length co13)) (fun _ hk => hk.2) (.string a0_0)) (fun _ hk => hk.2) (.bool a0_1)) (fun _ hk => hk.2) (.int .i64 a0_2)) (fun _ hk => hk.2) (.int .i64 a0_3)) (fun _ hk => hk.2) (.int .i64 a0_4)) (fun _ hk => hk.2) (.int .i64 t271)) (fun _ hk => hk.2) (.int .i64 t272)) (fun _ hk => hk.2) (.string t273)) (fun _ hk => hk.2) (.slice Ao13 t274.length co13)) (fun _ hk => trivial), by exact bw HB.out⟩

/-! ### impl_in: function 69 -/
def impl_in.f (a0 : Int) (a1 : Int) (a2 : Int) : Option (Bool) := if a1 ≤ a0 then (some (decide (a0 ≤ a2))) else (some false)
set_option maxHeartbeats 8000000 in
set_option maxRecDepth 100000 in
theorem impl_in.calls (a0 : Int) (a1 : Int) (a2 : Int) (r : Bool) (w : World) (h : impl_in.f a0 a1 a2 = some r) :
  Calls Try.prog 69 #[.int .i64 a0, .int .i64 a1, .int .i64 a2] w fun e w' => e = .returned (.bool r) ∧ Drawn0 w w' := by
 have H : (if a1 ≤ a0 then (some (decide (a0 ≤ a2))) else (some false)) = some r := h
 clear h
 by_cases c4 : a1 ≤ a0
 ·
  rw [if_pos c4] at H; have c4b0 : decide (a1 ≤ a0) = true := decide_eq_true c4; clear c4
  obtain rfl := Option.some.inj H
  go_enter Try.func69, Try.ntmps69
  go_wp2
  go_ret
  exact ⟨by first | rfl | (simp; done) | (simp [*]; done), by repeat (first | exact Drawn0.refl _ | apply Drawn0.step)⟩
 ·
  rw [if_neg c4] at H; have c4b0 : decide (a1 ≤ a0) = false := decide_eq_false c4; clear c4
  obtain rfl := Option.some.inj H
  go_enter Try.func69, Try.ntmps69
  go_wp2
  go_ret
  exact ⟨by first | rfl | (simp; done) | (simp [*]; done), by repeat (first | exact Drawn0.refl _ | apply Drawn0.step)⟩

/-! ### impl_NameValid: function 68 -/
def impl_NameValid.l0 : Nat → ByteArray → Int → Int → Option (Bool)
 | 0, _, _, _ => none
 | k + 1, x0, x5, x6 => if x6 < x5 then (if 0 ≤ x6 then (if x6 < (x0.size : Int) then (if (bt x0 x6) < 97 then (some false) else (if (bt x0 x6) > 122 then (some false) else (impl_NameValid.l0 k x0 x5 (wrap64 (x6 + 1))))) else (none)) else (none)) else ((impl_in.f (x0.size : Int) 1 8).bind fun t277 => (some t277))
def impl_NameValid.f (k : Nat) (a0 : ByteArray) : Option (Bool) := impl_NameValid.l0 k a0 (a0.size : Int) 0
theorem impl_NameValid.mono_l : ∀ k, (∀ y0 y1 y2, LeO (impl_NameValid.l0 k y0 y1 y2) (impl_NameValid.l0 (k + 1) y0 y1 y2))
 | 0 => fun _ _ _ r h => by simp [impl_NameValid.l0] at h
 | k + 1 => by
  have ih0 := impl_NameValid.mono_l k
  ·
   intro y0 y1 y2
   unfold impl_NameValid.l0
   repeat' first
   | (with_reducible exact ih0 _ _ _)
   | (with_reducible exact LeO.refl _)
   | (with_reducible exact LeO.none _)
   | (with_reducible refine LeO.ite ?_ ?_)
   | (with_reducible refine LeO.bind ?_ (fun _ => ?_))
   | exact ih0 _ _ _
   | exact LeO.none _
   | refine LeO.ite ?_ ?_
   | refine LeO.bind ?_ (fun _ => ?_)
theorem impl_NameValid.mono : ∀ a0 k, LeO (impl_NameValid.f k a0) (impl_NameValid.f (k + 1) a0) := by
 intro a0 k
 have ih0 := impl_NameValid.mono_l k
 unfold impl_NameValid.f
 repeat' first
   | (with_reducible exact ih0 _ _ _)
   | (with_reducible exact LeO.refl _)
   | (with_reducible exact LeO.none _)
   | (with_reducible refine LeO.ite ?_ ?_)
   | (with_reducible refine LeO.bind ?_ (fun _ => ?_))
   | exact ih0 _ _ _
   | exact LeO.none _
   | refine LeO.ite ?_ ?_
   | refine LeO.bind ?_ (fun _ => ?_)
set_option maxHeartbeats 8000000 in
set_option maxRecDepth 100000 in
theorem impl_NameValid.calls (k : Nat) (a0 : ByteArray) (r : Bool) (w : World) (h : impl_NameValid.f k a0 = some r) :
  Calls Try.prog 68 #[.string a0] w fun e w' => e = .returned (.bool r) ∧ Drawn0 w w' := by
 have H : (impl_NameValid.l0 k a0 (a0.size : Int) 0) = some r := h
 clear h
 have H' := Aside0.mk H
 clear H
 go_enter Try.func68, Try.ntmps68
 go_wp2
 go_loopg [6] k (fun kq v6 w' => ∃ (x6_1 : Int), v6 = .int .i64 x6_1 ∧ Aside0 (impl_NameValid.l0 kq a0 (a0.size : Int) x6_1 = some r) ∧ Aside0 (kq ≤ k) ∧ Drawn0 w w')
 case atStart => exact ⟨(0), (by first | rfl | (simp; done) | (simp [*]; done)), H', ⟨Nat.le_refl _⟩, by repeat (first | exact Drawn0.refl _ | apply Drawn0.step)⟩
 case round =>
  clear H'
  obtain ⟨x6_1, rfl, HA, HK1, ⟨m1, rfl⟩⟩ := hrel
  cases gk with
  | zero => exact absurd HA.out (by simp [impl_NameValid.l0])
  | succ k1 =>
   have H := HA.out
   clear HA
   simp only [impl_NameValid.l0] at H
   by_cases c2 : x6_1 < (a0.size : Int)
   ·
    rw [if_pos c2] at H; have c2b0 : decide (x6_1 < (a0.size : Int)) = true := decide_eq_true c2; clear c2
    by_cases c3 : 0 ≤ x6_1
    ·
     rw [if_pos c3] at H; have c3b0 : decide (0 ≤ x6_1) = true := decide_eq_true c3; clear c3
     by_cases c4 : x6_1 < (a0.size : Int)
     ·
      rw [if_pos c4] at H; have c4b0 : decide (x6_1 < (a0.size : Int)) = true := decide_eq_true c4; clear c4
      by_cases c6 : (bt a0 x6_1) < 97
      ·
       rw [if_pos c6] at H; have c6b0 : decide ((bt a0 x6_1) < 97) = true := decide_eq_true c6; clear c6
       obtain rfl := Option.some.inj H
       have p5 : 0 ≤ (x6_1 : Int) := of_decide_eq_true (by first | (with_reducible assumption) | assumption)
       have q5 : x6_1 < (a0.size : Int) := of_decide_eq_true (by first | (with_reducible assumption) | assumption)
       have hx5 := bt_at a0 x6_1
       replace p5 := eq_true p5
       replace q5 := eq_true q5
       go_wp2
       go_ret
       exact ⟨by first | rfl | (simp; done) | (simp [*]; done), by repeat (first | exact Drawn0.refl _ | apply Drawn0.step)⟩
      ·
       rw [if_neg c6] at H; have c6b0 : decide ((bt a0 x6_1) < 97) = false := decide_eq_false c6; clear c6
       by_cases c8 : (bt a0 x6_1) > 122
       ·
        rw [if_pos c8] at H; have c8b0 : decide (122 < (bt a0 x6_1)) = true := decide_eq_true c8; clear c8
        obtain rfl := Option.some.inj H
        have p5 : 0 ≤ (x6_1 : Int) := of_decide_eq_true (by first | (with_reducible assumption) | assumption)
        have q5 : x6_1 < (a0.size : Int) := of_decide_eq_true (by first | (with_reducible assumption) | assumption)
        have hx5 := bt_at a0 x6_1
        replace p5 := eq_true p5
        replace q5 := eq_true q5
        have p7 : 0 ≤ (x6_1 : Int) := of_decide_eq_true (by first | (with_reducible assumption) | assumption)
        have q7 : x6_1 < (a0.size : Int) := of_decide_eq_true (by first | (with_reducible assumption) | assumption)
        have hx7 := bt_at a0 x6_1
        replace p7 := eq_true p7
        replace q7 := eq_true q7
        go_wp2
        go_ret
        exact ⟨by first | rfl | (simp; done) | (simp [*]; done), by repeat (first | exact Drawn0.refl _ | apply Drawn0.step)⟩
       ·
        rw [if_neg c8] at H; have c8b0 : decide (122 < (bt a0 x6_1)) = false := decide_eq_false c8; clear c8
        have H' := Aside0.mk H
        clear H
        have p5 : 0 ≤ (x6_1 : Int) := of_decide_eq_true (by first | (with_reducible assumption) | assumption)
        have q5 : x6_1 < (a0.size : Int) := of_decide_eq_true (by first | (with_reducible assumption) | assumption)
        have hx5 := bt_at a0 x6_1
        replace p5 := eq_true p5
        replace q5 := eq_true q5
        have p7 : 0 ≤ (x6_1 : Int) := of_decide_eq_true (by first | (with_reducible assumption) | assumption)
        have q7 : x6_1 < (a0.size : Int) := of_decide_eq_true (by first | (with_reducible assumption) | assumption)
        have hx7 := bt_at a0 x6_1
        replace p7 := eq_true p7
        replace q7 := eq_true q7
        go_wp2
        go_roundg k1
        case measure => have := HK1.out; omega
        case rel => exact ⟨(wrap64 (x6_1 + 1)), (by first | rfl | (simp; done) | (simp [*]; done)), H', ⟨by have := HK1.out; omega⟩, by repeat (first | exact Drawn0.refl _ | apply Drawn0.step)⟩
     ·
      rw [if_neg c4] at H; exact absurd H (by simp)
    ·
     rw [if_neg c3] at H; exact absurd H (by simp)
   ·
    rw [if_neg c2] at H; have c2b0 : decide (x6_1 < (a0.size : Int)) = false := decide_eq_false c2; clear c2
    replace H := Option.bind_eq_some_iff.mp H
    obtain ⟨t277, A90, H⟩ := H
    replace H : (some t277) = some r := H
    have A9 := Aside0.mk A90
    clear A90
    obtain rfl := Option.some.inj H
    go_wp2_with (first | ((with_reducible refine gate_callee (f := 69) rfl ?_); refine gl (some 22) Try.func69 #[.int .i64 (a0.size : Int), .int .i64 1, .int .i64 8] ?_; (with_reducible refine (impl_in.calls (a0.size : Int) 1 8 t277 _ A9.out).mono ?_); rintro e w' ⟨rfl, ⟨nd, rfl⟩⟩; refine ⟨_, rfl, ?_⟩))
    go_ret
    exact ⟨by first | rfl | (simp; done) | (simp [*]; done), by repeat (first | exact Drawn0.refl _ | apply Drawn0.step)⟩

/-! ### impl_ValueValid: function 88 -/
def impl_ValueValid.f (a0_0 : Int) (a0_1 : Int) (a1 : Int) : Option (Bool) := if a0_0 = 1 then ((impl_in.f a0_1 0 1).bind fun t279 => (some t279)) else (if a0_0 = 2 then ((impl_in.f a0_1 0 99).bind fun t280 => (some t280)) else (if a0_0 = 3 then (if a0_1 ≥ 0 then (some (decide (a0_1 < a1))) else (some false)) else (some false)))
set_option maxHeartbeats 8000000 in
set_option maxRecDepth 100000 in
theorem impl_ValueValid.calls (a0_0 : Int) (a0_1 : Int) (a1 : Int) (r : Bool) (w : World) (h : impl_ValueValid.f a0_0 a0_1 a1 = some r) :
  Calls Try.prog 88 #[.agg #[.int .i64 a0_0, .int .i64 a0_1], .int .i64 a1] w fun e w' => e = .returned (.bool r) ∧ Below w.heap.size w w' := by
 have hu53 := Try.underlying53
 have HB := Aside0.mk (Below.refl w.heap.size w)
 have H : (if a0_0 = 1 then ((impl_in.f a0_1 0 1).bind fun t279 => (some t279)) else (if a0_0 = 2 then ((impl_in.f a0_1 0 99).bind fun t280 => (some t280)) else (if a0_0 = 3 then (if a0_1 ≥ 0 then (some (decide (a0_1 < a1))) else (some false)) else (some false)))) = some r := h
 clear h
 by_cases c3 : a0_0 = 1
 ·
  rw [if_pos c3] at H; obtain ⟨c3b0, c3b1⟩ := eqY c3; clear c3
  replace H := Option.bind_eq_some_iff.mp H
  obtain ⟨t279, A40, H⟩ := H
  replace H : (some t279) = some r := H
  have A4 := Aside0.mk A40
  clear A40
  obtain rfl := Option.some.inj H
  go_enter Try.func88, Try.ntmps88
  go_wp2_with (first | ((with_reducible refine gate_dst (N := 2) rfl ?_); refine bx 2 #[.int .i64 a0_0, .int .i64 a0_1] 53 ?_; intro gb278 hg w5 hbox hb; have BK278 := Aside0.mk (hbox); have GW278 := gwB HB hg; have GE278 := gwB HB hg; replace HB := bS HB hb; clear hb hbox hg; obtain ⟨hcz6_0, hcz6_1⟩ := cs2 BK278.out; obtain ⟨hfz6_0, hfz6_1⟩ := fz2 BK278.out) | ((with_reducible refine gate_callee (f := 69) rfl ?_); refine gl (some 11) Try.func69 #[.int .i64 a0_1, .int .i64 0, .int .i64 1] ?_; (with_reducible refine (impl_in.calls a0_1 0 1 t279 _ A4.out).mono ?_); rintro e w' ⟨rfl, ⟨nd, rfl⟩⟩; refine ⟨_, rfl, ?_⟩))
  go_ret
  exact ⟨by first | rfl | (simp [errW_none, errW_some] <;> rfl) | (simp [*, errW_none, errW_some] <;> rfl), by exact bw HB.out⟩
 ·
  rw [if_neg c3] at H; obtain ⟨c3b0, c3b1⟩ := eqN c3
  by_cases c7 : a0_0 = 2
  ·
   rw [if_pos c7] at H; obtain ⟨c7b0, c7b1⟩ := eqY c7; clear c7
   replace H := Option.bind_eq_some_iff.mp H
   obtain ⟨t280, A80, H⟩ := H
   replace H : (some t280) = some r := H
   have A8 := Aside0.mk A80
   clear A80
   obtain rfl := Option.some.inj H
   go_enter Try.func88, Try.ntmps88
   go_wp2_with (first | ((with_reducible refine gate_dst (N := 2) rfl ?_); refine bx 2 #[.int .i64 a0_0, .int .i64 a0_1] 53 ?_; intro gb278 hg w9 hbox hb; have BK278 := Aside0.mk (hbox); have GW278 := gwB HB hg; have GE278 := gwB HB hg; replace HB := bS HB hb; clear hb hbox hg; obtain ⟨hcz10_0, hcz10_1⟩ := cs2 BK278.out; obtain ⟨hfz10_0, hfz10_1⟩ := fz2 BK278.out) | ((with_reducible refine gate_callee (f := 69) rfl ?_); refine gl (some 16) Try.func69 #[.int .i64 a0_1, .int .i64 0, .int .i64 99] ?_; (with_reducible refine (impl_in.calls a0_1 0 99 t280 _ A8.out).mono ?_); rintro e w' ⟨rfl, ⟨nd, rfl⟩⟩; refine ⟨_, rfl, ?_⟩))
   go_ret
   exact ⟨by first | rfl | (simp [errW_none, errW_some] <;> rfl) | (simp [*, errW_none, errW_some] <;> rfl), by exact bw HB.out⟩
  ·
   rw [if_neg c7] at H; obtain ⟨c7b0, c7b1⟩ := eqN c7
   by_cases c11 : a0_0 = 3
   ·
    rw [if_pos c11] at H; obtain ⟨c11b0, c11b1⟩ := eqY c11; clear c11
    by_cases c12 : a0_1 ≥ 0
    ·
     rw [if_pos c12] at H; have c12b0 : decide (0 ≤ a0_1) = true := decide_eq_true c12; clear c12
     obtain rfl := Option.some.inj H
     go_enter Try.func88, Try.ntmps88
     go_wp2_with (first | ((with_reducible refine gate_dst (N := 2) rfl ?_); refine bx 2 #[.int .i64 a0_0, .int .i64 a0_1] 53 ?_; intro gb278 hg w13 hbox hb; have BK278 := Aside0.mk (hbox); have GW278 := gwB HB hg; have GE278 := gwB HB hg; replace HB := bS HB hb; clear hb hbox hg; obtain ⟨hcz14_0, hcz14_1⟩ := cs2 BK278.out; obtain ⟨hfz14_0, hfz14_1⟩ := fz2 BK278.out))
     go_ret
     exact ⟨by first | rfl | (simp [errW_none, errW_some] <;> rfl) | (simp [*, errW_none, errW_some] <;> rfl), by exact bw HB.out⟩
    ·
     rw [if_neg c12] at H; have c12b0 : decide (0 ≤ a0_1) = false := decide_eq_false c12; clear c12
     obtain rfl := Option.some.inj H
     go_enter Try.func88, Try.ntmps88
     go_wp2_with (first | ((with_reducible refine gate_dst (N := 2) rfl ?_); refine bx 2 #[.int .i64 a0_0, .int .i64 a0_1] 53 ?_; intro gb278 hg w15 hbox hb; have BK278 := Aside0.mk (hbox); have GW278 := gwB HB hg; have GE278 := gwB HB hg; replace HB := bS HB hb; clear hb hbox hg; obtain ⟨hcz16_0, hcz16_1⟩ := cs2 BK278.out; obtain ⟨hfz16_0, hfz16_1⟩ := fz2 BK278.out))
     go_ret
     exact ⟨by first | rfl | (simp [errW_none, errW_some] <;> rfl) | (simp [*, errW_none, errW_some] <;> rfl), by exact bw HB.out⟩
   ·
    rw [if_neg c11] at H; obtain ⟨c11b0, c11b1⟩ := eqN c11
    obtain rfl := Option.some.inj H
    go_enter Try.func88, Try.ntmps88
    go_wp2_with (first | ((with_reducible refine gate_dst (N := 2) rfl ?_); refine bx 2 #[.int .i64 a0_0, .int .i64 a0_1] 53 ?_; intro gb278 hg w17 hbox hb; have BK278 := Aside0.mk (hbox); have GW278 := gwB HB hg; have GE278 := gwB HB hg; replace HB := bS HB hb; clear hb hbox hg; obtain ⟨hcz18_0, hcz18_1⟩ := cs2 BK278.out; obtain ⟨hfz18_0, hfz18_1⟩ := fz2 BK278.out))
    go_ret
    exact ⟨by first | rfl | (simp [errW_none, errW_some] <;> rfl) | (simp [*, errW_none, errW_some] <;> rfl), by exact bw HB.out⟩

end Go.Proofs.Ytipoeghieeafjaa.P
