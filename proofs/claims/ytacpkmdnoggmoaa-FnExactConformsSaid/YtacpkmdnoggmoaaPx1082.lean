-- Written by a program of this session (wip/tool).
import Derived.Test.YtacpkmdnoggmoaaPx0
namespace Go.Proofs.Ytacpkmdnoggmoaa.P
open Go.RowKit Go.Proofs.YtacpkmdnoggmoaaW.PrintWords Go.Proofs.YtacpkmdnoggmoaaW.PrintLast Go.Proofs.YtacpkmdnoggmoaaW.PrintMore
attribute [local go_sem] max2_int min2_int max_two min_two max_three min_three max_four min_four   -- for this text's walks alone
set_option linter.unusedVariables false
set_option linter.unusedSimpArgs false

/-! ### laws_toKinded: function 82 -/
def laws_toKinded.f (a0_0 : ByteArray) (a0_1 : Int) : Option (ByteArray × Int) := some (a0_0, a0_1)
set_option maxHeartbeats 8000000 in
set_option maxRecDepth 100000 in
theorem laws_toKinded.calls (a0_0 : ByteArray) (a0_1 : Int) (r1 : ByteArray) (r2 : Int) (w : World) (h : laws_toKinded.f a0_0 a0_1 = some (r1, r2)) :
  Calls Try.prog 82 #[.agg #[.string a0_0, .int .i64 a0_1]] w fun e w' => e = .returned (.agg #[.string r1, .int .i64 r2]) ∧ Below w.heap.size w w' := by
 have hu107 := Try.underlying107
 have hu110 := Try.underlying110
 have HB := Aside0.mk (Below.refl w.heap.size w)
 have H : (some (a0_0, a0_1)) = some (r1, r2) := h
 clear h
 simp only [Option.some.injEq, Prod.mk.injEq] at H
 obtain ⟨rfl, rfl⟩ := H
 go_enter Try.func82, Try.ntmps82
 go_wp2_with (first | ((with_reducible refine gate_dst (N := 1) rfl ?_); refine bx 1 #[.string a0_0, .int .i64 a0_1] 107 ?_; intro gb448 hg w2 hbox hb; have BK448 := Aside0.mk (hbox); have GW448 := gwB HB hg; have GE448 := gwB HB hg; replace HB := bS HB hb; clear hb hbox hg) | ((with_reducible refine gate_dst (N := 2) rfl ?_); refine bx 2 #[.string (⟨#[]⟩ : ByteArray), .int .i64 0] 110 ?_; intro gb449 hg w3 hbox hb; have BK449 := Aside0.mk (hbox); have GW449 := gwB HB hg; have GE449 := gwB HB hg; replace HB := bS HB hb; have NB448_449 := nbL BK448 hg; have NB449_448 := nbR BK448 hg; replace BK448 := bB BK448 hb; clear hb hbox hg) | ((with_reducible refine gate_dst (N := 3) rfl ?_); refine bx 3 #[.string (⟨#[]⟩ : ByteArray), .int .i64 0] 110 ?_; intro gb450 hg w4 hbox hb; have BK450 := Aside0.mk (hbox); have GW450 := gwB HB hg; have GE450 := gwB HB hg; replace HB := bS HB hb; have NB448_450 := nbL BK448 hg; have NB450_448 := nbR BK448 hg; replace BK448 := bB BK448 hb; have NB449_450 := nbL BK449 hg; have NB450_449 := nbR BK449 hg; replace BK449 := bB BK449 hb; clear hb hbox hg; have hnb5 := NB448_449.out; have hnc5 := NB449_448.out; have hnb6 := NB448_450.out; have hnc6 := NB450_448.out; obtain ⟨hcz7_0, hcz7_1⟩ := cs2 BK448.out; obtain ⟨hfz7_0, hfz7_1⟩ := fz2 BK448.out; have hnb8 := NB450_449.out; have hnc8 := NB449_450.out; obtain ⟨hcz9_0, hcz9_1⟩ := cs2 BK450.out; obtain ⟨hfz9_0, hfz9_1⟩ := fz2 BK450.out; obtain ⟨hcz10_0, hcz10_1⟩ := cs2 BK449.out; obtain ⟨hfz10_0, hfz10_1⟩ := fz2 BK449.out))
 refine bodyPost_ret (results_cell_row rfl _ _ gb449 110 #[.string a0_0, .int .i64 a0_1] (0, 0) _ rfl (bp BK449) Try.underlying110 rfl (by kernel_rfl)) rfl ?_
 exact ⟨by first | rfl | (simp [errW_none, errW_some] <;> rfl) | (simp [*, errW_none, errW_some] <;> rfl), by exact bw HB.out⟩

/-! ### laws_toKindedS: function 63 -/
def laws_toKindedS.l0 : Nat → List (S107) → List (S110) → Int → Option ((List (S110)))
 | 0, _, _, _ => none
 | k + 1, x0, x3, x4 => if x4 < (x0.length : Int) then (if 0 ≤ x4 then ((laws_toKinded.f ((rd_T107 x0 x4).f0) ((rd_T107 x0 x4).f1)).bind fun bt455 => (if x4 < (x3.length : Int) then (laws_toKindedS.l0 k x0 (x3.set (x4 : Int).toNat (⟨bt455.1, bt455.2⟩ : S110)) (wrap64 (x4 + 1))) else (none))) else (none)) else (some x3)
def laws_toKindedS.f (k : Nat) (l0 : List (S107)) : Option ((List (S110))) := if 0 ≤ (l0.length : Int) then (if ((l0.length : Int) : Int).toNat ≤ 11728124029610 then (laws_toKindedS.l0 k l0 (List.replicate ((l0.length : Int) : Int).toNat z110) 0) else (none)) else (none)
theorem laws_toKindedS.mono_l : ∀ k, (∀ y0 y1 y2, LeO (laws_toKindedS.l0 k y0 y1 y2) (laws_toKindedS.l0 (k + 1) y0 y1 y2))
 | 0 => fun _ _ _ r h => by simp [laws_toKindedS.l0] at h
 | k + 1 => by
  have ih0 := laws_toKindedS.mono_l k
  ·
   intro y0 y1 y2
   unfold laws_toKindedS.l0
   repeat' first
   | (with_reducible exact ih0 _ _ _)
   | (with_reducible exact LeO.refl _)
   | (with_reducible exact LeO.none _)
   | (with_reducible refine LeO.ite ?_ ?_)
   | (with_reducible refine LeO.bind ?_ (fun _ => ?_))
   | exact ih0 _ _ _
   | exact LeO.none _
   | refine LeO.ite ?_ ?_
   | refine LeO.bind ?_ (fun _ => ?_)
theorem laws_toKindedS.mono : ∀ a0 k, LeO (laws_toKindedS.f k a0) (laws_toKindedS.f (k + 1) a0) := by
 intro a0 k
 have ih0 := laws_toKindedS.mono_l k
 unfold laws_toKindedS.f
 repeat' first
   | (with_reducible exact ih0 _ _ _)
   | (with_reducible exact LeO.refl _)
   | (with_reducible exact LeO.none _)
   | (with_reducible refine LeO.ite ?_ ?_)
   | (with_reducible refine LeO.bind ?_ (fun _ => ?_))
   | exact ih0 _ _ _
   | exact LeO.none _
   | refine LeO.ite ?_ ?_
   | refine LeO.bind ?_ (fun _ => ?_)
set_option maxHeartbeats 8000000 in
set_option maxRecDepth 100000 in
theorem laws_toKindedS.calls (k : Nat) (A0 : Option Addr) (c0 : Nat) (l0 : List (S107)) (r : List (S110)) (w : World) (hr0 : Kd.C k107 w A0 l0.length l0) (hc0 : l0.length ≤ c0) (h : laws_toKindedS.f k l0 = some r) :
  Calls Try.prog 63 #[.slice A0 l0.length c0] w fun e w' => ∃ v0_ : Value, e = .returned (v0_) ∧ Kd.R k110 110 w' w.heap.size (fun _ => True) v0_ r ∧ Below w.heap.size w w' := by
 have hu107 := Try.underlying107
 have hu110 := Try.underlying110
 have HR0 := Aside0.mk hr0
 have HC0 := Aside0.mk hc0
 clear hr0 hc0
 have HB := Aside0.mk (Below.refl w.heap.size w)
 have H : (if 0 ≤ (l0.length : Int) then (if ((l0.length : Int) : Int).toNat ≤ 11728124029610 then (laws_toKindedS.l0 k l0 (List.replicate ((l0.length : Int) : Int).toNat z110) 0) else (none)) else (none)) = some r := h
 clear h
 by_cases c2 : 0 ≤ (l0.length : Int)
 ·
  rw [if_pos c2] at H; have c2b0 := eq_true c2
  have c2b1 : decide (0 ≤ (l0.length : Int)) = true := decide_eq_true c2
  clear c2
  by_cases c3 : ((l0.length : Int) : Int).toNat ≤ 11728124029610
  ·
   rw [if_pos c3] at H; have c3b0 := eq_true c3
   have c3b1 : decide (((l0.length : Int) : Int).toNat ≤ 11728124029610) = true := decide_eq_true c3
   clear c3
   obtain ⟨y451, hy451⟩ : ∃ y_ : List (S110), y_ = (List.replicate ((l0.length : Int) : Int).toNat z110) := ⟨_, rfl⟩
   replace H : (laws_toKindedS.l0 k l0 y451 0) = some r := by first | (rw [hy451]; with_reducible exact H) | (have H2_ := (Option.bind_some _ _).symm.trans H; rw [hy451]; with_reducible exact H2_) | (have H2_ := (Option.bind_some _ _).symm.trans H; with_reducible exact H2_) | with_reducible exact H | (rw [hy451]; exact H) | exact H
   have Ny451 := Aside0.mk hy451
   clear hy451
   have H' := Aside0.mk H
   clear H
   go_enter Try.func63, Try.ntmps63
   go_wp2_with (first | ((with_reducible refine gate_dst (N := 7) rfl ?_); refine Kd.R_make k110 _ 110 rfl (N := 7) rfl 60 _ _ rfl (l0.length : Int) rfl rfl Try.underlying60 (.agg #[(.string ⟨#[]⟩), (.int .i64 0)]) 24 info110 rfl (by decide) (by omega) z110 (ok := fun _ => True) (okp := fun _ => True) (k110_mkM _ _ _ z110 ) (fun _ hk => hk) trivial (of_decide_eq_true (by first | (with_reducible assumption) | assumption)) (Nat.le_trans (Nat.mul_le_mul_right _ (of_decide_eq_true (by first | (with_reducible assumption) | assumption) : (l0.length : Int).toNat ≤ 11728124029610)) (by omega)) (Below.refl _ _) (Nat.le_refl _) ?_; intro v452 w4 ho5 hb hg_ hnew_; clear hg_ hnew_; (first | rw [← Ny451.out] at ho5 | (simp only [Int.reduceToNat] at ho5; rw [← Ny451.out] at ho5)); have HO453 := Aside0.mk (Kd.R_lower ho5 (below_size (by exact bw HB.out))); replace HB := bS HB hb; clear hb ho5))
   go_loopg [4] k (fun kq v4 w' => ∃ (x3_1 : List (S110)) (x4_1 : Int), v4 = .int .i64 x4_1 ∧ Aside0 (laws_toKindedS.l0 kq l0 x3_1 x4_1 = some r) ∧ Aside0 (kq ≤ k) ∧ Aside0 (Kd.R k110 110 w' w.heap.size (fun _ => True) v452 x3_1) ∧ Aside0 (Below w.heap.size w w'))
   case atStart => exact ⟨(y451), (0), (by first | rfl | (simp; done) | (simp [*]; done)), H', ⟨Nat.le_refl _⟩, ⟨by exact Kd.xR HO453.out⟩, ⟨by exact bw HB.out⟩⟩
   case round =>
    clear H'
    try clear c2
    try clear c2b0
    try clear c2b1
    try clear p2
    try clear c3
    try clear c3b0
    try clear c3b1
    obtain ⟨x3_1, x4_1, rfl, HA, HK1, HO_3, HB⟩ := hrel
    cases gk with
    | zero => exact absurd HA.out (by simp [laws_toKindedS.l0])
    | succ k1 =>
     have H := HA.out
     clear HA
     simp only [laws_toKindedS.l0] at H
     by_cases c6 : x4_1 < (l0.length : Int)
     ·
      rw [if_pos c6] at H; have c6b0 : decide (x4_1 < (l0.length : Int)) = true := decide_eq_true c6; clear c6
      by_cases c7 : 0 ≤ x4_1
      ·
       rw [if_pos c7] at H; have c7b0 : decide (0 ≤ x4_1) = true := decide_eq_true c7; clear c7
       replace H := Option.bind_eq_some_iff.mp H
       obtain ⟨⟨t455, t456⟩, A80, H⟩ := H
       replace H : (if x4_1 < (x3_1.length : Int) then (laws_toKindedS.l0 k1 l0 (x3_1.set (x4_1 : Int).toNat (⟨t455, t456⟩ : S110)) (wrap64 (x4_1 + 1))) else (none)) = some r := H
       have A8 := Aside0.mk A80
       clear A80
       by_cases c9 : x4_1 < (x3_1.length : Int)
       ·
        rw [if_pos c9] at H; have c9b0 : decide (x4_1 < (x3_1.length : Int)) = true := decide_eq_true c9; clear c9
        obtain ⟨y457, hy457⟩ : ∃ y_ : List (S110), y_ = (x3_1.set (x4_1 : Int).toNat (⟨t455, t456⟩ : S110)) := ⟨_, rfl⟩
        replace H : (laws_toKindedS.l0 k1 l0 y457 (wrap64 (x4_1 + 1))) = some r := by first | (rw [hy457]; with_reducible exact H) | (have H2_ := (Option.bind_some _ _).symm.trans H; rw [hy457]; with_reducible exact H2_) | (have H2_ := (Option.bind_some _ _).symm.trans H; with_reducible exact H2_) | with_reducible exact H | (rw [hy457]; exact H) | exact H
        have Ny457 := Aside0.mk hy457
        clear hy457
        have H' := Aside0.mk H
        clear H
        have p454 : 0 ≤ (x4_1 : Int) := of_decide_eq_true (by first | (with_reducible assumption) | assumption)
        have q454 : x4_1 < (l0.length : Int) := of_decide_eq_true (by first | (with_reducible assumption) | assumption)
        obtain ⟨ad454, e454, hx454_0, hx454_1⟩ := at_T107 HR0.out x4_1 p454 q454
        cases e454
        first | replace hx454_0 := (HB.out.cell (World.block_lt_of_cell? w _ hx454_0)).trans hx454_0 | skip
        first | replace hx454_1 := (HB.out.cell (World.block_lt_of_cell? w _ hx454_1)).trans hx454_1 | skip
        replace p454 := eq_true p454
        replace q454 := eq_true q454
        go_wp2_with (first | ((with_reducible refine gate_callee (f := 82) rfl ?_); refine gl (some 20) Try.func82 #[.agg #[.string ((rd_T107 l0 x4_1).f0), .int .i64 ((rd_T107 l0 x4_1).f1)]] ?_; (with_reducible refine (laws_toKinded.calls ((rd_T107 l0 x4_1).f0) ((rd_T107 l0 x4_1).f1) t455 t456 _ A8.out).mono ?_); rintro e w11 ⟨rfl, hb⟩; refine ⟨_, rfl, ?_⟩; replace HO_3 := Aside0.mk (Kd.R_below (by exact Kd.xR HO_3.out) hb); replace HB := bS HB hb; (try clear hb); (try clear hb2); (try clear hk); (try clear hi); have p10 : 0 ≤ (x4_1 : Int) := of_decide_eq_true (by first | (with_reducible assumption) | assumption); have q10 : (x4_1 : Int) < ((x3_1.length : Int) : Int) := of_decide_eq_true (by first | (with_reducible assumption) | assumption); obtain ⟨go10, co10, eo10, gb10, gl10, cl10, HG10⟩ := Kd.R_form HO_3.out (by omega); (first | cases eo10 | (injection eo10 with ea_ en_ ec_; (first | subst ea_ | (injection ea_ with ea_; subst ea_)); subst ec_; clear en_)); have GB10 := Aside0.mk gb10; have GG10 := Aside0.mk HG10; clear gb10 gl10 HG10; obtain ⟨ce10, hcl10, hM10, hcc10, hfr10⟩ := Kd.R_elem HO_3.out z110 (x4_1 : Int) p10 q10; obtain rfl := k110_openM hM10; have hx10_0 : w11.cell? ⟨go10, (x4_1 : Int).toNat * 2, none⟩ = some (.string ((rd_T110 x3_1 x4_1).f0)) := hcc10 0 _ rfl; have hx10_1 : w11.cell? ⟨go10, (x4_1 : Int).toNat * 2 + 1, none⟩ = some (.int .i64 ((rd_T110 x3_1 x4_1).f1)) := hcc10 1 _ rfl; have hf10_0 : w11.frozen? ⟨go10, (x4_1 : Int).toNat * 2, none⟩ = false := hfr10 0; have hf10_1 : w11.frozen? ⟨go10, (x4_1 : Int).toNat * 2 + 1, none⟩ = false := hfr10 1; clear hcl10 hcc10 hfr10 hM10; replace p10 := eq_true p10; replace q10 := eq_true q10; have HX12 := Aside0.mk (show Kd.R k110 110 w11 w.heap.size (fun _ => True) (.slice (some ⟨go10, 0, none⟩) x3_1.length co10) x3_1 from (by exact Kd.xR HO_3.out)); obtain ⟨ce12, hcl12, hM12, hcc12, hfr12⟩ := Kd.R_elem HX12.out z110 (x4_1 : Int) (of_decide_eq_true (by first | (with_reducible assumption) | assumption)) (by have h_ : (x4_1 : Int) < ((x3_1.length : Int) : Int) := of_decide_eq_true (by first | (with_reducible assumption) | assumption); first | exact h_ | (have e_ := (Kd.R_reads' HO_3.out).1; omega) | simpa using h_); obtain rfl := k110_openM hM12; have HP12 := Kd.R_seg HX12.out (x4_1 : Int) (of_decide_eq_true (by first | (with_reducible assumption) | assumption)) (by have h_ : (x4_1 : Int) < ((x3_1.length : Int) : Int) := of_decide_eq_true (by first | (with_reducible assumption) | assumption); first | exact h_ | (have e_ := (Kd.R_reads' HO_3.out).1; omega) | simpa using h_) (seg := [.string t455, .int .i64 t456]) (j := 0) hcl12 hcc12 (show 2 ≤ 2 from by decide) (x' := (⟨t455, t456⟩ : S110)) (k110_mkM _ _ _ (⟨t455, t456⟩ : S110) ) (fun _ hk => hk); have hx12_0 := hcc12 0 _ rfl; (try simp only [show (k110).sz = 2 from rfl, Nat.mul_one, Nat.add_zero] at hx12_0); have hf12_0 := hfr12 0; (try simp only [show (k110).sz = 2 from rfl, Nat.mul_one, Nat.add_zero] at hf12_0); have hx12_1 := hcc12 1 _ rfl; (try simp only [show (k110).sz = 2 from rfl, Nat.mul_one, Nat.add_zero] at hx12_1); have hf12_1 := hfr12 1; (try simp only [show (k110).sz = 2 from rfl, Nat.mul_one, Nat.add_zero] at hf12_1); clear hcl12 hcc12 hfr12 hM12) | ((with_reducible refine gate_store (t := 110) (p := 21) rfl ?_); refine store_event (t := 110) (p := 21) (v := ?vo_w13) (w1 := ((w11.setCell ⟨go10, (x4_1 : Int).toNat * 2, none⟩ (.string t455)).setCell ⟨go10, (x4_1 : Int).toNat * 2 + 1, none⟩ (.int .i64 t456))) ?hg ?ho ?hn ?hr ?_; (case ho => rfl); (case hg => rfl); (case hn => rfl); (case hr => first | (go_simp; done) | (go_simp; rfl)); intro w13 hw; have hg : w11.grownBy w13 (some go10) := (by rw [hw]; exact HP12.2); have hp_ : Kd.R k110 110 w13 w.heap.size (fun _ => True) (.slice (some ⟨go10, 0, none⟩) x3_1.length co10) y457 := (by rw [hw, Ny457.out]; exact HP12.1); clear HP12; replace HO_3 := Aside0.mk (hp_); replace HB := Aside0.mk ((by rw [hw]; exact below_set (below_set (HB.out) GB10.out) GB10.out : Below w.heap.size w w13)); clear hg hw hp_))
        go_roundg k1
        case measure => have := HK1.out; omega
        case rel => exact ⟨(y457), (wrap64 (x4_1 + 1)), (by first | rfl | (simp; done) | (simp [*]; done)), H', ⟨by have := HK1.out; omega⟩, ⟨by exact Kd.xR HO_3.out⟩, ⟨by exact bw HB.out⟩⟩
       ·
        rw [if_neg c9] at H; exact absurd H (by simp)
      ·
       rw [if_neg c7] at H; exact absurd H (by simp)
     ·
      rw [if_neg c6] at H; have c6b0 : decide (x4_1 < (l0.length : Int)) = false := decide_eq_false c6; clear c6
      obtain rfl := Option.some.inj H
      go_wp2
      go_ret
      exact ⟨_, by first | rfl | (simp [errW_none, errW_some] <;> rfl) | (simp [*, errW_none, errW_some] <;> rfl), by exact Kd.xR HO_3.out, by exact bw HB.out⟩
  ·
   rw [if_neg c3] at H; exact absurd H (by simp)
 ·
  rw [if_neg c2] at H; exact absurd H (by simp)

/-! ### laws_toSchema: function 38 -/
def laws_toSchema.f (k : Nat) (l0_0 : List (S107)) (l0_1 : List (S107)) : Option ((List (S110)) × (List (S110))) := (laws_toKindedS.f k l0_0).bind fun t461 => ((laws_toKindedS.f k l0_1).bind fun t464 => (some (t461, t464)))
theorem laws_toSchema.mono : ∀ a0 a1 k, LeO (laws_toSchema.f k a0 a1) (laws_toSchema.f (k + 1) a0 a1) := by
 intro a0 a1 k
 unfold laws_toSchema.f
 repeat' first
   | (with_reducible exact laws_toKindedS.mono _ _)
   | (with_reducible exact LeO.refl _)
   | (with_reducible exact LeO.none _)
   | (with_reducible refine LeO.ite ?_ ?_)
   | (with_reducible refine LeO.bind ?_ (fun _ => ?_))
   | exact laws_toKindedS.mono _ _
   | exact LeO.none _
   | refine LeO.ite ?_ ?_
   | refine LeO.bind ?_ (fun _ => ?_)
set_option maxHeartbeats 8000000 in
set_option maxRecDepth 100000 in
theorem laws_toSchema.calls (k : Nat) (A0_0 : Option Addr) (c0_0 : Nat) (l0_0 : List (S107)) (A0_1 : Option Addr) (c0_1 : Nat) (l0_1 : List (S107)) (r1 : List (S110)) (r2 : List (S110)) (w : World) (hr0_0 : Kd.C k107 w A0_0 l0_0.length l0_0) (hc0_0 : l0_0.length ≤ c0_0) (hr0_1 : Kd.C k107 w A0_1 l0_1.length l0_1) (hc0_1 : l0_1.length ≤ c0_1) (h : laws_toSchema.f k l0_0 l0_1 = some (r1, r2)) :
  Calls Try.prog 38 #[.agg #[.slice A0_0 l0_0.length c0_0, .slice A0_1 l0_1.length c0_1]] w fun e w' => ∃ v0_ v1_ : Value, e = .returned (.agg #[v0_, v1_]) ∧ Kd.R k110 110 w' w.heap.size (fun k_ => some k_ ≠ (v1_ : Value).ownBlock) v0_ r1 ∧ Kd.R k110 110 w' w.heap.size (fun k_ => some k_ ≠ (v0_ : Value).ownBlock) v1_ r2 ∧ Below w.heap.size w w' := by
 have hu57 := Try.underlying57
 have hu62 := Try.underlying62
 have HR0_0 := Aside0.mk hr0_0
 have HC0_0 := Aside0.mk hc0_0
 clear hr0_0 hc0_0
 have HR0_1 := Aside0.mk hr0_1
 have HC0_1 := Aside0.mk hc0_1
 clear hr0_1 hc0_1
 have HB := Aside0.mk (Below.refl w.heap.size w)
 have H : ((laws_toKindedS.f k l0_0).bind fun t461 => ((laws_toKindedS.f k l0_1).bind fun t464 => (some (t461, t464)))) = some (r1, r2) := h
 clear h
 replace H := Option.bind_eq_some_iff.mp H
 obtain ⟨t461, A20, H⟩ := H
 replace H : ((laws_toKindedS.f k l0_1).bind fun t464 => (some (t461, t464))) = some (r1, r2) := H
 have A2 := Aside0.mk A20
 clear A20
 replace H := Option.bind_eq_some_iff.mp H
 obtain ⟨t464, A30, H⟩ := H
 replace H : (some (t461, t464)) = some (r1, r2) := H
 have A3 := Aside0.mk A30
 clear A30
 simp only [Option.some.injEq, Prod.mk.injEq] at H
 obtain ⟨rfl, rfl⟩ := H
 go_enter Try.func38, Try.ntmps38
 go_wp2_with (first | ((with_reducible refine gate_dst (N := 1) rfl ?_); refine bx 1 #[.slice A0_0 l0_0.length c0_0, .slice A0_1 l0_1.length c0_1] 57 ?_; intro gb458 hg w4 hbox hb; have BK458 := Aside0.mk (hbox); have GW458 := gwB HB hg; have GE458 := gwB HB hg; replace HB := bS HB hb; clear hb hbox hg) | ((with_reducible refine gate_dst (N := 2) rfl ?_); refine bx 2 #[.slice none 0 0, .slice none 0 0] 62 ?_; intro gb459 hg w5 hbox hb; have BK459 := Aside0.mk (hbox); have GW459 := gwB HB hg; have GE459 := gwB HB hg; replace HB := bS HB hb; have NB458_459 := nbL BK458 hg; have NB459_458 := nbR BK458 hg; replace BK458 := bB BK458 hb; clear hb hbox hg) | ((with_reducible refine gate_dst (N := 3) rfl ?_); refine bx 3 #[.slice none 0 0, .slice none 0 0] 62 ?_; intro gb460 hg w6 hbox hb; have BK460 := Aside0.mk (hbox); have GW460 := gwB HB hg; have GE460 := gwB HB hg; replace HB := bS HB hb; have NB458_460 := nbL BK458 hg; have NB460_458 := nbR BK458 hg; replace BK458 := bB BK458 hb; have NB459_460 := nbL BK459 hg; have NB460_459 := nbR BK459 hg; replace BK459 := bB BK459 hb; clear hb hbox hg; have hnb7 := NB458_459.out; have hnc7 := NB459_458.out; have hnb8 := NB458_460.out; have hnc8 := NB460_458.out; obtain ⟨hcz9_0, hcz9_1⟩ := cs2 BK458.out; obtain ⟨hfz9_0, hfz9_1⟩ := fz2 BK458.out) | ((with_reducible refine gate_callee (f := 63) rfl ?_); refine gl (some 6) Try.func63 #[.slice A0_0 l0_0.length c0_0] ?_; (with_reducible refine (laws_toKindedS.calls k _ _ l0_0 t461 _ ?side1 ?side2 A2.out).mono ?_); (case side1 => repeat (first | exact (Kd.C_below HR0_0.out HB.out) | (with_reducible refine Kd.C_alloc ?_ _) | (with_reducible refine Kd.C_drewN ?_ _) | (with_reducible refine Kd.C_drew ?_))); (case side2 => exact HC0_0.out); rintro e w10 ⟨v462, rfl, ho0, hb⟩; refine ⟨_, rfl, ?_⟩; have HO463 := Aside0.mk (Kd.R_lower ho0 (below_size (by exact bw HB.out))); replace BK458 := bB BK458 hb; replace BK459 := bB BK459 hb; replace BK460 := bB BK460 hb; replace HB := bS HB hb; (try clear hb); (try clear hb2); (try clear hk); (try clear hi); (try clear ho0); obtain ⟨Ao11, co11, eo11⟩ := Kd.R_slice HO463.out; subst eo11; have hnb12 := NB460_459.out; have hnc12 := NB459_460.out; obtain ⟨hcz13_0, hcz13_1⟩ := cs2 BK460.out; obtain ⟨hfz13_0, hfz13_1⟩ := fz2 BK460.out; obtain ⟨hcz14_0, hcz14_1⟩ := cs2 BK458.out; obtain ⟨hfz14_0, hfz14_1⟩ := fz2 BK458.out) | ((with_reducible refine gate_callee (f := 63) rfl ?_); refine gl (some 10) Try.func63 #[.slice A0_1 l0_1.length c0_1] ?_; (with_reducible refine (laws_toKindedS.calls k _ _ l0_1 t464 _ ?side1 ?side2 A3.out).mono ?_); (case side1 => exact Kd.C_below HR0_1.out (by exact bw HB.out)); (case side2 => exact HC0_1.out); rintro e w15 ⟨v465, rfl, ho0, hb⟩; refine ⟨_, rfl, ?_⟩; have HO466 := Aside0.mk (Kd.R_lower (Kd.R_new' ho0 (Kd.R_lt (by (with_reducible repeat (first | apply Kd.R_alloc | apply Kd.R_drewN | apply Kd.R_drew)); exact (Kd.R_mono (Kd.R_far (p := ⟨gb460, 0, none⟩) (Kd.R_types HO463.out BK460.out (by decide)) (fun _ hk => hk.2) (.slice Ao11 t461.length co11)) (fun _ h_ => h_.1))))) (below_size (by exact bw HB.out))); replace HO463 := Aside0.mk (Kd.R_elder' (by (with_reducible repeat (first | apply Kd.R_alloc | apply Kd.R_drewN | apply Kd.R_drew)); exact (Kd.R_mono (Kd.R_far (p := ⟨gb460, 0, none⟩) (Kd.R_types HO463.out BK460.out (by decide)) (fun _ hk => hk.2) (.slice Ao11 t461.length co11)) (fun _ h_ => h_.1))) (Kd.R_base ho0) hb); replace BK458 := Aside0.mk (blk_below (g := gb458) (o := .cells #[.slice A0_0 l0_0.length c0_0, .slice A0_1 l0_1.length c0_1] 57 (0, 0)) (bo BK458) hb); replace BK459 := Aside0.mk (blk_below (g := gb459) (o := .cells #[.slice none 0 0, .slice none 0 0] 62 (0, 0)) (bo BK459) hb); replace BK460 := Aside0.mk (blk_below (g := gb460) (o := .cells #[.slice Ao11 t461.length co11, .slice none 0 0] 62 (0, 0)) (bp BK460) hb); replace HB := bS HB hb; (try clear hb); (try clear hb2); (try clear hk); (try clear hi); (try clear ho0); obtain ⟨Ao16, co16, eo16⟩ := Kd.R_slice HO466.out; subst eo16; obtain ⟨hcz17_0, hcz17_1⟩ := cs2 BK460.out; obtain ⟨hfz17_0, hfz17_1⟩ := fz2 BK460.out; obtain ⟨hcz18_0, hcz18_1⟩ := cs2 BK459.out; obtain ⟨hfz18_0, hfz18_1⟩ := fz2 BK459.out))
 refine bodyPost_ret (results_cell_row rfl _ _ gb459 62 #[.slice Ao11 t461.length co11, .slice Ao16 t464.length co16] (0, 0) _ rfl (bp BK459) Try.underlying62 rfl (by kernel_rfl)) rfl ?_
 exact ⟨_, _, by first | rfl | (simp [errW_none, errW_some] <;> rfl) | (simp [*, errW_none, errW_some] <;> rfl), by (with_reducible repeat (first | apply Kd.R_alloc | apply Kd.R_drewN | apply Kd.R_drew)); exact Kd.R_mono (Kd.R_far (p := ⟨gb459, 1, none⟩) (Kd.R_far (p := ⟨gb459, 0, none⟩) (Kd.R_far (p := ⟨gb460, 1, none⟩) (Kd.R_types (Kd.R_types HO463.out BK460.out (by decide)) BK459.out (by decide)) (fun _ hk => hk.1.2) (.slice Ao16 t464.length co16)) (fun _ hk => hk.2) (.slice Ao11 t461.length co11)) (fun _ hk => hk.2) (.slice Ao16 t464.length co16)) (fun _ hk => hk.1.1.2), by (with_reducible repeat (first | apply Kd.R_alloc | apply Kd.R_drewN | apply Kd.R_drew)); exact Kd.R_mono (Kd.R_far (p := ⟨gb459, 1, none⟩) (Kd.R_far (p := ⟨gb459, 0, none⟩) (Kd.R_far (p := ⟨gb460, 1, none⟩) (Kd.R_types (Kd.R_types HO466.out BK460.out (by decide)) BK459.out (by decide)) (fun _ hk => hk.1.2) (.slice Ao16 t464.length co16)) (fun _ hk => hk.2) (.slice Ao11 t461.length co11)) (fun _ hk => hk.2) (.slice Ao16 t464.length co16)) (fun _ hk => hk.1.1.2), by exact bw HB.out⟩

/-! ### impl_kindIn: function 83 -/
def impl_kindIn.l0 : Nat → ByteArray → List (S110) → Int → Int → Option (Int)
 | 0, _, _, _, _ => none
 | k + 1, x1, x7, x8, x9 => if x9 < x8 then (if 0 ≤ x9 then (if x9 < (x7.length : Int) then (if ((rd_T110 x7 x9).f0).toList = x1.toList then (some ((rd_T110 x7 x9).f1)) else (impl_kindIn.l0 k x1 x7 x8 (wrap64 (x9 + 1)))) else (none)) else (none)) else (some 0)
def impl_kindIn.f (k : Nat) (l0 : List (S110)) (a1 : ByteArray) : Option (Int) := impl_kindIn.l0 k a1 l0 (l0.length : Int) 0
theorem impl_kindIn.mono_l : ∀ k, (∀ y0 y1 y2 y3, LeO (impl_kindIn.l0 k y0 y1 y2 y3) (impl_kindIn.l0 (k + 1) y0 y1 y2 y3))
 | 0 => fun _ _ _ _ r h => by simp [impl_kindIn.l0] at h
 | k + 1 => by
  have ih0 := impl_kindIn.mono_l k
  ·
   intro y0 y1 y2 y3
   unfold impl_kindIn.l0
   repeat' first
   | (with_reducible exact ih0 _ _ _ _)
   | (with_reducible exact LeO.refl _)
   | (with_reducible exact LeO.none _)
   | (with_reducible refine LeO.ite ?_ ?_)
   | (with_reducible refine LeO.bind ?_ (fun _ => ?_))
   | exact ih0 _ _ _ _
   | exact LeO.none _
   | refine LeO.ite ?_ ?_
   | refine LeO.bind ?_ (fun _ => ?_)
theorem impl_kindIn.mono : ∀ a0 a1 k, LeO (impl_kindIn.f k a0 a1) (impl_kindIn.f (k + 1) a0 a1) := by
 intro a0 a1 k
 have ih0 := impl_kindIn.mono_l k
 unfold impl_kindIn.f
 repeat' first
   | (with_reducible exact ih0 _ _ _ _)
   | (with_reducible exact LeO.refl _)
   | (with_reducible exact LeO.none _)
   | (with_reducible refine LeO.ite ?_ ?_)
   | (with_reducible refine LeO.bind ?_ (fun _ => ?_))
   | exact ih0 _ _ _ _
   | exact LeO.none _
   | refine LeO.ite ?_ ?_
   | refine LeO.bind ?_ (fun _ => ?_)
set_option maxHeartbeats 8000000 in
set_option maxRecDepth 100000 in
theorem impl_kindIn.calls (k : Nat) (A0 : Option Addr) (c0 : Nat) (l0 : List (S110)) (a1 : ByteArray) (r : Int) (w : World) (hr0 : Kd.C k110 w A0 l0.length l0) (hc0 : l0.length ≤ c0) (h : impl_kindIn.f k l0 a1 = some r) :
  Calls Try.prog 83 #[.slice A0 l0.length c0, .string a1] w fun e w' => e = .returned (.int .i64 r) ∧ Below w.heap.size w w' := by
 have hu110 := Try.underlying110
 have HR0 := Aside0.mk hr0
 have HC0 := Aside0.mk hc0
 clear hr0 hc0
 have HB := Aside0.mk (Below.refl w.heap.size w)
 have H : (impl_kindIn.l0 k a1 l0 (l0.length : Int) 0) = some r := h
 clear h
 have H' := Aside0.mk H
 clear H
 go_enter Try.func83, Try.ntmps83
 go_wp2
 go_loopg [9] k (fun kq v9 w' => ∃ (x9_1 : Int), v9 = .int .i64 x9_1 ∧ Aside0 (impl_kindIn.l0 kq a1 l0 (l0.length : Int) x9_1 = some r) ∧ Aside0 (kq ≤ k) ∧ Aside0 (Below w.heap.size w w'))
 case atStart => exact ⟨(0), (by first | rfl | (simp; done) | (simp [*]; done)), H', ⟨Nat.le_refl _⟩, ⟨by exact bw HB.out⟩⟩
 case round =>
  clear H'
  try clear p2
  obtain ⟨x9_1, rfl, HA, HK1, HB⟩ := hrel
  cases gk with
  | zero => exact absurd HA.out (by simp [impl_kindIn.l0])
  | succ k1 =>
   have H := HA.out
   clear HA
   simp only [impl_kindIn.l0] at H
   by_cases c3 : x9_1 < (l0.length : Int)
   ·
    rw [if_pos c3] at H; have c3b0 : decide (x9_1 < (l0.length : Int)) = true := decide_eq_true c3; clear c3
    by_cases c4 : 0 ≤ x9_1
    ·
     rw [if_pos c4] at H; have c4b0 : decide (0 ≤ x9_1) = true := decide_eq_true c4; clear c4
     by_cases c5 : x9_1 < (l0.length : Int)
     ·
      rw [if_pos c5] at H; have c5b0 : decide (x9_1 < (l0.length : Int)) = true := decide_eq_true c5; clear c5
      by_cases c6 : ((rd_T110 l0 x9_1).f0).toList = a1.toList
      ·
       rw [if_pos c6] at H; obtain ⟨c6b0, c6b1⟩ := eqY c6; clear c6
       obtain rfl := Option.some.inj H
       have p467 : 0 ≤ (x9_1 : Int) := of_decide_eq_true (by first | (with_reducible assumption) | assumption)
       have q467 : x9_1 < (l0.length : Int) := of_decide_eq_true (by first | (with_reducible assumption) | assumption)
       obtain ⟨ad467, e467, hx467_0, hx467_1⟩ := at_T110 HR0.out x9_1 p467 q467
       cases e467
       first | replace hx467_0 := (HB.out.cell (World.block_lt_of_cell? w _ hx467_0)).trans hx467_0 | skip
       first | replace hx467_1 := (HB.out.cell (World.block_lt_of_cell? w _ hx467_1)).trans hx467_1 | skip
       replace p467 := eq_true p467
       replace q467 := eq_true q467
       go_wp2_with (first | ((with_reducible refine gate_dst (N := 6) rfl ?_); refine bx 6 #[.string (⟨#[]⟩ : ByteArray), .int .i64 0] 110 ?_; intro gb468 hg w7 hbox hb; have BK468 := Aside0.mk (hbox); have GW468 := gwB HB hg; have GE468 := gwB HB hg; replace HB := bS HB hb; clear hb hbox hg; obtain ⟨hcz8_0, hcz8_1⟩ := cs2 BK468.out; obtain ⟨hfz8_0, hfz8_1⟩ := fz2 BK468.out))
       go_ret
       exact ⟨by first | rfl | (simp [errW_none, errW_some] <;> rfl) | (simp [*, errW_none, errW_some] <;> rfl), by exact bw HB.out⟩
      ·
       rw [if_neg c6] at H; obtain ⟨c6b0, c6b1⟩ := eqN c6
       have H' := Aside0.mk H
       clear H
       have p467 : 0 ≤ (x9_1 : Int) := of_decide_eq_true (by first | (with_reducible assumption) | assumption)
       have q467 : x9_1 < (l0.length : Int) := of_decide_eq_true (by first | (with_reducible assumption) | assumption)
       obtain ⟨ad467, e467, hx467_0, hx467_1⟩ := at_T110 HR0.out x9_1 p467 q467
       cases e467
       first | replace hx467_0 := (HB.out.cell (World.block_lt_of_cell? w _ hx467_0)).trans hx467_0 | skip
       first | replace hx467_1 := (HB.out.cell (World.block_lt_of_cell? w _ hx467_1)).trans hx467_1 | skip
       replace p467 := eq_true p467
       replace q467 := eq_true q467
       go_wp2_with (first | ((with_reducible refine gate_dst (N := 6) rfl ?_); refine bx 6 #[.string (⟨#[]⟩ : ByteArray), .int .i64 0] 110 ?_; intro gb468 hg w9 hbox hb; have BK468 := Aside0.mk (hbox); have GW468 := gwB HB hg; have GE468 := gwB HB hg; replace HB := bS HB hb; clear hb hbox hg; obtain ⟨hcz10_0, hcz10_1⟩ := cs2 BK468.out; obtain ⟨hfz10_0, hfz10_1⟩ := fz2 BK468.out))
       go_roundg k1
       case measure => have := HK1.out; omega
       case rel => exact ⟨(wrap64 (x9_1 + 1)), (by first | rfl | (simp; done) | (simp [*]; done)), H', ⟨by have := HK1.out; omega⟩, ⟨by exact bw HB.out⟩⟩
     ·
      rw [if_neg c5] at H; exact absurd H (by simp)
    ·
     rw [if_neg c4] at H; exact absurd H (by simp)
   ·
    rw [if_neg c3] at H; have c3b0 : decide (x9_1 < (l0.length : Int)) = false := decide_eq_false c3; clear c3
    obtain rfl := Option.some.inj H
    go_wp2
    go_ret
    exact ⟨by first | rfl | (simp [errW_none, errW_some] <;> rfl) | (simp [*, errW_none, errW_some] <;> rfl), by exact bw HB.out⟩

end Go.Proofs.Ytacpkmdnoggmoaa.P
