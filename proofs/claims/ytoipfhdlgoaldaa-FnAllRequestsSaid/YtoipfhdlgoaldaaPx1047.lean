-- Written by a program of this session (wip/tool).
import Derived.Test.YtoipfhdlgoaldaaWm
import Derived.Test.YtoipfhdlgoaldaaPx0
import Derived.Test.YtoipfhdlgoaldaaPx1008
namespace Go.Proofs.Ytoipfhdlgoaldaa.P
open Go.RowKit Go.Proofs.YtoipfhdlgoaldaaW.PrintWords Go.Proofs.YtoipfhdlgoaldaaW.PrintLast Go.Proofs.YtoipfhdlgoaldaaW.PrintMore
attribute [local go_sem] max2_int min2_int max_two min_two max_three min_three max_four min_four   -- for this text's walks alone
set_option linter.unusedVariables false
set_option linter.unusedSimpArgs false

/-! ### impl_fieldsValid: function 47 -/
def impl_fieldsValid.l0 : Nat → List (S55) → Int → List (S55) → Int → Int → List ByteArray → Option (Bool)
 | 0, _, _, _, _, _, _ => none
 | k + 1, x0, x1, x9, x10, x11, x201000 => if x11 < x10 then (if 0 ≤ x11 then (if x11 < (x9.length : Int) then ((impl_NameValid.f k ((rd_T55 x9 x11).f0)).bind fun t203 => (if t203 = true then (if memB ((rd_T55 x9 x11).f0) x201000 = true then (some false) else ((impl_ValueValid.f ((rd_T55 x9 x11).f1.f0) ((rd_T55 x9 x11).f1.f1) x1).bind fun t204 => (if t204 = true then (impl_fieldsValid.l0 k x0 x1 x9 x10 (wrap64 (x11 + 1)) (insB ((rd_T55 x9 x11).f0) x201000)) else (some false)))) else (some false))) else (none)) else (none)) else (some (decide ((x0.length : Int) ≤ 4)))
def impl_fieldsValid.f (k : Nat) (l0 : List (S55)) (a1 : Int) : Option (Bool) := impl_fieldsValid.l0 k l0 a1 l0 (l0.length : Int) 0 ([] : List ByteArray)
theorem impl_fieldsValid.mono_l : ∀ k, (∀ y0 y1 y2 y3 y4 y5, LeO (impl_fieldsValid.l0 k y0 y1 y2 y3 y4 y5) (impl_fieldsValid.l0 (k + 1) y0 y1 y2 y3 y4 y5))
 | 0 => fun _ _ _ _ _ _ r h => by simp [impl_fieldsValid.l0] at h
 | k + 1 => by
  have ih0 := impl_fieldsValid.mono_l k
  ·
   intro y0 y1 y2 y3 y4 y5
   unfold impl_fieldsValid.l0
   repeat' first
   | (with_reducible exact ih0 _ _ _ _ _ _)
   | (with_reducible exact impl_NameValid.mono _ _)
   | (with_reducible exact LeO.refl _)
   | (with_reducible exact LeO.none _)
   | (with_reducible refine LeO.ite ?_ ?_)
   | (with_reducible refine LeO.bind ?_ (fun _ => ?_))
   | exact ih0 _ _ _ _ _ _
   | exact impl_NameValid.mono _ _
   | exact LeO.none _
   | refine LeO.ite ?_ ?_
   | refine LeO.bind ?_ (fun _ => ?_)
theorem impl_fieldsValid.mono : ∀ a0 a1 k, LeO (impl_fieldsValid.f k a0 a1) (impl_fieldsValid.f (k + 1) a0 a1) := by
 intro a0 a1 k
 have ih0 := impl_fieldsValid.mono_l k
 unfold impl_fieldsValid.f
 repeat' first
   | (with_reducible exact ih0 _ _ _ _ _ _)
   | (with_reducible exact impl_NameValid.mono _ _)
   | (with_reducible exact LeO.refl _)
   | (with_reducible exact LeO.none _)
   | (with_reducible refine LeO.ite ?_ ?_)
   | (with_reducible refine LeO.bind ?_ (fun _ => ?_))
   | exact ih0 _ _ _ _ _ _
   | exact impl_NameValid.mono _ _
   | exact LeO.none _
   | refine LeO.ite ?_ ?_
   | refine LeO.bind ?_ (fun _ => ?_)
set_option maxHeartbeats 8000000 in
set_option maxRecDepth 100000 in
theorem impl_fieldsValid.calls (k : Nat) (A0 : Option Addr) (c0 : Nat) (l0 : List (S55)) (a1 : Int) (r : Bool) (w : World) (hr0 : Kd.C k55 w A0 l0.length l0) (hc0 : l0.length ≤ c0) (h : impl_fieldsValid.f k l0 a1 = some r) :
  Calls Try.prog 47 #[.slice A0 l0.length c0, .int .i64 a1] w fun e w' => e = .returned (.bool r) ∧ Below w.heap.size w w' := by
 have hu55 := Try.underlying55
 have hu52 := Try.underlying52
 have HR0 := Aside0.mk hr0
 have HC0 := Aside0.mk hc0
 clear hr0 hc0
 have HB := Aside0.mk (Below.refl w.heap.size w)
 have H : (impl_fieldsValid.l0 k l0 a1 l0 (l0.length : Int) 0 ([] : List ByteArray)) = some r := h
 clear h
 have H' := Aside0.mk H
 clear H
 go_enter Try.func47, Try.ntmps47
 go_wp2_with (first | ((with_reducible refine gate_dst (N := 8) rfl ?_); refine map_event ?hg (N := 8) ?hd (t := 86) ?hr ?_; (case hd => rfl); (case hg => rfl); (case hr => rfl); intro gb200 hg w3 hbox hb; have BK200 := Aside0.mk (hbox); have GW200 := gwB HB hg; have GE200 := gwB HB hg; replace HB := bS HB hb; clear hb hbox hg))
 go_loopg [11] k (fun kq v11 w' => ∃ (x11_1 : Int) (x201000_1 : List ByteArray), v11 = .int .i64 x11_1 ∧ Aside0 (impl_fieldsValid.l0 kq l0 a1 l0 (l0.length : Int) x11_1 x201000_1 = some r) ∧ Aside0 (kq ≤ k) ∧ Aside0 (w'.heap[gb200]? = some (mapObj x201000_1)) ∧ Aside0 (Below w.heap.size w w'))
 case atStart => exact ⟨(0), (([] : List ByteArray)), (by first | rfl | (simp; done) | (simp [*]; done)), H', ⟨Nat.le_refl _⟩, ⟨by exact bk BK200.out⟩, ⟨by exact bw HB.out⟩⟩
 case round =>
  clear H'
  try clear p2
  obtain ⟨x11_1, x201000_1, rfl, HA, HK1, BK200, HB⟩ := hrel
  cases gk with
  | zero => exact absurd HA.out (by simp [impl_fieldsValid.l0])
  | succ k1 =>
   have H := HA.out
   clear HA
   simp only [impl_fieldsValid.l0] at H
   by_cases c4 : x11_1 < (l0.length : Int)
   ·
    rw [if_pos c4] at H; have c4b0 : decide (x11_1 < (l0.length : Int)) = true := decide_eq_true c4; clear c4
    by_cases c5 : 0 ≤ x11_1
    ·
     rw [if_pos c5] at H; have c5b0 : decide (0 ≤ x11_1) = true := decide_eq_true c5; clear c5
     by_cases c6 : x11_1 < (l0.length : Int)
     ·
      rw [if_pos c6] at H; have c6b0 : decide (x11_1 < (l0.length : Int)) = true := decide_eq_true c6; clear c6
      replace H := Option.bind_eq_some_iff.mp H
      obtain ⟨t203, A70, H⟩ := H
      replace H : (if t203 = true then (if memB ((rd_T55 l0 x11_1).f0) x201000_1 = true then (some false) else ((impl_ValueValid.f ((rd_T55 l0 x11_1).f1.f0) ((rd_T55 l0 x11_1).f1.f1) a1).bind fun t204 => (if t204 = true then (impl_fieldsValid.l0 k1 l0 a1 l0 (l0.length : Int) (wrap64 (x11_1 + 1)) (insB ((rd_T55 l0 x11_1).f0) x201000_1)) else (some false)))) else (some false)) = some r := H
      have A7 := Aside0.mk A70
      clear A70
      by_cases c8 : t203 = true
      ·
       subst c8
       have H1 : (if memB ((rd_T55 l0 x11_1).f0) x201000_1 = true then (some false) else ((impl_ValueValid.f ((rd_T55 l0 x11_1).f1.f0) ((rd_T55 l0 x11_1).f1.f1) a1).bind fun t204 => (if t204 = true then (impl_fieldsValid.l0 k1 l0 a1 l0 (l0.length : Int) (wrap64 (x11_1 + 1)) (insB ((rd_T55 l0 x11_1).f0) x201000_1)) else (some false)))) = some r := by rw [if_pos rfl] at H; exact H
       clear H
       have H := H1
       clear H1
       by_cases c9 : memB ((rd_T55 l0 x11_1).f0) x201000_1 = true
       ·
        rw [if_pos c9] at H; have c9b0 : memB ((rd_T55 l0 x11_1).f0) x201000_1 = true := c9; clear c9
        obtain rfl := Option.some.inj H
        have p201 : 0 ≤ (x11_1 : Int) := of_decide_eq_true (by first | (with_reducible assumption) | assumption)
        have q201 : x11_1 < (l0.length : Int) := of_decide_eq_true (by first | (with_reducible assumption) | assumption)
        obtain ⟨ad201, e201, hx201_0, hx201_1, hx201_2⟩ := at_T55 HR0.out x11_1 p201 q201
        cases e201
        first | replace hx201_0 := (HB.out.cell (World.block_lt_of_cell? w _ hx201_0)).trans hx201_0 | skip
        first | replace hx201_1 := (HB.out.cell (World.block_lt_of_cell? w _ hx201_1)).trans hx201_1 | skip
        first | replace hx201_2 := (HB.out.cell (World.block_lt_of_cell? w _ hx201_2)).trans hx201_2 | skip
        replace p201 := eq_true p201
        replace q201 := eq_true q201
        go_wp2_with (first | ((with_reducible refine gate_dst (N := 7) rfl ?_); refine bx 7 #[.string (⟨#[]⟩ : ByteArray), .int .i64 0, .int .i64 0] 55 ?_; intro gb202 hg w10 hbox hb; have BK202 := Aside0.mk (hbox); have GW202 := gwB HB hg; have GE202 := gwB HB hg; replace HB := bS HB hb; have NB200_202 := nbL BK200 hg; have NB202_200 := nbR BK200 hg; replace BK200 := bB BK200 hb; clear hb hbox hg; have hnb11 := NB202_200.out; have hnc11 := NB200_202.out; obtain ⟨hcz12_0, hcz12_1, hcz12_2⟩ := cs3 BK202.out; obtain ⟨hfz12_0, hfz12_1, hfz12_2⟩ := fz3 BK202.out) | ((with_reducible refine gate_callee (f := 40) rfl ?_); refine gl (some 17) Try.func40 #[.string ((rd_T55 l0 x11_1).f0)] ?_; (with_reducible refine (impl_NameValid.calls k1 ((rd_T55 l0 x11_1).f0) true _ A7.out).mono ?_); rintro e w' ⟨rfl, ⟨nd, rfl⟩⟩; refine ⟨_, rfl, ?_⟩; have hlz13_0 : ∀ (s_ : ByteArray), (Instr.lookup 86 (.map (some gb200)) (.string s_) false).run Try.prog (((w10.setCell ⟨gb202, 0, none⟩ (.string ((rd_T55 l0 x11_1).f0))).setCell ⟨gb202, 1, none⟩ (.int .i64 ((rd_T55 l0 x11_1).f1.f0))).setCell ⟨gb202, 2, none⟩ (.int .i64 ((rd_T55 l0 x11_1).f1.f1))) = .ok (.bool (memB s_ x201000_1)) (((w10.setCell ⟨gb202, 0, none⟩ (.string ((rd_T55 l0 x11_1).f0))).setCell ⟨gb202, 1, none⟩ (.int .i64 ((rd_T55 l0 x11_1).f1.f0))).setCell ⟨gb202, 2, none⟩ (.int .i64 ((rd_T55 l0 x11_1).f1.f1))) := fun s_ => run_lookSeen Try.underlying86 Try.underlying9 (by kernel_rfl) (bo BK200) s_; have hlz13_1 : ∀ (s_ : ByteArray) (n_ : Nat), (Instr.lookup 86 (.map (some gb200)) (.string s_) false).run Try.prog (World.drewN (((w10.setCell ⟨gb202, 0, none⟩ (.string ((rd_T55 l0 x11_1).f0))).setCell ⟨gb202, 1, none⟩ (.int .i64 ((rd_T55 l0 x11_1).f1.f0))).setCell ⟨gb202, 2, none⟩ (.int .i64 ((rd_T55 l0 x11_1).f1.f1))) n_) = .ok (.bool (memB s_ x201000_1)) (World.drewN (((w10.setCell ⟨gb202, 0, none⟩ (.string ((rd_T55 l0 x11_1).f0))).setCell ⟨gb202, 1, none⟩ (.int .i64 ((rd_T55 l0 x11_1).f1.f0))).setCell ⟨gb202, 2, none⟩ (.int .i64 ((rd_T55 l0 x11_1).f1.f1))) n_) := fun s_ n_ => run_lookSeen Try.underlying86 Try.underlying9 (by kernel_rfl) (bo BK200) s_; have hlz13_2 : ∀ (s_ : ByteArray) (n_ m_ : Nat), (Instr.lookup 86 (.map (some gb200)) (.string s_) false).run Try.prog (World.drewN (World.drewN (((w10.setCell ⟨gb202, 0, none⟩ (.string ((rd_T55 l0 x11_1).f0))).setCell ⟨gb202, 1, none⟩ (.int .i64 ((rd_T55 l0 x11_1).f1.f0))).setCell ⟨gb202, 2, none⟩ (.int .i64 ((rd_T55 l0 x11_1).f1.f1))) n_) m_) = .ok (.bool (memB s_ x201000_1)) (World.drewN (World.drewN (((w10.setCell ⟨gb202, 0, none⟩ (.string ((rd_T55 l0 x11_1).f0))).setCell ⟨gb202, 1, none⟩ (.int .i64 ((rd_T55 l0 x11_1).f1.f0))).setCell ⟨gb202, 2, none⟩ (.int .i64 ((rd_T55 l0 x11_1).f1.f1))) n_) m_) := fun s_ n_ m_ => run_lookSeen Try.underlying86 Try.underlying9 (by kernel_rfl) (bo BK200) s_))
        go_ret
        exact ⟨by first | rfl | (simp [errW_none, errW_some] <;> rfl) | (simp [*, errW_none, errW_some] <;> rfl), by exact bw HB.out⟩
       ·
        rw [if_neg c9] at H; have c9b0 : memB ((rd_T55 l0 x11_1).f0) x201000_1 = false := by simpa using c9
        clear c9
        replace H := Option.bind_eq_some_iff.mp H
        obtain ⟨t204, A140, H⟩ := H
        replace H : (if t204 = true then (impl_fieldsValid.l0 k1 l0 a1 l0 (l0.length : Int) (wrap64 (x11_1 + 1)) (insB ((rd_T55 l0 x11_1).f0) x201000_1)) else (some false)) = some r := H
        have A14 := Aside0.mk A140
        clear A140
        by_cases c15 : t204 = true
        ·
         subst c15
         have H1 : (impl_fieldsValid.l0 k1 l0 a1 l0 (l0.length : Int) (wrap64 (x11_1 + 1)) (insB ((rd_T55 l0 x11_1).f0) x201000_1)) = some r := by rw [if_pos rfl] at H; exact H
         clear H
         have H := H1
         clear H1
         have H' := Aside0.mk H
         clear H
         have p201 : 0 ≤ (x11_1 : Int) := of_decide_eq_true (by first | (with_reducible assumption) | assumption)
         have q201 : x11_1 < (l0.length : Int) := of_decide_eq_true (by first | (with_reducible assumption) | assumption)
         obtain ⟨ad201, e201, hx201_0, hx201_1, hx201_2⟩ := at_T55 HR0.out x11_1 p201 q201
         cases e201
         first | replace hx201_0 := (HB.out.cell (World.block_lt_of_cell? w _ hx201_0)).trans hx201_0 | skip
         first | replace hx201_1 := (HB.out.cell (World.block_lt_of_cell? w _ hx201_1)).trans hx201_1 | skip
         first | replace hx201_2 := (HB.out.cell (World.block_lt_of_cell? w _ hx201_2)).trans hx201_2 | skip
         replace p201 := eq_true p201
         replace q201 := eq_true q201
         go_wp2_with (first | ((with_reducible refine gate_dst (N := 7) rfl ?_); refine bx 7 #[.string (⟨#[]⟩ : ByteArray), .int .i64 0, .int .i64 0] 55 ?_; intro gb202 hg w16 hbox hb; have BK202 := Aside0.mk (hbox); have GW202 := gwB HB hg; have GE202 := gwB HB hg; replace HB := bS HB hb; have NB200_202 := nbL BK200 hg; have NB202_200 := nbR BK200 hg; replace BK200 := bB BK200 hb; clear hb hbox hg; have hnb17 := NB202_200.out; have hnc17 := NB200_202.out; obtain ⟨hcz18_0, hcz18_1, hcz18_2⟩ := cs3 BK202.out; obtain ⟨hfz18_0, hfz18_1, hfz18_2⟩ := fz3 BK202.out) | ((with_reducible refine gate_callee (f := 40) rfl ?_); refine gl (some 17) Try.func40 #[.string ((rd_T55 l0 x11_1).f0)] ?_; (with_reducible refine (impl_NameValid.calls k1 ((rd_T55 l0 x11_1).f0) true _ A7.out).mono ?_); rintro e w' ⟨rfl, ⟨nd, rfl⟩⟩; refine ⟨_, rfl, ?_⟩; have hlz19_0 : ∀ (s_ : ByteArray), (Instr.lookup 86 (.map (some gb200)) (.string s_) false).run Try.prog (((w16.setCell ⟨gb202, 0, none⟩ (.string ((rd_T55 l0 x11_1).f0))).setCell ⟨gb202, 1, none⟩ (.int .i64 ((rd_T55 l0 x11_1).f1.f0))).setCell ⟨gb202, 2, none⟩ (.int .i64 ((rd_T55 l0 x11_1).f1.f1))) = .ok (.bool (memB s_ x201000_1)) (((w16.setCell ⟨gb202, 0, none⟩ (.string ((rd_T55 l0 x11_1).f0))).setCell ⟨gb202, 1, none⟩ (.int .i64 ((rd_T55 l0 x11_1).f1.f0))).setCell ⟨gb202, 2, none⟩ (.int .i64 ((rd_T55 l0 x11_1).f1.f1))) := fun s_ => run_lookSeen Try.underlying86 Try.underlying9 (by kernel_rfl) (bo BK200) s_; have hlz19_1 : ∀ (s_ : ByteArray) (n_ : Nat), (Instr.lookup 86 (.map (some gb200)) (.string s_) false).run Try.prog (World.drewN (((w16.setCell ⟨gb202, 0, none⟩ (.string ((rd_T55 l0 x11_1).f0))).setCell ⟨gb202, 1, none⟩ (.int .i64 ((rd_T55 l0 x11_1).f1.f0))).setCell ⟨gb202, 2, none⟩ (.int .i64 ((rd_T55 l0 x11_1).f1.f1))) n_) = .ok (.bool (memB s_ x201000_1)) (World.drewN (((w16.setCell ⟨gb202, 0, none⟩ (.string ((rd_T55 l0 x11_1).f0))).setCell ⟨gb202, 1, none⟩ (.int .i64 ((rd_T55 l0 x11_1).f1.f0))).setCell ⟨gb202, 2, none⟩ (.int .i64 ((rd_T55 l0 x11_1).f1.f1))) n_) := fun s_ n_ => run_lookSeen Try.underlying86 Try.underlying9 (by kernel_rfl) (bo BK200) s_; have hlz19_2 : ∀ (s_ : ByteArray) (n_ m_ : Nat), (Instr.lookup 86 (.map (some gb200)) (.string s_) false).run Try.prog (World.drewN (World.drewN (((w16.setCell ⟨gb202, 0, none⟩ (.string ((rd_T55 l0 x11_1).f0))).setCell ⟨gb202, 1, none⟩ (.int .i64 ((rd_T55 l0 x11_1).f1.f0))).setCell ⟨gb202, 2, none⟩ (.int .i64 ((rd_T55 l0 x11_1).f1.f1))) n_) m_) = .ok (.bool (memB s_ x201000_1)) (World.drewN (World.drewN (((w16.setCell ⟨gb202, 0, none⟩ (.string ((rd_T55 l0 x11_1).f0))).setCell ⟨gb202, 1, none⟩ (.int .i64 ((rd_T55 l0 x11_1).f1.f0))).setCell ⟨gb202, 2, none⟩ (.int .i64 ((rd_T55 l0 x11_1).f1.f1))) n_) m_) := fun s_ n_ m_ => run_lookSeen Try.underlying86 Try.underlying9 (by kernel_rfl) (bo BK200) s_) | (go_at_call 63; (with_reducible refine (impl_ValueValid.calls ((rd_T55 l0 x11_1).f1.f0) ((rd_T55 l0 x11_1).f1.f1) a1 true _ A14.out).mono ?_); rintro e w20 ⟨rfl, hb⟩; have n0_ := Aside0.mk (blk_below (g := gb200) (o := mapObj x201000_1) (bo BK200) hb); have n1_ := Aside0.mk (blk_below (g := gb202) (o := .cells #[.string ((rd_T55 l0 x11_1).f0), .int .i64 ((rd_T55 l0 x11_1).f1.f0), .int .i64 ((rd_T55 l0 x11_1).f1.f1)] 55 (0, 0)) (bp BK202) hb); have n2_ := bS HB hb; clear BK200; clear BK202; clear HB; have BK200 := n0_; have BK202 := n1_; have HB := n2_; clear n0_ n1_ n2_; (try clear hb); (try clear hb2); (try clear hk); (try clear hi); obtain ⟨hcz21_0, hcz21_1, hcz21_2⟩ := cs3 BK202.out; obtain ⟨hfz21_0, hfz21_1, hfz21_2⟩ := fz3 BK202.out) | (at_mapUpdate; refine put_event (g := gb200) (ms := x201000_1) rfl rfl rfl rfl rfl rfl Try.underlying86 Try.underlying9 (by exact bk BK200.out) ?_; intro w22 hput hfar hbel; have n0_ := Aside0.mk (hput); have n1_ := Aside0.mk ((hfar gb202 NB202_200.out).trans (by exact bk BK202.out)); have n2_ := Aside0.mk (hbel (by exact bw HB.out) GE200.out); clear BK200; clear BK202; clear HB; have BK200 := n0_; have BK202 := n1_; have HB := n2_; clear n0_ n1_ n2_; clear hput hfar hbel))
         go_roundg k1
         case measure => have := HK1.out; omega
         case rel => exact ⟨(wrap64 (x11_1 + 1)), (insB ((rd_T55 l0 x11_1).f0) x201000_1), (by first | rfl | (simp; done) | (simp [*]; done)), H', ⟨by have := HK1.out; omega⟩, ⟨by exact bk BK200.out⟩, ⟨by exact bw HB.out⟩⟩
        ·
         replace c15 := Bool.eq_false_iff.mpr c15
         subst c15
         have H1 : (some false) = some r := by rw [if_neg (show ¬ (false = true) by decide)] at H; exact H
         clear H
         have H := H1
         clear H1
         obtain rfl := Option.some.inj H
         have p201 : 0 ≤ (x11_1 : Int) := of_decide_eq_true (by first | (with_reducible assumption) | assumption)
         have q201 : x11_1 < (l0.length : Int) := of_decide_eq_true (by first | (with_reducible assumption) | assumption)
         obtain ⟨ad201, e201, hx201_0, hx201_1, hx201_2⟩ := at_T55 HR0.out x11_1 p201 q201
         cases e201
         first | replace hx201_0 := (HB.out.cell (World.block_lt_of_cell? w _ hx201_0)).trans hx201_0 | skip
         first | replace hx201_1 := (HB.out.cell (World.block_lt_of_cell? w _ hx201_1)).trans hx201_1 | skip
         first | replace hx201_2 := (HB.out.cell (World.block_lt_of_cell? w _ hx201_2)).trans hx201_2 | skip
         replace p201 := eq_true p201
         replace q201 := eq_true q201
         go_wp2_with (first | ((with_reducible refine gate_dst (N := 7) rfl ?_); refine bx 7 #[.string (⟨#[]⟩ : ByteArray), .int .i64 0, .int .i64 0] 55 ?_; intro gb202 hg w23 hbox hb; have BK202 := Aside0.mk (hbox); have GW202 := gwB HB hg; have GE202 := gwB HB hg; replace HB := bS HB hb; have NB200_202 := nbL BK200 hg; have NB202_200 := nbR BK200 hg; replace BK200 := bB BK200 hb; clear hb hbox hg; have hnb24 := NB202_200.out; have hnc24 := NB200_202.out; obtain ⟨hcz25_0, hcz25_1, hcz25_2⟩ := cs3 BK202.out; obtain ⟨hfz25_0, hfz25_1, hfz25_2⟩ := fz3 BK202.out) | ((with_reducible refine gate_callee (f := 40) rfl ?_); refine gl (some 17) Try.func40 #[.string ((rd_T55 l0 x11_1).f0)] ?_; (with_reducible refine (impl_NameValid.calls k1 ((rd_T55 l0 x11_1).f0) true _ A7.out).mono ?_); rintro e w' ⟨rfl, ⟨nd, rfl⟩⟩; refine ⟨_, rfl, ?_⟩; have hlz26_0 : ∀ (s_ : ByteArray), (Instr.lookup 86 (.map (some gb200)) (.string s_) false).run Try.prog (((w23.setCell ⟨gb202, 0, none⟩ (.string ((rd_T55 l0 x11_1).f0))).setCell ⟨gb202, 1, none⟩ (.int .i64 ((rd_T55 l0 x11_1).f1.f0))).setCell ⟨gb202, 2, none⟩ (.int .i64 ((rd_T55 l0 x11_1).f1.f1))) = .ok (.bool (memB s_ x201000_1)) (((w23.setCell ⟨gb202, 0, none⟩ (.string ((rd_T55 l0 x11_1).f0))).setCell ⟨gb202, 1, none⟩ (.int .i64 ((rd_T55 l0 x11_1).f1.f0))).setCell ⟨gb202, 2, none⟩ (.int .i64 ((rd_T55 l0 x11_1).f1.f1))) := fun s_ => run_lookSeen Try.underlying86 Try.underlying9 (by kernel_rfl) (bo BK200) s_; have hlz26_1 : ∀ (s_ : ByteArray) (n_ : Nat), (Instr.lookup 86 (.map (some gb200)) (.string s_) false).run Try.prog (World.drewN (((w23.setCell ⟨gb202, 0, none⟩ (.string ((rd_T55 l0 x11_1).f0))).setCell ⟨gb202, 1, none⟩ (.int .i64 ((rd_T55 l0 x11_1).f1.f0))).setCell ⟨gb202, 2, none⟩ (.int .i64 ((rd_T55 l0 x11_1).f1.f1))) n_) = .ok (.bool (memB s_ x201000_1)) (World.drewN (((w23.setCell ⟨gb202, 0, none⟩ (.string ((rd_T55 l0 x11_1).f0))).setCell ⟨gb202, 1, none⟩ (.int .i64 ((rd_T55 l0 x11_1).f1.f0))).setCell ⟨gb202, 2, none⟩ (.int .i64 ((rd_T55 l0 x11_1).f1.f1))) n_) := fun s_ n_ => run_lookSeen Try.underlying86 Try.underlying9 (by kernel_rfl) (bo BK200) s_; have hlz26_2 : ∀ (s_ : ByteArray) (n_ m_ : Nat), (Instr.lookup 86 (.map (some gb200)) (.string s_) false).run Try.prog (World.drewN (World.drewN (((w23.setCell ⟨gb202, 0, none⟩ (.string ((rd_T55 l0 x11_1).f0))).setCell ⟨gb202, 1, none⟩ (.int .i64 ((rd_T55 l0 x11_1).f1.f0))).setCell ⟨gb202, 2, none⟩ (.int .i64 ((rd_T55 l0 x11_1).f1.f1))) n_) m_) = .ok (.bool (memB s_ x201000_1)) (World.drewN (World.drewN (((w23.setCell ⟨gb202, 0, none⟩ (.string ((rd_T55 l0 x11_1).f0))).setCell ⟨gb202, 1, none⟩ (.int .i64 ((rd_T55 l0 x11_1).f1.f0))).setCell ⟨gb202, 2, none⟩ (.int .i64 ((rd_T55 l0 x11_1).f1.f1))) n_) m_) := fun s_ n_ m_ => run_lookSeen Try.underlying86 Try.underlying9 (by kernel_rfl) (bo BK200) s_) | (go_at_call 63; (with_reducible refine (impl_ValueValid.calls ((rd_T55 l0 x11_1).f1.f0) ((rd_T55 l0 x11_1).f1.f1) a1 false _ A14.out).mono ?_); rintro e w27 ⟨rfl, hb⟩; have n0_ := Aside0.mk (blk_below (g := gb200) (o := mapObj x201000_1) (bo BK200) hb); have n1_ := Aside0.mk (blk_below (g := gb202) (o := .cells #[.string ((rd_T55 l0 x11_1).f0), .int .i64 ((rd_T55 l0 x11_1).f1.f0), .int .i64 ((rd_T55 l0 x11_1).f1.f1)] 55 (0, 0)) (bp BK202) hb); have n2_ := bS HB hb; clear BK200; clear BK202; clear HB; have BK200 := n0_; have BK202 := n1_; have HB := n2_; clear n0_ n1_ n2_; (try clear hb); (try clear hb2); (try clear hk); (try clear hi)))
         go_ret
         exact ⟨by first | rfl | (simp [errW_none, errW_some] <;> rfl) | (simp [*, errW_none, errW_some] <;> rfl), by exact bw HB.out⟩
      ·
       replace c8 := Bool.eq_false_iff.mpr c8
       subst c8
       have H1 : (some false) = some r := by rw [if_neg (show ¬ (false = true) by decide)] at H; exact H
       clear H
       have H := H1
       clear H1
       obtain rfl := Option.some.inj H
       have p201 : 0 ≤ (x11_1 : Int) := of_decide_eq_true (by first | (with_reducible assumption) | assumption)
       have q201 : x11_1 < (l0.length : Int) := of_decide_eq_true (by first | (with_reducible assumption) | assumption)
       obtain ⟨ad201, e201, hx201_0, hx201_1, hx201_2⟩ := at_T55 HR0.out x11_1 p201 q201
       cases e201
       first | replace hx201_0 := (HB.out.cell (World.block_lt_of_cell? w _ hx201_0)).trans hx201_0 | skip
       first | replace hx201_1 := (HB.out.cell (World.block_lt_of_cell? w _ hx201_1)).trans hx201_1 | skip
       first | replace hx201_2 := (HB.out.cell (World.block_lt_of_cell? w _ hx201_2)).trans hx201_2 | skip
       replace p201 := eq_true p201
       replace q201 := eq_true q201
       go_wp2_with (first | ((with_reducible refine gate_dst (N := 7) rfl ?_); refine bx 7 #[.string (⟨#[]⟩ : ByteArray), .int .i64 0, .int .i64 0] 55 ?_; intro gb202 hg w28 hbox hb; have BK202 := Aside0.mk (hbox); have GW202 := gwB HB hg; have GE202 := gwB HB hg; replace HB := bS HB hb; have NB200_202 := nbL BK200 hg; have NB202_200 := nbR BK200 hg; replace BK200 := bB BK200 hb; clear hb hbox hg; have hnb29 := NB202_200.out; have hnc29 := NB200_202.out; obtain ⟨hcz30_0, hcz30_1, hcz30_2⟩ := cs3 BK202.out; obtain ⟨hfz30_0, hfz30_1, hfz30_2⟩ := fz3 BK202.out) | ((with_reducible refine gate_callee (f := 40) rfl ?_); refine gl (some 17) Try.func40 #[.string ((rd_T55 l0 x11_1).f0)] ?_; (with_reducible refine (impl_NameValid.calls k1 ((rd_T55 l0 x11_1).f0) false _ A7.out).mono ?_); rintro e w' ⟨rfl, ⟨nd, rfl⟩⟩; refine ⟨_, rfl, ?_⟩))
       go_ret
       exact ⟨by first | rfl | (simp [errW_none, errW_some] <;> rfl) | (simp [*, errW_none, errW_some] <;> rfl), by exact bw HB.out⟩
     ·
      rw [if_neg c6] at H; exact absurd H (by simp)
    ·
     rw [if_neg c5] at H; exact absurd H (by simp)
   ·
    rw [if_neg c4] at H; have c4b0 : decide (x11_1 < (l0.length : Int)) = false := decide_eq_false c4; clear c4
    obtain rfl := Option.some.inj H
    go_wp2
    go_ret
    exact ⟨by first | rfl | (simp [errW_none, errW_some] <;> rfl) | (simp [*, errW_none, errW_some] <;> rfl), by exact bw HB.out⟩

end Go.Proofs.Ytoipfhdlgoaldaa.P
