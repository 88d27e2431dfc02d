-- Written by a program of this session (wip/tool).
import Derived.Test.YtipoeghieeafjaaPx0
import Derived.Test.YtipoeghieeafjaaWo
namespace Go.Proofs.Ytipoeghieeafjaa.P
open Go.RowKit Go.Proofs.YtipoeghieeafjaaW.PrintWords Go.Proofs.YtipoeghieeafjaaW.PrintLast Go.Proofs.YtipoeghieeafjaaW.PrintMore
attribute [local go_sem] max2_int min2_int max_two min_two max_three min_three max_four min_four   -- for this text's walks alone
set_option linter.unusedVariables false
set_option linter.unusedSimpArgs false

theorem openT95 {H : Type} {enc : TypeId × Value → H} {w : World} {sp : Nat → Bool} {held : Bool} : ∀ n, OpN enc Try.prog w sp held n 95 k95 Fine95 := by
  intro n
  intro m cs x hm h
  obtain ⟨xs, m', rfl, _, hl, hlen, hf⟩ := DataW.trod_struct Try.underlying95 h
  have hl' : cs.length = 2 := hl.trans (by kernel_rfl)
  have hx : xs.length = 2 := hlen
  obtain ⟨y0, g0, q0⟩ := OpN.field ((fun n => OpN.int Try.underlying3) m') (m := m') (Nat.le_refl _) (i := 0) (o := 0) (s := 1) (by kernel_rfl) (by omega) (hf 0 _ rfl)
  obtain ⟨y1, g1, q1⟩ := OpN.field ((fun n => OpN.int Try.underlying3) m') (m := m') (Nat.le_refl _) (i := 1) (o := 1) (s := 1) (by kernel_rfl) (by omega) (hf 1 _ rfl)
  exact ⟨(⟨y0, y1⟩ : S95), (pair_cut 0 1 g0 (last_cut 1 1 (by omega) g1)), ⟨q0, q1⟩⟩
theorem openT97 {H : Type} {enc : TypeId × Value → H} {w : World} {sp : Nat → Bool} {held : Bool} : ∀ n, OpN enc Try.prog w sp held n 97 k97 Fine97 := by
  intro n
  intro m cs x hm h
  obtain ⟨xs, m', rfl, _, hl, hlen, hf⟩ := DataW.trod_struct Try.underlying97 h
  have hl' : cs.length = 3 := hl.trans (by kernel_rfl)
  have hx : xs.length = 2 := hlen
  obtain ⟨y0, g0, q0⟩ := OpN.field ((fun n => OpN.string Try.underlying9) m') (m := m') (Nat.le_refl _) (i := 0) (o := 0) (s := 1) (by kernel_rfl) (by omega) (hf 0 _ rfl)
  obtain ⟨y1, g1, q1⟩ := OpN.field (openT95 m') (m := m') (Nat.le_refl _) (i := 1) (o := 1) (s := 2) (by kernel_rfl) (by omega) (hf 1 _ rfl)
  exact ⟨(⟨y0, y1⟩ : S97), (pair_cut 0 1 g0 (last_cut 1 2 (by omega) g1)), ⟨q0, q1⟩⟩
theorem openT72 {H : Type} {enc : TypeId × Value → H} {w : World} {sp : Nat → Bool} {held : Bool} : ∀ n, OpN enc Try.prog w sp held n 72 k72 Fine72 := by
  intro n
  intro m cs x hm h
  obtain ⟨xs, m', rfl, _, hl, hlen, hf⟩ := DataW.trod_struct Try.underlying72 h
  have hl' : cs.length = 2 := hl.trans (by kernel_rfl)
  have hx : xs.length = 2 := hlen
  obtain ⟨y0, g0, q0⟩ := OpN.field ((fun n => (OpN.slice (e := 3) Try.underlying70 (by kernel_rfl) ((fun n => OpN.int Try.underlying3) n)).down (Nat.le_succ n)) m') (m := m') (Nat.le_refl _) (i := 0) (o := 0) (s := 1) (by kernel_rfl) (by omega) (hf 0 _ rfl)
  obtain ⟨y1, g1, q1⟩ := OpN.field ((fun n => (OpN.slice (e := 97) Try.underlying23 (by kernel_rfl) (openT97 n)).down (Nat.le_succ n)) m') (m := m') (Nat.le_refl _) (i := 1) (o := 1) (s := 1) (by kernel_rfl) (by omega) (hf 1 _ rfl)
  exact ⟨(⟨y0, y1⟩ : S72), (pair_cut 0 1 g0 (last_cut 1 1 (by omega) g1)), ⟨q0, q1⟩⟩
theorem openT25 {H : Type} {enc : TypeId × Value → H} {w : World} {sp : Nat → Bool} {held : Bool} : ∀ n, OpN enc Try.prog w sp held n 25 k25 Fine25 := by
  intro n
  intro m cs x hm h
  obtain ⟨xs, m', rfl, _, hl, hlen, hf⟩ := DataW.trod_struct Try.underlying25 h
  have hl' : cs.length = 4 := hl.trans (by kernel_rfl)
  have hx : xs.length = 4 := hlen
  obtain ⟨y0, g0, q0⟩ := OpN.field ((fun n => OpN.int Try.underlying3) m') (m := m') (Nat.le_refl _) (i := 0) (o := 0) (s := 1) (by kernel_rfl) (by omega) (hf 0 _ rfl)
  obtain ⟨y1, g1, q1⟩ := OpN.field ((fun n => OpN.int Try.underlying3) m') (m := m') (Nat.le_refl _) (i := 1) (o := 1) (s := 1) (by kernel_rfl) (by omega) (hf 1 _ rfl)
  obtain ⟨y2, g2, q2⟩ := OpN.field ((fun n => OpN.int Try.underlying3) m') (m := m') (Nat.le_refl _) (i := 2) (o := 2) (s := 1) (by kernel_rfl) (by omega) (hf 2 _ rfl)
  obtain ⟨y3, g3, q3⟩ := OpN.field ((fun n => (OpN.slice (e := 97) Try.underlying23 (by kernel_rfl) (openT97 n)).down (Nat.le_succ n)) m') (m := m') (Nat.le_refl _) (i := 3) (o := 3) (s := 1) (by kernel_rfl) (by omega) (hf 3 _ rfl)
  exact ⟨(⟨y0, y1, y2, y3⟩ : S25), (pair_cut 0 1 g0 (pair_cut 1 1 g1 (pair_cut 2 1 g2 (last_cut 3 1 (by omega) g3)))), ⟨q0, q1, q2, q3⟩⟩
theorem openT28 {H : Type} {enc : TypeId × Value → H} {w : World} {sp : Nat → Bool} {held : Bool} : ∀ n, OpN enc Try.prog w sp held n 28 k28 Fine28 := by
  intro n
  induction n with
  | zero =>
    intro m cs x hm h
    obtain rfl : m = 0 := by omega
    simp [DataW.trod] at h
  | succ n ih =>
    intro m cs x hm h
    obtain ⟨xs, m', rfl, _, hl, hlen, hf⟩ := DataW.trod_struct Try.underlying28 h
    have hl' : cs.length = 4 := hl.trans (by kernel_rfl)
    have hx : xs.length = 4 := hlen
    obtain ⟨y0, g0, q0⟩ := OpN.field ((fun n => OpN.int Try.underlying3) m') (m := m') (Nat.le_refl _) (i := 0) (o := 0) (s := 1) (by kernel_rfl) (by omega) (hf 0 _ rfl)
    obtain ⟨y1, g1, q1⟩ := OpN.field ((fun n => OpN.int Try.underlying3) m') (m := m') (Nat.le_refl _) (i := 1) (o := 1) (s := 1) (by kernel_rfl) (by omega) (hf 1 _ rfl)
    obtain ⟨y2, g2, q2⟩ := OpN.field ((fun n => OpN.string Try.underlying9) m') (m := m') (Nat.le_refl _) (i := 2) (o := 2) (s := 1) (by kernel_rfl) (by omega) (hf 2 _ rfl)
    obtain ⟨y3, g3, q3⟩ := OpN.field (OpN.slice (e := 28) Try.underlying26 (by kernel_rfl) ih) (m := m') (by omega) (i := 3) (o := 3) (s := 1) (by kernel_rfl) (by omega) (hf 3 _ rfl)
    have hK : (F28 k28).K w (⟨y0, y1, y2, y3⟩ : S28) cs := (pair_cut 0 1 g0 (pair_cut 1 1 g1 (pair_cut 2 1 g2 (last_cut 3 1 (by omega) g3))))
    obtain ⟨_, _, rfl, rfl, ⟨_, _, rfl, rfl, ⟨_, _, rfl, rfl, ⟨A3, c3, rfl, l3, r3⟩⟩⟩⟩ := hK
    exact ⟨(⟨y0, y1, y2, y3⟩ : S28), k28_mk w _ l3 r3, Fine28.mk q0 q1 q2 q3.1 q3.2⟩
theorem openT30 {H : Type} {enc : TypeId × Value → H} {w : World} {sp : Nat → Bool} {held : Bool} : ∀ n, OpN enc Try.prog w sp held n 30 k30 Fine30 := by
  intro n
  intro m cs x hm h
  obtain ⟨xs, m', rfl, _, hl, hlen, hf⟩ := DataW.trod_struct Try.underlying30 h
  have hl' : cs.length = 9 := hl.trans (by kernel_rfl)
  have hx : xs.length = 6 := hlen
  obtain ⟨y0, g0, q0⟩ := OpN.field ((fun n => OpN.string Try.underlying9) m') (m := m') (Nat.le_refl _) (i := 0) (o := 0) (s := 1) (by kernel_rfl) (by omega) (hf 0 _ rfl)
  obtain ⟨y1, g1, q1⟩ := OpN.field ((fun n => OpN.bool Try.underlying4) m') (m := m') (Nat.le_refl _) (i := 1) (o := 1) (s := 1) (by kernel_rfl) (by omega) (hf 1 _ rfl)
  obtain ⟨y2, g2, q2⟩ := OpN.field ((fun n => OpN.int Try.underlying3) m') (m := m') (Nat.le_refl _) (i := 2) (o := 2) (s := 1) (by kernel_rfl) (by omega) (hf 2 _ rfl)
  obtain ⟨y3, g3, q3⟩ := OpN.field ((fun n => OpN.int Try.underlying3) m') (m := m') (Nat.le_refl _) (i := 3) (o := 3) (s := 1) (by kernel_rfl) (by omega) (hf 3 _ rfl)
  obtain ⟨y4, g4, q4⟩ := OpN.field ((fun n => OpN.int Try.underlying3) m') (m := m') (Nat.le_refl _) (i := 4) (o := 4) (s := 1) (by kernel_rfl) (by omega) (hf 4 _ rfl)
  obtain ⟨y5, g5, q5⟩ := OpN.field (openT28 m') (m := m') (Nat.le_refl _) (i := 5) (o := 5) (s := 4) (by kernel_rfl) (by omega) (hf 5 _ rfl)
  exact ⟨(⟨y0, y1, y2, y3, y4, y5⟩ : S30), (pair_cut 0 1 g0 (pair_cut 1 1 g1 (pair_cut 2 1 g2 (pair_cut 3 1 g3 (pair_cut 4 1 g4 (last_cut 5 4 (by omega) g5)))))), ⟨q0, q1, q2, q3, q4, q5⟩⟩
end Go.Proofs.Ytipoeghieeafjaa.P
