-- Written by a program of this session (wip/tool).
import Derived.Test.YtbbbgochcfccgaaPx0
import Derived.Test.YtbbbgochcfccgaaWo
namespace Go.Proofs.Ytbbbgochcfccgaa.P
open Go.RowKit Go.Proofs.YtbbbgochcfccgaaW.PrintWords Go.Proofs.YtbbbgochcfccgaaW.PrintLast Go.Proofs.YtbbbgochcfccgaaW.PrintMore
attribute [local go_sem] max2_int min2_int max_two min_two max_three min_three max_four min_four   -- for this text's walks alone
set_option linter.unusedVariables false
set_option linter.unusedSimpArgs false

theorem openT24 {H : Type} {enc : TypeId × Value → H} {w : World} {sp : Nat → Bool} {held : Bool} : ∀ n, OpN enc Try.prog w sp held n 24 k24 Fine24 := by
  intro n
  induction n with
  | zero =>
    intro m cs x hm h
    obtain rfl : m = 0 := by omega
    simp [DataW.trod] at h
  | succ n ih =>
    intro m cs x hm h
    obtain ⟨xs, m', rfl, _, hl, hlen, hf⟩ := DataW.trod_struct Try.underlying24 h
    have hl' : cs.length = 4 := hl.trans (by kernel_rfl)
    have hx : xs.length = 4 := hlen
    obtain ⟨y0, g0, q0⟩ := OpN.field ((fun n => OpN.int Try.underlying3) m') (m := m') (Nat.le_refl _) (i := 0) (o := 0) (s := 1) (by kernel_rfl) (by omega) (hf 0 _ rfl)
    obtain ⟨y1, g1, q1⟩ := OpN.field ((fun n => OpN.int Try.underlying3) m') (m := m') (Nat.le_refl _) (i := 1) (o := 1) (s := 1) (by kernel_rfl) (by omega) (hf 1 _ rfl)
    obtain ⟨y2, g2, q2⟩ := OpN.field ((fun n => OpN.string Try.underlying9) m') (m := m') (Nat.le_refl _) (i := 2) (o := 2) (s := 1) (by kernel_rfl) (by omega) (hf 2 _ rfl)
    obtain ⟨y3, g3, q3⟩ := OpN.field (OpN.slice (e := 24) Try.underlying22 (by kernel_rfl) ih) (m := m') (by omega) (i := 3) (o := 3) (s := 1) (by kernel_rfl) (by omega) (hf 3 _ rfl)
    have hK : (F24 k24).K w (⟨y0, y1, y2, y3⟩ : S24) cs := (pair_cut 0 1 g0 (pair_cut 1 1 g1 (pair_cut 2 1 g2 (last_cut 3 1 (by omega) g3))))
    obtain ⟨_, _, rfl, rfl, ⟨_, _, rfl, rfl, ⟨_, _, rfl, rfl, ⟨A3, c3, rfl, l3, r3⟩⟩⟩⟩ := hK
    exact ⟨(⟨y0, y1, y2, y3⟩ : S24), k24_mk w _ l3 r3, Fine24.mk q0 q1 q2 q3.1 q3.2⟩
theorem openT87 {H : Type} {enc : TypeId × Value → H} {w : World} {sp : Nat → Bool} {held : Bool} : ∀ n, OpN enc Try.prog w sp held n 87 k87 Fine87 := by
  intro n
  intro m cs x hm h
  obtain ⟨xs, m', rfl, _, hl, hlen, hf⟩ := DataW.trod_struct Try.underlying87 h
  have hl' : cs.length = 2 := hl.trans (by kernel_rfl)
  have hx : xs.length = 2 := hlen
  obtain ⟨y0, g0, q0⟩ := OpN.field ((fun n => OpN.string Try.underlying9) m') (m := m') (Nat.le_refl _) (i := 0) (o := 0) (s := 1) (by kernel_rfl) (by omega) (hf 0 _ rfl)
  obtain ⟨y1, g1, q1⟩ := OpN.field ((fun n => OpN.int Try.underlying3) m') (m := m') (Nat.le_refl _) (i := 1) (o := 1) (s := 1) (by kernel_rfl) (by omega) (hf 1 _ rfl)
  exact ⟨(⟨y0, y1⟩ : S87), (pair_cut 0 1 g0 (last_cut 1 1 (by omega) g1)), ⟨q0, q1⟩⟩
theorem openT35 {H : Type} {enc : TypeId × Value → H} {w : World} {sp : Nat → Bool} {held : Bool} : ∀ n, OpN enc Try.prog w sp held n 35 k35 Fine35 := by
  intro n
  intro m cs x hm h
  obtain ⟨xs, m', rfl, _, hl, hlen, hf⟩ := DataW.trod_struct Try.underlying35 h
  have hl' : cs.length = 2 := hl.trans (by kernel_rfl)
  have hx : xs.length = 2 := hlen
  obtain ⟨y0, g0, q0⟩ := OpN.field ((fun n => (OpN.slice (e := 87) Try.underlying33 (by kernel_rfl) (openT87 n)).down (Nat.le_succ n)) m') (m := m') (Nat.le_refl _) (i := 0) (o := 0) (s := 1) (by kernel_rfl) (by omega) (hf 0 _ rfl)
  obtain ⟨y1, g1, q1⟩ := OpN.field ((fun n => (OpN.slice (e := 87) Try.underlying33 (by kernel_rfl) (openT87 n)).down (Nat.le_succ n)) m') (m := m') (Nat.le_refl _) (i := 1) (o := 1) (s := 1) (by kernel_rfl) (by omega) (hf 1 _ rfl)
  exact ⟨(⟨y0, y1⟩ : S35), (pair_cut 0 1 g0 (last_cut 1 1 (by omega) g1)), ⟨q0, q1⟩⟩
end Go.Proofs.Ytbbbgochcfccgaa.P
