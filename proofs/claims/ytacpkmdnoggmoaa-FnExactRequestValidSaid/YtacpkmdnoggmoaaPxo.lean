-- Written by a program of this session (wip/tool).
import Derived.Test.YtacpkmdnoggmoaaPx0
import Derived.Test.YtacpkmdnoggmoaaWo
namespace Go.Proofs.Ytacpkmdnoggmoaa.P
open Go.RowKit Go.Proofs.YtacpkmdnoggmoaaW.PrintWords Go.Proofs.YtacpkmdnoggmoaaW.PrintLast Go.Proofs.YtacpkmdnoggmoaaW.PrintMore
attribute [local go_sem] max2_int min2_int max_two min_two max_three min_three max_four min_four   -- for this text's walks alone
set_option linter.unusedVariables false
set_option linter.unusedSimpArgs false

theorem openT80 {H : Type} {enc : TypeId × Value → H} {w : World} {sp : Nat → Bool} {held : Bool} : ∀ n, OpN enc Try.prog w sp held n 80 k80 Fine80 := by
  intro n
  intro m cs x hm h
  obtain ⟨xs, m', rfl, _, hl, hlen, hf⟩ := DataW.trod_struct Try.underlying80 h
  have hl' : cs.length = 2 := hl.trans (by kernel_rfl)
  have hx : xs.length = 2 := hlen
  obtain ⟨y0, g0, q0⟩ := OpN.field ((fun n => OpN.int Try.underlying3) m') (m := m') (Nat.le_refl _) (i := 0) (o := 0) (s := 1) (by kernel_rfl) (by omega) (hf 0 _ rfl)
  obtain ⟨y1, g1, q1⟩ := OpN.field ((fun n => OpN.int Try.underlying3) m') (m := m') (Nat.le_refl _) (i := 1) (o := 1) (s := 1) (by kernel_rfl) (by omega) (hf 1 _ rfl)
  exact ⟨(⟨y0, y1⟩ : S80), (pair_cut 0 1 g0 (last_cut 1 1 (by omega) g1)), ⟨q0, q1⟩⟩
theorem openT82 {H : Type} {enc : TypeId × Value → H} {w : World} {sp : Nat → Bool} {held : Bool} : ∀ n, OpN enc Try.prog w sp held n 82 k82 Fine82 := by
  intro n
  intro m cs x hm h
  obtain ⟨xs, m', rfl, _, hl, hlen, hf⟩ := DataW.trod_struct Try.underlying82 h
  have hl' : cs.length = 3 := hl.trans (by kernel_rfl)
  have hx : xs.length = 2 := hlen
  obtain ⟨y0, g0, q0⟩ := OpN.field ((fun n => OpN.string Try.underlying9) m') (m := m') (Nat.le_refl _) (i := 0) (o := 0) (s := 1) (by kernel_rfl) (by omega) (hf 0 _ rfl)
  obtain ⟨y1, g1, q1⟩ := OpN.field (openT80 m') (m := m') (Nat.le_refl _) (i := 1) (o := 1) (s := 2) (by kernel_rfl) (by omega) (hf 1 _ rfl)
  exact ⟨(⟨y0, y1⟩ : S82), (pair_cut 0 1 g0 (last_cut 1 2 (by omega) g1)), ⟨q0, q1⟩⟩
theorem openT68 {H : Type} {enc : TypeId × Value → H} {w : World} {sp : Nat → Bool} {held : Bool} : ∀ n, OpN enc Try.prog w sp held n 68 k68 Fine68 := by
  intro n
  intro m cs x hm h
  obtain ⟨xs, m', rfl, _, hl, hlen, hf⟩ := DataW.trod_struct Try.underlying68 h
  have hl' : cs.length = 2 := hl.trans (by kernel_rfl)
  have hx : xs.length = 2 := hlen
  obtain ⟨y0, g0, q0⟩ := OpN.field ((fun n => (OpN.slice (e := 3) Try.underlying40 (by kernel_rfl) ((fun n => OpN.int Try.underlying3) n)).down (Nat.le_succ n)) m') (m := m') (Nat.le_refl _) (i := 0) (o := 0) (s := 1) (by kernel_rfl) (by omega) (hf 0 _ rfl)
  obtain ⟨y1, g1, q1⟩ := OpN.field ((fun n => (OpN.slice (e := 82) Try.underlying29 (by kernel_rfl) (openT82 n)).down (Nat.le_succ n)) m') (m := m') (Nat.le_refl _) (i := 1) (o := 1) (s := 1) (by kernel_rfl) (by omega) (hf 1 _ rfl)
  exact ⟨(⟨y0, y1⟩ : S68), (pair_cut 0 1 g0 (last_cut 1 1 (by omega) g1)), ⟨q0, q1⟩⟩
theorem openT31 {H : Type} {enc : TypeId × Value → H} {w : World} {sp : Nat → Bool} {held : Bool} : ∀ n, OpN enc Try.prog w sp held n 31 k31 Fine31 := by
  intro n
  intro m cs x hm h
  obtain ⟨xs, m', rfl, _, hl, hlen, hf⟩ := DataW.trod_struct Try.underlying31 h
  have hl' : cs.length = 4 := hl.trans (by kernel_rfl)
  have hx : xs.length = 4 := hlen
  obtain ⟨y0, g0, q0⟩ := OpN.field ((fun n => OpN.int Try.underlying3) m') (m := m') (Nat.le_refl _) (i := 0) (o := 0) (s := 1) (by kernel_rfl) (by omega) (hf 0 _ rfl)
  obtain ⟨y1, g1, q1⟩ := OpN.field ((fun n => OpN.int Try.underlying3) m') (m := m') (Nat.le_refl _) (i := 1) (o := 1) (s := 1) (by kernel_rfl) (by omega) (hf 1 _ rfl)
  obtain ⟨y2, g2, q2⟩ := OpN.field ((fun n => OpN.int Try.underlying3) m') (m := m') (Nat.le_refl _) (i := 2) (o := 2) (s := 1) (by kernel_rfl) (by omega) (hf 2 _ rfl)
  obtain ⟨y3, g3, q3⟩ := OpN.field ((fun n => (OpN.slice (e := 82) Try.underlying29 (by kernel_rfl) (openT82 n)).down (Nat.le_succ n)) m') (m := m') (Nat.le_refl _) (i := 3) (o := 3) (s := 1) (by kernel_rfl) (by omega) (hf 3 _ rfl)
  exact ⟨(⟨y0, y1, y2, y3⟩ : S31), (pair_cut 0 1 g0 (pair_cut 1 1 g1 (pair_cut 2 1 g2 (last_cut 3 1 (by omega) g3)))), ⟨q0, q1, q2, q3⟩⟩
theorem openT107 {H : Type} {enc : TypeId × Value → H} {w : World} {sp : Nat → Bool} {held : Bool} : ∀ n, OpN enc Try.prog w sp held n 107 k107 Fine107 := by
  intro n
  intro m cs x hm h
  obtain ⟨xs, m', rfl, _, hl, hlen, hf⟩ := DataW.trod_struct Try.underlying107 h
  have hl' : cs.length = 2 := hl.trans (by kernel_rfl)
  have hx : xs.length = 2 := hlen
  obtain ⟨y0, g0, q0⟩ := OpN.field ((fun n => OpN.string Try.underlying9) m') (m := m') (Nat.le_refl _) (i := 0) (o := 0) (s := 1) (by kernel_rfl) (by omega) (hf 0 _ rfl)
  obtain ⟨y1, g1, q1⟩ := OpN.field ((fun n => OpN.int Try.underlying3) m') (m := m') (Nat.le_refl _) (i := 1) (o := 1) (s := 1) (by kernel_rfl) (by omega) (hf 1 _ rfl)
  exact ⟨(⟨y0, y1⟩ : S107), (pair_cut 0 1 g0 (last_cut 1 1 (by omega) g1)), ⟨q0, q1⟩⟩
theorem openT57 {H : Type} {enc : TypeId × Value → H} {w : World} {sp : Nat → Bool} {held : Bool} : ∀ n, OpN enc Try.prog w sp held n 57 k57 Fine57 := by
  intro n
  intro m cs x hm h
  obtain ⟨xs, m', rfl, _, hl, hlen, hf⟩ := DataW.trod_struct Try.underlying57 h
  have hl' : cs.length = 2 := hl.trans (by kernel_rfl)
  have hx : xs.length = 2 := hlen
  obtain ⟨y0, g0, q0⟩ := OpN.field ((fun n => (OpN.slice (e := 107) Try.underlying55 (by kernel_rfl) (openT107 n)).down (Nat.le_succ n)) m') (m := m') (Nat.le_refl _) (i := 0) (o := 0) (s := 1) (by kernel_rfl) (by omega) (hf 0 _ rfl)
  obtain ⟨y1, g1, q1⟩ := OpN.field ((fun n => (OpN.slice (e := 107) Try.underlying55 (by kernel_rfl) (openT107 n)).down (Nat.le_succ n)) m') (m := m') (Nat.le_refl _) (i := 1) (o := 1) (s := 1) (by kernel_rfl) (by omega) (hf 1 _ rfl)
  exact ⟨(⟨y0, y1⟩ : S57), (pair_cut 0 1 g0 (last_cut 1 1 (by omega) g1)), ⟨q0, q1⟩⟩
end Go.Proofs.Ytacpkmdnoggmoaa.P
