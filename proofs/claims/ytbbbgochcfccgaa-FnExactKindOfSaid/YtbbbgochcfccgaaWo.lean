import Derived.Test.YtbbbgochcfccgaaWz
import Derived.ChangeArms
import Derived.DataReads
import Derived.DataElems
/-! What came in is opened: whatever is read of a value of a type is of that type's kind. 'OpN n t d Q': at a depth of n at most. -/
namespace Go.Proofs.YtbbbgochcfccgaaW.PrintWords
open Go.RowKit
section
variable {H : Type} {enc : TypeId × Value → H} {P : Program} {w : World} {sp : Nat → Bool} {held : Bool}
def OpN {α : Type} (enc : TypeId × Value → H) (P : Program) (w : World) (sp : Nat → Bool) (held : Bool) (n : Nat) (t : TypeId) (d : Kd α) (Q : α → Prop) : Prop :=
  ∀ m cs x, m ≤ n → DataW.trod enc P w 0 sp held m t cs = some x → ∃ y, d.K w y cs ∧ Q y
theorem OpN.int {n : Nat} {t : TypeId} {k : IntKind} (ht : P.underlying t = some (.int k)) : OpN enc P w sp held n t (Kd.int k) (fun x => (Lit.int k x).wf = true) := by
  intro m cs x _ h
  obtain ⟨y, rfl, _, hw⟩ := DataW.trod_int ht h
  exact ⟨y, rfl, hw⟩
theorem OpN.bool {n : Nat} {t : TypeId} (ht : P.underlying t = some .bool) : OpN enc P w sp held n t Kd.bool (fun _ => True) := by
  intro m cs x _ h
  obtain ⟨y, rfl, _⟩ := DataW.trod_bool ht h
  exact ⟨y, rfl, trivial⟩
theorem OpN.string {n : Nat} {t : TypeId} (ht : P.underlying t = some .string) : OpN enc P w sp held n t Kd.string (fun s => s.size ≤ maxLen) := by
  intro m cs x _ h
  obtain ⟨y, rfl, _, hw⟩ := DataW.trod_string ht h
  exact ⟨y, rfl, hw⟩
theorem OpN.down {α : Type} {n m : Nat} {t : TypeId} {d : Kd α} {Q : α → Prop} (h : OpN enc P w sp held n t d Q) (hm : m ≤ n) : OpN enc P w sp held m t d Q := fun k cs x hk hx => h k cs x (by omega) hx
theorem OpN.slice {α : Type} {n : Nat} {t e : TypeId} {d : Kd α} {Q : α → Prop} (ht : P.underlying t = some (.slice e)) (hc : P.cellsOf e = d.sz) (he : OpN enc P w sp held n e d Q) :
    OpN enc P w sp held (n + 1) t (Kd.slice e d) (fun l => l.length ≤ maxLen ∧ ∀ y ∈ l, Q y) := by
  intro m cs x hm h
  rcases DataW.trod_slice ht h with ⟨rfl, _⟩ | ⟨a, len, cap, elems, rest, m', rfl, rfl, _, _, hl, hcap, hel, hat, _⟩
  · exact ⟨[], ⟨none, 0, rfl, Nat.le_refl _, rfl, by simp, fun h => absurd h (by simp)⟩, by simp, fun y hy => absurd hy (by simp)⟩
  · have hY : ∀ i, i < len → ∃ (y : α) (c : List Value), w.cells? 0 (a.add (i * P.cellsOf e)) (P.cellsOf e) = some c ∧ d.K w y c ∧ Q y := by
      intro i hi
      have h1 := hat i hi
      rw [List.getElem?_eq_getElem (by omega)] at h1
      obtain ⟨c, h2, h3⟩ := Option.bind_eq_some_iff.1 h1
      obtain ⟨y, hy, hq⟩ := he m' c _ (by omega) h3
      exact ⟨y, c, h2, hy, hq⟩
    have hZ : ∀ i : Fin len, ∃ yc : α × List Value, w.cells? 0 (a.add (i.val * P.cellsOf e)) (P.cellsOf e) = some yc.2 ∧ d.K w yc.1 yc.2 ∧ Q yc.1 := fun i => by
      obtain ⟨y, c, h⟩ := hY i.val i.isLt
      exact ⟨(y, c), h⟩
    let f : Fin len → α × List Value := fun i => Classical.choose (hZ i)
    have hf : ∀ i : Fin len, w.cells? 0 (a.add (i.val * P.cellsOf e)) (P.cellsOf e) = some (f i).2 ∧ d.K w (f i).1 (f i).2 ∧ Q (f i).1 := fun i => Classical.choose_spec (hZ i)
    have hlen : (List.ofFn (fun i => (f i).1)).length = len := by simp
    refine ⟨List.ofFn (fun i => (f i).1), ⟨some a, cap, by rw [hlen], by rw [hlen]; exact hl, by rw [hlen], by rw [hlen]; unfold maxLen at hcap; omega, fun _ => ⟨a, rfl, fun j p hj => ?_⟩⟩, by rw [hlen]; omega, fun y hy => ?_⟩
    · obtain ⟨hjl, hje⟩ := List.getElem?_eq_some_iff.1 hj
      rw [hlen] at hjl
      simp only [List.getElem_ofFn] at hje
      obtain ⟨h1, h2, _⟩ := hf ⟨j, hjl⟩
      rw [← hje]
      refine ⟨(f ⟨j, hjl⟩).2, d.K_len h2, h2, fun i u hu => ?_⟩
      obtain ⟨_, h4, h5⟩ := World.cells?_some h1
      have hi : i < P.cellsOf e := by
        have := (List.getElem?_eq_some_iff.1 hu).1
        omega
      have h6 := h5 i hi
      rw [hu] at h6
      rw [← hc]
      rw [← h6, Go.Addr.add_add]
    · obtain ⟨i, rfl⟩ := List.mem_ofFn.1 hy
      exact (hf i).2.2
theorem pair_cut {α β : Type} {a : Kd α} {b : Kd β} {x : α} {y : β} {cs : List Value} (o s : Nat) (h0 : a.K w x ((cs.drop o).take s)) (h1 : b.K w y (cs.drop (o + s))) : (Kd.pair a b).K w (x, y) (cs.drop o) :=
  ⟨(cs.drop o).take s, cs.drop (o + s), by rw [← List.drop_drop, List.take_append_drop], h0, h1⟩
theorem last_cut {α : Type} {a : Kd α} {x : α} {cs : List Value} (o s : Nat) (hl : cs.length ≤ o + s) (h : a.K w x ((cs.drop o).take s)) : a.K w x (cs.drop o) := by
  rw [List.take_of_length_le (by rw [List.length_drop]; omega)] at h
  exact h
/-- A field of a struct, at its place. -/
theorem OpN.field {α : Type} {n m : Nat} {t : TypeId} {d : Kd α} {Q : α → Prop} (he : OpN enc P w sp held n t d Q) (hm : m ≤ n) {cs : List Value} {xs : List (DataW H × List MemPlace)} {i o s : Nat} (hc : P.cellsOf t = s) (hi : i < xs.length)
    (h : DataW.trod enc P w 0 sp held m t ((cs.drop o).take (P.cellsOf t)) = xs[i]?) : ∃ y, d.K w y ((cs.drop o).take s) ∧ Q y := by
  rw [List.getElem?_eq_getElem hi, hc] at h
  exact he m _ _ hm h
theorem OpN.Trod {α : Type} {t : TypeId} {d : Kd α} {Q : α → Prop} {v : Value} {x : DataW H} {ps : List MemPlace} (he : ∀ n, OpN enc P w sp held n t d Q) (h : DataW.Trod enc P w 0 sp held t v x ps) : ∃ y, d.K w y v.cells.toList ∧ Q y := by
  obtain ⟨fuel, hf⟩ := h
  exact he fuel fuel _ _ (Nat.le_refl _) hf
end
end Go.Proofs.YtbbbgochcfccgaaW.PrintWords
