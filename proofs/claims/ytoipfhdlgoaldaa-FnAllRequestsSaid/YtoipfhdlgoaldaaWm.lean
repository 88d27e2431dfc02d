import Derived.Test.YtoipfhdlgoaldaaWz
import Derived.Maps.Own
import Derived.Maps.OwnOps
/-! A map from texts to bools that a call makes, asks, and puts 'true' into: its block by the list of its keys. -/
namespace Go.Proofs.YtoipfhdlgoaldaaW.PrintWords
open Go.RowKit Go.Proofs.YtoipfhdlgoaldaaW.PrintLast Go.Proofs.YtoipfhdlgoaldaaW.PrintMore
/-- Is the text among the keys? -/
def memB (s : ByteArray) (ms : List ByteArray) : Bool := ms.any (fun x => x == s)
/-- The keys with one more. -/
def insB (s : ByteArray) (ms : List ByteArray) : List ByteArray := if memB s ms = true then ms else ms ++ [s]
def mapEnt (p : ByteArray × Nat) : MapEntry := { key := .string p.1, val := .bool true, born := p.2 }
def mapEnts (ms : List ByteArray) : Array MapEntry := (ms.zipIdx.map mapEnt).toArray
def mapObj (ms : List ByteArray) : Obj := .map (mapEnts ms) ms.length
def setMap (w : World) (g : Nat) (ms : List ByteArray) : World := Go.ChangeMaps.setBlock w g (mapObj ms)
theorem memB_iff (s : ByteArray) (ms : List ByteArray) : memB s ms = true ↔ s ∈ ms := by
  unfold memB
  rw [List.any_eq_true]
  constructor
  · rintro ⟨x, hx, h⟩
    rw [← (MapKept.bytes_beq x s).1 h]
    exact hx
  · intro h
    exact ⟨s, h, (MapKept.bytes_beq s s).2 rfl⟩
section
variable {P : Program} {w : World} {t k e : TypeId} {g : Nat} {ms : List ByteArray}
theorem ents_look (s : ByteArray) : ∀ (l : List MapEntry) (ms : List ByteArray) (i : Nat), l.map (fun x => (x.key, x.val)) = ms.map (fun s => (Value.string s, Value.bool true)) →
    (memB s ms = false ∧ Instr.findNow .string (.string s) l i = some none) ∨ (memB s ms = true ∧ ∃ j x, Instr.findNow .string (.string s) l i = some (some (i + j, .bool true)) ∧ l[j]? = some x ∧ x.key = .string s ∧ x.val = .bool true)
  | [], ms, i, h => by
    cases ms with
    | nil => exact .inl ⟨rfl, rfl⟩
    | cons _ _ => simp at h
  | x :: l, ms, i, h => by
    cases ms with
    | nil => simp at h
    | cons m ms =>
      simp only [List.map_cons, List.cons.injEq, Prod.mk.injEq] at h
      obtain ⟨⟨h1, h2⟩, h3⟩ := h
      by_cases hs : s = m
      · subst hs
        have hbt : (s == s) = true := (MapKept.bytes_beq s s).2 rfl
        refine .inr ⟨by simp [memB, hbt], 0, x, ?_, rfl, h1, h2⟩
        simp [Instr.findNow, Instr.sameNow, h1, h2, hbt]
      · have hbf : (s == m) = false := Bool.eq_false_iff.2 (fun h => hs ((MapKept.bytes_beq s m).1 h))
        have hbg : (m == s) = false := Bool.eq_false_iff.2 (fun h => hs ((MapKept.bytes_beq m s).1 h).symm)
        have hb : memB s (m :: ms) = memB s ms := by simp [memB, hbg]
        have hf : Instr.findNow .string (.string s) (x :: l) i = Instr.findNow .string (.string s) l (i + 1) := by simp [Instr.findNow, Instr.sameNow, h1, hbf]
        rw [hb, hf]
        rcases ents_look s l ms (i + 1) h3 with ⟨a, b⟩ | ⟨a, j, y, b, c, d⟩
        · exact .inl ⟨a, b⟩
        · exact .inr ⟨a, j + 1, y, by rw [b]; congr 3; omega, by simpa using c, d⟩
theorem ents_keys (ms : List ByteArray) : (mapEnts ms).toList.map (fun x => (x.key, x.val)) = ms.map (fun s => (Value.string s, Value.bool true)) := by
  unfold mapEnts
  rw [List.map_map, show ((fun x : MapEntry => (x.key, x.val)) ∘ mapEnt) = (fun s : ByteArray => (Value.string s, Value.bool true)) ∘ Prod.fst from rfl, ← List.map_map, List.zipIdx_map_fst]
theorem ents_push (s : ByteArray) (ms : List ByteArray) : (mapEnts ms).push { key := .string s, val := .bool true, born := ms.length } = mapEnts (ms ++ [s]) := by
  unfold mapEnts
  rw [List.zipIdx_append, List.map_append, List.push_toArray]
  simp [mapEnt]
theorem check_string (b : Bool) (n : Nat) (hk : P.underlying k = some .string) (s : ByteArray) (w : World) : (Instr.checkKey b (n + 1) k (.string s)).run P w = .ok () w := by
  simp [Instr.checkKey, run_underlying hk]
theorem run_makeSeen (t : TypeId) (w : World) : (Instr.makeMap t none).run P w = .ok (.map (some w.heap.size)) (w.alloc (mapObj [])) := run_makeMap t w
theorem run_lookSeen (ht : P.underlying t = some (.map k e)) (hk : P.underlying k = some .string) (hz : (zeroValue e).run P w = .ok (.bool false) w) (hb : w.heap[g]? = some (mapObj ms)) (s : ByteArray) :
    (Instr.lookup t (.map (some g)) (.string s) false).run P w = .ok (.bool (memB s ms)) w := by
  rcases ents_look s _ ms 0 (ents_keys ms) with ⟨h1, h2⟩ | ⟨h1, j, x, h2, _, _, _⟩
  · simp [Instr.lookup, run_underlying ht, MapKept.run_getObj_map hb, check_string _ 9999 hk, MapKept.run_findKey hk h2, hz, Result.andThen, h1]
  · simp [Instr.lookup, run_underlying ht, MapKept.run_getObj_map hb, check_string _ 9999 hk, MapKept.run_findKey hk h2, Result.andThen, h1]
theorem run_putSeen (ht : P.underlying t = some (.map k e)) (hk : P.underlying k = some .string) (hb : w.heap[g]? = some (mapObj ms)) (s : ByteArray) :
    (Instr.mapUpdate t (.map (some g)) (.string s) (.bool true)).run P w = .ok () (setMap w g (insB s ms)) := by
  rcases ents_look s _ ms 0 (ents_keys ms) with ⟨h1, h2⟩ | ⟨h1, j, x, h2, h3, h4, h5⟩
  · have hi : insB s ms = ms ++ [s] := by simp [insB, h1]
    rw [hi]
    simp [Instr.mapUpdate, run_underlying ht, MapKept.run_getObj_map hb, check_string _ 9999 hk, MapKept.run_findKey hk h2, MapKept.run_setObj_map _ hb, Result.andThen, setMap, Go.ChangeMaps.setBlock, mapObj, ents_push]
  · have hi : insB s ms = ms := by simp [insB, h1]
    have hbt : (s == s) = true := (MapKept.bytes_beq s s).2 rfl
    rw [hi]
    have hx : (mapEnts ms)[j]? = some x := by simpa using h3
    have hsame : (mapEnts ms).modify j (fun y => { y with key := .string s, val := .bool true }) = mapEnts ms := by
      refine Array.ext_getElem? (fun q => ?_)
      rw [Array.getElem?_modify]
      split
      · subst_vars
        rw [hx]
        simp [← h4, ← h5]
      · rfl
    simp [Instr.mapUpdate, run_underlying ht, MapKept.run_getObj_map hb, check_string _ 9999 hk, MapKept.run_findKey hk h2, MapKept.run_setObj_map _ hb, Result.andThen, setMap, Go.ChangeMaps.setBlock, mapObj, Instr.keyThatStays, Instr.sameBits, hx, h4, hsame, hbt]
theorem blk_farO {o : Obj} (h : w.heap[g]? = some o) {p : Addr} (hp : g ≠ p.block) (u : Value) : (w.setCell p u).heap[g]? = some o := (Below.heap_setCell w p u g hp).trans h
theorem setMap_same (hb : w.heap[g]? = some (mapObj ms)) (ms' : List ByteArray) : (setMap w g ms').heap[g]? = some (mapObj ms') := Go.ChangeMaps.heap_setBlock_same hb _
theorem setMap_far {i : Nat} (h : i ≠ g) (ms' : List ByteArray) : (setMap w g ms').heap[i]? = w.heap[i]? := by
  unfold setMap Go.ChangeMaps.setBlock
  exact Array.getElem?_setIfInBounds_ne (Ne.symm h)
theorem below_setMap {B : Nat} {w0 : World} (h : Below B w0 w) (_hb : w.heap[g]? = some (mapObj ms)) (hg : B ≤ g) (ms' : List ByteArray) : Below B w0 (setMap w g ms') :=
  ⟨h.os, h.tape, h.output, by show _ ≤ (w.heap.setIfInBounds g _).size; rw [Array.size_setIfInBounds]; exact h.size, fun i hi => (setMap_far (by omega) ms').trans (h.block i hi)⟩
end
section
variable {P : Program} {ops : Array Oper} {rest : List Oper} {o : Oper} {a : Act} {Q : Exit → Act → World → Prop}
theorem map_event {W : World} (hgd : o.guard = none) {N : Tmp} (_hd : o.dst = some N) {t : TypeId} (hop : o.op = .makeMap t none)
    (h : ∀ g, g = W.heap.size → ∀ w1, w1.heap[g]? = some (mapObj []) → Below W.heap.size W w1 → wpList P ops Q rest (a.put o.dst (.map (some g))) w1) : wpList P ops Q (o :: rest) a W := by
  refine wpList_plain hgd fun K hK => ?_
  unfold Oper.wp
  have hr : (execOp a.eval o).run P W = .ok (.value (.map (some W.heap.size))) (W.alloc (mapObj [])) := by
    simp [execOp, hop, run_makeSeen, Result.andThen]
  rw [hr]
  exact hK _ _ (h _ rfl _ (heap_alloc_new W _) (below_alloc (Below.refl _ _) _))
theorem put_event {W : World} {g : Nat} {ms : List ByteArray} (hgd : o.guard = none) {t k e : TypeId} {m x v : Operand} (hop : o.op = .mapUpdate t m x v) (hN : o.dst = none) (hm : a.eval m = .map (some g)) {s : ByteArray} (hx : a.eval x = .string s) (hv : a.eval v = .bool true)
    (ht : P.underlying t = some (.map k e)) (hk : P.underlying k = some .string) (hb : W.heap[g]? = some (mapObj ms))
    (h : ∀ w1, w1.heap[g]? = some (mapObj (insB s ms)) → (∀ i, i ≠ g → w1.heap[i]? = W.heap[i]?) → (∀ {B w0}, Below B w0 W → B ≤ g → Below B w0 w1) → wpList P ops Q rest a w1) : wpList P ops Q (o :: rest) a W := by
  refine wpList_plain hgd fun K hK => ?_
  unfold Oper.wp
  have hr : (execOp a.eval o).run P W = .ok .skip (setMap W g (insB s ms)) := by
    simp [execOp, hop, hm, hx, hv, run_putSeen ht hk hb, Result.andThen]
  rw [hr]
  show K (a.put o.dst undef) _
  rw [hN]
  exact hK _ _ (h _ (setMap_same hb _) (fun i hi => setMap_far hi _) (fun hB hg => below_setMap hB hb hg _))
end
end Go.Proofs.YtoipfhdlgoaldaaW.PrintWords
