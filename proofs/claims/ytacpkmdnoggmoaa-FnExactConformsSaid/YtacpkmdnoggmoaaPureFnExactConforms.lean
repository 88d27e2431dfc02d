/- The program's Conforms answers as the reference's, for all schemas, worlds and requests, and leaves them alone.
   Conditions: none beyond the statement's own. -/
import Derived.Test.YtacpkmdnoggmoaaPx1008
set_option linter.unusedVariables false
set_option linter.unusedSimpArgs false
namespace Go.Proofs.Ytacpkmdnoggmoaa.Pure
open Go.RowKit Go.Proofs.Ytacpkmdnoggmoaa.P Go.Proofs.YtacpkmdnoggmoaaW.PrintWords Go.Proofs.YtacpkmdnoggmoaaW.PrintLast

/-! #### rounds: 'T g Q': from some number of rounds on g answers, and the answer is as Q says -/
def T {α : Type} (g : Nat → Option α) (Q : α → Prop) : Prop := ∃ r, Ev g r ∧ Q r
theorem T.ev {α : Type} {g : Nat → Option α} {r : α} (h : Ev g r) : T g (fun x => x = r) := ⟨r, h, rfl⟩
theorem T.of_eq {α : Type} {g : Nat → Option α} {r : α} (h : T g (fun x => x = r)) : Ev g r := by
  obtain ⟨_, h, rfl⟩ := h
  exact h
theorem T.now {α : Type} {r : α} {Q : α → Prop} (h : Q r) : T (fun _ => some r) Q := ⟨r, Ev.now r, h⟩
theorem T.mono {α : Type} {g : Nat → Option α} {P Q : α → Prop} (h : T g P) (k : ∀ a, P a → Q a) : T g Q := by
  obtain ⟨r, h, p⟩ := h
  exact ⟨r, h, k r p⟩
theorem T.bind {α β : Type} {g : Nat → Option α} {f : Nat → α → Option β} {P : α → Prop} {Q : β → Prop} (h : T g P) (k : ∀ a, P a → T (fun n => f n a) Q) : T (fun n => (g n).bind (f n)) Q := by
  obtain ⟨a, h, p⟩ := h
  obtain ⟨r, k, q⟩ := k a p
  exact ⟨r, Ev.bind h k, q⟩
theorem T.ite {α : Type} {c : Prop} [Decidable c] {g f : Nat → Option α} {Q : α → Prop} (h : c → T g Q) (k : ¬ c → T f Q) : T (fun n => if c then g n else f n) Q := by
  by_cases hc : c
  · simpa only [if_pos hc] using h hc
  · simpa only [if_neg hc] using k hc
theorem T.ift {α : Type} {c : Prop} [Decidable c] {g f : Nat → Option α} {Q : α → Prop} (hc : c) (h : T g Q) : T (fun n => if c then g n else f n) Q := T.ite (fun _ => h) (fun n => absurd hc n)
theorem T.iff_ {α : Type} {c : Prop} [Decidable c] {g f : Nat → Option α} {Q : α → Prop} (hc : ¬ c) (h : T f Q) : T (fun n => if c then g n else f n) Q := T.ite (fun n => absurd n hc) (fun _ => h)
theorem T.step {α : Type} {g f : Nat → Option α} {Q : α → Prop} (h : ∀ k, g (k + 1) = f k) (k : T f Q) : T g Q := by
  obtain ⟨r, k, q⟩ := k
  exact ⟨r, Ev.step h k, q⟩
theorem T.rounds {g : Nat → Option Bool} (h : T g (fun x => x = true)) : ∃ k, g k = some true := (T.of_eq h).rounds
theorem T.congr {α : Type} {g f : Nat → Option α} {Q : α → Prop} (h : ∀ k, g k = f k) (k : T f Q) : T g Q := by
  obtain ⟨r, k, q⟩ := k
  exact ⟨r, Ev.congr h k, q⟩
theorem T.run {α : Type} {g : Nat → Option α} {Q : α → Prop} (h : T g Q) : ∃ r K, (∀ k, K ≤ k → g k = some r) ∧ Q r := by
  obtain ⟨r, ⟨K, h⟩, q⟩ := h
  exact ⟨r, K, h, q⟩
/-- A loop over what is left. -/
theorem T.loop {σ α : Type} (g : σ → Nat → Option α) (m : σ → Nat) (I : σ → Prop) (Q : α → Prop) (h : ∀ s, I s → (∀ s', I s' → m s' < m s → T (g s') Q) → T (g s) Q) : ∀ s, I s → T (g s) Q := by
  intro s
  induction hm : m s using Nat.strongRecOn generalizing s with
  | _ n ih =>
    intro hI
    exact h s hI (fun s' hI' hlt => ih (m s') (hm ▸ hlt) s' rfl hI')
theorem w64 {x : Int} (h : -9223372036854775808 ≤ x) (h' : x ≤ 9223372036854775807) : wrap64 x = x := by unfold wrap64; omega
theorem T.got {α β : Type} {r : α} {f : Nat → α → Option β} {Q : β → Prop} (h : T (fun n => f n r) Q) : T (fun n => (some r).bind (f n)) Q := h
/-! #### texts and lists -/
theorem tl_inj {a b : ByteArray} : a.toList = b.toList ↔ a = b := by
  rw [ByteArray.toList_eq, ByteArray.toList_eq]
  constructor
  · intro h
    cases a; cases b
    exact congrArg ByteArray.mk (Array.toList_inj.1 h)
  · rintro rfl
    rfl
theorem drop_at {α : Type} (l : List α) (z : α) (i : Int) (h0 : 0 ≤ i) (h1 : i < l.length) : l.drop i.toNat = l.getD i.toNat z :: l.drop (i + 1).toNat := by
  have h : i.toNat < l.length := by omega
  rw [List.drop_eq_getElem_cons h, List.getD_eq_getElem?_getD, List.getElem?_eq_getElem h]
  simp only [Option.getD_some]
  rw [show (i + 1).toNat = i.toNat + 1 by omega]
theorem drop_all {α : Type} (l : List α) (i : Int) (h : ¬ i < l.length) : l.drop i.toNat = [] := List.drop_of_length_le (by omega)
theorem get_mem {α : Type} (l : List α) (z : α) (i : Int) (h0 : 0 ≤ i) (h1 : i < l.length) : l.getD i.toNat z ∈ l := by
  have h : i.toNat < l.length := by omega
  rw [List.getD_eq_getElem?_getD, List.getElem?_eq_getElem h]
  exact List.getElem_mem h
/-- A loop that counts up to n. -/
theorem T.count {α : Type} (n : Nat) (g : Int → Nat → Option α) (Q : α → Prop) (fin : T (g n) Q) (step : ∀ i : Int, 0 ≤ i → i < n → T (g (i + 1)) Q → T (g i) Q) : ∀ i : Int, 0 ≤ i → i ≤ n → T (g i) Q := by
  refine fun i h0 h1 => T.loop g (fun i => (n - i).toNat) (fun i => 0 ≤ i ∧ i ≤ n) Q ?_ i ⟨h0, h1⟩
  rintro i ⟨h0, h1⟩ ih
  by_cases hi : i = n
  · rw [hi]; exact fin
  · exact step i h0 (by omega) (ih (i + 1) ⟨by omega, by omega⟩ (by omega))
/-- A loop that turns each element of a list into one of a list of the same length. -/
theorem T.turn {α β γ : Type} (za : α) (l : List α) (c : α → β) (g : List β → Int → Nat → Option γ) (Q : γ → Prop) (fin : T (g (l.map c) l.length) Q)
    (step : ∀ (out : List β) (i : Int), 0 ≤ i → i < l.length → out.length = l.length → T (g (out.set i.toNat (c (l.getD i.toNat za))) (i + 1)) Q → T (g out i) Q) (out : List β) (hl : out.length = l.length) : T (g out 0) Q := by
  refine T.loop (fun (s : List β × Int) => g s.1 s.2) (fun s => (l.length - s.2).toNat) (fun s => 0 ≤ s.2 ∧ s.2 ≤ l.length ∧ s.1.length = l.length ∧ ∀ j : Nat, (j : Int) < s.2 → s.1[j]? = (l[j]?).map c) Q ?_ (out, 0) ⟨by simp, by simp, hl, fun j hj => absurd hj (by simp)⟩
  rintro ⟨o, i⟩ ⟨h0, h1, h2, h3⟩ ih
  dsimp only at h0 h1 h2 h3 ih ⊢
  by_cases hi : i = l.length
  · have : o = l.map c := List.ext_getElem? (fun j => by
      by_cases hj : (j : Int) < i
      · rw [h3 j hj, List.getElem?_map]
      · rw [List.getElem?_eq_none (by omega), List.getElem?_eq_none (by rw [List.length_map]; omega)])
    rw [this, hi]; exact fin
  · refine step o i h0 (by omega) h2 (ih (_, i + 1) ⟨by show 0 ≤ i + 1; omega, by show i + 1 ≤ _; omega, by rw [List.length_set]; exact h2, fun j hj => ?_⟩ (by show ((l.length : Int) - (i + 1)).toNat < (l.length - i).toNat; omega))
    dsimp only at hj ⊢
    rw [List.getElem?_set]
    by_cases hji : i.toNat = j
    · rw [if_pos hji, if_pos (by omega)]
      subst hji
      rw [List.getD_eq_getElem?_getD, List.getElem?_eq_getElem (by omega : i.toNat < l.length)]
      rfl
    · rw [if_neg hji]
      exact h3 j (by omega)
/-! #### fields, mirrored -/
def toField (x : S82) : S85 := ⟨x.f0, ⟨x.f1.f0, x.f1.f1⟩⟩
theorem szField_ (x : S82) (n : Int) (h0 : 0 ≤ n) (h1 : n ≤ 1048576) (hx : Fine82 x) : ∃ r, laws_szField.f x.f0 x.f1.f0 x.f1.f1 n = some r ∧ (r < 0 ∨ 0 ≤ r ∧ r ≤ n ∧ x.f0.size ≤ n) := by
  unfold laws_szField.f
  have hs := hx.1
  unfold maxLen at hs
  rw [w64 (by omega) (by omega)]
  by_cases h : n - (x.f0.size : Int) < 0
  · exact ⟨-1, by rw [if_pos h], .inl (by decide)⟩
  · exact ⟨_, by rw [if_neg h], .inr ⟨by omega, by omega, by omega⟩⟩
theorem szFieldS_ (l : List S82) (n : Int) (h0 : 0 ≤ n) (h1 : n ≤ 1048576) (hl : l.length ≤ maxLen ∧ ∀ y ∈ l, Fine82 y) : T (fun k => laws_szFieldS.f k l n) (fun r => r < 0 ∨ 0 ≤ r ∧ r ≤ n ∧ l.length ≤ n ∧ ∀ y ∈ l, (y.f0.size : Int) ≤ n) := by
  unfold laws_szFieldS.f
  obtain ⟨hl, hf⟩ := hl
  unfold maxLen at hl
  rw [w64 (by omega) (by omega)]
  refine T.ite (fun _ => T.now (.inl (by decide))) (fun h => ?_)
  refine T.loop (fun (s : Int × Int) k => laws_szFieldS.l0 k l s.1 s.2) (fun s => ((l.length : Int) - s.2).toNat) (fun s => 0 ≤ s.2 ∧ s.2 ≤ l.length ∧ 0 ≤ s.1 ∧ s.1 ≤ n - l.length ∧ ∀ j : Nat, (j : Int) < s.2 → ∀ y, l[j]? = some y → (y.f0.size : Int) ≤ n) _ ?_ (n - l.length, 0) ⟨by simp, by simp, by show 0 ≤ n - (l.length : Int); omega, by show n - (l.length : Int) ≤ _; omega, fun j hj => absurd hj (by simp)⟩
  rintro ⟨m, i⟩ ⟨a0, a1, a2, a3, a4⟩ ih
  dsimp only at a0 a1 a2 a3 a4 ih ⊢
  refine T.step (fun k => laws_szFieldS.l0.eq_2 ..) ?_
  refine T.ite (fun hi => T.ift a0 ?_) (fun hi => T.now (.inr ⟨a2, by omega, by omega, fun y hy => ?_⟩))
  · obtain ⟨r, e, hr⟩ := szField_ (l.getD i.toNat z82) m a2 (by omega) (hf _ (get_mem l _ i a0 hi))
    rw [show laws_szField.f (rd_T82 l i).f0 (rd_T82 l i).f1.f0 (rd_T82 l i).f1.f1 m = some r from e]
    refine T.bind (T.now (Q := fun x => x = _) rfl) ?_
    rintro r rfl
    refine T.ite (fun _ => T.now (.inl (by decide))) (fun hn => ?_)
    rw [w64 (by omega) (by omega)]
    rcases hr with hr | ⟨r0, r1, r2⟩
    · exact absurd hr hn
    · refine ih (r, i + 1) ⟨by show 0 ≤ i + 1; omega, by show i + 1 ≤ _; omega, r0, by show r ≤ _; omega, fun j hj y hy => ?_⟩ (by show ((l.length : Int) - (i + 1)).toNat < _; omega)
      dsimp only at hj
      by_cases hji : (j : Int) < i
      · exact a4 j hji y hy
      · have : j = i.toNat := by omega
        subst this
        rw [List.getD_eq_getElem?_getD, hy, Option.getD_some] at r2
        omega
  · obtain ⟨j, hj, rfl⟩ := List.mem_iff_getElem.1 hy
    exact a4 j (by omega) _ (List.getElem?_eq_getElem hj)
theorem toFieldS_ (l : List S82) (hl : l.length ≤ 1048576) : T (fun k => laws_toFieldS.f k l) (fun r => r = l.map toField) := by
  unfold laws_toFieldS.f
  refine T.ift (by omega) (T.ift (by omega) ?_)
  refine T.turn z82 l toField (fun o i k => laws_toFieldS.l0 k l o i) _ ?_ ?_ _ (by simp)
  · refine T.step (fun k => laws_toFieldS.l0.eq_2 ..) (T.iff_ (by omega) (T.now rfl))
  · intro o i h0 h1 h2 h
    refine T.step (fun k => laws_toFieldS.l0.eq_2 ..) (T.ift h1 (T.ift h0 ?_))
    refine T.bind (T.now (Q := fun x => x = _) rfl) ?_
    rintro _ rfl
    rw [w64 (by omega) (by omega)]
    exact T.ift (by omega) h
theorem eqValue_ (a b : Int) : laws_eqValue.f a b a b = some true := by unfold laws_eqValue.f; rw [if_pos rfl, if_pos rfl]
theorem eqFieldS_ (l : List S85) (hl : l.length ≤ 1048576) : T (fun k => laws_eqFieldS.f k l l) (fun r => r = true) := by
  unfold laws_eqFieldS.f
  refine T.ift rfl ?_
  refine T.count l.length (fun i k => laws_eqFieldS.l0 k l l i) (fun r => r = true) (T.step (fun k => laws_eqFieldS.l0.eq_2 ..) (T.iff_ (by omega) (T.now rfl))) (fun i h0 h1 h => ?_) 0 (by omega) (by omega)
  refine T.step (fun k => laws_eqFieldS.l0.eq_2 ..) (T.ift h1 (T.ift h0 (T.ift h1 ?_)))
  have e : ∀ x : S85, laws_eqField.f x.f0 x.f1.f0 x.f1.f1 x.f0 x.f1.f0 x.f1.f1 = some true := fun x => by
    unfold laws_eqField.f
    rw [if_pos rfl, eqValue_]
    rfl
  rw [e]
  refine T.bind (T.now (Q := fun x => x = _) rfl) ?_
  rintro _ rfl
  rw [w64 (by omega) (by omega)]
  exact T.ift rfl h
/-! #### names -/
def lowB (s : ByteArray) : Bool := decide (∀ i : Nat, i < s.size → 97 ≤ bt s i ∧ bt s i ≤ 122)
def nameB (s : ByteArray) : Bool := lowB s && decide (1 ≤ s.size ∧ s.size ≤ 8)
theorem nameB_iff (s : ByteArray) : nameB s = true ↔ (∀ i : Nat, i < s.size → 97 ≤ bt s i ∧ bt s i ≤ 122) ∧ 1 ≤ s.size ∧ s.size ≤ 8 := by simp [nameB, lowB]
theorem nameB_low {s : ByteArray} (h : ¬ ∀ i : Nat, i < s.size → 97 ≤ bt s i ∧ bt s i ≤ 122) : nameB s = false := by
  have : ¬ (nameB s = true) := fun hn => h ((nameB_iff s).1 hn).1
  simpa using this
theorem impl_in_ (n a b : Int) : impl_in.f n a b = some (decide (a ≤ n ∧ n ≤ b)) := by
  unfold impl_in.f
  by_cases h : a ≤ n
  · rw [if_pos h]; simp [h]
  · rw [if_neg h]; simp [h]
/-! #### values -/
def valueB (kd n many : Int) : Bool := if kd = 1 then decide (0 ≤ n ∧ n ≤ 1) else if kd = 2 then decide (0 ≤ n ∧ n ≤ 99) else if kd = 3 then decide (0 ≤ n ∧ n < many) else false
theorem impl_ValueValid_ (kd n many : Int) : impl_ValueValid.f kd n many = some (valueB kd n many) := by
  unfold impl_ValueValid.f valueB
  by_cases h1 : kd = 1
  · rw [if_pos h1, if_pos h1, impl_in_]; rfl
  rw [if_neg h1, if_neg h1]
  by_cases h2 : kd = 2
  · rw [if_pos h2, if_pos h2, impl_in_]; rfl
  rw [if_neg h2, if_neg h2]
  by_cases h3 : kd = 3
  · rw [if_pos h3, if_pos h3]
    by_cases h : n ≥ 0
    · rw [if_pos h]; simp [show 0 ≤ n from h]
    · rw [if_neg h]; simp [show ¬ 0 ≤ n from h]
  · rw [if_neg h3, if_neg h3]
/-! #### fields and worlds -/
def fieldAt (l : List S85) (many i : Int) : Prop := nameB (rd_T85 l i).f0 = true ∧ valueB (rd_T85 l i).f1.f0 (rd_T85 l i).f1.f1 many = true ∧ ∀ j : Int, 0 ≤ j → j < i → ¬ (rd_T85 l j).f0 = (rd_T85 l i).f0
def FieldsOk (l : List S85) (many : Int) : Prop := (∀ i : Int, 0 ≤ i → i < l.length → fieldAt l many i) ∧ (l.length : Int) ≤ 4
def ascAt (g : List Int) (hi j : Int) : Prop := 0 ≤ rd g j ∧ rd g j ≤ hi ∧ (0 < j → rd g (j - 1) < rd g j)
def AscOk (g : List Int) (hi : Int) : Prop := ∀ j : Int, 0 ≤ j → j < g.length → ascAt g hi j
def thingAt (w : List S72) (many i : Int) : Prop := AscOk (rd_T72 w i).f0 (i - 1) ∧ FieldsOk (rd_T72 w i).f1 many
def WorldOk (w : List S72) : Prop := (w.length : Int) ≤ 7 ∧ ∀ i : Int, 0 ≤ i → i < w.length → thingAt w w.length i
/-- Nothing in it is too long. -/
def ShortF (l : List S85) : Prop := l.length ≤ 9223372036854775806 ∧ ∀ y ∈ l, y.f0.size ≤ 9223372036854775807
def ShortT (x : S72) : Prop := x.f0.length ≤ 9223372036854775806 ∧ ShortF x.f1
def ShortW (w : List S72) : Prop := w.length ≤ 9223372036854775806 ∧ ∀ x ∈ w, ShortT x
/-! #### things, mirrored -/
def toThing (x : S68) : S72 := ⟨x.f0, x.f1.map toField⟩
def FitT (x : S68) : Prop := (x.f0.length : Int) ≤ 1048576 ∧ (x.f1.length : Int) ≤ 1048576 ∧ ∀ y ∈ x.f1, (y.f0.size : Int) ≤ 1048576
theorem FitT.short {x : S68} (h : FitT x) : ShortT (toThing x) := by
  refine ⟨by show x.f0.length ≤ _; have := h.1; omega, by show (x.f1.map toField).length ≤ _; rw [List.length_map]; have := h.2.1; omega, fun y hy => ?_⟩
  obtain ⟨z, hz, rfl⟩ := List.mem_map.1 (show y ∈ x.f1.map toField from hy)
  have := h.2.2 z hz
  show z.f0.size ≤ _
  omega
theorem szThing_ (x : S68) (n : Int) (h0 : 0 ≤ n) (h1 : n ≤ 1048576) (hx : Fine68 x) : T (fun k => laws_szThing.f k x.f0 x.f1 n) (fun r => r < 0 ∨ 0 ≤ r ∧ r ≤ n ∧ FitT x) := by
  unfold laws_szThing.f
  obtain ⟨⟨hl, _⟩, hf⟩ : (x.f0.length ≤ maxLen ∧ _) ∧ (x.f1.length ≤ maxLen ∧ ∀ y ∈ x.f1, Fine82 y) := hx
  have hl' := hl
  unfold maxLen at hl'
  refine T.bind (P := fun r => r < 0 ∨ 0 ≤ r ∧ r ≤ n ∧ (x.f0.length : Int) ≤ n) ?_ ?_
  · unfold laws_szIntS.f
    rw [w64 (by omega) (by omega)]
    exact T.ite (fun _ => T.now (.inl (by decide))) (fun h => T.now (.inr ⟨by omega, by omega, by omega⟩))
  intro r hr
  refine T.ite (fun _ => T.now (.inl (by decide))) (fun hn => ?_)
  obtain ⟨r0, r1, r2⟩ := hr.resolve_left hn
  refine T.bind (szFieldS_ x.f1 r r0 (by omega) hf) ?_
  intro q hq
  refine T.ite (fun _ => T.now (.inl (by decide))) (fun hn => T.now (.inr ?_))
  obtain ⟨q0, q1, q2, q3⟩ := hq.resolve_left hn
  exact ⟨q0, by omega, by omega, by omega, fun y hy => by have := q3 y hy; omega⟩
theorem szThingS_ (l : List S68) (n : Int) (h0 : 0 ≤ n) (h1 : n ≤ 1048576) (hl : l.length ≤ maxLen ∧ ∀ y ∈ l, Fine68 y) : T (fun k => laws_szThingS.f k l n) (fun r => r < 0 ∨ 0 ≤ r ∧ r ≤ n ∧ (l.length : Int) ≤ n ∧ ∀ y ∈ l, FitT y) := by
  unfold laws_szThingS.f
  obtain ⟨hl, hf⟩ := hl
  unfold maxLen at hl
  rw [w64 (by omega) (by omega)]
  refine T.ite (fun _ => T.now (.inl (by decide))) (fun h => ?_)
  refine T.loop (fun (s : Int × Int) k => laws_szThingS.l0 k l s.1 s.2) (fun s => ((l.length : Int) - s.2).toNat) (fun s => 0 ≤ s.2 ∧ s.2 ≤ l.length ∧ 0 ≤ s.1 ∧ s.1 ≤ n - l.length ∧ ∀ j : Nat, (j : Int) < s.2 → ∀ y, l[j]? = some y → FitT y) _ ?_ (n - l.length, 0) ⟨by simp, by simp, by show 0 ≤ n - (l.length : Int); omega, by show n - (l.length : Int) ≤ _; omega, fun j hj => absurd hj (by simp)⟩
  rintro ⟨m, i⟩ ⟨a0, a1, a2, a3, a4⟩ ih
  dsimp only at a0 a1 a2 a3 a4 ih ⊢
  refine T.step (fun k => laws_szThingS.l0.eq_2 ..) ?_
  refine T.ite (fun hi => T.ift a0 ?_) (fun hi => T.now (.inr ⟨a2, by omega, by omega, fun y hy => ?_⟩))
  · refine T.bind (szThing_ (rd_T68 l i) m a2 (by omega) (hf _ (get_mem l z68 i a0 hi))) ?_
    intro r hr
    refine T.ite (fun _ => T.now (.inl (by decide))) (fun hn => ?_)
    rw [w64 (by omega) (by omega)]
    obtain ⟨r0, r1, r2⟩ := hr.resolve_left hn
    refine ih (r, i + 1) ⟨by show 0 ≤ i + 1; omega, by show i + 1 ≤ _; omega, r0, by show r ≤ _; omega, fun j hj y hy => ?_⟩ (by show ((l.length : Int) - (i + 1)).toNat < _; omega)
    dsimp only at hj
    by_cases hji : (j : Int) < i
    · exact a4 j hji y hy
    · have : j = i.toNat := by omega
      subst this
      have e : rd_T68 l i = y := by
        show l.getD i.toNat _ = y
        rw [List.getD_eq_getElem?_getD, hy, Option.getD_some]
      rw [← e]
      exact r2
  · obtain ⟨j, hj, rfl⟩ := List.mem_iff_getElem.1 hy
    exact a4 j (by omega) _ (List.getElem?_eq_getElem hj)
theorem toIntS_ (l : List Int) (hl : (l.length : Int) ≤ 1048576) : T (fun k => laws_toIntS.f k l) (fun r => r = l) := by
  unfold laws_toIntS.f
  refine T.ift (by omega) (T.ift (by omega) ?_)
  refine T.turn 0 l (fun x => x) (fun o i k => laws_toIntS.l0 k l o i) _ ?_ ?_ _ (by simp)
  · exact T.step (fun k => laws_toIntS.l0.eq_2 ..) (T.iff_ (by omega) (T.now (List.map_id' l)))
  · intro o i h0 h1 h2 h
    refine T.step (fun k => laws_toIntS.l0.eq_2 ..) (T.ift h1 (T.ift h0 (T.ift (by omega) ?_)))
    rw [w64 (by omega) (by omega)]
    exact h
theorem toThing_ (x : S68) (h : FitT x) : T (fun k => laws_toThing.f k x.f0 x.f1) (fun r => r = ((toThing x).f0, (toThing x).f1)) := by
  unfold laws_toThing.f
  refine T.bind (toIntS_ x.f0 h.1) ?_
  rintro _ rfl
  refine T.bind (toFieldS_ x.f1 (by have := h.2.1; omega)) ?_
  rintro _ rfl
  exact T.now rfl
theorem toThingS_ (l : List S68) (hl : (l.length : Int) ≤ 1048576) (hf : ∀ y ∈ l, FitT y) : T (fun k => laws_toThingS.f k l) (fun r => r = l.map toThing) := by
  unfold laws_toThingS.f
  refine T.ift (by omega) (T.ift (by omega) ?_)
  refine T.turn z68 l toThing (fun o i k => laws_toThingS.l0 k l o i) _ ?_ ?_ _ (by simp)
  · exact T.step (fun k => laws_toThingS.l0.eq_2 ..) (T.iff_ (by omega) (T.now rfl))
  · intro o i h0 h1 h2 h
    refine T.step (fun k => laws_toThingS.l0.eq_2 ..) (T.ift h1 (T.ift h0 ?_))
    refine T.bind (toThing_ (rd_T68 l i) (hf _ (get_mem l z68 i h0 h1))) ?_
    rintro _ rfl
    rw [w64 (by omega) (by omega)]
    exact T.ift (by omega) h
theorem eqIntS_ (l : List Int) (hl : l.length ≤ 1048576) : T (fun k => laws_eqIntS.f k l l) (fun r => r = true) := by
  unfold laws_eqIntS.f
  refine T.ift rfl ?_
  refine T.count l.length (fun i k => laws_eqIntS.l0 k l l i) (fun r => r = true) (T.step (fun k => laws_eqIntS.l0.eq_2 ..) (T.iff_ (by omega) (T.now rfl))) (fun i h0 h1 h => ?_) 0 (by omega) (by omega)
  refine T.step (fun k => laws_eqIntS.l0.eq_2 ..) (T.ift h1 (T.ift h0 (T.ift h1 (T.ift rfl ?_))))
  rw [w64 (by omega) (by omega)]
  exact h
theorem eqThingS_ (l : List S72) (hl : l.length ≤ 1048576) (hf : ∀ y ∈ l, y.f0.length ≤ 1048576 ∧ y.f1.length ≤ 1048576) : T (fun k => laws_eqThingS.f k l l) (fun r => r = true) := by
  unfold laws_eqThingS.f
  refine T.ift rfl ?_
  refine T.count l.length (fun i k => laws_eqThingS.l0 k l l i) (fun r => r = true) (T.step (fun k => laws_eqThingS.l0.eq_2 ..) (T.iff_ (by omega) (T.now rfl))) (fun i h0 h1 h => ?_) 0 (by omega) (by omega)
  refine T.step (fun k => laws_eqThingS.l0.eq_2 ..) (T.ift h1 (T.ift h0 (T.ift h1 ?_)))
  have hx := hf _ (get_mem l z72 i h0 h1)
  refine T.bind (P := fun r => r = true) ?_ ?_
  · unfold laws_eqThing.f
    refine T.bind (eqIntS_ _ hx.1) ?_
    rintro _ rfl
    refine T.ift rfl ?_
    refine T.bind (eqFieldS_ _ hx.2) ?_
    rintro _ rfl
    exact T.ift rfl (T.now rfl)
  · rintro _ rfl
    rw [w64 (by omega) (by omega)]
    exact T.ift rfl h
/-! #### requests -/
def RequestOk (w : List S72) (who act what : Int) (fs : List S85) : Prop := WorldOk w ∧ (0 ≤ who ∧ who ≤ (w.length : Int) - 1) ∧ (0 ≤ what ∧ what ≤ (w.length : Int) - 1) ∧ (0 ≤ act ∧ act ≤ 3) ∧ FieldsOk fs w.length
/-! #### requests, mirrored -/
theorem szRequest_ (who act what : Int) (l : List S82) (n : Int) (h0 : 0 ≤ n) (h1 : n ≤ 1048576) (hl : l.length ≤ maxLen ∧ ∀ y ∈ l, Fine82 y) : T (fun k => laws_szRequest.f k who act what l n) (fun r => r < 0 ∨ 0 ≤ r ∧ r ≤ n ∧ (l.length : Int) ≤ n ∧ ∀ y ∈ l, (y.f0.size : Int) ≤ n) := by
  unfold laws_szRequest.f
  refine T.bind (szFieldS_ l n h0 h1 hl) ?_
  intro r hr
  exact T.ite (fun _ => T.now (.inl (by decide))) (fun hn => T.now (.inr (hr.resolve_left hn)))
theorem toRequest_ (who act what : Int) (l : List S82) (hl : (l.length : Int) ≤ 1048576) : T (fun k => laws_toRequest.f k who act what l) (fun r => r = (who, act, what, l.map toField)) := by
  unfold laws_toRequest.f
  refine T.bind (toFieldS_ l (by omega)) ?_
  rintro _ rfl
  exact T.now rfl
theorem eqRequest_ (who act what : Int) (l : List S85) (hl : l.length ≤ 1048576) : T (fun k => laws_eqRequest.f k who act what l who act what l) (fun r => r = true) := by
  unfold laws_eqRequest.f
  refine T.ift rfl (T.ift rfl (T.ift rfl ?_))
  refine T.bind (eqFieldS_ l hl) ?_
  rintro _ rfl
  exact T.ift rfl (T.now rfl)
/-- What a world's and a request's sizes tell. -/
theorem fitW {l : List S68} (h1 : (l.length : Int) ≤ 1048576) (h2 : ∀ y ∈ l, FitT y) : ShortW (l.map toThing) ∧ (l.map toThing).length ≤ 1048576 ∧ ∀ y ∈ l.map toThing, y.f0.length ≤ 1048576 ∧ y.f1.length ≤ 1048576 := by
  refine ⟨⟨by rw [List.length_map]; omega, fun y hy => ?_⟩, by rw [List.length_map]; omega, fun y hy => ?_⟩
  · obtain ⟨x, hx, rfl⟩ := List.mem_map.1 hy
    exact (h2 x hx).short
  · obtain ⟨x, hx, rfl⟩ := List.mem_map.1 hy
    have := h2 x hx
    exact ⟨by show x.f0.length ≤ _; have := this.1; omega, by show (x.f1.map toField).length ≤ _; rw [List.length_map]; have := this.2.1; omega⟩
theorem fitF {l : List S82} (h1 : (l.length : Int) ≤ 1048576) (h2 : ∀ y ∈ l, (y.f0.size : Int) ≤ 1048576) : ShortF (l.map toField) ∧ (l.map toField).length ≤ 1048576 := by
  refine ⟨⟨by rw [List.length_map]; omega, fun y hy => ?_⟩, by rw [List.length_map]; omega⟩
  obtain ⟨x, hx, rfl⟩ := List.mem_map.1 hy
  have := h2 x hx
  show x.f0.size ≤ _
  omega
/-! #### kinded names, mirrored -/
def toKinded (x : S107) : S110 := ⟨x.f0, x.f1⟩
theorem szKinded_ (x : S107) (n : Int) (h0 : 0 ≤ n) (h1 : n ≤ 1048576) (hx : Fine107 x) : ∃ r, laws_szKinded.f x.f0 x.f1 n = some r ∧ (r < 0 ∨ 0 ≤ r ∧ r ≤ n ∧ x.f0.size ≤ n) := by
  unfold laws_szKinded.f
  have hs := hx.1
  unfold maxLen at hs
  rw [w64 (by omega) (by omega)]
  by_cases h : n - (x.f0.size : Int) < 0
  · exact ⟨-1, by rw [if_pos h], .inl (by decide)⟩
  · exact ⟨_, by rw [if_neg h], .inr ⟨by omega, by omega, by omega⟩⟩
theorem szKindedS_ (l : List S107) (n : Int) (h0 : 0 ≤ n) (h1 : n ≤ 1048576) (hl : l.length ≤ maxLen ∧ ∀ y ∈ l, Fine107 y) : T (fun k => laws_szKindedS.f k l n) (fun r => r < 0 ∨ 0 ≤ r ∧ r ≤ n ∧ l.length ≤ n ∧ ∀ y ∈ l, (y.f0.size : Int) ≤ n) := by
  unfold laws_szKindedS.f
  obtain ⟨hl, hf⟩ := hl
  unfold maxLen at hl
  rw [w64 (by omega) (by omega)]
  refine T.ite (fun _ => T.now (.inl (by decide))) (fun h => ?_)
  refine T.loop (fun (s : Int × Int) k => laws_szKindedS.l0 k l s.1 s.2) (fun s => ((l.length : Int) - s.2).toNat) (fun s => 0 ≤ s.2 ∧ s.2 ≤ l.length ∧ 0 ≤ s.1 ∧ s.1 ≤ n - l.length ∧ ∀ j : Nat, (j : Int) < s.2 → ∀ y, l[j]? = some y → (y.f0.size : Int) ≤ n) _ ?_ (n - l.length, 0) ⟨by simp, by simp, by show 0 ≤ n - (l.length : Int); omega, by show n - (l.length : Int) ≤ _; omega, fun j hj => absurd hj (by simp)⟩
  rintro ⟨m, i⟩ ⟨a0, a1, a2, a3, a4⟩ ih
  dsimp only at a0 a1 a2 a3 a4 ih ⊢
  refine T.step (fun k => laws_szKindedS.l0.eq_2 ..) ?_
  refine T.ite (fun hi => T.ift a0 ?_) (fun hi => T.now (.inr ⟨a2, by omega, by omega, fun y hy => ?_⟩))
  · obtain ⟨r, e, hr⟩ := szKinded_ (l.getD i.toNat z107) m a2 (by omega) (hf _ (get_mem l _ i a0 hi))
    rw [show laws_szKinded.f (rd_T107 l i).f0 (rd_T107 l i).f1 m = some r from e]
    refine T.bind (T.now (Q := fun x => x = _) rfl) ?_
    rintro r rfl
    refine T.ite (fun _ => T.now (.inl (by decide))) (fun hn => ?_)
    rw [w64 (by omega) (by omega)]
    rcases hr with hr | ⟨r0, r1, r2⟩
    · exact absurd hr hn
    · refine ih (r, i + 1) ⟨by show 0 ≤ i + 1; omega, by show i + 1 ≤ _; omega, r0, by show r ≤ _; omega, fun j hj y hy => ?_⟩ (by show ((l.length : Int) - (i + 1)).toNat < _; omega)
      dsimp only at hj
      by_cases hji : (j : Int) < i
      · exact a4 j hji y hy
      · have : j = i.toNat := by omega
        subst this
        rw [List.getD_eq_getElem?_getD, hy, Option.getD_some] at r2
        omega
  · obtain ⟨j, hj, rfl⟩ := List.mem_iff_getElem.1 hy
    exact a4 j (by omega) _ (List.getElem?_eq_getElem hj)
theorem toKindedS_ (l : List S107) (hl : l.length ≤ 1048576) : T (fun k => laws_toKindedS.f k l) (fun r => r = l.map toKinded) := by
  unfold laws_toKindedS.f
  refine T.ift (by omega) (T.ift (by omega) ?_)
  refine T.turn z107 l toKinded (fun o i k => laws_toKindedS.l0 k l o i) _ ?_ ?_ _ (by simp)
  · refine T.step (fun k => laws_toKindedS.l0.eq_2 ..) (T.iff_ (by omega) (T.now rfl))
  · intro o i h0 h1 h2 h
    refine T.step (fun k => laws_toKindedS.l0.eq_2 ..) (T.ift h1 (T.ift h0 ?_))
    refine T.bind (T.now (Q := fun x => x = _) rfl) ?_
    rintro _ rfl
    rw [w64 (by omega) (by omega)]
    exact T.ift (by omega) h
theorem eqKindedS_ (l : List S110) (hl : l.length ≤ 1048576) : T (fun k => laws_eqKindedS.f k l l) (fun r => r = true) := by
  unfold laws_eqKindedS.f
  refine T.ift rfl ?_
  refine T.count l.length (fun i k => laws_eqKindedS.l0 k l l i) (fun r => r = true) (T.step (fun k => laws_eqKindedS.l0.eq_2 ..) (T.iff_ (by omega) (T.now rfl))) (fun i h0 h1 h => ?_) 0 (by omega) (by omega)
  refine T.step (fun k => laws_eqKindedS.l0.eq_2 ..) (T.ift h1 (T.ift h0 (T.ift h1 ?_)))
  have e : ∀ x : S110, laws_eqKinded.f x.f0 x.f1 x.f0 x.f1 = some true := fun x => by
    unfold laws_eqKinded.f
    rw [if_pos rfl, if_pos rfl]
  rw [e]
  refine T.bind (T.now (Q := fun x => x = _) rfl) ?_
  rintro _ rfl
  rw [w64 (by omega) (by omega)]
  exact T.ift rfl h
/-! #### schemas, mirrored -/
theorem szSchema_ (a b : List S107) (n : Int) (h0 : 0 ≤ n) (h1 : n ≤ 1048576) (ha : a.length ≤ maxLen ∧ ∀ y ∈ a, Fine107 y) (hb : b.length ≤ maxLen ∧ ∀ y ∈ b, Fine107 y) :
    T (fun k => laws_szSchema.f k a b n) (fun r => r < 0 ∨ (0 ≤ r ∧ r ≤ n) ∧ (a.length : Int) ≤ 1048576 ∧ (b.length : Int) ≤ 1048576 ∧ (∀ y ∈ a, (y.f0.size : Int) ≤ 1048576) ∧ (∀ y ∈ b, (y.f0.size : Int) ≤ 1048576)) := by
  unfold laws_szSchema.f
  refine T.bind (szKindedS_ a n h0 h1 ha) ?_
  intro r hr
  refine T.ite (fun _ => T.now (.inl (by decide))) (fun hn => ?_)
  obtain ⟨r0, r1, r2, r3⟩ := hr.resolve_left hn
  refine T.bind (szKindedS_ b r r0 (by omega) hb) ?_
  intro q hq
  refine T.ite (fun _ => T.now (.inl (by decide))) (fun hn => T.now (.inr ?_))
  obtain ⟨q0, q1, q2, q3⟩ := hq.resolve_left hn
  exact ⟨⟨q0, by omega⟩, by omega, by omega, fun y hy => by have := r3 y hy; omega, fun y hy => by have := q3 y hy; omega⟩
theorem toSchema_ (a b : List S107) (la : (a.length : Int) ≤ 1048576) (lb : (b.length : Int) ≤ 1048576) : T (fun k => laws_toSchema.f k a b) (fun r => r = (a.map toKinded, b.map toKinded)) := by
  unfold laws_toSchema.f
  refine T.bind (toKindedS_ a (by omega)) ?_
  rintro _ rfl
  refine T.bind (toKindedS_ b (by omega)) ?_
  rintro _ rfl
  exact T.now rfl
theorem eqSchema_ (a b : List S110) (la : a.length ≤ 1048576) (lb : b.length ≤ 1048576) : T (fun k => laws_eqSchema.f k a b a b) (fun r => r = true) := by
  unfold laws_eqSchema.f
  refine T.bind (eqKindedS_ _ la) ?_
  rintro _ rfl
  refine T.ift rfl ?_
  refine T.bind (eqKindedS_ _ lb) ?_
  rintro _ rfl
  exact T.ift rfl (T.now rfl)
theorem fitK {l : List S107} (h1 : (l.length : Int) ≤ 1048576) (h2 : ∀ y ∈ l, (y.f0.size : Int) ≤ 1048576) : (l.map toKinded).length ≤ 1048576 ∧ ∀ y ∈ l.map toKinded, y.f0.size ≤ 9223372036854775807 := by
  refine ⟨by rw [List.length_map]; omega, fun y hy => ?_⟩
  obtain ⟨x, hx, rfl⟩ := List.mem_map.1 hy
  have := h2 x hx
  show x.f0.size ≤ _
  omega
/-! #### lists of kinded names -/
def kindM (n : ByteArray) : List S110 → Int
  | [] => 0
  | x :: l => if x.f0.toList = n.toList then x.f1 else kindM n l
theorem kindM_zero (n : ByteArray) : ∀ l : List S110, (∀ y ∈ l, 1 ≤ y.f1) → (kindM n l = 0 ↔ ∀ y ∈ l, ¬ y.f0.toList = n.toList)
  | [], _ => by simp [kindM]
  | x :: l, h => by
    have h1 := h x (List.mem_cons_self ..)
    have ih := kindM_zero n l (fun y hy => h y (List.mem_cons_of_mem _ hy))
    rw [kindM]
    by_cases hx : x.f0.toList = n.toList
    · rw [if_pos hx]
      exact ⟨fun e => by omega, fun e => absurd hx (e x (List.mem_cons_self ..))⟩
    · rw [if_neg hx, ih]
      exact ⟨fun e y hy => by
        rcases List.mem_cons.1 hy with rfl | hy
        · exact hx
        · exact e y hy, fun e y hy => e y (List.mem_cons_of_mem _ hy)⟩
def okAt (l : List S110) (i : Int) : Prop := nameB (rd_T110 l i).f0 = true ∧ (1 ≤ (rd_T110 l i).f1 ∧ (rd_T110 l i).f1 ≤ 3) ∧ ∀ j : Int, 0 ≤ j → j < i → ¬ (rd_T110 l j).f0.toList = (rd_T110 l i).f0.toList
def NamesOk (l : List S110) : Prop := (∀ i : Int, 0 ≤ i → i < l.length → okAt l i) ∧ (l.length : Int) ≤ 6
theorem take_mem {l : List S110} {i : Int} {y : S110} (h0 : 0 ≤ i) (h1 : i ≤ l.length) (h : y ∈ l.take i.toNat) : ∃ j : Int, 0 ≤ j ∧ j < i ∧ rd_T110 l j = y := by
  obtain ⟨j, hj, rfl⟩ := List.mem_iff_getElem.1 h
  rw [List.length_take] at hj
  refine ⟨j, by omega, by omega, ?_⟩
  show l.getD (j : Int).toNat _ = _
  rw [List.getD_eq_getElem?_getD, Int.toNat_natCast, List.getElem?_eq_getElem (by omega), Option.getD_some, List.getElem_take]
theorem mem_take {l : List S110} {i j : Int} (h0 : 0 ≤ j) (h1 : j < i) (h2 : i ≤ l.length) : rd_T110 l j ∈ l.take i.toNat := by
  have hj : j.toNat < (l.take i.toNat).length := by rw [List.length_take]; omega
  have : rd_T110 l j = (l.take i.toNat)[j.toNat] := by
    show l.getD j.toNat _ = _
    rw [List.getD_eq_getElem?_getD, List.getElem?_eq_getElem (by omega), Option.getD_some, List.getElem_take]
  rw [this]
  exact List.getElem_mem hj
/-! #### what conforms -/
def FitsAt (l : List S110) (fs : List S85) (i : Int) : Prop := kindM (rd_T85 fs i).f0 l = (rd_T85 fs i).f1.f0
def Fits (l : List S110) (fs : List S85) : Prop := ∀ i : Int, 0 ≤ i → i < fs.length → FitsAt l fs i
def FitsW (l : List S110) (w : List S72) : Prop := ∀ i : Int, 0 ≤ i → i < w.length → Fits l (rd_T72 w i).f1
def ConformOk (a b : List S110) (w : List S72) (who act what : Int) (fs : List S85) : Prop := (NamesOk a ∧ NamesOk b) ∧ RequestOk w who act what fs ∧ Fits b fs ∧ FitsW a w
theorem Fits_nil (l : List S110) : Fits l [] := fun i i0 i1 => by simp at i1; omega
theorem impl_NameValid_ (s : ByteArray) (hs : s.size ≤ 9223372036854775807) : T (fun k => impl_NameValid.f k s) (fun r => r = nameB s) := by
  unfold impl_NameValid.f
  refine T.loop (fun (i : Int) k => impl_NameValid.l0 k s (s.size : Int) i) (fun i => ((s.size : Int) - i).toNat) (fun i => 0 ≤ i ∧ i ≤ s.size ∧ ∀ j : Nat, (j : Int) < i → 97 ≤ bt s j ∧ bt s j ≤ 122) _ ?_ 0 ⟨by omega, by omega, fun j hj => by omega⟩
  rintro i ⟨h0, h1, hl⟩ ih
  refine T.step (fun k => impl_NameValid.l0.eq_2 ..) ?_
  refine T.ite (fun hi => ?_) (fun hi => ?_)
  · refine T.ift h0 (T.ift hi ?_)
    have e : ((i.toNat : Nat) : Int) = i := by omega
    have hb : bt s (i.toNat : Nat) = bt s i := by rw [e]
    refine T.ite (fun hc => T.now ?_) (fun hc => T.ite (fun hd => T.now ?_) (fun hd => ?_))
    · exact (nameB_low (fun h => by have := h i.toNat (by omega); rw [hb] at this; omega)).symm
    · exact (nameB_low (fun h => by have := h i.toNat (by omega); rw [hb] at this; omega)).symm
    · rw [w64 (by omega) (by omega)]
      refine ih (i + 1) ⟨by omega, by omega, fun j hj => ?_⟩ (by omega)
      by_cases hji : (j : Int) < i
      · exact hl j hji
      · have : (j : Int) = i := by omega
        rw [this]; omega
  · rw [impl_in_]
    refine T.now ?_
    have hi : i = s.size := by omega
    subst hi
    have : lowB s = true := decide_eq_true (fun j hj => hl j (by omega))
    rw [nameB, this, Bool.true_and]
    exact decide_eq_decide.mpr (by omega)
theorem impl_kindIn_ (l : List S110) (n : ByteArray) (hl : l.length ≤ 9223372036854775807) : T (fun k => impl_kindIn.f k l n) (fun r => r = kindM n l) := by
  unfold impl_kindIn.f
  refine T.loop (fun (i : Int) k => impl_kindIn.l0 k n l (l.length : Int) i) (fun i => ((l.length : Int) - i).toNat) (fun i => 0 ≤ i ∧ i ≤ l.length ∧ kindM n (l.drop i.toNat) = kindM n l) _ ?_ 0 ⟨by omega, by omega, rfl⟩
  rintro i ⟨h0, h1, h2⟩ ih
  refine T.step (fun k => impl_kindIn.l0.eq_2 ..) ?_
  refine T.ite (fun hi => T.ift h0 (T.ift hi ?_)) (fun hi => T.now ?_)
  · rw [drop_at l z110 i h0 hi, kindM] at h2
    refine T.ite (fun hc => T.now ?_) (fun hc => ?_)
    · rw [← h2]; exact (if_pos hc).symm
    · rw [w64 (by omega) (by omega)]
      exact ih (i + 1) ⟨by omega, by omega, by rw [← h2]; exact (if_neg hc).symm⟩ (by omega)
  · rw [← h2, drop_all l i hi]; rfl
theorem impl_names_ {Q : Bool → Prop} (x : List (List S110)) (n j : Int) (l : List S110) (hl : l.length ≤ 9223372036854775806) (hs : ∀ y ∈ l, y.f0.size ≤ 9223372036854775807) (bad : ¬ NamesOk l → Q false) (next : NamesOk l → T (fun k => impl_SchemaValid.l0 k x n (wrap64 (j + 1))) Q) :
    T (fun k => impl_SchemaValid.l1 k l x n j l (l.length : Int) 0) Q := by
  refine T.loop (fun (i : Int) k => impl_SchemaValid.l1 k l x n j l (l.length : Int) i) (fun i => ((l.length : Int) - i).toNat) (fun i => 0 ≤ i ∧ i ≤ l.length ∧ ∀ m : Int, 0 ≤ m → m < i → okAt l m) _ ?_ 0 ⟨by omega, by omega, fun m h0 h1 => by omega⟩
  rintro i ⟨h0, h1, h2⟩ ih
  refine T.step (fun k => impl_SchemaValid.l1.eq_2 ..) ?_
  refine T.ite (fun hi => T.ift h0 (T.ift hi ?_)) (fun hi => ?_)
  · have hm : rd_T110 l i ∈ l := get_mem l z110 i h0 hi
    refine T.bind (impl_NameValid_ _ (hs _ hm)) ?_
    rintro _ rfl
    refine T.ite (fun hn => ?_) (fun hn => T.now (bad (fun h => hn (h.1 i h0 hi).1)))
    rw [impl_in_]
    refine T.bind (T.now (Q := fun x => x = _) rfl) ?_
    rintro _ rfl
    refine T.ite (fun hk => ?_) (fun hk => T.now (bad (fun h => hk (decide_eq_true (h.1 i h0 hi).2.1))))
    have hk := of_decide_eq_true hk
    refine T.ift h1 ?_
    refine T.bind (impl_kindIn_ _ _ (by have := List.length_take_le i.toNat l; have := List.length_take_le' i.toNat l; omega)) ?_
    rintro _ rfl
    have hz := kindM_zero (rd_T110 l i).f0 (l.take i.toNat) (fun y hy => by
      obtain ⟨m, m0, m1, rfl⟩ := take_mem h0 h1 hy
      exact (h2 m m0 m1).2.1.1)
    refine T.ite (fun he => ?_) (fun he => T.now (bad (fun h => he (hz.2 (fun y hy => ?_)))))
    · rw [w64 (by omega) (by omega)]
      refine ih (i + 1) ⟨by omega, by omega, fun m m0 m1 => ?_⟩ (by omega)
      by_cases hmi : m < i
      · exact h2 m m0 hmi
      · obtain rfl : m = i := by omega
        exact ⟨hn, hk, fun j j0 j1 => hz.1 he _ (mem_take j0 j1 h1)⟩
    · obtain ⟨m, m0, m1, rfl⟩ := take_mem h0 h1 hy
      exact (h.1 i h0 hi).2.2 m m0 m1
  · obtain rfl : i = l.length := by omega
    exact T.ite (fun h6 => T.now (bad (fun h => by have := h.2; omega))) (fun h6 => next ⟨h2, by omega⟩)
theorem impl_SchemaValid_ (a b : List S110) (ha : a.length ≤ 9223372036854775806) (hb : b.length ≤ 9223372036854775806) (sa : ∀ y ∈ a, y.f0.size ≤ 9223372036854775807) (sb : ∀ y ∈ b, y.f0.size ≤ 9223372036854775807) :
    T (fun k => impl_SchemaValid.f k a b) (fun r => r = true ↔ NamesOk a ∧ NamesOk b) := by
  unfold impl_SchemaValid.f
  refine T.bind (T.now (Q := fun x => x = _) rfl) ?_
  rintro _ rfl
  refine T.step (fun k => impl_SchemaValid.l0.eq_2 ..) (T.ift (by simp) (T.ift (by omega) (T.ift (by simp) ?_)))
  show T (fun k => impl_SchemaValid.l1 k a [a, b] 2 0 a (a.length : Int) 0) _
  refine impl_names_ _ _ _ a ha sa (fun h => ⟨fun e => (by cases e), fun e => absurd e.1 h⟩) (fun na => ?_)
  rw [show wrap64 ((0 : Int) + 1) = 1 from w64 (by omega) (by omega)]
  refine T.step (fun k => impl_SchemaValid.l0.eq_2 ..) (T.ift (by simp) (T.ift (by omega) (T.ift (by simp) ?_)))
  show T (fun k => impl_SchemaValid.l1 k b [a, b] 2 1 b (b.length : Int) 0) _
  refine impl_names_ _ _ _ b hb sb (fun h => ⟨fun e => (by cases e), fun e => absurd e.2 h⟩) (fun nb => ?_)
  rw [show wrap64 ((1 : Int) + 1) = 2 from w64 (by omega) (by omega)]
  exact T.step (fun k => impl_SchemaValid.l0.eq_2 ..) (T.iff_ (by simp) (T.now ⟨fun _ => ⟨na, nb⟩, fun _ => rfl⟩))
theorem impl_fieldsValid_ (l : List S85) (many : Int) (hl : ShortF l) : T (fun k => impl_fieldsValid.f k l many) (fun r => r = true ↔ FieldsOk l many) := by
  unfold impl_fieldsValid.f
  have hlen := hl.1
  refine T.loop (fun (s : Int × List ByteArray) k => impl_fieldsValid.l0 k l many l (l.length : Int) s.1 s.2) (fun s => ((l.length : Int) - s.1).toNat) (fun s => 0 ≤ s.1 ∧ s.1 ≤ l.length ∧ (∀ m : Int, 0 ≤ m → m < s.1 → fieldAt l many m) ∧ ∀ n, n ∈ s.2 ↔ ∃ j : Int, 0 ≤ j ∧ j < s.1 ∧ (rd_T85 l j).f0 = n) _ ?_ (0, []) ⟨by simp, by simp, fun m h0 h1 => by dsimp only at h1; omega, fun n => ⟨fun h => absurd h (by simp), fun ⟨j, h0, h1, _⟩ => by dsimp only at h1; omega⟩⟩
  rintro ⟨i, ms⟩ ⟨h0, h1, h2, h3⟩ ih
  dsimp only at h0 h1 h2 h3 ih ⊢
  have bad : ¬ fieldAt l many i → i < l.length → T (fun _ => some false) (fun r => r = true ↔ FieldsOk l many) := fun h hi => T.now ⟨fun e => (by cases e), fun e => absurd (e.1 i h0 hi) h⟩
  refine T.step (fun k => impl_fieldsValid.l0.eq_2 ..) ?_
  refine T.ite (fun hi => T.ift h0 (T.ift hi ?_)) (fun hi => T.now ?_)
  · have hm : rd_T85 l i ∈ l := get_mem l z85 i h0 hi
    refine T.bind (impl_NameValid_ _ (hl.2 _ hm)) ?_
    rintro _ rfl
    refine T.ite (fun hn => ?_) (fun hn => bad (fun h => hn h.1) hi)
    refine T.ite (fun hs => bad (fun h => ?_) hi) (fun hs => ?_)
    · obtain ⟨j, j0, j1, e⟩ := (h3 _).1 ((memB_iff _ _).1 hs)
      exact h.2.2 j j0 j1 e
    rw [impl_ValueValid_]
    refine T.got ?_
    refine T.ite (fun hv => ?_) (fun hv => bad (fun h => hv h.2.1) hi)
    have hs' : ∀ j : Int, 0 ≤ j → j < i → ¬ (rd_T85 l j).f0 = (rd_T85 l i).f0 := fun j j0 j1 e => hs ((memB_iff _ _).2 ((h3 _).2 ⟨j, j0, j1, e⟩))
    rw [w64 (by omega) (by omega)]
    refine ih (i + 1, insB (rd_T85 l i).f0 ms) ⟨by show 0 ≤ i + 1; omega, by show i + 1 ≤ _; omega, fun m m0 m1 => ?_, fun n => ?_⟩ (by show ((l.length : Int) - (i + 1)).toNat < _; omega)
    · by_cases hmi : m < i
      · exact h2 m m0 hmi
      · dsimp only at m1
        obtain rfl : m = i := by omega
        exact ⟨hn, hv, hs'⟩
    · have hsb : memB (rd_T85 l i).f0 ms = false := by simpa using hs
      show n ∈ insB (rd_T85 l i).f0 ms ↔ ∃ j : Int, 0 ≤ j ∧ j < i + 1 ∧ (rd_T85 l j).f0 = n
      unfold insB
      rw [if_neg hs, List.mem_append, List.mem_singleton, h3]
      constructor
      · rintro (⟨j, j0, j1, e⟩ | e)
        · exact ⟨j, j0, by omega, e⟩
        · exact ⟨i, h0, by omega, e.symm⟩
      · rintro ⟨j, j0, j1, e⟩
        by_cases hji : j < i
        · exact .inl ⟨j, j0, hji, e⟩
        · obtain rfl : j = i := by omega
          exact .inr e.symm
  · obtain rfl : i = l.length := by omega
    rw [decide_eq_true_eq]
    exact ⟨fun h => ⟨h2, h⟩, fun h => h.2⟩
theorem impl_ascends_ (g : List Int) (hi : Int) (hg : g.length ≤ 9223372036854775806) (hh : hi ≤ 9223372036854775806) : T (fun k => impl_ascends.f k g 0 hi) (fun r => r = true ↔ AscOk g hi) := by
  unfold impl_ascends.f
  refine T.loop (fun (s : Int × Int) k => impl_ascends.l0 k s.1 hi g (g.length : Int) s.2) (fun s => ((g.length : Int) - s.2).toNat) (fun s => 0 ≤ s.2 ∧ s.2 ≤ g.length ∧ (∀ m : Int, 0 ≤ m → m < s.2 → ascAt g hi m) ∧ 0 ≤ s.1 ∧ (s.2 = 0 → s.1 = 0) ∧ (0 < s.2 → s.1 = rd g (s.2 - 1) + 1)) _ ?_ (0, 0) ⟨by simp, by simp, fun m h0 h1 => by dsimp only at h1; omega, by simp, fun _ => rfl, fun h => by dsimp only at h; omega⟩
  rintro ⟨low, i⟩ ⟨h0, h1, h2, h3, h4, h5⟩ ih
  dsimp only at h0 h1 h2 h3 h4 h5 ih ⊢
  refine T.step (fun k => impl_ascends.l0.eq_2 ..) ?_
  refine T.ite (fun hlt => T.ift h0 (T.ift hlt ?_)) (fun hlt => T.now ⟨fun _ m m0 m1 => h2 m m0 (by omega), fun _ => rfl⟩)
  rw [impl_in_]
  refine T.got ?_
  have key : (low ≤ rd g i ∧ rd g i ≤ hi) ↔ ascAt g hi i := by
    unfold ascAt
    by_cases hz : i = 0
    · have := h4 hz
      exact ⟨fun h => ⟨by omega, h.2, fun hp => by omega⟩, fun h => ⟨by omega, h.2.1⟩⟩
    · have := h5 (by omega)
      exact ⟨fun h => ⟨by omega, h.2, fun _ => by omega⟩, fun h => ⟨by have := h.2.2 (by omega); omega, h.2.1⟩⟩
  refine T.ite (fun hc => ?_) (fun hc => T.now ⟨fun e => (by cases e), fun e => absurd (decide_eq_true (key.2 (e i h0 hlt))) hc⟩)
  have hc := of_decide_eq_true hc
  rw [w64 (by omega) (by omega), w64 (by omega) (by omega)]
  refine ih (rd g i + 1, i + 1) ⟨by show 0 ≤ i + 1; omega, by show i + 1 ≤ _; omega, fun m m0 m1 => ?_, by show 0 ≤ rd g i + 1; omega, fun h => by dsimp only at h; omega, fun _ => ?_⟩ (by show ((g.length : Int) - (i + 1)).toNat < _; omega)
  · by_cases hmi : m < i
    · exact h2 m m0 hmi
    · dsimp only at m1
      obtain rfl : m = i := by omega
      exact key.1 hc
  · show rd g i + 1 = rd g (i + 1 - 1) + 1
    rw [show i + 1 - 1 = i by omega]
theorem impl_WorldValid_ (w : List S72) (hw : ShortW w) : T (fun k => impl_WorldValid.f k w) (fun r => r = true ↔ WorldOk w) := by
  unfold impl_WorldValid.f
  refine T.ite (fun h7 => T.now ⟨fun e => (by cases e), fun e => by have := e.1; omega⟩) (fun h7 => ?_)
  refine T.loop (fun (i : Int) k => impl_WorldValid.l0 k w w (w.length : Int) i) (fun i => ((w.length : Int) - i).toNat) (fun i => 0 ≤ i ∧ i ≤ w.length ∧ ∀ m : Int, 0 ≤ m → m < i → thingAt w w.length m) _ ?_ 0 ⟨by omega, by omega, fun m h0 h1 => by omega⟩
  rintro i ⟨h0, h1, h2⟩ ih
  refine T.step (fun k => impl_WorldValid.l0.eq_2 ..) ?_
  refine T.ite (fun hi => T.ift h0 (T.ift hi ?_)) (fun hi => T.now ⟨fun _ => ⟨by omega, fun m m0 m1 => h2 m m0 (by omega)⟩, fun _ => rfl⟩)
  have hm : rd_T72 w i ∈ w := get_mem w z72 i h0 hi
  have hx := hw.2 _ hm
  rw [w64 (by omega) (by omega)]
  refine T.bind (impl_ascends_ _ _ hx.1 (by omega)) ?_
  intro a ha
  refine T.ite (fun hc => ?_) (fun hc => T.now ⟨fun e => (by cases e), fun e => absurd (ha.2 (e.2 i h0 hi).1) hc⟩)
  refine T.bind (impl_fieldsValid_ _ _ hx.2) ?_
  intro b hb
  refine T.ite (fun hd => ?_) (fun hd => T.now ⟨fun e => (by cases e), fun e => absurd (hb.2 (e.2 i h0 hi).2) hd⟩)
  rw [w64 (by omega) (by omega)]
  refine ih (i + 1) ⟨by omega, by omega, fun m m0 m1 => ?_⟩ (by omega)
  by_cases hmi : m < i
  · exact h2 m m0 hmi
  · obtain rfl : m = i := by omega
    exact ⟨ha.1 hc, hb.1 hd⟩
theorem impl_isThing_ (w : List S72) (n : Int) (hw : w.length ≤ 9223372036854775806) : impl_isThing.f w n = some (decide (0 ≤ n ∧ n ≤ (w.length : Int) - 1)) := by
  unfold impl_isThing.f
  rw [w64 (by omega) (by omega), impl_in_]
  rfl
theorem impl_RequestValid_ (w : List S72) (who act what : Int) (fs : List S85) (hw : ShortW w) (hf : ShortF fs) : T (fun k => impl_RequestValid.f k w who act what fs) (fun r => r = true ↔ RequestOk w who act what fs) := by
  unfold impl_RequestValid.f
  have no : ¬ RequestOk w who act what fs → T (fun _ => some false) (fun r => r = true ↔ RequestOk w who act what fs) := fun h => T.now ⟨fun e => (by cases e), fun e => absurd e h⟩
  refine T.bind (impl_WorldValid_ w hw) ?_
  intro a ha
  refine T.ite (fun h1 => ?_) (fun h1 => no (fun e => h1 (ha.2 e.1)))
  rw [impl_isThing_ w _ hw.1]
  refine T.got ?_
  refine T.ite (fun h2 => ?_) (fun h2 => no (fun e => h2 (decide_eq_true e.2.1)))
  rw [impl_isThing_ w _ hw.1]
  refine T.got ?_
  refine T.ite (fun h3 => ?_) (fun h3 => no (fun e => h3 (decide_eq_true e.2.2.1)))
  have e : impl_isAct.f act = some (decide (0 ≤ act ∧ act ≤ 3)) := by
    unfold impl_isAct.f
    rw [impl_in_]
    rfl
  rw [e]
  refine T.got ?_
  refine T.ite (fun h4 => ?_) (fun h4 => no (fun e => h4 (decide_eq_true e.2.2.2.1)))
  refine T.bind (impl_fieldsValid_ fs _ hf) ?_
  intro b hb
  exact T.now ⟨fun h => ⟨ha.1 h1, of_decide_eq_true h2, of_decide_eq_true h3, of_decide_eq_true h4, hb.1 h⟩, fun h => hb.2 h.2.2.2.2⟩
theorem impl_conform_ (l : List S110) (fs : List S85) (hl : l.length ≤ 9223372036854775807) (hf : fs.length ≤ 9223372036854775806) : T (fun k => impl_conform.f k l fs) (fun r => r = true ↔ Fits l fs) := by
  unfold impl_conform.f
  refine T.loop (fun (i : Int) k => impl_conform.l0 k l fs (fs.length : Int) i) (fun i => ((fs.length : Int) - i).toNat) (fun i => 0 ≤ i ∧ i ≤ fs.length ∧ ∀ m : Int, 0 ≤ m → m < i → FitsAt l fs m) _ ?_ 0 ⟨by omega, by omega, fun m h0 h1 => by omega⟩
  rintro i ⟨h0, h1, h2⟩ ih
  refine T.step (fun k => impl_conform.l0.eq_2 ..) ?_
  refine T.ite (fun hi => T.ift h0 (T.ift hi ?_)) (fun hi => T.now ⟨fun _ m m0 m1 => h2 m m0 (by omega), fun _ => rfl⟩)
  refine T.bind (impl_kindIn_ l _ hl) ?_
  rintro _ rfl
  refine T.ite (fun hc => ?_) (fun hc => T.now ⟨fun e => (by cases e), fun e => absurd (e i h0 hi) hc⟩)
  rw [w64 (by omega) (by omega)]
  refine ih (i + 1) ⟨by omega, by omega, fun m m0 m1 => ?_⟩ (by omega)
  by_cases hmi : m < i
  · exact h2 m m0 hmi
  · obtain rfl : m = i := by omega
    exact hc
theorem impl_Conforms_ (a b : List S110) (w : List S72) (who act what : Int) (fs : List S85) (ha : a.length ≤ 9223372036854775806) (hb : b.length ≤ 9223372036854775806) (sa : ∀ y ∈ a, y.f0.size ≤ 9223372036854775807) (sb : ∀ y ∈ b, y.f0.size ≤ 9223372036854775807) (hw : ShortW w) (hf : ShortF fs) :
    T (fun k => impl_Conforms.f k a b w who act what fs) (fun r => r = true ↔ ConformOk a b w who act what fs) := by
  unfold impl_Conforms.f
  have no : ¬ ConformOk a b w who act what fs → T (fun k => impl_Conforms.j0 k w true a b) (fun r => r = true ↔ ConformOk a b w who act what fs) := fun h =>
    T.step (fun k => impl_Conforms.j0.eq_2 ..) (T.ift rfl (T.now ⟨fun e => (by cases e), fun e => absurd e h⟩))
  refine T.bind (impl_SchemaValid_ a b ha hb sa sb) ?_
  intro x hx
  refine T.ite (fun h1 => ?_) (fun h1 => no (fun e => h1 (hx.2 e.1)))
  refine T.bind (impl_RequestValid_ w who act what fs hw hf) ?_
  intro y hy
  refine T.ite (fun h2 => ?_) (fun h2 => no (fun e => h2 (hy.2 e.2.1)))
  refine T.bind (impl_conform_ b fs (by omega) hf.1) ?_
  intro z hz
  cases z with
  | false => exact no (fun e => by have := hz.2 e.2.2.1; cases this)
  | true =>
    refine T.step (fun k => impl_Conforms.j0.eq_2 ..) (T.iff_ (by simp) ?_)
    have hl := hw.1
    refine T.loop (fun (i : Int) k => impl_Conforms.l0 k w (w.length : Int) i a b) (fun i => ((w.length : Int) - i).toNat) (fun i => 0 ≤ i ∧ i ≤ w.length ∧ ∀ m : Int, 0 ≤ m → m < i → Fits a (rd_T72 w m).f1) _ ?_ 0 ⟨by omega, by omega, fun m h0 h1 => by omega⟩
    rintro i ⟨i0, i1, i2⟩ ih
    refine T.step (fun k => impl_Conforms.l0.eq_2 ..) ?_
    refine T.ite (fun hi => T.ift i0 (T.ift hi ?_)) (fun hi => T.now ⟨fun _ => ⟨hx.1 h1, hy.1 h2, hz.1 rfl, fun m m0 m1 => i2 m m0 (by omega)⟩, fun _ => rfl⟩)
    refine T.bind (impl_conform_ a _ (by omega) (hw.2 _ (get_mem w z72 i i0 hi)).2.1) ?_
    intro v hv
    refine T.ite (fun hc => ?_) (fun hc => T.now ⟨fun e => (by cases e), fun e => absurd (hv.2 (e.2.2.2 i i0 hi)) hc⟩)
    rw [w64 (by omega) (by omega)]
    refine ih (i + 1) ⟨by omega, by omega, fun m m0 m1 => ?_⟩ (by omega)
    by_cases hmi : m < i
    · exact i2 m m0 hmi
    · obtain rfl : m = i := by omega
      exact hv.1 hc
theorem spec_l1In_ (n a b : Int) : spec_l1In.f n a b = some (decide (a ≤ n ∧ n ≤ b)) := by
  unfold spec_l1In.f
  by_cases h : n ≥ a
  · rw [if_pos h]; simp [show a ≤ n from h]
  · rw [if_neg h]; simp [show ¬ a ≤ n from h]
theorem spec_NameValid_ (s : ByteArray) (hs : s.size ≤ 9223372036854775807) : T (fun k => spec_NameValid.f k s) (fun r => r = nameB s) := by
  unfold spec_NameValid.f
  refine T.loop (fun (i : Int) k => spec_NameValid.l0 k s i) (fun i => ((s.size : Int) - i).toNat) (fun i => 0 ≤ i ∧ i ≤ s.size ∧ ∀ j : Nat, (j : Int) < i → 97 ≤ bt s j ∧ bt s j ≤ 122) _ ?_ 0 ⟨by omega, by omega, fun j hj => by omega⟩
  rintro i ⟨h0, h1, hl⟩ ih
  refine T.step (fun k => spec_NameValid.l0.eq_2 ..) ?_
  refine T.ite (fun hi => ?_) (fun hi => ?_)
  · refine T.ift h0 ?_
    have e : ((i.toNat : Nat) : Int) = i := by omega
    have hb : bt s (i.toNat : Nat) = bt s i := by rw [e]
    refine T.ite (fun hc => T.now ?_) (fun hc => T.ite (fun hd => T.now ?_) (fun hd => ?_))
    · exact (nameB_low (fun h => by have := h i.toNat (by omega); rw [hb] at this; omega)).symm
    · exact (nameB_low (fun h => by have := h i.toNat (by omega); rw [hb] at this; omega)).symm
    · rw [w64 (by omega) (by omega)]
      refine ih (i + 1) ⟨by omega, by omega, fun j hj => ?_⟩ (by omega)
      by_cases hji : (j : Int) < i
      · exact hl j hji
      · have : (j : Int) = i := by omega
        rw [this]; omega
  · rw [spec_l1In_]
    refine T.now ?_
    have hi : i = s.size := by omega
    subst hi
    have : lowB s = true := decide_eq_true (fun j hj => hl j (by omega))
    rw [nameB, this, Bool.true_and]
    exact decide_eq_decide.mpr (by omega)
theorem spec_l7Names_ (l : List S110) (hl : l.length ≤ 9223372036854775806) (hs : ∀ y ∈ l, y.f0.size ≤ 9223372036854775807) : T (fun k => spec_l7Names.f k l) (fun r => r = true ↔ NamesOk l) := by
  unfold spec_l7Names.f
  refine T.loop (fun (i : Int) k => spec_l7Names.l0 k l i) (fun i => ((l.length : Int) - i).toNat) (fun i => 0 ≤ i ∧ i ≤ l.length ∧ ∀ m : Int, 0 ≤ m → m < i → okAt l m) _ ?_ 0 ⟨by omega, by omega, fun m h0 h1 => by omega⟩
  rintro i ⟨h0, h1, h2⟩ ih
  have bad : ¬ okAt l i → i < l.length → T (fun _ => some false) (fun r => r = true ↔ NamesOk l) := fun h hi => T.now ⟨fun e => (by cases e), fun e => absurd (e.1 i h0 hi) h⟩
  refine T.step (fun k => spec_l7Names.l0.eq_2 ..) ?_
  refine T.ite (fun hi => T.ift h0 ?_) (fun hi => T.now ?_)
  · have hm : rd_T110 l i ∈ l := get_mem l z110 i h0 hi
    have J : ∀ c : Bool, (c = true → ¬ okAt l i) → (c = false → nameB (rd_T110 l i).f0 = true ∧ 1 ≤ (rd_T110 l i).f1 ∧ (rd_T110 l i).f1 ≤ 3) → T (fun k => spec_l7Names.j1 k l i c) (fun r => r = true ↔ NamesOk l) := by
      intro c c1 c2
      refine T.step (fun k => spec_l7Names.j1.eq_2 ..) ?_
      refine T.ite (fun hc => bad (c1 hc) hi) (fun hc => ?_)
      have c2 := c2 (by simpa using hc)
      refine T.loop (fun (j : Int) k => spec_l7Names.l1 k l i j) (fun j => (i - j).toNat) (fun j => 0 ≤ j ∧ j ≤ i ∧ ∀ m : Int, 0 ≤ m → m < j → ¬ (rd_T110 l m).f0.toList = (rd_T110 l i).f0.toList) _ ?_ 0 ⟨by omega, by omega, fun m h0 h1 => by omega⟩
      rintro j ⟨j0, j1, j2⟩ ihj
      refine T.step (fun k => spec_l7Names.l1.eq_2 ..) ?_
      refine T.ite (fun hj => T.ift j0 (T.ift (by omega) (T.ift h0 (T.ift hi ?_)))) (fun hj => ?_)
      · refine T.ite (fun he => bad (fun h => h.2.2 j j0 hj he) hi) (fun he => ?_)
        rw [w64 (by omega) (by omega)]
        refine ihj (j + 1) ⟨by omega, by omega, fun m m0 m1 => ?_⟩ (by omega)
        by_cases hmj : m < j
        · exact j2 m m0 hmj
        · obtain rfl : m = j := by omega
          exact he
      · rw [w64 (by omega) (by omega)]
        refine ih (i + 1) ⟨by omega, by omega, fun m m0 m1 => ?_⟩ (by omega)
        by_cases hmi : m < i
        · exact h2 m m0 hmi
        · obtain rfl : m = i := by omega
          exact ⟨c2.1, c2.2, fun q q0 q1 => j2 q q0 (by omega)⟩
    refine T.bind (spec_NameValid_ _ (hs _ hm)) ?_
    rintro _ rfl
    refine T.ite (fun hn => ?_) (fun hn => J _ (fun _ h => hn h.1) (fun h => by cases h))
    rw [spec_l1In_]
    refine T.bind (T.now (Q := fun x => x = _) rfl) ?_
    rintro _ rfl
    exact J _ (fun hc h => by rw [decide_eq_true h.2.1] at hc; cases hc) (fun hc => ⟨hn, of_decide_eq_true (by simpa using hc)⟩)
  · obtain rfl : i = l.length := by omega
    rw [decide_eq_true_eq]
    exact ⟨fun h => ⟨h2, h⟩, fun h => h.2⟩
theorem spec_SchemaValid_ (a b : List S110) (ha : a.length ≤ 9223372036854775806) (hb : b.length ≤ 9223372036854775806) (sa : ∀ y ∈ a, y.f0.size ≤ 9223372036854775807) (sb : ∀ y ∈ b, y.f0.size ≤ 9223372036854775807) :
    T (fun k => spec_SchemaValid.f k a b) (fun r => r = true ↔ NamesOk a ∧ NamesOk b) := by
  unfold spec_SchemaValid.f
  refine T.bind (spec_l7Names_ a ha sa) ?_
  intro r hr
  refine T.ite (fun h => ?_) (fun h => T.now ⟨fun e => (by cases e), fun e => absurd (hr.2 e.1) h⟩)
  refine T.bind (spec_l7Names_ b hb sb) ?_
  intro s hs
  exact T.now ⟨fun e => ⟨hr.1 h, hs.1 e⟩, fun e => hs.2 e.2⟩
theorem spec_ValueValid_ (kd n many : Int) : spec_ValueValid.f kd n many = some (valueB kd n many) := by
  unfold spec_ValueValid.f valueB
  by_cases h1 : kd = 1
  · rw [if_pos h1, if_pos h1, spec_l1In_]; rfl
  rw [if_neg h1, if_neg h1]
  by_cases h2 : kd = 2
  · rw [if_pos h2, if_pos h2, spec_l1In_]; rfl
  rw [if_neg h2, if_neg h2]
  by_cases h3 : kd = 3
  · rw [if_pos h3, if_pos h3]
    by_cases h : n ≥ 0
    · rw [if_pos h]; simp [show 0 ≤ n from h]
    · rw [if_neg h]; simp [show ¬ 0 ≤ n from h]
  · rw [if_neg h3, if_neg h3]
theorem spec_l2Fields_ (l : List S85) (many : Int) (hl : ShortF l) : T (fun k => spec_l2Fields.f k l many) (fun r => r = true ↔ FieldsOk l many) := by
  unfold spec_l2Fields.f
  have hlen := hl.1
  refine T.loop (fun (i : Int) k => spec_l2Fields.l0 k l many i) (fun i => ((l.length : Int) - i).toNat) (fun i => 0 ≤ i ∧ i ≤ l.length ∧ ∀ m : Int, 0 ≤ m → m < i → fieldAt l many m) _ ?_ 0 ⟨by omega, by omega, fun m h0 h1 => by omega⟩
  rintro i ⟨h0, h1, h2⟩ ih
  have bad : ¬ fieldAt l many i → i < l.length → T (fun _ => some false) (fun r => r = true ↔ FieldsOk l many) := fun h hi => T.now ⟨fun e => (by cases e), fun e => absurd (e.1 i h0 hi) h⟩
  refine T.step (fun k => spec_l2Fields.l0.eq_2 ..) ?_
  refine T.ite (fun hi => T.ift h0 ?_) (fun hi => T.now ?_)
  · have hm : rd_T85 l i ∈ l := get_mem l z85 i h0 hi
    have J : ∀ c : Bool, (c = true → ¬ fieldAt l many i) → (c = false → nameB (rd_T85 l i).f0 = true ∧ valueB (rd_T85 l i).f1.f0 (rd_T85 l i).f1.f1 many = true) → T (fun k => spec_l2Fields.j1 k l many i c) (fun r => r = true ↔ FieldsOk l many) := by
      intro c c1 c2
      refine T.step (fun k => spec_l2Fields.j1.eq_2 ..) ?_
      refine T.ite (fun hc => bad (c1 hc) hi) (fun hc => ?_)
      have c2 := c2 (by simpa using hc)
      refine T.loop (fun (j : Int) k => spec_l2Fields.l1 k l many i j) (fun j => (i - j).toNat) (fun j => 0 ≤ j ∧ j ≤ i ∧ ∀ m : Int, 0 ≤ m → m < j → ¬ (rd_T85 l m).f0 = (rd_T85 l i).f0) _ ?_ 0 ⟨by omega, by omega, fun m h0 h1 => by omega⟩
      rintro j ⟨j0, j1, j2⟩ ihj
      refine T.step (fun k => spec_l2Fields.l1.eq_2 ..) ?_
      refine T.ite (fun hj => T.ift j0 (T.ift (by omega) (T.ift h0 (T.ift hi ?_)))) (fun hj => ?_)
      · refine T.ite (fun he => bad (fun h => h.2.2 j j0 hj (tl_inj.1 he)) hi) (fun he => ?_)
        rw [w64 (by omega) (by omega)]
        refine ihj (j + 1) ⟨by omega, by omega, fun m m0 m1 => ?_⟩ (by omega)
        by_cases hmj : m < j
        · exact j2 m m0 hmj
        · obtain rfl : m = j := by omega
          exact fun e => he (tl_inj.2 e)
      · rw [w64 (by omega) (by omega)]
        refine ih (i + 1) ⟨by omega, by omega, fun m m0 m1 => ?_⟩ (by omega)
        by_cases hmi : m < i
        · exact h2 m m0 hmi
        · obtain rfl : m = i := by omega
          exact ⟨c2.1, c2.2, fun q q0 q1 => j2 q q0 (by omega)⟩
    refine T.bind (spec_NameValid_ _ (hl.2 _ hm)) ?_
    rintro _ rfl
    refine T.ite (fun hn => ?_) (fun hn => J _ (fun _ h => hn h.1) (fun h => by cases h))
    rw [spec_ValueValid_]
    refine T.got ?_
    exact J _ (fun hc h => by rw [h.2.1] at hc; cases hc) (fun hc => ⟨hn, by simpa using hc⟩)
  · obtain rfl : i = l.length := by omega
    rw [decide_eq_true_eq]
    exact ⟨fun h => ⟨h2, h⟩, fun h => h.2⟩
theorem spec_WorldValid_ (w : List S72) (hw : ShortW w) : T (fun k => spec_WorldValid.f k w) (fun r => r = true ↔ WorldOk w) := by
  unfold spec_WorldValid.f
  have hlen := hw.1
  refine T.loop (fun (i : Int) k => spec_WorldValid.l0 k w i) (fun i => ((w.length : Int) - i).toNat) (fun i => 0 ≤ i ∧ i ≤ w.length ∧ ∀ m : Int, 0 ≤ m → m < i → thingAt w w.length m) _ ?_ 0 ⟨by omega, by omega, fun m h0 h1 => by omega⟩
  rintro i ⟨h0, h1, h2⟩ ih
  have bad : ¬ thingAt w w.length i → i < w.length → T (fun _ => some false) (fun r => r = true ↔ WorldOk w) := fun h hi => T.now ⟨fun e => (by cases e), fun e => absurd (e.2 i h0 hi) h⟩
  refine T.step (fun k => spec_WorldValid.l0.eq_2 ..) ?_
  refine T.ite (fun hi => ?_) (fun hi => T.now ?_)
  · have hm : rd_T72 w i ∈ w := get_mem w z72 i h0 hi
    have hx := hw.2 _ hm
    have hg := hx.1
    refine T.loop (fun (j : Int) k => spec_WorldValid.l1 k w i j) (fun j => (((rd_T72 w i).f0.length : Int) - j).toNat) (fun j => 0 ≤ j ∧ j ≤ (rd_T72 w i).f0.length ∧ ∀ m : Int, 0 ≤ m → m < j → ascAt (rd_T72 w i).f0 (i - 1) m) _ ?_ 0 ⟨by omega, by omega, fun m h0 h1 => by omega⟩
    rintro j ⟨j0, j1, j2⟩ ihj
    have badj : ¬ ascAt (rd_T72 w i).f0 (i - 1) j → j < (rd_T72 w i).f0.length → T (fun _ => some false) (fun r => r = true ↔ WorldOk w) := fun h hj => bad (fun e => h (e.1 j j0 hj)) hi
    refine T.step (fun k => spec_WorldValid.l1.eq_2 ..) (T.ift h0 (T.ift hi ?_))
    refine T.ite (fun hj => T.ift j0 ?_) (fun hj => ?_)
    · rw [spec_l1In_]
      refine T.got ?_
      rw [w64 (x := i - 1) (by omega) (by omega)]
      have next : ascAt (rd_T72 w i).f0 (i - 1) j → T (fun k => spec_WorldValid.l1 k w i (wrap64 (j + 1))) (fun r => r = true ↔ WorldOk w) := fun hok => by
        rw [w64 (by omega) (by omega)]
        refine ihj (j + 1) ⟨by omega, by omega, fun m m0 m1 => ?_⟩ (by omega)
        by_cases hmj : m < j
        · exact j2 m m0 hmj
        · obtain rfl : m = j := by omega
          exact hok
      refine T.ite (fun hc => ?_) (fun hc => badj (fun h => hc (decide_eq_true ⟨h.1, h.2.1⟩)) hj)
      have hc := of_decide_eq_true hc
      refine T.ite (fun hp => ?_) (fun hp => next ⟨hc.1, hc.2, fun h => absurd h hp⟩)
      rw [w64 (by omega) (by omega)]
      refine T.ift (by omega) (T.ift (by omega) ?_)
      exact T.ite (fun he => badj (fun h => by have := h.2.2 hp; omega) hj) (fun he => next ⟨hc.1, hc.2, fun _ => by omega⟩)
    · refine T.bind (spec_l2Fields_ _ _ hx.2) ?_
      intro b hb
      refine T.ite (fun hd => ?_) (fun hd => bad (fun e => hd (hb.2 e.2)) hi)
      rw [w64 (by omega) (by omega)]
      refine ih (i + 1) ⟨by omega, by omega, fun m m0 m1 => ?_⟩ (by omega)
      by_cases hmi : m < i
      · exact h2 m m0 hmi
      · obtain rfl : m = i := by omega
        exact ⟨fun q q0 q1 => j2 q q0 (by omega), hb.1 hd⟩
  · rw [decide_eq_true_eq]
    exact ⟨fun h => ⟨h, fun m m0 m1 => h2 m m0 (by omega)⟩, fun h => h.1⟩
theorem spec_RequestValid_ (w : List S72) (who act what : Int) (fs : List S85) (hw : ShortW w) (hf : ShortF fs) : T (fun k => spec_RequestValid.f k w who act what fs) (fun r => r = true ↔ RequestOk w who act what fs) := by
  unfold spec_RequestValid.f
  have hlen := hw.1
  have no : ¬ RequestOk w who act what fs → T (fun _ => some false) (fun r => r = true ↔ RequestOk w who act what fs) := fun h => T.now ⟨fun e => (by cases e), fun e => absurd e h⟩
  refine T.bind (spec_WorldValid_ w hw) ?_
  intro a ha
  rw [w64 (by omega) (by omega)]
  refine T.ite (fun h1 => ?_) (fun h1 => no (fun e => h1 (ha.2 e.1)))
  rw [spec_l1In_]
  refine T.got ?_
  refine T.ite (fun h2 => ?_) (fun h2 => no (fun e => h2 (decide_eq_true e.2.1)))
  rw [spec_l1In_]
  refine T.got ?_
  refine T.ite (fun h3 => ?_) (fun h3 => no (fun e => h3 (decide_eq_true e.2.2.1)))
  rw [spec_l1In_]
  refine T.got ?_
  refine T.ite (fun h4 => ?_) (fun h4 => no (fun e => h4 (decide_eq_true e.2.2.2.1)))
  refine T.bind (spec_l2Fields_ fs _ hf) ?_
  intro b hb
  exact T.now ⟨fun h => ⟨ha.1 h1, of_decide_eq_true h2, of_decide_eq_true h3, of_decide_eq_true h4, hb.1 h⟩, fun h => hb.2 h.2.2.2.2⟩
theorem spec_l7Kind_ (l : List S110) (n : ByteArray) (hl : l.length ≤ 9223372036854775806) : T (fun k => spec_l7Kind.f k l n) (fun r => r = kindM n l) := by
  unfold spec_l7Kind.f
  refine T.loop (fun (i : Int) k => spec_l7Kind.l0 k l n i) (fun i => ((l.length : Int) - i).toNat) (fun i => 0 ≤ i ∧ i ≤ l.length ∧ kindM n (l.drop i.toNat) = kindM n l) _ ?_ 0 ⟨by omega, by omega, rfl⟩
  rintro i ⟨h0, h1, h2⟩ ih
  refine T.step (fun k => spec_l7Kind.l0.eq_2 ..) ?_
  refine T.ite (fun hi => T.ift h0 ?_) (fun hi => T.now ?_)
  · rw [drop_at l z110 i h0 hi, kindM] at h2
    refine T.ite (fun hc => T.now ?_) (fun hc => ?_)
    · rw [← h2]; exact (if_pos hc).symm
    · rw [w64 (by omega) (by omega)]
      exact ih (i + 1) ⟨by omega, by omega, by rw [← h2]; exact (if_neg hc).symm⟩ (by omega)
  · rw [drop_all l i hi] at h2
    exact h2
theorem spec_l7Fits_ (l : List S110) (fs : List S85) (hl : l.length ≤ 9223372036854775806) (hf : fs.length ≤ 9223372036854775806) : T (fun k => spec_l7Fits.f k l fs) (fun r => r = true ↔ Fits l fs) := by
  unfold spec_l7Fits.f
  refine T.loop (fun (i : Int) k => spec_l7Fits.l0 k l fs i) (fun i => ((fs.length : Int) - i).toNat) (fun i => 0 ≤ i ∧ i ≤ fs.length ∧ ∀ m : Int, 0 ≤ m → m < i → FitsAt l fs m) _ ?_ 0 ⟨by omega, by omega, fun m h0 h1 => by omega⟩
  rintro i ⟨h0, h1, h2⟩ ih
  refine T.step (fun k => spec_l7Fits.l0.eq_2 ..) ?_
  refine T.ite (fun hi => T.ift h0 ?_) (fun hi => T.now ⟨fun _ m m0 m1 => h2 m m0 (by omega), fun _ => rfl⟩)
  refine T.bind (spec_l7Kind_ l _ hl) ?_
  rintro _ rfl
  refine T.ite (fun hc => ?_) (fun hc => T.now ⟨fun e => (by cases e), fun e => absurd (e i h0 hi) hc⟩)
  rw [w64 (by omega) (by omega)]
  refine ih (i + 1) ⟨by omega, by omega, fun m m0 m1 => ?_⟩ (by omega)
  by_cases hmi : m < i
  · exact h2 m m0 hmi
  · obtain rfl : m = i := by omega
    exact hc
theorem spec_Conforms_ (a b : List S110) (w : List S72) (who act what : Int) (fs : List S85) (ha : a.length ≤ 9223372036854775806) (hb : b.length ≤ 9223372036854775806) (sa : ∀ y ∈ a, y.f0.size ≤ 9223372036854775807) (sb : ∀ y ∈ b, y.f0.size ≤ 9223372036854775807) (hw : ShortW w) (hf : ShortF fs) :
    T (fun k => spec_Conforms.f k a b w who act what fs) (fun r => r = true ↔ ConformOk a b w who act what fs) := by
  unfold spec_Conforms.f
  have hl := hw.1
  have no : ¬ ConformOk a b w who act what fs → T (fun _ => some false) (fun r => r = true ↔ ConformOk a b w who act what fs) := fun h => T.now ⟨fun e => (by cases e), fun e => absurd e h⟩
  refine T.loop (fun (i : Int) k => spec_Conforms.l0 k w i a b who act what fs) (fun i => ((w.length : Int) - i).toNat) (fun i => 0 ≤ i ∧ i ≤ w.length ∧ ∀ m : Int, 0 ≤ m → m < i → Fits a (rd_T72 w m).f1) _ ?_ 0 ⟨by omega, by omega, fun m h0 h1 => by omega⟩
  rintro i ⟨i0, i1, i2⟩ ih
  refine T.step (fun k => spec_Conforms.l0.eq_2 ..) ?_
  refine T.ite (fun hi => T.ift i0 ?_) (fun hi => ?_)
  · refine T.bind (spec_l7Fits_ a _ ha (hw.2 _ (get_mem w z72 i i0 hi)).2.1) ?_
    intro v hv
    refine T.ite (fun hc => ?_) (fun hc => no (fun e => hc (hv.2 (e.2.2.2 i i0 hi))))
    rw [w64 (by omega) (by omega)]
    refine ih (i + 1) ⟨by omega, by omega, fun m m0 m1 => ?_⟩ (by omega)
    by_cases hmi : m < i
    · exact i2 m m0 hmi
    · obtain rfl : m = i := by omega
      exact hv.1 hc
  · refine T.bind (spec_SchemaValid_ a b ha hb sa sb) ?_
    intro x hx
    refine T.ite (fun h1 => ?_) (fun h1 => no (fun e => h1 (hx.2 e.1)))
    refine T.bind (spec_RequestValid_ w who act what fs hw hf) ?_
    intro y hy
    refine T.ite (fun h2 => ?_) (fun h2 => no (fun e => h2 (hy.2 e.2.1)))
    refine T.bind (spec_l7Fits_ b fs hb hf.1) ?_
    intro z hz
    exact T.now ⟨fun h => ⟨hx.1 h1, hy.1 h2, hz.1 h, fun m m0 m1 => i2 m m0 (by omega)⟩, fun h => hz.2 h.2.2.1⟩
theorem FnExactConforms : laws_FnExactConforms.Pure := by
  intro a b l who act what fs hS hl hR
  obtain ⟨ha, hb⟩ : (a.length ≤ maxLen ∧ ∀ y ∈ a, Fine107 y) ∧ (b.length ≤ maxLen ∧ ∀ y ∈ b, Fine107 y) := hS
  obtain ⟨_, _, _, hf⟩ : (Lit.int .i64 who).wf = true ∧ (Lit.int .i64 act).wf = true ∧ (Lit.int .i64 what).wf = true ∧ (fs.length ≤ maxLen ∧ ∀ y ∈ fs, Fine82 y) := hR
  refine T.rounds ?_
  unfold laws_FnExactConforms.f
  refine T.bind (szSchema_ a b 1048576 (by omega) (by omega) ha hb) ?_
  intro p hp
  refine T.ite (fun _ => T.now rfl) (fun hn => ?_)
  obtain ⟨⟨p0, p1⟩, la, lb, sa, sb⟩ := hp.resolve_left hn
  refine T.bind (szThingS_ l p p0 p1 hl) ?_
  intro r hr
  refine T.ite (fun _ => T.now rfl) (fun hn => ?_)
  obtain ⟨r0, r1, h1, h2⟩ := hr.resolve_left hn
  refine T.bind (szRequest_ who act what fs r r0 (by omega) hf) ?_
  intro q hq
  refine T.ite (fun _ => T.now rfl) (fun hn => ?_)
  obtain ⟨_, _, g1, g2⟩ := hq.resolve_left hn
  have h1 : (l.length : Int) ≤ 1048576 := by omega
  obtain ⟨hs, hm, hfit⟩ := fitW h1 h2
  obtain ⟨sf, mf⟩ := fitF (l := fs) (by omega) (fun y hy => by have := g2 y hy; omega)
  obtain ⟨na, ma⟩ := fitK la sa
  obtain ⟨nb, mb⟩ := fitK lb sb
  have na' : (a.map toKinded).length ≤ 9223372036854775806 := by omega
  have nb' : (b.map toKinded).length ≤ 9223372036854775806 := by omega
  refine T.bind (toSchema_ a b la lb) ?_
  rintro _ rfl
  refine T.bind (toThingS_ l h1 h2) ?_
  rintro _ rfl
  refine T.bind (toRequest_ who act what fs (by omega)) ?_
  rintro _ rfl
  refine T.bind (spec_Conforms_ _ _ _ _ _ _ _ na' nb' ma mb hs sf) ?_
  intro s hs1
  refine T.bind (toSchema_ a b la lb) ?_
  rintro _ rfl
  refine T.bind (toThingS_ l h1 h2) ?_
  rintro _ rfl
  refine T.bind (toRequest_ who act what fs (by omega)) ?_
  rintro _ rfl
  refine T.bind (impl_Conforms_ _ _ _ _ _ _ _ na' nb' ma mb hs sf) ?_
  intro t ht
  have hst : t = s := by rw [Bool.eq_iff_iff, ht, hs1]
  refine T.iff_ (by rw [hst]; simp) ?_
  refine T.bind (toSchema_ a b la lb) ?_
  rintro _ rfl
  refine T.bind (eqSchema_ _ _ na nb) ?_
  rintro _ rfl
  refine T.ift rfl ?_
  refine T.bind (toThingS_ l h1 h2) ?_
  rintro _ rfl
  refine T.bind (eqThingS_ _ hm hfit) ?_
  rintro _ rfl
  refine T.ift rfl ?_
  refine T.bind (toRequest_ who act what fs (by omega)) ?_
  rintro _ rfl
  refine T.bind (eqRequest_ _ _ _ _ mf) ?_
  rintro _ rfl
  exact T.ift rfl (T.now rfl)

end Go.Proofs.Ytacpkmdnoggmoaa.Pure
