/- The program's InScope answers as the reference's, for all worlds, requests and policies, and leaves them alone.
   Conditions: none beyond the statement's own. -/
import Derived.Test.YtipoeghieeafjaaPx1003
set_option linter.unusedVariables false
set_option linter.unusedSimpArgs false
namespace Go.Proofs.Ytipoeghieeafjaa.Pure
open Go.RowKit Go.Proofs.Ytipoeghieeafjaa.P Go.Proofs.YtipoeghieeafjaaW.PrintWords Go.Proofs.YtipoeghieeafjaaW.PrintLast

/-! #### rounds: 'T g Q': from some number of rounds on g answers, and the answer is as Q says -/
def T {α : Type} (g : Nat → Option α) (Q : α → Prop) : Prop := ∃ r, Ev g r ∧ Q r
theorem T.ev {α : Type} {g : Nat → Option α} {r : α} (h : Ev g r) : T g (fun x => x = r) := ⟨r, h, rfl⟩
theorem T.of_eq {α : Type} {g : Nat → Option α} {r : α} (h : T g (fun x => x = r)) : Ev g r := by
  obtain ⟨_, h, rfl⟩ := h
  exact h
theorem T.now {α : Type} {r : α} {Q : α → Prop} (h : Q r) : T (fun _ => some r) Q := ⟨r, Ev.now r, h⟩
theorem T.mono {α : Type} {g : Nat → Option α} {P Q : α → Prop} (h : T g P) (k : ∀ a, P a → Q a) : T g Q := by
  obtain ⟨r, h, p⟩ := h
  exact ⟨r, h, k r p⟩
theorem T.bind {α β : Type} {g : Nat → Option α} {f : Nat → α → Option β} {P : α → Prop} {Q : β → Prop} (h : T g P) (k : ∀ a, P a → T (fun n => f n a) Q) : T (fun n => (g n).bind (f n)) Q := by
  obtain ⟨a, h, p⟩ := h
  obtain ⟨r, k, q⟩ := k a p
  exact ⟨r, Ev.bind h k, q⟩
theorem T.ite {α : Type} {c : Prop} [Decidable c] {g f : Nat → Option α} {Q : α → Prop} (h : c → T g Q) (k : ¬ c → T f Q) : T (fun n => if c then g n else f n) Q := by
  by_cases hc : c
  · simpa only [if_pos hc] using h hc
  · simpa only [if_neg hc] using k hc
theorem T.ift {α : Type} {c : Prop} [Decidable c] {g f : Nat → Option α} {Q : α → Prop} (hc : c) (h : T g Q) : T (fun n => if c then g n else f n) Q := T.ite (fun _ => h) (fun n => absurd hc n)
theorem T.iff_ {α : Type} {c : Prop} [Decidable c] {g f : Nat → Option α} {Q : α → Prop} (hc : ¬ c) (h : T f Q) : T (fun n => if c then g n else f n) Q := T.ite (fun n => absurd n hc) (fun _ => h)
theorem T.step {α : Type} {g f : Nat → Option α} {Q : α → Prop} (h : ∀ k, g (k + 1) = f k) (k : T f Q) : T g Q := by
  obtain ⟨r, k, q⟩ := k
  exact ⟨r, Ev.step h k, q⟩
theorem T.rounds {g : Nat → Option Bool} (h : T g (fun x => x = true)) : ∃ k, g k = some true := (T.of_eq h).rounds
theorem T.congr {α : Type} {g f : Nat → Option α} {Q : α → Prop} (h : ∀ k, g k = f k) (k : T f Q) : T g Q := by
  obtain ⟨r, k, q⟩ := k
  exact ⟨r, Ev.congr h k, q⟩
theorem T.run {α : Type} {g : Nat → Option α} {Q : α → Prop} (h : T g Q) : ∃ r K, (∀ k, K ≤ k → g k = some r) ∧ Q r := by
  obtain ⟨r, ⟨K, h⟩, q⟩ := h
  exact ⟨r, K, h, q⟩
/-- A loop over what is left. -/
theorem T.loop {σ α : Type} (g : σ → Nat → Option α) (m : σ → Nat) (I : σ → Prop) (Q : α → Prop) (h : ∀ s, I s → (∀ s', I s' → m s' < m s → T (g s') Q) → T (g s) Q) : ∀ s, I s → T (g s) Q := by
  intro s
  induction hm : m s using Nat.strongRecOn generalizing s with
  | _ n ih =>
    intro hI
    exact h s hI (fun s' hI' hlt => ih (m s') (hm ▸ hlt) s' rfl hI')
theorem w64 {x : Int} (h : -9223372036854775808 ≤ x) (h' : x ≤ 9223372036854775807) : wrap64 x = x := by unfold wrap64; omega
theorem T.got {α β : Type} {r : α} {f : Nat → α → Option β} {Q : β → Prop} (h : T (fun n => f n r) Q) : T (fun n => (some r).bind (f n)) Q := h
/-! #### texts and lists -/
theorem tl_inj {a b : ByteArray} : a.toList = b.toList ↔ a = b := by
  rw [ByteArray.toList_eq, ByteArray.toList_eq]
  constructor
  · intro h
    cases a; cases b
    exact congrArg ByteArray.mk (Array.toList_inj.1 h)
  · rintro rfl
    rfl
theorem drop_at {α : Type} (l : List α) (z : α) (i : Int) (h0 : 0 ≤ i) (h1 : i < l.length) : l.drop i.toNat = l.getD i.toNat z :: l.drop (i + 1).toNat := by
  have h : i.toNat < l.length := by omega
  rw [List.drop_eq_getElem_cons h, List.getD_eq_getElem?_getD, List.getElem?_eq_getElem h]
  simp only [Option.getD_some]
  rw [show (i + 1).toNat = i.toNat + 1 by omega]
theorem drop_all {α : Type} (l : List α) (i : Int) (h : ¬ i < l.length) : l.drop i.toNat = [] := List.drop_of_length_le (by omega)
theorem get_mem {α : Type} (l : List α) (z : α) (i : Int) (h0 : 0 ≤ i) (h1 : i < l.length) : l.getD i.toNat z ∈ l := by
  have h : i.toNat < l.length := by omega
  rw [List.getD_eq_getElem?_getD, List.getElem?_eq_getElem h]
  exact List.getElem_mem h
/-- A loop that counts up to n. -/
theorem T.count {α : Type} (n : Nat) (g : Int → Nat → Option α) (Q : α → Prop) (fin : T (g n) Q) (step : ∀ i : Int, 0 ≤ i → i < n → T (g (i + 1)) Q → T (g i) Q) : ∀ i : Int, 0 ≤ i → i ≤ n → T (g i) Q := by
  refine fun i h0 h1 => T.loop g (fun i => (n - i).toNat) (fun i => 0 ≤ i ∧ i ≤ n) Q ?_ i ⟨h0, h1⟩
  rintro i ⟨h0, h1⟩ ih
  by_cases hi : i = n
  · rw [hi]; exact fin
  · exact step i h0 (by omega) (ih (i + 1) ⟨by omega, by omega⟩ (by omega))
/-- A loop that turns each element of a list into one of a list of the same length. -/
theorem T.turn {α β γ : Type} (za : α) (l : List α) (c : α → β) (g : List β → Int → Nat → Option γ) (Q : γ → Prop) (fin : T (g (l.map c) l.length) Q)
    (step : ∀ (out : List β) (i : Int), 0 ≤ i → i < l.length → out.length = l.length → T (g (out.set i.toNat (c (l.getD i.toNat za))) (i + 1)) Q → T (g out i) Q) (out : List β) (hl : out.length = l.length) : T (g out 0) Q := by
  refine T.loop (fun (s : List β × Int) => g s.1 s.2) (fun s => (l.length - s.2).toNat) (fun s => 0 ≤ s.2 ∧ s.2 ≤ l.length ∧ s.1.length = l.length ∧ ∀ j : Nat, (j : Int) < s.2 → s.1[j]? = (l[j]?).map c) Q ?_ (out, 0) ⟨by simp, by simp, hl, fun j hj => absurd hj (by simp)⟩
  rintro ⟨o, i⟩ ⟨h0, h1, h2, h3⟩ ih
  dsimp only at h0 h1 h2 h3 ih ⊢
  by_cases hi : i = l.length
  · have : o = l.map c := List.ext_getElem? (fun j => by
      by_cases hj : (j : Int) < i
      · rw [h3 j hj, List.getElem?_map]
      · rw [List.getElem?_eq_none (by omega), List.getElem?_eq_none (by rw [List.length_map]; omega)])
    rw [this, hi]; exact fin
  · refine step o i h0 (by omega) h2 (ih (_, i + 1) ⟨by show 0 ≤ i + 1; omega, by show i + 1 ≤ _; omega, by rw [List.length_set]; exact h2, fun j hj => ?_⟩ (by show ((l.length : Int) - (i + 1)).toNat < (l.length - i).toNat; omega))
    dsimp only at hj ⊢
    rw [List.getElem?_set]
    by_cases hji : i.toNat = j
    · rw [if_pos hji, if_pos (by omega)]
      subst hji
      rw [List.getD_eq_getElem?_getD, List.getElem?_eq_getElem (by omega : i.toNat < l.length)]
      rfl
    · rw [if_neg hji]
      exact h3 j (by omega)
/-! #### fields, mirrored -/
def toField (x : S97) : S103 := ⟨x.f0, ⟨x.f1.f0, x.f1.f1⟩⟩
theorem szField_ (x : S97) (n : Int) (h0 : 0 ≤ n) (h1 : n ≤ 1048576) (hx : Fine97 x) : ∃ r, laws_szField.f x.f0 x.f1.f0 x.f1.f1 n = some r ∧ (r < 0 ∨ 0 ≤ r ∧ r ≤ n ∧ x.f0.size ≤ n) := by
  unfold laws_szField.f
  have hs := hx.1
  unfold maxLen at hs
  rw [w64 (by omega) (by omega)]
  by_cases h : n - (x.f0.size : Int) < 0
  · exact ⟨-1, by rw [if_pos h], .inl (by decide)⟩
  · exact ⟨_, by rw [if_neg h], .inr ⟨by omega, by omega, by omega⟩⟩
theorem szFieldS_ (l : List S97) (n : Int) (h0 : 0 ≤ n) (h1 : n ≤ 1048576) (hl : l.length ≤ maxLen ∧ ∀ y ∈ l, Fine97 y) : T (fun k => laws_szFieldS.f k l n) (fun r => r < 0 ∨ 0 ≤ r ∧ r ≤ n ∧ l.length ≤ n ∧ ∀ y ∈ l, (y.f0.size : Int) ≤ n) := by
  unfold laws_szFieldS.f
  obtain ⟨hl, hf⟩ := hl
  unfold maxLen at hl
  rw [w64 (by omega) (by omega)]
  refine T.ite (fun _ => T.now (.inl (by decide))) (fun h => ?_)
  refine T.loop (fun (s : Int × Int) k => laws_szFieldS.l0 k l s.1 s.2) (fun s => ((l.length : Int) - s.2).toNat) (fun s => 0 ≤ s.2 ∧ s.2 ≤ l.length ∧ 0 ≤ s.1 ∧ s.1 ≤ n - l.length ∧ ∀ j : Nat, (j : Int) < s.2 → ∀ y, l[j]? = some y → (y.f0.size : Int) ≤ n) _ ?_ (n - l.length, 0) ⟨by simp, by simp, by show 0 ≤ n - (l.length : Int); omega, by show n - (l.length : Int) ≤ _; omega, fun j hj => absurd hj (by simp)⟩
  rintro ⟨m, i⟩ ⟨a0, a1, a2, a3, a4⟩ ih
  dsimp only at a0 a1 a2 a3 a4 ih ⊢
  refine T.step (fun k => laws_szFieldS.l0.eq_2 ..) ?_
  refine T.ite (fun hi => T.ift a0 ?_) (fun hi => T.now (.inr ⟨a2, by omega, by omega, fun y hy => ?_⟩))
  · obtain ⟨r, e, hr⟩ := szField_ (l.getD i.toNat z97) m a2 (by omega) (hf _ (get_mem l _ i a0 hi))
    rw [show laws_szField.f (rd_T97 l i).f0 (rd_T97 l i).f1.f0 (rd_T97 l i).f1.f1 m = some r from e]
    refine T.bind (T.now (Q := fun x => x = _) rfl) ?_
    rintro r rfl
    refine T.ite (fun _ => T.now (.inl (by decide))) (fun hn => ?_)
    rw [w64 (by omega) (by omega)]
    rcases hr with hr | ⟨r0, r1, r2⟩
    · exact absurd hr hn
    · refine ih (r, i + 1) ⟨by show 0 ≤ i + 1; omega, by show i + 1 ≤ _; omega, r0, by show r ≤ _; omega, fun j hj y hy => ?_⟩ (by show ((l.length : Int) - (i + 1)).toNat < _; omega)
      dsimp only at hj
      by_cases hji : (j : Int) < i
      · exact a4 j hji y hy
      · have : j = i.toNat := by omega
        subst this
        rw [List.getD_eq_getElem?_getD, hy, Option.getD_some] at r2
        omega
  · obtain ⟨j, hj, rfl⟩ := List.mem_iff_getElem.1 hy
    exact a4 j (by omega) _ (List.getElem?_eq_getElem hj)
theorem toFieldS_ (l : List S97) (hl : l.length ≤ 1048576) : T (fun k => laws_toFieldS.f k l) (fun r => r = l.map toField) := by
  unfold laws_toFieldS.f
  refine T.ift (by omega) (T.ift (by omega) ?_)
  refine T.turn z97 l toField (fun o i k => laws_toFieldS.l0 k l o i) _ ?_ ?_ _ (by simp)
  · refine T.step (fun k => laws_toFieldS.l0.eq_2 ..) (T.iff_ (by omega) (T.now rfl))
  · intro o i h0 h1 h2 h
    refine T.step (fun k => laws_toFieldS.l0.eq_2 ..) (T.ift h1 (T.ift h0 ?_))
    refine T.bind (T.now (Q := fun x => x = _) rfl) ?_
    rintro _ rfl
    rw [w64 (by omega) (by omega)]
    exact T.ift (by omega) h
theorem eqValue_ (a b : Int) : laws_eqValue.f a b a b = some true := by unfold laws_eqValue.f; rw [if_pos rfl, if_pos rfl]
theorem eqFieldS_ (l : List S103) (hl : l.length ≤ 1048576) : T (fun k => laws_eqFieldS.f k l l) (fun r => r = true) := by
  unfold laws_eqFieldS.f
  refine T.ift rfl ?_
  refine T.count l.length (fun i k => laws_eqFieldS.l0 k l l i) (fun r => r = true) (T.step (fun k => laws_eqFieldS.l0.eq_2 ..) (T.iff_ (by omega) (T.now rfl))) (fun i h0 h1 h => ?_) 0 (by omega) (by omega)
  refine T.step (fun k => laws_eqFieldS.l0.eq_2 ..) (T.ift h1 (T.ift h0 (T.ift h1 ?_)))
  have e : ∀ x : S103, laws_eqField.f x.f0 x.f1.f0 x.f1.f1 x.f0 x.f1.f0 x.f1.f1 = some true := fun x => by
    unfold laws_eqField.f
    rw [if_pos rfl, eqValue_]
    rfl
  rw [e]
  refine T.bind (T.now (Q := fun x => x = _) rfl) ?_
  rintro _ rfl
  rw [w64 (by omega) (by omega)]
  exact T.ift rfl h
/-! #### names -/
def lowB (s : ByteArray) : Bool := decide (∀ i : Nat, i < s.size → 97 ≤ bt s i ∧ bt s i ≤ 122)
def nameB (s : ByteArray) : Bool := lowB s && decide (1 ≤ s.size ∧ s.size ≤ 8)
theorem nameB_iff (s : ByteArray) : nameB s = true ↔ (∀ i : Nat, i < s.size → 97 ≤ bt s i ∧ bt s i ≤ 122) ∧ 1 ≤ s.size ∧ s.size ≤ 8 := by simp [nameB, lowB]
theorem nameB_low {s : ByteArray} (h : ¬ ∀ i : Nat, i < s.size → 97 ≤ bt s i ∧ bt s i ≤ 122) : nameB s = false := by
  have : ¬ (nameB s = true) := fun hn => h ((nameB_iff s).1 hn).1
  simpa using this
theorem impl_in_ (n a b : Int) : impl_in.f n a b = some (decide (a ≤ n ∧ n ≤ b)) := by
  unfold impl_in.f
  by_cases h : a ≤ n
  · rw [if_pos h]; simp [h]
  · rw [if_neg h]; simp [h]
/-! #### values -/
def valueB (kd n many : Int) : Bool := if kd = 1 then decide (0 ≤ n ∧ n ≤ 1) else if kd = 2 then decide (0 ≤ n ∧ n ≤ 99) else if kd = 3 then decide (0 ≤ n ∧ n < many) else false
theorem impl_ValueValid_ (kd n many : Int) : impl_ValueValid.f kd n many = some (valueB kd n many) := by
  unfold impl_ValueValid.f valueB
  by_cases h1 : kd = 1
  · rw [if_pos h1, if_pos h1, impl_in_]; rfl
  rw [if_neg h1, if_neg h1]
  by_cases h2 : kd = 2
  · rw [if_pos h2, if_pos h2, impl_in_]; rfl
  rw [if_neg h2, if_neg h2]
  by_cases h3 : kd = 3
  · rw [if_pos h3, if_pos h3]
    by_cases h : n ≥ 0
    · rw [if_pos h]; simp [show 0 ≤ n from h]
    · rw [if_neg h]; simp [show ¬ 0 ≤ n from h]
  · rw [if_neg h3, if_neg h3]
/-! #### fields and worlds -/
def fieldAt (l : List S103) (many i : Int) : Prop := nameB (rd_T103 l i).f0 = true ∧ valueB (rd_T103 l i).f1.f0 (rd_T103 l i).f1.f1 many = true ∧ ∀ j : Int, 0 ≤ j → j < i → ¬ (rd_T103 l j).f0 = (rd_T103 l i).f0
def FieldsOk (l : List S103) (many : Int) : Prop := (∀ i : Int, 0 ≤ i → i < l.length → fieldAt l many i) ∧ (l.length : Int) ≤ 4
def ascAt (g : List Int) (hi j : Int) : Prop := 0 ≤ rd g j ∧ rd g j ≤ hi ∧ (0 < j → rd g (j - 1) < rd g j)
def AscOk (g : List Int) (hi : Int) : Prop := ∀ j : Int, 0 ≤ j → j < g.length → ascAt g hi j
def thingAt (w : List S79) (many i : Int) : Prop := AscOk (rd_T79 w i).f0 (i - 1) ∧ FieldsOk (rd_T79 w i).f1 many
def WorldOk (w : List S79) : Prop := (w.length : Int) ≤ 7 ∧ ∀ i : Int, 0 ≤ i → i < w.length → thingAt w w.length i
/-- Nothing in it is too long. -/
def ShortF (l : List S103) : Prop := l.length ≤ 9223372036854775806 ∧ ∀ y ∈ l, y.f0.size ≤ 9223372036854775807
def ShortT (x : S79) : Prop := x.f0.length ≤ 9223372036854775806 ∧ ShortF x.f1
def ShortW (w : List S79) : Prop := w.length ≤ 9223372036854775806 ∧ ∀ x ∈ w, ShortT x
/-! #### things, mirrored -/
def toThing (x : S72) : S79 := ⟨x.f0, x.f1.map toField⟩
def FitT (x : S72) : Prop := (x.f0.length : Int) ≤ 1048576 ∧ (x.f1.length : Int) ≤ 1048576 ∧ ∀ y ∈ x.f1, (y.f0.size : Int) ≤ 1048576
theorem FitT.short {x : S72} (h : FitT x) : ShortT (toThing x) := by
  refine ⟨by show x.f0.length ≤ _; have := h.1; omega, by show (x.f1.map toField).length ≤ _; rw [List.length_map]; have := h.2.1; omega, fun y hy => ?_⟩
  obtain ⟨z, hz, rfl⟩ := List.mem_map.1 (show y ∈ x.f1.map toField from hy)
  have := h.2.2 z hz
  show z.f0.size ≤ _
  omega
theorem szThing_ (x : S72) (n : Int) (h0 : 0 ≤ n) (h1 : n ≤ 1048576) (hx : Fine72 x) : T (fun k => laws_szThing.f k x.f0 x.f1 n) (fun r => r < 0 ∨ 0 ≤ r ∧ r ≤ n ∧ FitT x) := by
  unfold laws_szThing.f
  obtain ⟨⟨hl, _⟩, hf⟩ : (x.f0.length ≤ maxLen ∧ _) ∧ (x.f1.length ≤ maxLen ∧ ∀ y ∈ x.f1, Fine97 y) := hx
  have hl' := hl
  unfold maxLen at hl'
  refine T.bind (P := fun r => r < 0 ∨ 0 ≤ r ∧ r ≤ n ∧ (x.f0.length : Int) ≤ n) ?_ ?_
  · unfold laws_szIntS.f
    rw [w64 (by omega) (by omega)]
    exact T.ite (fun _ => T.now (.inl (by decide))) (fun h => T.now (.inr ⟨by omega, by omega, by omega⟩))
  intro r hr
  refine T.ite (fun _ => T.now (.inl (by decide))) (fun hn => ?_)
  obtain ⟨r0, r1, r2⟩ := hr.resolve_left hn
  refine T.bind (szFieldS_ x.f1 r r0 (by omega) hf) ?_
  intro q hq
  refine T.ite (fun _ => T.now (.inl (by decide))) (fun hn => T.now (.inr ?_))
  obtain ⟨q0, q1, q2, q3⟩ := hq.resolve_left hn
  exact ⟨q0, by omega, by omega, by omega, fun y hy => by have := q3 y hy; omega⟩
theorem szThingS_ (l : List S72) (n : Int) (h0 : 0 ≤ n) (h1 : n ≤ 1048576) (hl : l.length ≤ maxLen ∧ ∀ y ∈ l, Fine72 y) : T (fun k => laws_szThingS.f k l n) (fun r => r < 0 ∨ 0 ≤ r ∧ r ≤ n ∧ (l.length : Int) ≤ n ∧ ∀ y ∈ l, FitT y) := by
  unfold laws_szThingS.f
  obtain ⟨hl, hf⟩ := hl
  unfold maxLen at hl
  rw [w64 (by omega) (by omega)]
  refine T.ite (fun _ => T.now (.inl (by decide))) (fun h => ?_)
  refine T.loop (fun (s : Int × Int) k => laws_szThingS.l0 k l s.1 s.2) (fun s => ((l.length : Int) - s.2).toNat) (fun s => 0 ≤ s.2 ∧ s.2 ≤ l.length ∧ 0 ≤ s.1 ∧ s.1 ≤ n - l.length ∧ ∀ j : Nat, (j : Int) < s.2 → ∀ y, l[j]? = some y → FitT y) _ ?_ (n - l.length, 0) ⟨by simp, by simp, by show 0 ≤ n - (l.length : Int); omega, by show n - (l.length : Int) ≤ _; omega, fun j hj => absurd hj (by simp)⟩
  rintro ⟨m, i⟩ ⟨a0, a1, a2, a3, a4⟩ ih
  dsimp only at a0 a1 a2 a3 a4 ih ⊢
  refine T.step (fun k => laws_szThingS.l0.eq_2 ..) ?_
  refine T.ite (fun hi => T.ift a0 ?_) (fun hi => T.now (.inr ⟨a2, by omega, by omega, fun y hy => ?_⟩))
  · refine T.bind (szThing_ (rd_T72 l i) m a2 (by omega) (hf _ (get_mem l z72 i a0 hi))) ?_
    intro r hr
    refine T.ite (fun _ => T.now (.inl (by decide))) (fun hn => ?_)
    rw [w64 (by omega) (by omega)]
    obtain ⟨r0, r1, r2⟩ := hr.resolve_left hn
    refine ih (r, i + 1) ⟨by show 0 ≤ i + 1; omega, by show i + 1 ≤ _; omega, r0, by show r ≤ _; omega, fun j hj y hy => ?_⟩ (by show ((l.length : Int) - (i + 1)).toNat < _; omega)
    dsimp only at hj
    by_cases hji : (j : Int) < i
    · exact a4 j hji y hy
    · have : j = i.toNat := by omega
      subst this
      have e : rd_T72 l i = y := by
        show l.getD i.toNat _ = y
        rw [List.getD_eq_getElem?_getD, hy, Option.getD_some]
      rw [← e]
      exact r2
  · obtain ⟨j, hj, rfl⟩ := List.mem_iff_getElem.1 hy
    exact a4 j (by omega) _ (List.getElem?_eq_getElem hj)
theorem toIntS_ (l : List Int) (hl : (l.length : Int) ≤ 1048576) : T (fun k => laws_toIntS.f k l) (fun r => r = l) := by
  unfold laws_toIntS.f
  refine T.ift (by omega) (T.ift (by omega) ?_)
  refine T.turn 0 l (fun x => x) (fun o i k => laws_toIntS.l0 k l o i) _ ?_ ?_ _ (by simp)
  · exact T.step (fun k => laws_toIntS.l0.eq_2 ..) (T.iff_ (by omega) (T.now (List.map_id' l)))
  · intro o i h0 h1 h2 h
    refine T.step (fun k => laws_toIntS.l0.eq_2 ..) (T.ift h1 (T.ift h0 (T.ift (by omega) ?_)))
    rw [w64 (by omega) (by omega)]
    exact h
theorem toThing_ (x : S72) (h : FitT x) : T (fun k => laws_toThing.f k x.f0 x.f1) (fun r => r = ((toThing x).f0, (toThing x).f1)) := by
  unfold laws_toThing.f
  refine T.bind (toIntS_ x.f0 h.1) ?_
  rintro _ rfl
  refine T.bind (toFieldS_ x.f1 (by have := h.2.1; omega)) ?_
  rintro _ rfl
  exact T.now rfl
theorem toThingS_ (l : List S72) (hl : (l.length : Int) ≤ 1048576) (hf : ∀ y ∈ l, FitT y) : T (fun k => laws_toThingS.f k l) (fun r => r = l.map toThing) := by
  unfold laws_toThingS.f
  refine T.ift (by omega) (T.ift (by omega) ?_)
  refine T.turn z72 l toThing (fun o i k => laws_toThingS.l0 k l o i) _ ?_ ?_ _ (by simp)
  · exact T.step (fun k => laws_toThingS.l0.eq_2 ..) (T.iff_ (by omega) (T.now rfl))
  · intro o i h0 h1 h2 h
    refine T.step (fun k => laws_toThingS.l0.eq_2 ..) (T.ift h1 (T.ift h0 ?_))
    refine T.bind (toThing_ (rd_T72 l i) (hf _ (get_mem l z72 i h0 h1))) ?_
    rintro _ rfl
    rw [w64 (by omega) (by omega)]
    exact T.ift (by omega) h
theorem eqIntS_ (l : List Int) (hl : l.length ≤ 1048576) : T (fun k => laws_eqIntS.f k l l) (fun r => r = true) := by
  unfold laws_eqIntS.f
  refine T.ift rfl ?_
  refine T.count l.length (fun i k => laws_eqIntS.l0 k l l i) (fun r => r = true) (T.step (fun k => laws_eqIntS.l0.eq_2 ..) (T.iff_ (by omega) (T.now rfl))) (fun i h0 h1 h => ?_) 0 (by omega) (by omega)
  refine T.step (fun k => laws_eqIntS.l0.eq_2 ..) (T.ift h1 (T.ift h0 (T.ift h1 (T.ift rfl ?_))))
  rw [w64 (by omega) (by omega)]
  exact h
theorem eqThingS_ (l : List S79) (hl : l.length ≤ 1048576) (hf : ∀ y ∈ l, y.f0.length ≤ 1048576 ∧ y.f1.length ≤ 1048576) : T (fun k => laws_eqThingS.f k l l) (fun r => r = true) := by
  unfold laws_eqThingS.f
  refine T.ift rfl ?_
  refine T.count l.length (fun i k => laws_eqThingS.l0 k l l i) (fun r => r = true) (T.step (fun k => laws_eqThingS.l0.eq_2 ..) (T.iff_ (by omega) (T.now rfl))) (fun i h0 h1 h => ?_) 0 (by omega) (by omega)
  refine T.step (fun k => laws_eqThingS.l0.eq_2 ..) (T.ift h1 (T.ift h0 (T.ift h1 ?_)))
  have hx := hf _ (get_mem l z79 i h0 h1)
  refine T.bind (P := fun r => r = true) ?_ ?_
  · unfold laws_eqThing.f
    refine T.bind (eqIntS_ _ hx.1) ?_
    rintro _ rfl
    refine T.ift rfl ?_
    refine T.bind (eqFieldS_ _ hx.2) ?_
    rintro _ rfl
    exact T.ift rfl (T.now rfl)
  · rintro _ rfl
    rw [w64 (by omega) (by omega)]
    exact T.ift rfl h
/-! #### requests -/
def RequestOk (w : List S79) (who act what : Int) (fs : List S103) : Prop := WorldOk w ∧ (0 ≤ who ∧ who ≤ (w.length : Int) - 1) ∧ (0 ≤ what ∧ what ≤ (w.length : Int) - 1) ∧ (0 ≤ act ∧ act ≤ 3) ∧ FieldsOk fs w.length
/-! #### requests, mirrored -/
theorem szRequest_ (who act what : Int) (l : List S97) (n : Int) (h0 : 0 ≤ n) (h1 : n ≤ 1048576) (hl : l.length ≤ maxLen ∧ ∀ y ∈ l, Fine97 y) : T (fun k => laws_szRequest.f k who act what l n) (fun r => r < 0 ∨ 0 ≤ r ∧ r ≤ n ∧ (l.length : Int) ≤ n ∧ ∀ y ∈ l, (y.f0.size : Int) ≤ n) := by
  unfold laws_szRequest.f
  refine T.bind (szFieldS_ l n h0 h1 hl) ?_
  intro r hr
  exact T.ite (fun _ => T.now (.inl (by decide))) (fun hn => T.now (.inr (hr.resolve_left hn)))
theorem toRequest_ (who act what : Int) (l : List S97) (hl : (l.length : Int) ≤ 1048576) : T (fun k => laws_toRequest.f k who act what l) (fun r => r = (who, act, what, l.map toField)) := by
  unfold laws_toRequest.f
  refine T.bind (toFieldS_ l (by omega)) ?_
  rintro _ rfl
  exact T.now rfl
theorem eqRequest_ (who act what : Int) (l : List S103) (hl : l.length ≤ 1048576) : T (fun k => laws_eqRequest.f k who act what l who act what l) (fun r => r = true) := by
  unfold laws_eqRequest.f
  refine T.ift rfl (T.ift rfl (T.ift rfl ?_))
  refine T.bind (eqFieldS_ l hl) ?_
  rintro _ rfl
  exact T.ift rfl (T.now rfl)
/-- What a world's and a request's sizes tell. -/
theorem fitW {l : List S72} (h1 : (l.length : Int) ≤ 1048576) (h2 : ∀ y ∈ l, FitT y) : ShortW (l.map toThing) ∧ (l.map toThing).length ≤ 1048576 ∧ ∀ y ∈ l.map toThing, y.f0.length ≤ 1048576 ∧ y.f1.length ≤ 1048576 := by
  refine ⟨⟨by rw [List.length_map]; omega, fun y hy => ?_⟩, by rw [List.length_map]; omega, fun y hy => ?_⟩
  · obtain ⟨x, hx, rfl⟩ := List.mem_map.1 hy
    exact (h2 x hx).short
  · obtain ⟨x, hx, rfl⟩ := List.mem_map.1 hy
    have := h2 x hx
    exact ⟨by show x.f0.length ≤ _; have := this.1; omega, by show (x.f1.map toField).length ≤ _; rw [List.length_map]; have := this.2.1; omega⟩
theorem fitF {l : List S97} (h1 : (l.length : Int) ≤ 1048576) (h2 : ∀ y ∈ l, (y.f0.size : Int) ≤ 1048576) : ShortF (l.map toField) ∧ (l.map toField).length ≤ 1048576 := by
  refine ⟨⟨by rw [List.length_map]; omega, fun y hy => ?_⟩, by rw [List.length_map]; omega⟩
  obtain ⟨x, hx, rfl⟩ := List.mem_map.1 hy
  have := h2 x hx
  show x.f0.size ≤ _
  omega
/-! #### expressions -/
theorem part_lt {x y : S43} (h : y ∈ x.f3) : SizeOf.sizeOf y < SizeOf.sizeOf x := by
  cases x with
  | mk a b c l =>
    have := List.sizeOf_lt_of_mem (show y ∈ l from h)
    simp only [S43.mk.sizeOf_spec]
    omega
mutual
def cntE : S43 → Int
  | ⟨_, _, _, l⟩ => 1 + cntEs l
def cntEs : List S43 → Int
  | [] => 0
  | x :: l => cntE x + cntEs l
end
mutual
def depE : S43 → Int
  | ⟨_, _, _, l⟩ => 1 + depEs l
def depEs : List S43 → Int
  | [] => 0
  | x :: l => mx (depE x) (depEs l)
end
theorem mx_of (a b : Int) : a ≤ mx a b ∧ b ≤ mx a b ∧ (mx a b = a ∨ mx a b = b) := by unfold mx; split <;> omega
theorem cntE_eq (x : S43) : cntE x = 1 + cntEs x.f3 := by cases x; rw [cntE]
theorem depE_eq (x : S43) : depE x = 1 + depEs x.f3 := by cases x; rw [depE]
theorem cntEs_nil : cntEs [] = 0 := by rw [cntEs]
theorem cntEs_cons (x : S43) (l : List S43) : cntEs (x :: l) = cntE x + cntEs l := by rw [cntEs]
theorem depEs_nil : depEs [] = 0 := by rw [depEs]
theorem depEs_cons (x : S43) (l : List S43) : depEs (x :: l) = mx (depE x) (depEs l) := by rw [depEs]
theorem Expr_ind {P : S43 → Prop} (h : ∀ x, (∀ y ∈ x.f3, P y) → P x) : ∀ x, P x := by
  intro x
  induction hn : SizeOf.sizeOf x using Nat.strongRecOn generalizing x with
  | _ n ih => exact h x (fun y hy => ih (SizeOf.sizeOf y) (hn ▸ part_lt hy) y rfl)
theorem cntEs_ge {l : List S43} (h : ∀ y ∈ l, 1 ≤ cntE y) : (l.length : Int) ≤ cntEs l := by
  induction l with
  | nil => rw [cntEs_nil]; simp
  | cons x l ih =>
    have h1 := h x (List.mem_cons_self ..)
    have h2 := ih (fun y hy => h y (List.mem_cons_of_mem _ hy))
    rw [cntEs_cons, List.length_cons]
    omega
theorem cntE_pos : ∀ x : S43, 1 ≤ cntE x := Expr_ind (fun x ih => by
  have := cntEs_ge ih
  rw [cntE_eq]
  omega)
theorem cntEs_pos (l : List S43) : (l.length : Int) ≤ cntEs l := cntEs_ge (fun y _ => cntE_pos y)
theorem cntE_mem {l : List S43} {y : S43} (h : y ∈ l) : cntE y ≤ cntEs l := by
  induction l with
  | nil => exact absurd h (by simp)
  | cons x l ih =>
    rw [cntEs_cons]
    have h1 := cntE_pos x
    have h2 := cntEs_pos l
    rcases List.mem_cons.1 h with rfl | h
    · omega
    · have := ih h
      omega
theorem cntE_part {x y : S43} (h : y ∈ x.f3) : cntE y + 1 ≤ cntE x := by
  have := cntE_mem h
  rw [cntE_eq x]
  omega
theorem depEs_le {l : List S43} (h : ∀ y ∈ l, 1 ≤ depE y ∧ depE y ≤ cntE y) : 0 ≤ depEs l ∧ depEs l ≤ cntEs l := by
  induction l with
  | nil => rw [cntEs_nil, depEs_nil]; omega
  | cons x l ih =>
    have h1 := h x (List.mem_cons_self ..)
    have h2 := ih (fun y hy => h y (List.mem_cons_of_mem _ hy))
    rw [cntEs_cons, depEs_cons]
    unfold mx
    have h3 := cntEs_pos l
    split <;> omega
theorem depE_le : ∀ x : S43, 1 ≤ depE x ∧ depE x ≤ cntE x := Expr_ind (fun x ih => by
  have := depEs_le ih
  rw [cntE_eq, depE_eq]
  omega)
theorem cnt_drop (l : List S43) (i : Int) (h0 : 0 ≤ i) (h1 : i < l.length) : cntEs (l.drop i.toNat) = cntE (l.getD i.toNat z43) + cntEs (l.drop (i + 1).toNat) := by rw [drop_at l z43 i h0 h1, cntEs_cons]
/-- The texts in an expression are not too long. -/
inductive OkE : S43 → Prop
  | mk {x : S43} : x.f2.size ≤ 9223372036854775807 → (∀ y ∈ x.f3, OkE y) → OkE x
theorem OkE.name {x : S43} (h : OkE x) : x.f2.size ≤ 9223372036854775807 := by cases h; assumption
theorem OkE.part {x y : S43} (h : OkE x) (hy : y ∈ x.f3) : OkE y := by
  cases h with
  | mk _ h => exact h y hy
/-! #### expressions, mirrored -/
mutual
def toExpr : S28 → S43
  | ⟨a, b, c, l⟩ => ⟨a, b, c, toExprs l⟩
def toExprs : List S28 → List S43
  | [] => []
  | x :: l => toExpr x :: toExprs l
end
theorem toExpr_eq (x : S28) : toExpr x = ⟨x.f0, x.f1, x.f2, toExprs x.f3⟩ := by cases x; rw [toExpr]
theorem toExprs_map (l : List S28) : toExprs l = l.map toExpr := by
  induction l with
  | nil => rw [toExprs]; rfl
  | cons x l ih => rw [toExprs, ih]; rfl
theorem Lpart_lt {x y : S28} (h : y ∈ x.f3) : SizeOf.sizeOf y < SizeOf.sizeOf x := by
  cases x with
  | mk a b c l =>
    have := List.sizeOf_lt_of_mem (show y ∈ l from h)
    simp only [S28.mk.sizeOf_spec]
    omega
theorem LExpr_ind {P : S28 → Prop} (h : ∀ x, (∀ y ∈ x.f3, P y) → P x) : ∀ x, P x := by
  intro x
  induction hn : SizeOf.sizeOf x using Nat.strongRecOn generalizing x with
  | _ n ih => exact h x (fun y hy => ih (SizeOf.sizeOf y) (hn ▸ Lpart_lt hy) y rfl)
theorem FineL_name {x : S28} (h : Fine28 x) : x.f2.size ≤ 9223372036854775807 ∧ x.f3.length ≤ 9223372036854775807 := by
  cases h with
  | mk _ _ h1 h2 _ => exact ⟨h1, h2⟩
theorem FineL_part {x y : S28} (h : Fine28 x) (hy : y ∈ x.f3) : Fine28 y := by
  cases h with
  | mk _ _ _ _ h => exact h y hy
theorem toExpr_ok : ∀ x : S28, Fine28 x → OkE (toExpr x) := LExpr_ind (fun x ih hx => by
  rw [toExpr_eq]
  refine OkE.mk (FineL_name hx).1 (fun y hy => ?_)
  rw [show (S43.mk x.f0 x.f1 x.f2 (toExprs x.f3)).f3 = x.f3.map toExpr from toExprs_map _] at hy
  obtain ⟨z, hz, rfl⟩ := List.mem_map.1 hy
  exact ih z hz (FineL_part hx hz))
/-- What szExpr leaves. -/
def SzE (n c : Int) (r : Int) : Prop := r < 0 ∨ 0 ≤ r ∧ r + c ≤ n
theorem szExprS_step (l : List S28) (ih : ∀ y ∈ l, ∀ n, 0 ≤ n → n ≤ 1048576 → T (fun k => laws_szExpr.f k y.f0 y.f1 y.f2 y.f3 n) (SzE n (cntE (toExpr y) - 1))) (hl : l.length ≤ 9223372036854775807) (n : Int) (h0 : 0 ≤ n) (h1 : n ≤ 1048576) :
    T (fun k => laws_szExprS.f k l n) (SzE n (cntEs (l.map toExpr))) := by
  refine T.step (fun k => laws_szExprS.f.eq_2 ..) ?_
  rw [w64 (by omega) (by omega)]
  refine T.ite (fun _ => T.now (.inl (by decide))) (fun h => ?_)
  have hp := cntEs_pos (l.map toExpr)
  rw [List.length_map] at hp
  refine T.loop (fun (s : Int × Int) k => laws_szExprS.l0 k l s.1 s.2) (fun s => ((l.length : Int) - s.2).toNat) (fun s => 0 ≤ s.2 ∧ s.2 ≤ l.length ∧ 0 ≤ s.1 ∧ s.1 + cntEs (l.map toExpr) ≤ n + cntEs ((l.map toExpr).drop s.2.toNat) - (l.length - s.2)) _ ?_ (n - l.length, 0) ⟨by simp, by simp, by show 0 ≤ n - (l.length : Int); omega, by show n - (l.length : Int) + _ ≤ n + cntEs (l.map toExpr) - (l.length - 0); omega⟩
  rintro ⟨m, i⟩ ⟨a0, a1, a2, a3⟩ ih2
  dsimp only at a0 a1 a2 a3 ih2 ⊢
  refine T.step (fun k => laws_szExprS.l0.eq_2 ..) ?_
  refine T.ite (fun hi => T.ift a0 ?_) (fun hi => T.now (.inr ⟨a2, ?_⟩))
  · have hd := cntEs_pos ((l.map toExpr).drop i.toNat)
    have hcd := cnt_drop (l.map toExpr) i a0 (by rw [List.length_map]; exact hi)
    have hge : (l.map toExpr).getD i.toNat z43 = toExpr (l.getD i.toNat z28) := by
      rw [List.getD_eq_getElem?_getD, List.getD_eq_getElem?_getD, List.getElem?_map, List.getElem?_eq_getElem (by omega : i.toNat < l.length)]
      rfl
    rw [hge] at hcd
    have hdl : ((l.map toExpr).drop (i + 1).toNat).length = l.length - (i + 1).toNat := by rw [List.length_drop, List.length_map]
    have hcp := cntEs_pos ((l.map toExpr).drop (i + 1).toNat)
    have hm : m ≤ 1048576 := by
      have hall : cntEs ((l.map toExpr).drop i.toNat) ≤ cntEs (l.map toExpr) := by
        have : ∀ (q : List S43) (j : Nat), cntEs (q.drop j) ≤ cntEs q := by
          intro q
          induction q with
          | nil => intro j; simp
          | cons x q ih => intro j; cases j with
            | zero => simp
            | succ j => rw [List.drop_succ_cons, cntEs_cons]; have := ih j; have := cntE_pos x; omega
        exact this _ _
      omega
    refine T.bind (ih _ (get_mem l z28 i a0 hi) m a2 hm) ?_
    intro r hr
    refine T.ite (fun _ => T.now (.inl (by decide))) (fun hn => ?_)
    rw [w64 (by omega) (by omega)]
    rcases hr with hr | ⟨r0, r1⟩
    · exact absurd hr hn
    · exact ih2 (r, i + 1) ⟨by show 0 ≤ i + 1; omega, by show i + 1 ≤ _; omega, r0, by show r + _ ≤ n + cntEs ((l.map toExpr).drop (i + 1).toNat) - (l.length - (i + 1)); omega⟩ (by show ((l.length : Int) - (i + 1)).toNat < _; omega)
  · rw [List.drop_of_length_le (by rw [List.length_map]; omega), cntEs_nil] at a3
    omega
theorem szExpr_ : ∀ x : S28, Fine28 x → ∀ n, 0 ≤ n → n ≤ 1048576 → T (fun k => laws_szExpr.f k x.f0 x.f1 x.f2 x.f3 n) (SzE n (cntE (toExpr x) - 1)) := LExpr_ind (fun x ih hx n h0 h1 => by
  have hs := FineL_name hx
  refine T.step (fun k => laws_szExpr.f.eq_2 ..) ?_
  rw [w64 (by omega) (by omega)]
  refine T.ite (fun _ => T.now (.inl (by decide))) (fun h => ?_)
  refine T.bind (szExprS_step x.f3 (fun y hy => ih y hy (FineL_part hx hy)) hs.2 _ (by omega) (by omega)) ?_
  intro r hr
  refine T.ite (fun _ => T.now (.inl (by decide))) (fun hn => T.now ?_)
  rcases hr with hr | ⟨r0, r1⟩
  · exact absurd hr hn
  · refine .inr ⟨r0, ?_⟩
    rw [cntE_eq, toExpr_eq, toExprs_map]
    show r + (1 + cntEs (x.f3.map toExpr) - 1) ≤ n
    omega)
theorem toExprS_step (l : List S28) (ih : ∀ y ∈ l, T (fun k => laws_toExpr.f k y.f0 y.f1 y.f2 y.f3) (fun r => r = (y.f0, y.f1, y.f2, (toExpr y).f3))) (hl : l.length ≤ 1048576) : T (fun k => laws_toExprS.f k l) (fun r => r = toExprs l) := by
  refine T.step (fun k => laws_toExprS.f.eq_2 ..) ?_
  refine T.ift (by omega) (T.ift (by omega) ?_)
  rw [toExprs_map]
  refine T.turn z28 l toExpr (fun o i k => laws_toExprS.l0 k l o i) _ ?_ ?_ _ (by simp)
  · refine T.step (fun k => laws_toExprS.l0.eq_2 ..) (T.iff_ (by omega) (T.now rfl))
  · intro o i h0 h1 h2 h
    refine T.step (fun k => laws_toExprS.l0.eq_2 ..) (T.ift h1 (T.ift h0 ?_))
    refine T.bind (ih _ (get_mem l z28 i h0 h1)) ?_
    rintro _ rfl
    rw [w64 (by omega) (by omega)]
    refine T.ift (by omega) ?_
    have e : (S43.mk (rd_T28 l i).f0 (rd_T28 l i).f1 (rd_T28 l i).f2 (toExpr (rd_T28 l i)).f3) = toExpr (rd_T28 l i) := by
      rw [toExpr_eq]
    dsimp only
    refine T.congr (fun k => ?_) h
    rw [show l.getD i.toNat z28 = rd_T28 l i from rfl, ← e]
theorem toExpr_ : ∀ x : S28, cntE (toExpr x) ≤ 1048577 → T (fun k => laws_toExpr.f k x.f0 x.f1 x.f2 x.f3) (fun r => r = (x.f0, x.f1, x.f2, (toExpr x).f3)) := LExpr_ind (fun x ih hc => by
  have hm : ∀ y ∈ x.f3, cntE (toExpr y) + 1 ≤ cntE (toExpr x) := fun y hy => cntE_part (by rw [toExpr_eq x, toExprs_map]; exact List.mem_map_of_mem hy)
  have hl : (x.f3.length : Int) ≤ 1048576 := by
    have h1 := cntEs_pos (toExpr x).f3
    have h2 := cntE_eq (toExpr x)
    have h3 : (toExpr x).f3.length = x.f3.length := by rw [toExpr_eq, toExprs_map]; exact List.length_map ..
    omega
  refine T.step (fun k => laws_toExpr.f.eq_2 ..) ?_
  refine T.bind (toExprS_step x.f3 (fun y hy => ih y hy (by have := hm y hy; omega)) (by omega)) ?_
  rintro _ rfl
  exact T.now (by rw [toExpr_eq]))
theorem eqExpr_ : ∀ x : S43, cntE x ≤ 1048577 → T (fun k => laws_eqExpr.f k x.f0 x.f1 x.f2 x.f3 x.f0 x.f1 x.f2 x.f3) (fun r => r = true) := Expr_ind (fun x ih hc => by
  have hl := cntEs_pos x.f3
  rw [cntE_eq] at hc
  refine T.step (fun k => laws_eqExpr.f.eq_2 ..) (T.ift rfl (T.ift rfl (T.ift rfl ?_)))
  refine T.bind (P := fun r => r = true) ?_ ?_
  · refine T.step (fun k => laws_eqExprS.f.eq_2 ..) (T.ift rfl ?_)
    refine T.count x.f3.length (fun i k => laws_eqExprS.l0 k x.f3 x.f3 i) (fun r => r = true) (T.step (fun k => laws_eqExprS.l0.eq_2 ..) (T.iff_ (by omega) (T.now rfl))) (fun i h0 h1 h => ?_) 0 (by omega) (by omega)
    refine T.step (fun k => laws_eqExprS.l0.eq_2 ..) (T.ift h1 (T.ift h0 (T.ift h1 ?_)))
    have hm := get_mem x.f3 z43 i h0 h1
    refine T.bind (ih _ hm (by have := cntE_mem (show rd_T43 x.f3 i ∈ x.f3 from hm); omega)) ?_
    rintro _ rfl
    rw [w64 (by omega) (by omega)]
    exact T.ift rfl h
  · rintro _ rfl
    exact T.ift rfl (T.now rfl))
/-! #### one policy, mirrored -/
def FitP (x : S30) : Prop := (x.f0.size : Int) ≤ 1048576 ∧ cntE (toExpr x.f5) ≤ 1048577 ∧ OkE (toExpr x.f5)
theorem szPolicy_ (x : S30) (n : Int) (h0 : 0 ≤ n) (h1 : n ≤ 1048576) (hx : Fine30 x) : T (fun k => laws_szPolicy.f k x.f0 x.f1 x.f2 x.f3 x.f4 x.f5.f0 x.f5.f1 x.f5.f2 x.f5.f3 n) (fun r => r < 0 ∨ 0 ≤ r ∧ r ≤ n ∧ FitP x) := by
  unfold laws_szPolicy.f
  obtain ⟨hn, _, _, _, _, ha⟩ : x.f0.size ≤ maxLen ∧ True ∧ (Lit.int .i64 x.f2).wf = true ∧ (Lit.int .i64 x.f3).wf = true ∧ (Lit.int .i64 x.f4).wf = true ∧ Fine28 x.f5 := hx
  unfold maxLen at hn
  rw [w64 (by omega) (by omega)]
  refine T.ite (fun _ => T.now (.inl (by decide))) (fun hm => ?_)
  refine T.bind (szExpr_ x.f5 ha _ (by omega) (by omega)) ?_
  intro r hr
  refine T.ite (fun _ => T.now (.inl (by decide))) (fun hn => T.now (.inr ?_))
  obtain ⟨r0, r1⟩ := hr.resolve_left hn
  have hp := cntE_pos (toExpr x.f5)
  exact ⟨r0, by omega, by omega, by omega, toExpr_ok _ ha⟩
theorem toPolicy_ (x : S30) (h : FitP x) : T (fun k => laws_toPolicy.f k x.f0 x.f1 x.f2 x.f3 x.f4 x.f5.f0 x.f5.f1 x.f5.f2 x.f5.f3) (fun r => r = (x.f0, x.f1, x.f2, x.f3, x.f4, x.f5.f0, x.f5.f1, x.f5.f2, (toExpr x.f5).f3)) := by
  unfold laws_toPolicy.f
  refine T.bind (toExpr_ x.f5 h.2.1) ?_
  rintro _ rfl
  exact T.now rfl
theorem eqPolicy_ (n : ByteArray) (al : Bool) (who what acts : Int) (x : S43) (h : cntE x ≤ 1048577) : T (fun k => laws_eqPolicy.f k n al who what acts x.f0 x.f1 x.f2 x.f3 n al who what acts x.f0 x.f1 x.f2 x.f3) (fun r => r = true) := by
  unfold laws_eqPolicy.f
  refine T.ift rfl (T.iff_ (by simp) (T.ift rfl (T.ift rfl (T.ift rfl ?_))))
  refine T.bind (eqExpr_ x h) ?_
  rintro _ rfl
  exact T.ift rfl (T.now rfl)
/-! #### good expressions -/
def partsN (c : Int) : Int := if c = 8 ∨ c = 9 ∨ c = 13 then 1 else if c = 10 ∨ c = 11 ∨ c = 12 ∨ c = 14 ∨ c = 15 then 2 else 0
def namedB (c : Int) : Bool := decide (c = 7 ∨ c = 8 ∨ c = 9)
def greatN (c : Int) : Int := if c = 1 then 1 else if c = 2 then 99 else if c = 3 then 6 else 0
def nodeB (a b : Int) (s : ByteArray) (n : Nat) : Bool :=
  decide (1 ≤ a ∧ a ≤ 15) && decide (0 ≤ b ∧ b ≤ greatN a) && decide ((n : Int) = partsN a) && (if s.toList = ([] : List UInt8) then !namedB a else (namedB a && nameB s))
mutual
def goodE : S43 → Bool
  | ⟨a, b, s, l⟩ => nodeB a b s l.length && goodEs l
def goodEs : List S43 → Bool
  | [] => true
  | x :: l => goodE x && goodEs l
end
theorem goodE_eq (x : S43) : goodE x = (nodeB x.f0 x.f1 x.f2 x.f3.length && goodEs x.f3) := by cases x; rw [goodE]
theorem goodEs_nil : goodEs [] = true := by rw [goodEs]
theorem goodEs_cons (x : S43) (l : List S43) : goodEs (x :: l) = (goodE x && goodEs l) := by rw [goodEs]
theorem goodEs_mem {l : List S43} (h : goodEs l = true) {y : S43} (hy : y ∈ l) : goodE y = true := by
  induction l with
  | nil => exact absurd hy (by simp)
  | cons x l ih =>
    rw [goodEs_cons, Bool.and_eq_true] at h
    rcases List.mem_cons.1 hy with rfl | hy
    · exact h.1
    · exact ih h.2 hy
theorem depE_mem {l : List S43} {y : S43} (h : y ∈ l) : depE y ≤ depEs l := by
  induction l with
  | nil => exact absurd h (by simp)
  | cons x l ih =>
    rw [depEs_cons]
    unfold mx
    rcases List.mem_cons.1 h with rfl | h
    · split <;> omega
    · have := ih h
      split <;> omega
theorem depEs_nonneg (l : List S43) : 0 ≤ depEs l := (depEs_le (fun y _ => depE_le y)).1
def validE (x : S43) : Bool := goodE x && decide (cntE x ≤ 40 ∧ depE x ≤ 7)
def sizeM (d : Int) (x : S43) : Int := if goodE x = true ∧ depE x ≤ d then cntE x else 0
theorem sizeM_bad {d : Int} {x : S43} (h : ¬ (goodE x = true ∧ depE x ≤ d)) : sizeM d x = 0 := if_neg h
theorem validE_part {x y : S43} (h : validE x = true) (hy : y ∈ x.f3) : validE y = true := by
  unfold validE at h ⊢
  rw [Bool.and_eq_true, decide_eq_true_eq, goodE_eq, Bool.and_eq_true] at h
  have h1 := cntE_part hy
  have h2 := depE_mem hy
  have h3 := depE_eq x
  rw [Bool.and_eq_true, decide_eq_true_eq]
  exact ⟨goodEs_mem h.1.2 hy, by omega, by omega⟩
theorem impl_NameValid_ (s : ByteArray) (hs : s.size ≤ 9223372036854775807) : T (fun k => impl_NameValid.f k s) (fun r => r = nameB s) := by
  unfold impl_NameValid.f
  refine T.loop (fun (i : Int) k => impl_NameValid.l0 k s (s.size : Int) i) (fun i => ((s.size : Int) - i).toNat) (fun i => 0 ≤ i ∧ i ≤ s.size ∧ ∀ j : Nat, (j : Int) < i → 97 ≤ bt s j ∧ bt s j ≤ 122) _ ?_ 0 ⟨by omega, by omega, fun j hj => by omega⟩
  rintro i ⟨h0, h1, hl⟩ ih
  refine T.step (fun k => impl_NameValid.l0.eq_2 ..) ?_
  refine T.ite (fun hi => ?_) (fun hi => ?_)
  · refine T.ift h0 (T.ift hi ?_)
    have e : ((i.toNat : Nat) : Int) = i := by omega
    have hb : bt s (i.toNat : Nat) = bt s i := by rw [e]
    refine T.ite (fun hc => T.now ?_) (fun hc => T.ite (fun hd => T.now ?_) (fun hd => ?_))
    · exact (nameB_low (fun h => by have := h i.toNat (by omega); rw [hb] at this; omega)).symm
    · exact (nameB_low (fun h => by have := h i.toNat (by omega); rw [hb] at this; omega)).symm
    · rw [w64 (by omega) (by omega)]
      refine ih (i + 1) ⟨by omega, by omega, fun j hj => ?_⟩ (by omega)
      by_cases hji : (j : Int) < i
      · exact hl j hji
      · have : (j : Int) = i := by omega
        rw [this]; omega
  · rw [impl_in_]
    refine T.now ?_
    have hi : i = s.size := by omega
    subst hi
    have : lowB s = true := decide_eq_true (fun j hj => hl j (by omega))
    rw [nameB, this, Bool.true_and]
    exact decide_eq_decide.mpr (by omega)
theorem impl_partsOf_ (c : Int) : T (fun k => impl_partsOf.f k c) (fun r => r = (partsN c, namedB c)) := by
  unfold impl_partsOf.f
  have J : ∀ b : Bool, ¬ c = 7 → b = decide (c = 8 ∨ c = 9) → T (fun k => impl_partsOf.j0 k c b) (fun r => r = (partsN c, namedB c)) := by
    intro b hc hb
    have e9 : namedB c = b := by rw [hb]; unfold namedB; exact decide_eq_decide.2 (by omega)
    rw [e9]
    refine T.step (fun k => impl_partsOf.j0.eq_2 ..) ?_
    unfold partsN
    refine T.ite (fun h => T.now ?_) (fun h => ?_)
    · rw [hb] at h
      have := of_decide_eq_true h
      rw [if_pos (by omega)]
      rw [hb, decide_eq_true this]
    · rw [hb] at h
      have hn : ¬ (c = 8 ∨ c = 9) := by simpa using h
      have hb' : b = false := by rw [hb]; simpa using hn
      rw [hb']
      refine T.ite (fun h => T.now (by rw [if_pos (by omega)])) (fun h13 => ?_)
      have e1 : ¬ (c = 8 ∨ c = 9 ∨ c = 13) := by omega
      simp only [if_neg e1]
      refine T.ite (fun h => T.now (by rw [if_pos (by omega)])) (fun h10 => ?_)
      refine T.ite (fun h => T.now (by rw [if_pos (by omega)])) (fun h11 => ?_)
      refine T.ite (fun h => T.now (by rw [if_pos (by omega)])) (fun h12 => ?_)
      refine T.ite (fun h => T.now (by rw [if_pos (by omega)])) (fun h14 => ?_)
      refine T.ite (fun h => T.now (by rw [if_pos (by omega)])) (fun h15 => ?_)
      exact T.now (by rw [if_neg (by omega)])
  refine T.ite (fun h => T.now ?_) (fun h => T.ite (fun h8 => J _ h ?_) (fun h8 => J _ h ?_))
  · subst h; decide
  · subst h8; decide
  · rw [Bool.eq_iff_iff, beq_iff_eq, decide_eq_true_eq]; omega
theorem impl_greatestNumber_ (c : Int) : impl_greatestNumber.f c = some (greatN c) := by
  unfold impl_greatestNumber.f greatN
  split
  · rfl
  split
  · rfl
  split <;> rfl
theorem impl_size_ : ∀ x : S43, OkE x → cntE x ≤ 1048577 → ∀ d : Int, 0 ≤ d → d ≤ 1000 → T (fun k => impl_Expr_size.f k x.f0 x.f1 x.f2 x.f3 d) (fun r => r = sizeM d x) := Expr_ind (fun x ih hx hc d h0 h1 => by
  have hd := depE_le x
  have bad : ¬ (nodeB x.f0 x.f1 x.f2 x.f3.length = true) → 0 = sizeM d x := fun h => (sizeM_bad (fun hg => by rw [goodE_eq, Bool.and_eq_true] at hg; exact h hg.1.1)).symm
  have jbad : (0 = sizeM d x) → T (fun k => impl_Expr_size.j0 k d true x.f0 x.f1 x.f2 x.f3) (fun r => r = sizeM d x) := fun h => T.step (fun k => impl_Expr_size.j0.eq_2 ..) (T.ift rfl (T.now h))
  refine T.step (fun k => impl_Expr_size.f.eq_2 ..) ?_
  refine T.bind (impl_partsOf_ x.f0) ?_
  rintro _ rfl
  refine T.ite (fun hd0 => jbad (sizeM_bad (by omega)).symm) (fun hd0 => ?_)
  rw [impl_in_]
  refine T.bind (T.now (Q := fun x => x = _) rfl) ?_
  rintro _ rfl
  refine T.ite (fun hk => ?_) (fun hk => jbad (bad (fun h => hk (by unfold nodeB at h; simp only [Bool.and_eq_true] at h; exact h.1.1.1))))
  rw [impl_greatestNumber_]
  refine T.bind (T.now (Q := fun x => x = _) rfl) ?_
  rintro _ rfl
  rw [impl_in_]
  refine T.bind (T.now (Q := fun x => x = _) rfl) ?_
  rintro _ rfl
  refine T.ite (fun hg => ?_) (fun hg => jbad (bad (fun h => hg (by unfold nodeB at h; simp only [Bool.and_eq_true] at h; exact h.1.1.2))))
  refine T.ite (fun hl => ?_) (fun hl => jbad (bad (fun h => hl (by unfold nodeB at h; simp only [Bool.and_eq_true, decide_eq_true_eq] at h; exact h.1.2))))
  have J : ∀ b : Bool, nodeB x.f0 x.f1 x.f2 x.f3.length = !b → T (fun k => impl_Expr_size.j0 k d b x.f0 x.f1 x.f2 x.f3) (fun r => r = sizeM d x) := by
    intro b hb
    cases b with
    | true => exact jbad (bad (by rw [hb]; simp))
    | false =>
      refine T.step (fun k => impl_Expr_size.j0.eq_2 ..) (T.iff_ (by simp) ?_)
      have hn : nodeB x.f0 x.f1 x.f2 x.f3.length = true := hb
      have hlen := cntEs_pos x.f3
      have hce := cntE_eq x
      have hdep := depEs_nonneg x.f3
      have hsz : sizeM d x = if goodEs x.f3 = true ∧ depEs x.f3 ≤ d - 1 then cntE x else 0 := by
        unfold sizeM
        rw [goodE_eq, hn, Bool.true_and, depE_eq]
        by_cases hg : goodEs x.f3 = true ∧ depEs x.f3 ≤ d - 1
        · rw [if_pos hg, if_pos ⟨hg.1, by omega⟩]
        · rw [if_neg hg, if_neg (fun h => hg ⟨h.1, by omega⟩)]
      rw [hsz]
      refine T.loop (fun (s : Int × Int) k => impl_Expr_size.l0 k d s.1 x.f3 (x.f3.length : Int) s.2) (fun s => ((x.f3.length : Int) - s.2).toNat) (fun s => 0 ≤ s.2 ∧ s.2 ≤ x.f3.length ∧ 0 ≤ s.1 ∧ s.1 + cntEs (x.f3.drop s.2.toNat) = cntE x ∧ ((goodEs x.f3 = true ∧ depEs x.f3 ≤ d - 1) ↔ (goodEs (x.f3.drop s.2.toNat) = true ∧ depEs (x.f3.drop s.2.toNat) ≤ d - 1))) _ ?_ (1, 0) ⟨by simp, by simp, by simp, by show 1 + cntEs x.f3 = _; omega, Iff.rfl⟩
      rintro ⟨m, i⟩ ⟨a0, a1, am, a2, a3⟩ ih2
      dsimp only at a0 a1 am a2 a3 ih2 ⊢
      refine T.step (fun k => impl_Expr_size.l0.eq_2 ..) ?_
      refine T.ite (fun hi => T.ift a0 (T.ift hi ?_)) (fun hi => T.now ?_)
      · have hm := get_mem x.f3 z43 i a0 hi
        have hcm := cntE_mem (show rd_T43 x.f3 i ∈ x.f3 from hm)
        rw [w64 (by omega) (by omega)]
        refine T.bind (ih (rd_T43 x.f3 i) hm (hx.part hm) (by omega) (d - 1) (by omega) (by omega)) ?_
        rintro _ rfl
        rw [drop_at x.f3 z43 i a0 hi, goodEs_cons, depEs_cons, Bool.and_eq_true] at a3
        rw [drop_at x.f3 z43 i a0 hi, cntEs_cons] at a2
        have hre : x.f3.getD i.toNat z43 = rd_T43 x.f3 i := rfl
        rw [hre] at a2 a3
        have hmx := mx_of (depE (rd_T43 x.f3 i)) (depEs (x.f3.drop (i + 1).toNat))
        have hp1 := cntE_pos (rd_T43 x.f3 i)
        have hp2 := cntEs_pos (x.f3.drop (i + 1).toNat)
        by_cases hgi : goodE (rd_T43 x.f3 i) = true ∧ depE (rd_T43 x.f3 i) ≤ d - 1
        · rw [show sizeM (d - 1) (rd_T43 x.f3 i) = cntE (rd_T43 x.f3 i) from if_pos hgi]
          refine T.iff_ (by omega) ?_
          rw [w64 (by omega) (by omega), w64 (by omega) (by omega)]
          refine ih2 (m + cntE (rd_T43 x.f3 i), i + 1) ⟨by show 0 ≤ i + 1; omega, by show i + 1 ≤ _; omega, by show 0 ≤ m + _; omega, by show m + cntE (rd_T43 x.f3 i) + cntEs (x.f3.drop (i + 1).toNat) = _; omega, ?_⟩ (by show ((x.f3.length : Int) - (i + 1)).toNat < _; omega)
          show _ ↔ (goodEs (x.f3.drop (i + 1).toNat) = true ∧ depEs (x.f3.drop (i + 1).toNat) ≤ d - 1)
          rw [a3]
          constructor
          · intro h; exact ⟨h.1.2, by omega⟩
          · intro h; exact ⟨⟨hgi.1, h.1⟩, by omega⟩
        · rw [sizeM_bad hgi]
          refine T.ift rfl (T.now ?_)
          rw [if_neg (fun h => hgi ⟨(a3.1 h).1.1, by have := (a3.1 h).2; omega⟩)]
      · rw [drop_all x.f3 i hi, cntEs_nil] at a2
        rw [drop_all x.f3 i hi, goodEs_nil, depEs_nil] at a3
        rw [if_pos (a3.2 ⟨rfl, by omega⟩)]
        omega
  have hnode : nodeB x.f0 x.f1 x.f2 x.f3.length = (if x.f2.toList = ([] : List UInt8) then !namedB x.f0 else (namedB x.f0 && nameB x.f2)) := by
    unfold nodeB
    rw [hk, hg, decide_eq_true hl]
    simp
  rw [hnode] at J
  refine T.ite (fun hs => ?_) (fun hs => ?_)
  · rw [if_pos hs] at J
    refine T.ite (fun hb => J _ (by rw [show namedB x.f0 = true from hb])) (fun hb => J _ ?_)
    rw [show namedB x.f0 = false by simpa using hb]
  · rw [if_neg hs] at J
    refine T.ite (fun hb => ?_) (fun hb => J _ ?_)
    · rw [show namedB x.f0 = true from hb] at J
      refine T.bind (impl_NameValid_ x.f2 hx.name) ?_
      rintro _ rfl
      exact J _ (by simp)
    · rw [show namedB x.f0 = false by simpa using hb]; rfl)
theorem impl_ExprValid_ (x : S43) (hx : OkE x) (hc : cntE x ≤ 1048577) : T (fun k => impl_ExprValid.f k x.f0 x.f1 x.f2 x.f3) (fun r => r = validE x) := by
  unfold impl_ExprValid.f
  refine T.bind (impl_size_ x hx hc 7 (by omega) (by omega)) ?_
  rintro _ rfl
  rw [impl_in_]
  refine T.bind (T.now (Q := fun x => x = _) rfl) ?_
  rintro _ rfl
  refine T.now ?_
  have hp := cntE_pos x
  unfold validE sizeM
  by_cases h : goodE x = true ∧ depE x ≤ 7
  · rw [if_pos h, h.1, Bool.true_and]
    exact decide_eq_decide.2 (by omega)
  · rw [if_neg h, Bool.eq_iff_iff, Bool.and_eq_true, decide_eq_true_eq, decide_eq_true_eq]
    constructor
    · intro hh; omega
    · intro hh; exact absurd ⟨hh.1, hh.2.2⟩ h
theorem spec_l1In_ (n a b : Int) : spec_l1In.f n a b = some (decide (a ≤ n ∧ n ≤ b)) := by
  unfold spec_l1In.f
  by_cases h : n ≥ a
  · rw [if_pos h]; simp [show a ≤ n from h]
  · rw [if_neg h]; simp [show ¬ a ≤ n from h]
theorem spec_NameValid_ (s : ByteArray) (hs : s.size ≤ 9223372036854775807) : T (fun k => spec_NameValid.f k s) (fun r => r = nameB s) := by
  unfold spec_NameValid.f
  refine T.loop (fun (i : Int) k => spec_NameValid.l0 k s i) (fun i => ((s.size : Int) - i).toNat) (fun i => 0 ≤ i ∧ i ≤ s.size ∧ ∀ j : Nat, (j : Int) < i → 97 ≤ bt s j ∧ bt s j ≤ 122) _ ?_ 0 ⟨by omega, by omega, fun j hj => by omega⟩
  rintro i ⟨h0, h1, hl⟩ ih
  refine T.step (fun k => spec_NameValid.l0.eq_2 ..) ?_
  refine T.ite (fun hi => ?_) (fun hi => ?_)
  · refine T.ift h0 ?_
    have e : ((i.toNat : Nat) : Int) = i := by omega
    have hb : bt s (i.toNat : Nat) = bt s i := by rw [e]
    refine T.ite (fun hc => T.now ?_) (fun hc => T.ite (fun hd => T.now ?_) (fun hd => ?_))
    · exact (nameB_low (fun h => by have := h i.toNat (by omega); rw [hb] at this; omega)).symm
    · exact (nameB_low (fun h => by have := h i.toNat (by omega); rw [hb] at this; omega)).symm
    · rw [w64 (by omega) (by omega)]
      refine ih (i + 1) ⟨by omega, by omega, fun j hj => ?_⟩ (by omega)
      by_cases hji : (j : Int) < i
      · exact hl j hji
      · have : (j : Int) = i := by omega
        rw [this]; omega
  · rw [spec_l1In_]
    refine T.now ?_
    have hi : i = s.size := by omega
    subst hi
    have : lowB s = true := decide_eq_true (fun j hj => hl j (by omega))
    rw [nameB, this, Bool.true_and]
    exact decide_eq_decide.mpr (by omega)
theorem spec_l4Parts_ (c : Int) : T (fun _ => spec_l4Parts.f c) (fun r => r = if 1 ≤ c ∧ c ≤ 15 then partsN c else -1) := by
  unfold spec_l4Parts.f
  rw [spec_l1In_]
  refine T.bind (T.now (Q := fun x => x = _) rfl) ?_
  rintro _ rfl
  refine T.ite (fun h => ?_) (fun h => T.now ?_)
  · have h := of_decide_eq_true h
    refine T.bind (T.now (Q := fun x => x = _) rfl) ?_
    rintro _ rfl
    rw [w64 (by omega) (by omega)]
    refine T.ift (by omega) (T.ift (by simp only [List.length_cons, List.length_nil]; omega) (T.now ?_))
    rw [if_pos h]
    have : c = 1 ∨ c = 2 ∨ c = 3 ∨ c = 4 ∨ c = 5 ∨ c = 6 ∨ c = 7 ∨ c = 8 ∨ c = 9 ∨ c = 10 ∨ c = 11 ∨ c = 12 ∨ c = 13 ∨ c = 14 ∨ c = 15 := by omega
    rcases this with h | h | h | h | h | h | h | h | h | h | h | h | h | h | h <;> subst h <;> decide
  · rw [if_neg (fun hh => h (decide_eq_true hh))]
theorem spec_l4Good_ : ∀ x : S43, OkE x → cntE x ≤ 1048577 → T (fun k => spec_l4Good.f k x.f0 x.f1 x.f2 x.f3) (fun r => r = goodE x) := Expr_ind (fun x ih hx hc => by
  have hlen := cntEs_pos x.f3
  have hce := cntE_eq x
  rw [goodE_eq]
  have jbad : ¬ (nodeB x.f0 x.f1 x.f2 x.f3.length = true) → T (fun k => spec_l4Good.j2 k true x.f0 x.f1 x.f2 x.f3) (fun r => r = (nodeB x.f0 x.f1 x.f2 x.f3.length && goodEs x.f3)) := fun h => T.step (fun k => spec_l4Good.j2.eq_2 ..) (T.ift rfl (T.now (by rw [show nodeB x.f0 x.f1 x.f2 x.f3.length = false by simpa using h]; rfl)))
  have J2 : ∀ b : Bool, nodeB x.f0 x.f1 x.f2 x.f3.length = !b → T (fun k => spec_l4Good.j2 k b x.f0 x.f1 x.f2 x.f3) (fun r => r = (nodeB x.f0 x.f1 x.f2 x.f3.length && goodEs x.f3)) := by
    intro b hb
    cases b with
    | true => exact jbad (by rw [hb]; simp)
    | false =>
      refine T.step (fun k => spec_l4Good.j2.eq_2 ..) (T.iff_ (by simp) ?_)
      rw [hb]
      refine T.loop (fun (i : Int) k => spec_l4Good.l0 k i x.f0 x.f1 x.f2 x.f3) (fun i => ((x.f3.length : Int) - i).toNat) (fun i => 0 ≤ i ∧ i ≤ x.f3.length ∧ goodEs x.f3 = goodEs (x.f3.drop i.toNat)) _ ?_ 0 ⟨by simp, by simp, rfl⟩
      rintro i ⟨a0, a1, a2⟩ ih2
      refine T.step (fun k => spec_l4Good.l0.eq_2 ..) ?_
      refine T.ite (fun hi => T.ift a0 ?_) (fun hi => T.now ?_)
      · have hm := get_mem x.f3 z43 i a0 hi
        have hcm := cntE_mem (show rd_T43 x.f3 i ∈ x.f3 from hm)
        refine T.bind (ih (rd_T43 x.f3 i) hm (hx.part hm) (by omega)) ?_
        rintro _ rfl
        rw [drop_at x.f3 z43 i a0 hi, goodEs_cons] at a2
        have hre : x.f3.getD i.toNat z43 = rd_T43 x.f3 i := rfl
        rw [hre] at a2
        refine T.ite (fun hg => ?_) (fun hg => T.now ?_)
        · rw [w64 (by omega) (by omega)]
          exact ih2 (i + 1) ⟨by omega, by omega, by rw [a2, hg, Bool.true_and]⟩ (by omega)
        · rw [a2, show goodE (rd_T43 x.f3 i) = false by simpa using hg]; rfl
      · rw [a2, drop_all x.f3 i hi, goodEs_nil]; rfl
  have J1 : ∀ g : Int, g = greatN x.f0 → T (fun k => spec_l4Good.j1 k (namedB x.f0) g x.f0 x.f1 x.f2 x.f3) (fun r => r = (nodeB x.f0 x.f1 x.f2 x.f3.length && goodEs x.f3)) := by
    rintro _ rfl
    refine T.step (fun k => spec_l4Good.j1.eq_2 ..) ?_
    refine T.bind (spec_l4Parts_ x.f0) ?_
    rintro _ rfl
    refine T.ite (fun hl => ?_) (fun hl => jbad (fun h => hl ?_))
    · have hk : 1 ≤ x.f0 ∧ x.f0 ≤ 15 := by
        by_cases hk : 1 ≤ x.f0 ∧ x.f0 ≤ 15
        · exact hk
        · rw [if_neg hk] at hl; omega
      rw [if_pos hk] at hl
      rw [spec_l1In_]
      refine T.bind (T.now (Q := fun x => x = _) rfl) ?_
      rintro _ rfl
      refine T.ite (fun hg => ?_) (fun hg => jbad (fun h => hg (by unfold nodeB at h; simp only [Bool.and_eq_true] at h; exact h.1.1.2)))
      have hnode : nodeB x.f0 x.f1 x.f2 x.f3.length = (if x.f2.toList = ([] : List UInt8) then !namedB x.f0 else (namedB x.f0 && nameB x.f2)) := by
        unfold nodeB
        rw [hg, decide_eq_true hl, decide_eq_true hk]
        simp
      rw [hnode] at J2 ⊢
      refine T.ite (fun hs => ?_) (fun hs => ?_)
      · rw [if_pos hs] at J2 ⊢
        refine T.ite (fun hb => J2 _ (by rw [show namedB x.f0 = true from hb])) (fun hb => J2 _ ?_)
        rw [show namedB x.f0 = false by simpa using hb]
      · rw [if_neg hs] at J2 ⊢
        refine T.ite (fun hb => ?_) (fun hb => J2 _ ?_)
        · rw [show namedB x.f0 = true from hb] at J2 ⊢
          refine T.bind (spec_NameValid_ x.f2 hx.name) ?_
          rintro _ rfl
          exact J2 _ (by simp)
        · rw [show namedB x.f0 = false by simpa using hb]; rfl
    · unfold nodeB at h
      simp only [Bool.and_eq_true, decide_eq_true_eq] at h
      rw [if_pos h.1.1.1]
      exact h.1.2
  have J0 : ∀ b : Bool, b = namedB x.f0 → T (fun k => spec_l4Good.j0 k b x.f0 x.f1 x.f2 x.f3) (fun r => r = (nodeB x.f0 x.f1 x.f2 x.f3.length && goodEs x.f3)) := by
    rintro _ rfl
    refine T.step (fun k => spec_l4Good.j0.eq_2 ..) ?_
    refine T.ite (fun h => J1 _ (by rw [h]; decide)) (fun h1 => T.ite (fun h => J1 _ (by rw [h]; decide)) (fun h2 => T.ite (fun h => J1 _ (by rw [h]; decide)) (fun h3 => J1 _ ?_)))
    unfold greatN
    rw [if_neg h1, if_neg h2, if_neg h3]
  refine T.step (fun k => spec_l4Good.f.eq_2 ..) ?_
  refine T.ite (fun h => J0 _ (by rw [h]; decide)) (fun h7 => T.ite (fun h => J0 _ (by rw [h]; decide)) (fun h8 => J0 _ ?_))
  unfold namedB
  rw [Bool.eq_iff_iff, beq_iff_eq, decide_eq_true_eq]
  omega)
theorem spec_l4Size_ : ∀ x : S43, cntE x ≤ 1048577 → T (fun k => spec_l4Size.f k x.f0 x.f1 x.f2 x.f3) (fun r => r = cntE x) := Expr_ind (fun x ih hc => by
  have hlen := cntEs_pos x.f3
  have hce := cntE_eq x
  refine T.step (fun k => spec_l4Size.f.eq_2 ..) ?_
  refine T.loop (fun (s : Int × Int) k => spec_l4Size.l0 k s.1 s.2 x.f0 x.f1 x.f2 x.f3) (fun s => ((x.f3.length : Int) - s.2).toNat) (fun s => 0 ≤ s.2 ∧ s.2 ≤ x.f3.length ∧ 0 ≤ s.1 ∧ s.1 + cntEs (x.f3.drop s.2.toNat) = cntE x) _ ?_ (1, 0) ⟨by simp, by simp, by simp, by show 1 + cntEs x.f3 = _; omega⟩
  rintro ⟨m, i⟩ ⟨a0, a1, a2, a3⟩ ih2
  dsimp only at a0 a1 a2 a3 ih2 ⊢
  refine T.step (fun k => spec_l4Size.l0.eq_2 ..) ?_
  refine T.ite (fun hi => T.ift a0 ?_) (fun hi => T.now ?_)
  · have hm := get_mem x.f3 z43 i a0 hi
    have hcm := cntE_mem (show rd_T43 x.f3 i ∈ x.f3 from hm)
    rw [drop_at x.f3 z43 i a0 hi, cntEs_cons] at a3
    have hre : x.f3.getD i.toNat z43 = rd_T43 x.f3 i := rfl
    rw [hre] at a3
    refine T.bind (ih (rd_T43 x.f3 i) hm (by omega)) ?_
    rintro _ rfl
    have hp1 := cntE_pos (rd_T43 x.f3 i)
    have hp2 := cntEs_pos (x.f3.drop (i + 1).toNat)
    rw [w64 (by omega) (by omega), w64 (by omega) (by omega)]
    exact ih2 (m + cntE (rd_T43 x.f3 i), i + 1) ⟨by show 0 ≤ i + 1; omega, by show i + 1 ≤ _; omega, by show 0 ≤ m + _; omega, by show m + cntE (rd_T43 x.f3 i) + cntEs (x.f3.drop (i + 1).toNat) = _; omega⟩ (by show ((x.f3.length : Int) - (i + 1)).toNat < _; omega)
  · rw [drop_all x.f3 i hi, cntEs_nil] at a3
    omega)
theorem spec_l4Deep_ : ∀ x : S43, cntE x ≤ 1048577 → T (fun k => spec_l4Deep.f k x.f0 x.f1 x.f2 x.f3) (fun r => r = depE x) := Expr_ind (fun x ih hc => by
  have hlen := cntEs_pos x.f3
  have hce := cntE_eq x
  have hde := depE_eq x
  have hdl := depE_le x
  have hdn := depEs_nonneg x.f3
  refine T.step (fun k => spec_l4Deep.f.eq_2 ..) ?_
  refine T.loop (fun (s : Int × Int) k => spec_l4Deep.l0 k s.1 s.2 x.f0 x.f1 x.f2 x.f3) (fun s => ((x.f3.length : Int) - s.2).toNat) (fun s => 0 ≤ s.2 ∧ s.2 ≤ x.f3.length ∧ 0 ≤ s.1 ∧ mx s.1 (depEs (x.f3.drop s.2.toNat)) = depEs x.f3) _ ?_ (0, 0) ⟨by simp, by simp, by simp, by show mx 0 (depEs x.f3) = _; have := mx_of 0 (depEs x.f3); omega⟩
  rintro ⟨m, i⟩ ⟨a0, a1, a2, a3⟩ ih2
  dsimp only at a0 a1 a2 a3 ih2 ⊢
  have hdd := depEs_nonneg (x.f3.drop i.toNat)
  refine T.step (fun k => spec_l4Deep.l0.eq_2 ..) ?_
  refine T.ite (fun hi => T.ift a0 ?_) (fun hi => T.now ?_)
  · have hm := get_mem x.f3 z43 i a0 hi
    have hcm := cntE_mem (show rd_T43 x.f3 i ∈ x.f3 from hm)
    rw [drop_at x.f3 z43 i a0 hi, depEs_cons] at a3
    have hre : x.f3.getD i.toNat z43 = rd_T43 x.f3 i := rfl
    rw [hre] at a3
    refine T.bind (ih (rd_T43 x.f3 i) hm (by omega)) ?_
    rintro _ rfl
    rw [w64 (by omega) (by omega)]
    refine ih2 (mx m (depE (rd_T43 x.f3 i)), i + 1) ⟨by show 0 ≤ i + 1; omega, by show i + 1 ≤ _; omega, by show 0 ≤ mx m _; have := mx_of m (depE (rd_T43 x.f3 i)); omega, ?_⟩ (by show ((x.f3.length : Int) - (i + 1)).toNat < _; omega)
    show mx (mx m (depE (rd_T43 x.f3 i))) (depEs (x.f3.drop (i + 1).toNat)) = _
    have h1 := mx_of m (depE (rd_T43 x.f3 i))
    have h2 := mx_of (mx m (depE (rd_T43 x.f3 i))) (depEs (x.f3.drop (i + 1).toNat))
    have h3 := mx_of (depE (rd_T43 x.f3 i)) (depEs (x.f3.drop (i + 1).toNat))
    have h4 := mx_of m (mx (depE (rd_T43 x.f3 i)) (depEs (x.f3.drop (i + 1).toNat)))
    omega
  · rw [drop_all x.f3 i hi, depEs_nil] at a3
    have h1 := mx_of m 0
    have := depEs_nonneg x.f3
    rw [w64 (by omega) (by omega)]
    omega)
theorem spec_ExprValid_ (x : S43) (hx : OkE x) (hc : cntE x ≤ 1048577) : T (fun k => spec_ExprValid.f k x.f0 x.f1 x.f2 x.f3) (fun r => r = validE x) := by
  unfold spec_ExprValid.f validE
  refine T.bind (spec_l4Good_ x hx hc) ?_
  rintro _ rfl
  refine T.ite (fun h => ?_) (fun h => T.now (by rw [show goodE x = false by simpa using h]; rfl))
  rw [h, Bool.true_and]
  refine T.bind (spec_l4Size_ x hc) ?_
  rintro _ rfl
  refine T.ite (fun h40 => ?_) (fun h40 => T.now (decide_eq_false (by omega)).symm)
  refine T.bind (spec_l4Deep_ x hc) ?_
  rintro _ rfl
  exact T.now (decide_eq_decide.2 (by omega))
def policyB (n : ByteArray) (who what acts : Int) (x : S43) : Bool := nameB n && decide (-2 ≤ who ∧ who ≤ 6) && decide (-1 ≤ what ∧ what ≤ 6) && decide (1 ≤ acts ∧ acts ≤ 15) && validE x
theorem impl_PolicyValid_ (n : ByteArray) (al : Bool) (who what acts : Int) (x : S43) (hn : n.size ≤ 9223372036854775807) (hx : OkE x) (hc : cntE x ≤ 1048577) :
    T (fun k => impl_PolicyValid.f k n al who what acts x.f0 x.f1 x.f2 x.f3) (fun r => r = policyB n who what acts x) := by
  unfold impl_PolicyValid.f policyB
  refine T.bind (impl_NameValid_ n hn) ?_
  rintro _ rfl
  refine T.ite (fun h1 => ?_) (fun h1 => T.now (by rw [show nameB n = false by simpa using h1]; rfl))
  rw [h1, Bool.true_and, impl_in_]
  refine T.got ?_
  refine T.ite (fun h2 => ?_) (fun h2 => T.now (by rw [show decide (-2 ≤ who ∧ who ≤ 6) = false by simpa using h2]; rfl))
  rw [h2, Bool.true_and, impl_in_]
  refine T.got ?_
  refine T.ite (fun h3 => ?_) (fun h3 => T.now (by rw [show decide (-1 ≤ what ∧ what ≤ 6) = false by simpa using h3]; rfl))
  rw [h3, Bool.true_and, impl_in_]
  refine T.got ?_
  refine T.ite (fun h4 => ?_) (fun h4 => T.now (by rw [show decide (1 ≤ acts ∧ acts ≤ 15) = false by simpa using h4]; rfl))
  rw [h4, Bool.true_and]
  refine T.bind (impl_ExprValid_ x hx hc) ?_
  rintro _ rfl
  exact T.now rfl
theorem spec_PolicyValid_ (n : ByteArray) (al : Bool) (who what acts : Int) (x : S43) (hn : n.size ≤ 9223372036854775807) (hx : OkE x) (hc : cntE x ≤ 1048577) :
    T (fun k => spec_PolicyValid.f k n al who what acts x.f0 x.f1 x.f2 x.f3) (fun r => r = policyB n who what acts x) := by
  unfold spec_PolicyValid.f policyB
  refine T.bind (spec_NameValid_ n hn) ?_
  rintro _ rfl
  refine T.ite (fun h1 => ?_) (fun h1 => T.now (by rw [show nameB n = false by simpa using h1]; rfl))
  rw [h1, Bool.true_and, spec_l1In_]
  refine T.got ?_
  refine T.ite (fun h2 => ?_) (fun h2 => T.now (by rw [show decide (-2 ≤ who ∧ who ≤ 6) = false by simpa using h2]; rfl))
  rw [h2, Bool.true_and, spec_l1In_]
  refine T.got ?_
  refine T.ite (fun h3 => ?_) (fun h3 => T.now (by rw [show decide (-1 ≤ what ∧ what ≤ 6) = false by simpa using h3]; rfl))
  rw [h3, Bool.true_and, spec_l1In_]
  refine T.got ?_
  refine T.ite (fun h4 => ?_) (fun h4 => T.now (by rw [show decide (1 ≤ acts ∧ acts ≤ 15) = false by simpa using h4]; rfl))
  rw [h4, Bool.true_and]
  refine T.bind (spec_ExprValid_ x hx hc) ?_
  rintro _ rfl
  exact T.now rfl
/-! #### things within each other -/
def inN : Nat → List S79 → Int → Int → Bool
  | 0, _, _, _ => false
  | n + 1, w, t, g => decide (t = g) || (rd_T79 w t).f0.any fun x => inN n w x g
def inB (w : List S79) (t g : Int) : Bool := inN (t.toNat + 1) w t g
theorem AscOk.at_ {g : List Int} {hi : Int} (h : AscOk g hi) {x : Int} (hx : x ∈ g) : 0 ≤ x ∧ x ≤ hi := by
  obtain ⟨j, hj, rfl⟩ := List.mem_iff_getElem.1 hx
  have := h j (by omega) (by omega)
  unfold ascAt rd at this
  rw [List.getD_eq_getElem?_getD, Int.toNat_natCast, List.getElem?_eq_getElem hj] at this
  exact ⟨this.1, this.2.1⟩
theorem WorldOk.group {w : List S79} (hw : WorldOk w) {t x : Int} (h0 : 0 ≤ t) (h1 : t < w.length) (hx : x ∈ (rd_T79 w t).f0) : 0 ≤ x ∧ x < t := by
  have := (hw.2 t h0 h1).1.at_ hx
  omega
theorem inN_more {w : List S79} (hw : WorldOk w) : ∀ (n m : Nat) (t g : Int), 0 ≤ t → t < w.length → t.toNat < n → t.toNat < m → inN n w t g = inN m w t g
  | 0, _, t, _, _, _, h, _ => by omega
  | _ + 1, 0, t, _, _, _, _, h => by omega
  | n + 1, m + 1, t, g, h0, h1, hn, hm => by
    unfold inN
    congr 1
    rw [Bool.eq_iff_iff, List.any_eq_true, List.any_eq_true]
    have key : ∀ x ∈ (rd_T79 w t).f0, inN n w x g = inN m w x g := fun x hx => by
      have := hw.group h0 h1 hx
      exact inN_more hw n m x g this.1 (by omega) (by omega) (by omega)
    exact ⟨fun ⟨x, hx, h⟩ => ⟨x, hx, (key x hx) ▸ h⟩, fun ⟨x, hx, h⟩ => ⟨x, hx, (key x hx).symm ▸ h⟩⟩
theorem inB_eq {w : List S79} (hw : WorldOk w) {t : Int} (g : Int) (h0 : 0 ≤ t) (h1 : t < w.length) : inB w t g = (decide (t = g) || (rd_T79 w t).f0.any fun x => inB w x g) := by
  show inN (t.toNat + 1) w t g = _
  unfold inN
  congr 1
  rw [Bool.eq_iff_iff, List.any_eq_true, List.any_eq_true]
  have key : ∀ x ∈ (rd_T79 w t).f0, inN t.toNat w x g = inB w x g := fun x hx => by
    have := hw.group h0 h1 hx
    exact inN_more hw _ _ x g this.1 (by omega) (by omega) (by omega)
  exact ⟨fun ⟨x, hx, h⟩ => ⟨x, hx, (key x hx) ▸ h⟩, fun ⟨x, hx, h⟩ => ⟨x, hx, (key x hx).symm ▸ h⟩⟩
/-- Induction over things: each is asked for behind its groups. -/
theorem WorldOk.ind {w : List S79} (P : Int → Prop) (hw : WorldOk w) (h : ∀ t : Int, 0 ≤ t → t < w.length → (∀ x ∈ (rd_T79 w t).f0, P x) → P t) : ∀ t : Int, 0 ≤ t → t < w.length → P t := by
  intro t
  induction hm : t.toNat using Nat.strongRecOn generalizing t with
  | _ n ih =>
    intro h0 h1
    refine h t h0 h1 (fun x hx => ?_)
    have := hw.group h0 h1 hx
    exact ih x.toNat (by omega) x rfl this.1 (by omega)
/-- Among groups one is in g. -/
def anyIn (w : List S79) (xs : List Int) (g : Int) : Bool := xs.any fun x => inB w x g
def IsInB (w : List S79) (t g : Int) : Prop := WorldOk w ∧ (0 ≤ t ∧ t ≤ (w.length : Int) - 1) ∧ (0 ≤ g ∧ g ≤ (w.length : Int) - 1) ∧ inB w t g = true
theorem anyIn_hit {w : List S79} {xs : List Int} {g i : Int} (h0 : 0 ≤ i) (h1 : i < xs.length) (h : inB w (rd xs i) g = true) : anyIn w xs g = true := by
  unfold anyIn
  rw [List.any_eq_true]
  exact ⟨_, get_mem xs 0 i h0 h1, h⟩
theorem anyIn_miss {w : List S79} {xs : List Int} {g : Int} (h : ∀ i : Int, 0 ≤ i → i < xs.length → inB w (rd xs i) g = false) : anyIn w xs g = false := by
  unfold anyIn
  rw [List.any_eq_false]
  intro x hx
  obtain ⟨j, hj, rfl⟩ := List.mem_iff_getElem.1 hx
  have := h j (by omega) (by omega)
  unfold rd at this
  rw [List.getD_eq_getElem?_getD, Int.toNat_natCast, List.getElem?_eq_getElem hj] at this
  simpa using this
/-! #### the order of things within each other -/
theorem inB_self (w : List S79) (t : Int) : inB w t t = true := by
  unfold inB inN
  simp
theorem inB_trans {w : List S79} (hw : WorldOk w) (b g : Int) (hb : inB w b g = true) : ∀ t : Int, 0 ≤ t → t < w.length → inB w t b = true → inB w t g = true := by
  refine hw.ind _ (fun t h0 h1 ih h => ?_)
  rw [inB_eq hw b h0 h1, Bool.or_eq_true, decide_eq_true_eq, List.any_eq_true] at h
  rcases h with rfl | ⟨x, hx, h⟩
  · exact hb
  · rw [inB_eq hw g h0 h1, Bool.or_eq_true, List.any_eq_true]
    exact Or.inr ⟨x, hx, ih x hx h⟩
theorem inB_le {w : List S79} (hw : WorldOk w) (g : Int) : ∀ t : Int, 0 ≤ t → t < w.length → inB w t g = true → g ≤ t := by
  refine hw.ind _ (fun t h0 h1 ih h => ?_)
  rw [inB_eq hw g h0 h1, Bool.or_eq_true, decide_eq_true_eq, List.any_eq_true] at h
  rcases h with rfl | ⟨x, hx, h⟩
  · omega
  · have := ih x hx h
    have := hw.group h0 h1 hx
    omega
theorem IsInB.trans {w : List S79} {a b g : Int} (h : IsInB w a b) (k : IsInB w b g) : IsInB w a g :=
  ⟨h.1, h.2.1, k.2.2.1, inB_trans h.1 b g k.2.2.2 a h.2.1.1 (by have := h.2.1.2; omega) h.2.2.2⟩
theorem IsInB.le {w : List S79} {a b : Int} (h : IsInB w a b) : b ≤ a := inB_le h.1 b a h.2.1.1 (by have := h.2.1.2; omega) h.2.2.2
theorem IsInB.self {w : List S79} {a b : Int} (h : IsInB w a b) : IsInB w a a := ⟨h.1, h.2.1, h.2.1, inB_self w a⟩
theorem IsInB.self' {w : List S79} {a b : Int} (h : IsInB w a b) : IsInB w b b := ⟨h.1, h.2.2.1, h.2.2.1, inB_self w b⟩
theorem impl_fieldsValid_ (l : List S103) (many : Int) (hl : ShortF l) : T (fun k => impl_fieldsValid.f k l many) (fun r => r = true ↔ FieldsOk l many) := by
  unfold impl_fieldsValid.f
  have hlen := hl.1
  refine T.loop (fun (s : Int × List ByteArray) k => impl_fieldsValid.l0 k l many l (l.length : Int) s.1 s.2) (fun s => ((l.length : Int) - s.1).toNat) (fun s => 0 ≤ s.1 ∧ s.1 ≤ l.length ∧ (∀ m : Int, 0 ≤ m → m < s.1 → fieldAt l many m) ∧ ∀ n, n ∈ s.2 ↔ ∃ j : Int, 0 ≤ j ∧ j < s.1 ∧ (rd_T103 l j).f0 = n) _ ?_ (0, []) ⟨by simp, by simp, fun m h0 h1 => by dsimp only at h1; omega, fun n => ⟨fun h => absurd h (by simp), fun ⟨j, h0, h1, _⟩ => by dsimp only at h1; omega⟩⟩
  rintro ⟨i, ms⟩ ⟨h0, h1, h2, h3⟩ ih
  dsimp only at h0 h1 h2 h3 ih ⊢
  have bad : ¬ fieldAt l many i → i < l.length → T (fun _ => some false) (fun r => r = true ↔ FieldsOk l many) := fun h hi => T.now ⟨fun e => (by cases e), fun e => absurd (e.1 i h0 hi) h⟩
  refine T.step (fun k => impl_fieldsValid.l0.eq_2 ..) ?_
  refine T.ite (fun hi => T.ift h0 (T.ift hi ?_)) (fun hi => T.now ?_)
  · have hm : rd_T103 l i ∈ l := get_mem l z103 i h0 hi
    refine T.bind (impl_NameValid_ _ (hl.2 _ hm)) ?_
    rintro _ rfl
    refine T.ite (fun hn => ?_) (fun hn => bad (fun h => hn h.1) hi)
    refine T.ite (fun hs => bad (fun h => ?_) hi) (fun hs => ?_)
    · obtain ⟨j, j0, j1, e⟩ := (h3 _).1 ((memB_iff _ _).1 hs)
      exact h.2.2 j j0 j1 e
    rw [impl_ValueValid_]
    refine T.got ?_
    refine T.ite (fun hv => ?_) (fun hv => bad (fun h => hv h.2.1) hi)
    have hs' : ∀ j : Int, 0 ≤ j → j < i → ¬ (rd_T103 l j).f0 = (rd_T103 l i).f0 := fun j j0 j1 e => hs ((memB_iff _ _).2 ((h3 _).2 ⟨j, j0, j1, e⟩))
    rw [w64 (by omega) (by omega)]
    refine ih (i + 1, insB (rd_T103 l i).f0 ms) ⟨by show 0 ≤ i + 1; omega, by show i + 1 ≤ _; omega, fun m m0 m1 => ?_, fun n => ?_⟩ (by show ((l.length : Int) - (i + 1)).toNat < _; omega)
    · by_cases hmi : m < i
      · exact h2 m m0 hmi
      · dsimp only at m1
        obtain rfl : m = i := by omega
        exact ⟨hn, hv, hs'⟩
    · have hsb : memB (rd_T103 l i).f0 ms = false := by simpa using hs
      show n ∈ insB (rd_T103 l i).f0 ms ↔ ∃ j : Int, 0 ≤ j ∧ j < i + 1 ∧ (rd_T103 l j).f0 = n
      unfold insB
      rw [if_neg hs, List.mem_append, List.mem_singleton, h3]
      constructor
      · rintro (⟨j, j0, j1, e⟩ | e)
        · exact ⟨j, j0, by omega, e⟩
        · exact ⟨i, h0, by omega, e.symm⟩
      · rintro ⟨j, j0, j1, e⟩
        by_cases hji : j < i
        · exact .inl ⟨j, j0, hji, e⟩
        · obtain rfl : j = i := by omega
          exact .inr e.symm
  · obtain rfl : i = l.length := by omega
    rw [decide_eq_true_eq]
    exact ⟨fun h => ⟨h2, h⟩, fun h => h.2⟩
theorem impl_ascends_ (g : List Int) (hi : Int) (hg : g.length ≤ 9223372036854775806) (hh : hi ≤ 9223372036854775806) : T (fun k => impl_ascends.f k g 0 hi) (fun r => r = true ↔ AscOk g hi) := by
  unfold impl_ascends.f
  refine T.loop (fun (s : Int × Int) k => impl_ascends.l0 k s.1 hi g (g.length : Int) s.2) (fun s => ((g.length : Int) - s.2).toNat) (fun s => 0 ≤ s.2 ∧ s.2 ≤ g.length ∧ (∀ m : Int, 0 ≤ m → m < s.2 → ascAt g hi m) ∧ 0 ≤ s.1 ∧ (s.2 = 0 → s.1 = 0) ∧ (0 < s.2 → s.1 = rd g (s.2 - 1) + 1)) _ ?_ (0, 0) ⟨by simp, by simp, fun m h0 h1 => by dsimp only at h1; omega, by simp, fun _ => rfl, fun h => by dsimp only at h; omega⟩
  rintro ⟨low, i⟩ ⟨h0, h1, h2, h3, h4, h5⟩ ih
  dsimp only at h0 h1 h2 h3 h4 h5 ih ⊢
  refine T.step (fun k => impl_ascends.l0.eq_2 ..) ?_
  refine T.ite (fun hlt => T.ift h0 (T.ift hlt ?_)) (fun hlt => T.now ⟨fun _ m m0 m1 => h2 m m0 (by omega), fun _ => rfl⟩)
  rw [impl_in_]
  refine T.got ?_
  have key : (low ≤ rd g i ∧ rd g i ≤ hi) ↔ ascAt g hi i := by
    unfold ascAt
    by_cases hz : i = 0
    · have := h4 hz
      exact ⟨fun h => ⟨by omega, h.2, fun hp => by omega⟩, fun h => ⟨by omega, h.2.1⟩⟩
    · have := h5 (by omega)
      exact ⟨fun h => ⟨by omega, h.2, fun _ => by omega⟩, fun h => ⟨by have := h.2.2 (by omega); omega, h.2.1⟩⟩
  refine T.ite (fun hc => ?_) (fun hc => T.now ⟨fun e => (by cases e), fun e => absurd (decide_eq_true (key.2 (e i h0 hlt))) hc⟩)
  have hc := of_decide_eq_true hc
  rw [w64 (by omega) (by omega), w64 (by omega) (by omega)]
  refine ih (rd g i + 1, i + 1) ⟨by show 0 ≤ i + 1; omega, by show i + 1 ≤ _; omega, fun m m0 m1 => ?_, by show 0 ≤ rd g i + 1; omega, fun h => by dsimp only at h; omega, fun _ => ?_⟩ (by show ((g.length : Int) - (i + 1)).toNat < _; omega)
  · by_cases hmi : m < i
    · exact h2 m m0 hmi
    · dsimp only at m1
      obtain rfl : m = i := by omega
      exact key.1 hc
  · show rd g i + 1 = rd g (i + 1 - 1) + 1
    rw [show i + 1 - 1 = i by omega]
theorem impl_WorldValid_ (w : List S79) (hw : ShortW w) : T (fun k => impl_WorldValid.f k w) (fun r => r = true ↔ WorldOk w) := by
  unfold impl_WorldValid.f
  refine T.ite (fun h7 => T.now ⟨fun e => (by cases e), fun e => by have := e.1; omega⟩) (fun h7 => ?_)
  refine T.loop (fun (i : Int) k => impl_WorldValid.l0 k w w (w.length : Int) i) (fun i => ((w.length : Int) - i).toNat) (fun i => 0 ≤ i ∧ i ≤ w.length ∧ ∀ m : Int, 0 ≤ m → m < i → thingAt w w.length m) _ ?_ 0 ⟨by omega, by omega, fun m h0 h1 => by omega⟩
  rintro i ⟨h0, h1, h2⟩ ih
  refine T.step (fun k => impl_WorldValid.l0.eq_2 ..) ?_
  refine T.ite (fun hi => T.ift h0 (T.ift hi ?_)) (fun hi => T.now ⟨fun _ => ⟨by omega, fun m m0 m1 => h2 m m0 (by omega)⟩, fun _ => rfl⟩)
  have hm : rd_T79 w i ∈ w := get_mem w z79 i h0 hi
  have hx := hw.2 _ hm
  rw [w64 (by omega) (by omega)]
  refine T.bind (impl_ascends_ _ _ hx.1 (by omega)) ?_
  intro a ha
  refine T.ite (fun hc => ?_) (fun hc => T.now ⟨fun e => (by cases e), fun e => absurd (ha.2 (e.2 i h0 hi).1) hc⟩)
  refine T.bind (impl_fieldsValid_ _ _ hx.2) ?_
  intro b hb
  refine T.ite (fun hd => ?_) (fun hd => T.now ⟨fun e => (by cases e), fun e => absurd (hb.2 (e.2 i h0 hi).2) hd⟩)
  rw [w64 (by omega) (by omega)]
  refine ih (i + 1) ⟨by omega, by omega, fun m m0 m1 => ?_⟩ (by omega)
  by_cases hmi : m < i
  · exact h2 m m0 hmi
  · obtain rfl : m = i := by omega
    exact ⟨ha.1 hc, hb.1 hd⟩
theorem impl_isThing_ (w : List S79) (n : Int) (hw : w.length ≤ 9223372036854775806) : impl_isThing.f w n = some (decide (0 ≤ n ∧ n ≤ (w.length : Int) - 1)) := by
  unfold impl_isThing.f
  rw [w64 (by omega) (by omega), impl_in_]
  rfl
theorem impl_RequestValid_ (w : List S79) (who act what : Int) (fs : List S103) (hw : ShortW w) (hf : ShortF fs) : T (fun k => impl_RequestValid.f k w who act what fs) (fun r => r = true ↔ RequestOk w who act what fs) := by
  unfold impl_RequestValid.f
  have no : ¬ RequestOk w who act what fs → T (fun _ => some false) (fun r => r = true ↔ RequestOk w who act what fs) := fun h => T.now ⟨fun e => (by cases e), fun e => absurd e h⟩
  refine T.bind (impl_WorldValid_ w hw) ?_
  intro a ha
  refine T.ite (fun h1 => ?_) (fun h1 => no (fun e => h1 (ha.2 e.1)))
  rw [impl_isThing_ w _ hw.1]
  refine T.got ?_
  refine T.ite (fun h2 => ?_) (fun h2 => no (fun e => h2 (decide_eq_true e.2.1)))
  rw [impl_isThing_ w _ hw.1]
  refine T.got ?_
  refine T.ite (fun h3 => ?_) (fun h3 => no (fun e => h3 (decide_eq_true e.2.2.1)))
  have e : impl_isAct.f act = some (decide (0 ≤ act ∧ act ≤ 3)) := by
    unfold impl_isAct.f
    rw [impl_in_]
    rfl
  rw [e]
  refine T.got ?_
  refine T.ite (fun h4 => ?_) (fun h4 => no (fun e => h4 (decide_eq_true e.2.2.2.1)))
  refine T.bind (impl_fieldsValid_ fs _ hf) ?_
  intro b hb
  exact T.now ⟨fun h => ⟨ha.1 h1, of_decide_eq_true h2, of_decide_eq_true h3, of_decide_eq_true h4, hb.1 h⟩, fun h => hb.2 h.2.2.2.2⟩
theorem spec_ValueValid_ (kd n many : Int) : spec_ValueValid.f kd n many = some (valueB kd n many) := by
  unfold spec_ValueValid.f valueB
  by_cases h1 : kd = 1
  · rw [if_pos h1, if_pos h1, spec_l1In_]; rfl
  rw [if_neg h1, if_neg h1]
  by_cases h2 : kd = 2
  · rw [if_pos h2, if_pos h2, spec_l1In_]; rfl
  rw [if_neg h2, if_neg h2]
  by_cases h3 : kd = 3
  · rw [if_pos h3, if_pos h3]
    by_cases h : n ≥ 0
    · rw [if_pos h]; simp [show 0 ≤ n from h]
    · rw [if_neg h]; simp [show ¬ 0 ≤ n from h]
  · rw [if_neg h3, if_neg h3]
theorem spec_l2Fields_ (l : List S103) (many : Int) (hl : ShortF l) : T (fun k => spec_l2Fields.f k l many) (fun r => r = true ↔ FieldsOk l many) := by
  unfold spec_l2Fields.f
  have hlen := hl.1
  refine T.loop (fun (i : Int) k => spec_l2Fields.l0 k l many i) (fun i => ((l.length : Int) - i).toNat) (fun i => 0 ≤ i ∧ i ≤ l.length ∧ ∀ m : Int, 0 ≤ m → m < i → fieldAt l many m) _ ?_ 0 ⟨by omega, by omega, fun m h0 h1 => by omega⟩
  rintro i ⟨h0, h1, h2⟩ ih
  have bad : ¬ fieldAt l many i → i < l.length → T (fun _ => some false) (fun r => r = true ↔ FieldsOk l many) := fun h hi => T.now ⟨fun e => (by cases e), fun e => absurd (e.1 i h0 hi) h⟩
  refine T.step (fun k => spec_l2Fields.l0.eq_2 ..) ?_
  refine T.ite (fun hi => T.ift h0 ?_) (fun hi => T.now ?_)
  · have hm : rd_T103 l i ∈ l := get_mem l z103 i h0 hi
    have J : ∀ c : Bool, (c = true → ¬ fieldAt l many i) → (c = false → nameB (rd_T103 l i).f0 = true ∧ valueB (rd_T103 l i).f1.f0 (rd_T103 l i).f1.f1 many = true) → T (fun k => spec_l2Fields.j1 k l many i c) (fun r => r = true ↔ FieldsOk l many) := by
      intro c c1 c2
      refine T.step (fun k => spec_l2Fields.j1.eq_2 ..) ?_
      refine T.ite (fun hc => bad (c1 hc) hi) (fun hc => ?_)
      have c2 := c2 (by simpa using hc)
      refine T.loop (fun (j : Int) k => spec_l2Fields.l1 k l many i j) (fun j => (i - j).toNat) (fun j => 0 ≤ j ∧ j ≤ i ∧ ∀ m : Int, 0 ≤ m → m < j → ¬ (rd_T103 l m).f0 = (rd_T103 l i).f0) _ ?_ 0 ⟨by omega, by omega, fun m h0 h1 => by omega⟩
      rintro j ⟨j0, j1, j2⟩ ihj
      refine T.step (fun k => spec_l2Fields.l1.eq_2 ..) ?_
      refine T.ite (fun hj => T.ift j0 (T.ift (by omega) (T.ift h0 (T.ift hi ?_)))) (fun hj => ?_)
      · refine T.ite (fun he => bad (fun h => h.2.2 j j0 hj (tl_inj.1 he)) hi) (fun he => ?_)
        rw [w64 (by omega) (by omega)]
        refine ihj (j + 1) ⟨by omega, by omega, fun m m0 m1 => ?_⟩ (by omega)
        by_cases hmj : m < j
        · exact j2 m m0 hmj
        · obtain rfl : m = j := by omega
          exact fun e => he (tl_inj.2 e)
      · rw [w64 (by omega) (by omega)]
        refine ih (i + 1) ⟨by omega, by omega, fun m m0 m1 => ?_⟩ (by omega)
        by_cases hmi : m < i
        · exact h2 m m0 hmi
        · obtain rfl : m = i := by omega
          exact ⟨c2.1, c2.2, fun q q0 q1 => j2 q q0 (by omega)⟩
    refine T.bind (spec_NameValid_ _ (hl.2 _ hm)) ?_
    rintro _ rfl
    refine T.ite (fun hn => ?_) (fun hn => J _ (fun _ h => hn h.1) (fun h => by cases h))
    rw [spec_ValueValid_]
    refine T.got ?_
    exact J _ (fun hc h => by rw [h.2.1] at hc; cases hc) (fun hc => ⟨hn, by simpa using hc⟩)
  · obtain rfl : i = l.length := by omega
    rw [decide_eq_true_eq]
    exact ⟨fun h => ⟨h2, h⟩, fun h => h.2⟩
theorem spec_WorldValid_ (w : List S79) (hw : ShortW w) : T (fun k => spec_WorldValid.f k w) (fun r => r = true ↔ WorldOk w) := by
  unfold spec_WorldValid.f
  have hlen := hw.1
  refine T.loop (fun (i : Int) k => spec_WorldValid.l0 k w i) (fun i => ((w.length : Int) - i).toNat) (fun i => 0 ≤ i ∧ i ≤ w.length ∧ ∀ m : Int, 0 ≤ m → m < i → thingAt w w.length m) _ ?_ 0 ⟨by omega, by omega, fun m h0 h1 => by omega⟩
  rintro i ⟨h0, h1, h2⟩ ih
  have bad : ¬ thingAt w w.length i → i < w.length → T (fun _ => some false) (fun r => r = true ↔ WorldOk w) := fun h hi => T.now ⟨fun e => (by cases e), fun e => absurd (e.2 i h0 hi) h⟩
  refine T.step (fun k => spec_WorldValid.l0.eq_2 ..) ?_
  refine T.ite (fun hi => ?_) (fun hi => T.now ?_)
  · have hm : rd_T79 w i ∈ w := get_mem w z79 i h0 hi
    have hx := hw.2 _ hm
    have hg := hx.1
    refine T.loop (fun (j : Int) k => spec_WorldValid.l1 k w i j) (fun j => (((rd_T79 w i).f0.length : Int) - j).toNat) (fun j => 0 ≤ j ∧ j ≤ (rd_T79 w i).f0.length ∧ ∀ m : Int, 0 ≤ m → m < j → ascAt (rd_T79 w i).f0 (i - 1) m) _ ?_ 0 ⟨by omega, by omega, fun m h0 h1 => by omega⟩
    rintro j ⟨j0, j1, j2⟩ ihj
    have badj : ¬ ascAt (rd_T79 w i).f0 (i - 1) j → j < (rd_T79 w i).f0.length → T (fun _ => some false) (fun r => r = true ↔ WorldOk w) := fun h hj => bad (fun e => h (e.1 j j0 hj)) hi
    refine T.step (fun k => spec_WorldValid.l1.eq_2 ..) (T.ift h0 (T.ift hi ?_))
    refine T.ite (fun hj => T.ift j0 ?_) (fun hj => ?_)
    · rw [spec_l1In_]
      refine T.got ?_
      rw [w64 (x := i - 1) (by omega) (by omega)]
      have next : ascAt (rd_T79 w i).f0 (i - 1) j → T (fun k => spec_WorldValid.l1 k w i (wrap64 (j + 1))) (fun r => r = true ↔ WorldOk w) := fun hok => by
        rw [w64 (by omega) (by omega)]
        refine ihj (j + 1) ⟨by omega, by omega, fun m m0 m1 => ?_⟩ (by omega)
        by_cases hmj : m < j
        · exact j2 m m0 hmj
        · obtain rfl : m = j := by omega
          exact hok
      refine T.ite (fun hc => ?_) (fun hc => badj (fun h => hc (decide_eq_true ⟨h.1, h.2.1⟩)) hj)
      have hc := of_decide_eq_true hc
      refine T.ite (fun hp => ?_) (fun hp => next ⟨hc.1, hc.2, fun h => absurd h hp⟩)
      rw [w64 (by omega) (by omega)]
      refine T.ift (by omega) (T.ift (by omega) ?_)
      exact T.ite (fun he => badj (fun h => by have := h.2.2 hp; omega) hj) (fun he => next ⟨hc.1, hc.2, fun _ => by omega⟩)
    · refine T.bind (spec_l2Fields_ _ _ hx.2) ?_
      intro b hb
      refine T.ite (fun hd => ?_) (fun hd => bad (fun e => hd (hb.2 e.2)) hi)
      rw [w64 (by omega) (by omega)]
      refine ih (i + 1) ⟨by omega, by omega, fun m m0 m1 => ?_⟩ (by omega)
      by_cases hmi : m < i
      · exact h2 m m0 hmi
      · obtain rfl : m = i := by omega
        exact ⟨fun q q0 q1 => j2 q q0 (by omega), hb.1 hd⟩
  · rw [decide_eq_true_eq]
    exact ⟨fun h => ⟨h, fun m m0 m1 => h2 m m0 (by omega)⟩, fun h => h.1⟩
theorem spec_RequestValid_ (w : List S79) (who act what : Int) (fs : List S103) (hw : ShortW w) (hf : ShortF fs) : T (fun k => spec_RequestValid.f k w who act what fs) (fun r => r = true ↔ RequestOk w who act what fs) := by
  unfold spec_RequestValid.f
  have hlen := hw.1
  have no : ¬ RequestOk w who act what fs → T (fun _ => some false) (fun r => r = true ↔ RequestOk w who act what fs) := fun h => T.now ⟨fun e => (by cases e), fun e => absurd e h⟩
  refine T.bind (spec_WorldValid_ w hw) ?_
  intro a ha
  rw [w64 (by omega) (by omega)]
  refine T.ite (fun h1 => ?_) (fun h1 => no (fun e => h1 (ha.2 e.1)))
  rw [spec_l1In_]
  refine T.got ?_
  refine T.ite (fun h2 => ?_) (fun h2 => no (fun e => h2 (decide_eq_true e.2.1)))
  rw [spec_l1In_]
  refine T.got ?_
  refine T.ite (fun h3 => ?_) (fun h3 => no (fun e => h3 (decide_eq_true e.2.2.1)))
  rw [spec_l1In_]
  refine T.got ?_
  refine T.ite (fun h4 => ?_) (fun h4 => no (fun e => h4 (decide_eq_true e.2.2.2.1)))
  refine T.bind (spec_l2Fields_ fs _ hf) ?_
  intro b hb
  exact T.now ⟨fun h => ⟨ha.1 h1, of_decide_eq_true h2, of_decide_eq_true h3, of_decide_eq_true h4, hb.1 h⟩, fun h => hb.2 h.2.2.2.2⟩
theorem impl_isIn_ (w : List S79) (hw : WorldOk w) (hs : ShortW w) (g : Int) : ∀ t : Int, 0 ≤ t → t < w.length → T (fun k => impl_isIn.f k w t g) (fun r => r = inB w t g) := by
  refine hw.ind _ (fun t h0 h1 ih => ?_)
  have hl := (hs.2 _ (get_mem w z79 t h0 h1)).1
  refine T.step (fun k => impl_isIn.f.eq_2 ..) ?_
  rw [inB_eq hw g h0 h1]
  refine T.ite (fun e => T.now (by simp [e])) (fun e => T.ift h0 (T.ift h1 ?_))
  rw [decide_eq_false e, Bool.false_or]
  change T _ (fun r => r = anyIn w (rd_T79 w t).f0 g)
  generalize hxs : (rd_T79 w t).f0 = xs at *
  have hl : xs.length ≤ 9223372036854775806 := by rw [← hxs]; exact hl
  refine T.loop (fun (i : Int) k => impl_isIn.l0 k w g xs i) (fun i => ((xs.length : Int) - i).toNat) (fun i => 0 ≤ i ∧ i ≤ xs.length ∧ ∀ m : Int, 0 ≤ m → m < i → inB w (rd xs m) g = false) _ ?_ 0 ⟨by omega, by omega, fun m h0 h1 => by omega⟩
  rintro i ⟨i0, i1, i2⟩ ihi
  refine T.step (fun k => impl_isIn.l0.eq_2 ..) ?_
  refine T.ite (fun hi => T.ift i0 ?_) (fun hi => T.now (anyIn_miss (fun m m0 m1 => i2 m m0 (by omega))).symm)
  refine T.bind (ih _ (get_mem xs 0 i i0 hi)) ?_
  rintro _ rfl
  refine T.ite (fun hb => T.now (anyIn_hit i0 hi hb).symm) (fun hb => ?_)
  rw [w64 (by omega) (by omega)]
  refine ihi (i + 1) ⟨by omega, by omega, fun m m0 m1 => ?_⟩ (by omega)
  by_cases hmi : m < i
  · exact i2 m m0 hmi
  · obtain rfl : m = i := by omega
    simpa [rd] using hb
theorem impl_IsIn_ (w : List S79) (t g : Int) (hs : ShortW w) : T (fun k => impl_IsIn.f k w t g) (fun r => r = true ↔ IsInB w t g) := by
  unfold impl_IsIn.f
  have no : ¬ IsInB w t g → T (fun _ => some false) (fun r => r = true ↔ IsInB w t g) := fun h => T.now ⟨fun e => (by cases e), fun e => absurd e h⟩
  refine T.bind (impl_WorldValid_ w hs) ?_
  intro a ha
  refine T.ite (fun h1 => ?_) (fun h1 => no (fun e => h1 (ha.2 e.1)))
  rw [impl_isThing_ w _ hs.1]
  refine T.got ?_
  refine T.ite (fun h2 => ?_) (fun h2 => no (fun e => h2 (decide_eq_true e.2.1)))
  rw [impl_isThing_ w _ hs.1]
  refine T.got ?_
  refine T.ite (fun h3 => ?_) (fun h3 => no (fun e => h3 (decide_eq_true e.2.2.1)))
  have h2' := of_decide_eq_true h2
  refine T.bind (impl_isIn_ w (ha.1 h1) hs g t h2'.1 (by omega)) ?_
  rintro _ rfl
  exact T.now ⟨fun h => ⟨ha.1 h1, h2', of_decide_eq_true h3, h⟩, fun h => h.2.2.2⟩
theorem spec_l2Is_ (w : List S79) (hw : WorldOk w) (hs : ShortW w) (g : Int) : ∀ t : Int, 0 ≤ t → t < w.length → T (fun k => spec_l2Is.f k w t g) (fun r => r = inB w t g) := by
  refine hw.ind _ (fun t h0 h1 ih => ?_)
  have hl := (hs.2 _ (get_mem w z79 t h0 h1)).1
  refine T.step (fun k => spec_l2Is.f.eq_2 ..) ?_
  rw [inB_eq hw g h0 h1]
  refine T.ite (fun e => T.now (by simp [e])) (fun e => ?_)
  rw [decide_eq_false e, Bool.false_or]
  change T _ (fun r => r = anyIn w (rd_T79 w t).f0 g)
  refine T.loop (fun (i : Int) k => spec_l2Is.l0 k w t g i) (fun i => ((rd_T79 w t).f0.length - i).toNat) (fun i => 0 ≤ i ∧ i ≤ (rd_T79 w t).f0.length ∧ ∀ m : Int, 0 ≤ m → m < i → inB w (rd (rd_T79 w t).f0 m) g = false) _ ?_ 0 ⟨by omega, by omega, fun m h0 h1 => by omega⟩
  rintro i ⟨i0, i1, i2⟩ ihi
  refine T.step (fun k => spec_l2Is.l0.eq_2 ..) (T.ift h0 (T.ift h1 ?_))
  refine T.ite (fun hi => T.ift i0 ?_) (fun hi => T.now (anyIn_miss (fun m m0 m1 => i2 m m0 (by omega))).symm)
  refine T.bind (ih _ (get_mem _ 0 i i0 hi)) ?_
  rintro _ rfl
  refine T.ite (fun hb => T.now (anyIn_hit i0 hi hb).symm) (fun hb => ?_)
  rw [w64 (by have : (rd_T79 w t).f0.length ≤ 9223372036854775806 := hl; omega) (by have : (rd_T79 w t).f0.length ≤ 9223372036854775806 := hl; omega)]
  refine ihi (i + 1) ⟨by omega, by omega, fun m m0 m1 => ?_⟩ (by omega)
  by_cases hmi : m < i
  · exact i2 m m0 hmi
  · obtain rfl : m = i := by omega
    simpa [rd] using hb
/-! #### scopes -/
def actN (x : Int) : Nat → Bool
  | 0 => Int.tmod x 2 == 1
  | n + 1 => actN (Int.tdiv x 2) n
theorem act_bits : ∀ (a : Fin 16) (b : Fin 4), ((Go.bits .and .i64 (shr .i64 ((a.val : Nat) : Int) ((b.val : Nat) : Int)) 1) == 1) = actN ((a.val : Nat) : Int) b.val := by decide
theorem act_bits' {a b : Int} (h0 : 0 ≤ a) (h1 : a ≤ 15) (h2 : 0 ≤ b) (h3 : b ≤ 3) : ((Go.bits .and .i64 (shr .i64 a b) 1) == 1) = actN a b.toNat := by
  have := act_bits ⟨a.toNat, by omega⟩ ⟨b.toNat, by omega⟩
  simp only [show ((a.toNat : Nat) : Int) = a by omega, show ((b.toNat : Nat) : Int) = b by omega] at this
  exact this
theorem spec_l12Act_ (acts act : Int) (h0 : 0 ≤ acts) (h1 : acts ≤ 15) (h2 : 0 ≤ act) (h3 : act ≤ 3) : T (fun k => spec_l12Act.f k acts act) (fun r => r = actN acts act.toNat) := by
  unfold spec_l12Act.f
  refine T.loop (fun (s : Int × Int) k => spec_l12Act.l0 k s.1 act s.2) (fun s => (act - s.2).toNat) (fun s => 0 ≤ s.2 ∧ s.2 ≤ act ∧ 0 ≤ s.1 ∧ s.1 ≤ 15 ∧ actN s.1 (act - s.2).toNat = actN acts act.toNat) _ ?_ (acts, 0) ⟨by simp, h2, h0, h1, by simp⟩
  rintro ⟨x, i⟩ ⟨a0, a1, a2, a3, a4⟩ ih
  dsimp only at a0 a1 a2 a3 a4 ih ⊢
  refine T.step (fun k => spec_l12Act.l0.eq_2 ..) ?_
  refine T.ite (fun hi => ?_) (fun hi => T.now ?_)
  · have hd : 0 ≤ Int.tdiv x 2 ∧ Int.tdiv x 2 ≤ 15 := by
      rw [Int.tdiv_eq_ediv_of_nonneg a2]
      omega
    rw [w64 (x := Int.tdiv x 2) (by omega) (by omega), w64 (x := i + 1) (by omega) (by omega)]
    refine ih (Int.tdiv x 2, i + 1) ⟨by show 0 ≤ i + 1; omega, by show i + 1 ≤ act; omega, hd.1, hd.2, ?_⟩ (by show (act - (i + 1)).toNat < (act - i).toNat; omega)
    rw [← a4]
    show actN (Int.tdiv x 2) (act - (i + 1)).toNat = _
    rw [show (act - i).toNat = (act - (i + 1)).toNat + 1 by omega]
    rfl
  · rw [← a4, show (act - i).toNat = 0 by omega]
    rfl
def Scoped (w : List S79) (t s : Int) : Prop := s = -1 ∨ IsInB w t s
theorem impl_scoped_ (w : List S79) (t s : Int) (hs : ShortW w) : T (fun k => impl_scoped.f k w t s) (fun r => r = true ↔ Scoped w t s) := by
  unfold impl_scoped.f
  refine T.ite (fun h => T.now ⟨fun _ => Or.inl h, fun _ => rfl⟩) (fun h => ?_)
  refine T.bind (impl_IsIn_ w t s hs) ?_
  intro r hr
  exact T.now ⟨fun e => Or.inr (hr.1 e), fun e => hr.2 (e.resolve_left h)⟩
theorem spec_l12Scope_ (w : List S79) (t s : Int) (hs : ShortW w) (hw : WorldOk w) (h0 : 0 ≤ t) (h1 : t ≤ (w.length : Int) - 1) : T (fun k => spec_l12Scope.f k w t s) (fun r => r = true ↔ Scoped w t s) := by
  unfold spec_l12Scope.f
  have hl := hs.1
  refine T.ite (fun h => T.now ⟨fun _ => Or.inl h, fun _ => rfl⟩) (fun h => ?_)
  rw [w64 (by omega) (by omega), spec_l1In_]
  refine T.got ?_
  refine T.ite (fun h2 => ?_) (fun h2 => T.now ⟨fun e => (by cases e), fun e => absurd (decide_eq_true (e.resolve_left h).2.2.1) h2⟩)
  refine T.bind (spec_l2Is_ w hw hs s t h0 (by omega)) ?_
  rintro _ rfl
  exact T.now ⟨fun e => Or.inr ⟨hw, ⟨h0, h1⟩, of_decide_eq_true h2, e⟩, fun e => (e.resolve_left h).2.2.2⟩
def ScopeOk (w : List S79) (who act what : Int) (fs : List S103) (n : ByteArray) (pwho pwhat acts : Int) (x : S43) : Prop :=
  RequestOk w who act what fs ∧ policyB n pwho pwhat acts x = true ∧ Scoped w who pwho ∧ Scoped w what pwhat ∧ actN acts act.toNat = true
theorem policyB_acts {n : ByteArray} {who what acts : Int} {x : S43} (h : policyB n who what acts x = true) : 1 ≤ acts ∧ acts ≤ 15 := by
  unfold policyB at h
  simp only [Bool.and_eq_true] at h
  exact of_decide_eq_true h.1.2
theorem impl_InScope_ (w : List S79) (who act what : Int) (fs : List S103) (n : ByteArray) (al : Bool) (pwho pwhat acts : Int) (x : S43) (hs : ShortW w) (hf : ShortF fs) (hn : n.size ≤ 9223372036854775807) (hx : OkE x) (hc : cntE x ≤ 1048577) :
    T (fun k => impl_InScope.f k w who act what fs n al pwho pwhat acts x.f0 x.f1 x.f2 x.f3) (fun r => r = true ↔ ScopeOk w who act what fs n pwho pwhat acts x) := by
  unfold impl_InScope.f
  have no : ¬ ScopeOk w who act what fs n pwho pwhat acts x → T (fun _ => some false) (fun r => r = true ↔ ScopeOk w who act what fs n pwho pwhat acts x) := fun h => T.now ⟨fun e => (by cases e), fun e => absurd e h⟩
  refine T.bind (impl_RequestValid_ w who act what fs hs hf) ?_
  intro a ha
  refine T.ite (fun h1 => ?_) (fun h1 => no (fun e => h1 (ha.2 e.1)))
  refine T.bind (impl_PolicyValid_ n al pwho pwhat acts x hn hx hc) ?_
  rintro _ rfl
  refine T.ite (fun h2 => ?_) (fun h2 => no (fun e => h2 e.2.1))
  refine T.bind (impl_scoped_ w who pwho hs) ?_
  intro b hb
  refine T.ite (fun h3 => ?_) (fun h3 => no (fun e => h3 (hb.2 e.2.2.1)))
  refine T.bind (impl_scoped_ w what pwhat hs) ?_
  intro c hc
  refine T.ite (fun h4 => ?_) (fun h4 => no (fun e => h4 (hc.2 e.2.2.2.1)))
  have hq := ha.1 h1
  have hp := policyB_acts h2
  refine T.ift hq.2.2.2.1.1 (T.now ?_)
  rw [act_bits' (by omega) (by omega) hq.2.2.2.1.1 hq.2.2.2.1.2]
  exact ⟨fun e => ⟨hq, h2, hb.1 h3, hc.1 h4, e⟩, fun e => e.2.2.2.2⟩
theorem spec_InScope_ (w : List S79) (who act what : Int) (fs : List S103) (n : ByteArray) (al : Bool) (pwho pwhat acts : Int) (x : S43) (hs : ShortW w) (hf : ShortF fs) (hn : n.size ≤ 9223372036854775807) (hx : OkE x) (hc : cntE x ≤ 1048577) :
    T (fun k => spec_InScope.f k w who act what fs n al pwho pwhat acts x.f0 x.f1 x.f2 x.f3) (fun r => r = true ↔ ScopeOk w who act what fs n pwho pwhat acts x) := by
  unfold spec_InScope.f
  have no : ¬ ScopeOk w who act what fs n pwho pwhat acts x → T (fun _ => some false) (fun r => r = true ↔ ScopeOk w who act what fs n pwho pwhat acts x) := fun h => T.now ⟨fun e => (by cases e), fun e => absurd e h⟩
  refine T.bind (spec_RequestValid_ w who act what fs hs hf) ?_
  intro a ha
  refine T.ite (fun h1 => ?_) (fun h1 => no (fun e => h1 (ha.2 e.1)))
  have hq := ha.1 h1
  refine T.bind (spec_PolicyValid_ n al pwho pwhat acts x hn hx hc) ?_
  rintro _ rfl
  refine T.ite (fun h2 => ?_) (fun h2 => no (fun e => h2 e.2.1))
  refine T.bind (spec_l12Scope_ w who pwho hs hq.1 hq.2.1.1 hq.2.1.2) ?_
  intro b hb
  refine T.ite (fun h3 => ?_) (fun h3 => no (fun e => h3 (hb.2 e.2.2.1)))
  refine T.bind (spec_l12Scope_ w what pwhat hs hq.1 hq.2.2.1.1 hq.2.2.1.2) ?_
  intro c hc
  refine T.ite (fun h4 => ?_) (fun h4 => no (fun e => h4 (hc.2 e.2.2.2.1)))
  have hp := policyB_acts h2
  refine T.bind (spec_l12Act_ acts act (by omega) (by omega) hq.2.2.2.1.1 hq.2.2.2.1.2) ?_
  rintro _ rfl
  exact T.now ⟨fun e => ⟨hq, h2, hb.1 h3, hc.1 h4, e⟩, fun e => e.2.2.2.2⟩
theorem FnExactInScope : laws_FnExactInScope.Pure := by
  intro l who act what fs n al pwho pwhat acts a0 a1 a2 a3 hl hR hP
  obtain ⟨_, _, _, hf⟩ : (Lit.int .i64 who).wf = true ∧ (Lit.int .i64 act).wf = true ∧ (Lit.int .i64 what).wf = true ∧ (fs.length ≤ maxLen ∧ ∀ y ∈ fs, Fine97 y) := hR
  refine T.rounds ?_
  unfold laws_FnExactInScope.f
  refine T.bind (szThingS_ l 1048576 (by omega) (by omega) hl) ?_
  intro r hr
  refine T.ite (fun _ => T.now rfl) (fun hn => ?_)
  obtain ⟨r0, r1, h1, h2⟩ := hr.resolve_left hn
  refine T.bind (szRequest_ who act what fs r r0 (by omega) hf) ?_
  intro q hq
  refine T.ite (fun _ => T.now rfl) (fun hn => ?_)
  obtain ⟨q0, q1, g1, g2⟩ := hq.resolve_left hn
  refine T.bind (szPolicy_ ⟨n, al, pwho, pwhat, acts, ⟨a0, a1, a2, a3⟩⟩ q q0 (by omega) hP) ?_
  intro p hp
  refine T.ite (fun _ => T.now rfl) (fun hn => ?_)
  obtain ⟨_, _, hfit⟩ := hp.resolve_left hn
  have tp := toPolicy_ ⟨n, al, pwho, pwhat, acts, ⟨a0, a1, a2, a3⟩⟩ hfit
  obtain ⟨hsz, hc, hx⟩ := hfit
  have hsz : n.size ≤ 9223372036854775807 := by have : (n.size : Int) ≤ 1048576 := hsz; omega
  have ea : toExpr ⟨a0, a1, a2, a3⟩ = ⟨a0, a1, a2, (toExpr ⟨a0, a1, a2, a3⟩).f3⟩ := by rw [toExpr_eq]
  dsimp only at hc hx tp
  rw [ea] at hc hx
  generalize (toExpr ⟨a0, a1, a2, a3⟩).f3 = la at tp hc hx
  obtain ⟨hs, hm, hfitW⟩ := fitW h1 h2
  obtain ⟨sf, mf⟩ := fitF (l := fs) (by omega) (fun y hy => by have := g2 y hy; omega)
  have tw := toThingS_ l h1 h2
  have tr := toRequest_ who act what fs (by omega)
  refine T.bind tw ?_
  rintro _ rfl
  refine T.bind tr ?_
  rintro _ rfl
  refine T.bind tp ?_
  rintro _ rfl
  refine T.bind (spec_InScope_ (l.map toThing) who act what (fs.map toField) n al pwho pwhat acts ⟨a0, a1, a2, la⟩ hs sf hsz hx hc) ?_
  intro s hs1
  refine T.bind tw ?_
  rintro _ rfl
  refine T.bind tr ?_
  rintro _ rfl
  refine T.bind tp ?_
  rintro _ rfl
  refine T.bind (impl_InScope_ (l.map toThing) who act what (fs.map toField) n al pwho pwhat acts ⟨a0, a1, a2, la⟩ hs sf hsz hx hc) ?_
  intro t ht
  have hst : t = s := by rw [Bool.eq_iff_iff, ht, hs1]
  refine T.iff_ (by rw [hst]; simp) ?_
  refine T.bind tw ?_
  rintro _ rfl
  refine T.bind (eqThingS_ _ hm hfitW) ?_
  rintro _ rfl
  refine T.ift rfl ?_
  refine T.bind tr ?_
  rintro _ rfl
  refine T.bind (eqRequest_ _ _ _ _ mf) ?_
  rintro _ rfl
  refine T.ift rfl ?_
  refine T.bind tp ?_
  rintro _ rfl
  refine T.bind (eqPolicy_ n al pwho pwhat acts ⟨a0, a1, a2, la⟩ hc) ?_
  rintro _ rfl
  exact T.ift rfl (T.now rfl)

end Go.Proofs.Ytipoeghieeafjaa.Pure
