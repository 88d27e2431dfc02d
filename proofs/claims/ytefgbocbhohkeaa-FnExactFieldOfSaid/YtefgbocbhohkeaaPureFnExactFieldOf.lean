/- The program's FieldOf answers as the reference's, for all fields and names, and leaves the fields alone.
   Conditions: none beyond the statement's own. -/
import Derived.Test.YtefgbocbhohkeaaPx9
set_option linter.unusedVariables false
set_option linter.unusedSimpArgs false
namespace Go.Proofs.Ytefgbocbhohkeaa.Pure
open Go.RowKit Go.Proofs.Ytefgbocbhohkeaa.P Go.Proofs.YtefgbocbhohkeaaW.PrintWords Go.Proofs.YtefgbocbhohkeaaW.PrintLast

/-! #### rounds: 'T g Q': from some number of rounds on g answers, and the answer is as Q says -/
def T {α : Type} (g : Nat → Option α) (Q : α → Prop) : Prop := ∃ r, Ev g r ∧ Q r
theorem T.ev {α : Type} {g : Nat → Option α} {r : α} (h : Ev g r) : T g (fun x => x = r) := ⟨r, h, rfl⟩
theorem T.of_eq {α : Type} {g : Nat → Option α} {r : α} (h : T g (fun x => x = r)) : Ev g r := by
  obtain ⟨_, h, rfl⟩ := h
  exact h
theorem T.now {α : Type} {r : α} {Q : α → Prop} (h : Q r) : T (fun _ => some r) Q := ⟨r, Ev.now r, h⟩
theorem T.mono {α : Type} {g : Nat → Option α} {P Q : α → Prop} (h : T g P) (k : ∀ a, P a → Q a) : T g Q := by
  obtain ⟨r, h, p⟩ := h
  exact ⟨r, h, k r p⟩
theorem T.bind {α β : Type} {g : Nat → Option α} {f : Nat → α → Option β} {P : α → Prop} {Q : β → Prop} (h : T g P) (k : ∀ a, P a → T (fun n => f n a) Q) : T (fun n => (g n).bind (f n)) Q := by
  obtain ⟨a, h, p⟩ := h
  obtain ⟨r, k, q⟩ := k a p
  exact ⟨r, Ev.bind h k, q⟩
theorem T.ite {α : Type} {c : Prop} [Decidable c] {g f : Nat → Option α} {Q : α → Prop} (h : c → T g Q) (k : ¬ c → T f Q) : T (fun n => if c then g n else f n) Q := by
  by_cases hc : c
  · simpa only [if_pos hc] using h hc
  · simpa only [if_neg hc] using k hc
theorem T.ift {α : Type} {c : Prop} [Decidable c] {g f : Nat → Option α} {Q : α → Prop} (hc : c) (h : T g Q) : T (fun n => if c then g n else f n) Q := T.ite (fun _ => h) (fun n => absurd hc n)
theorem T.iff_ {α : Type} {c : Prop} [Decidable c] {g f : Nat → Option α} {Q : α → Prop} (hc : ¬ c) (h : T f Q) : T (fun n => if c then g n else f n) Q := T.ite (fun n => absurd n hc) (fun _ => h)
theorem T.step {α : Type} {g f : Nat → Option α} {Q : α → Prop} (h : ∀ k, g (k + 1) = f k) (k : T f Q) : T g Q := by
  obtain ⟨r, k, q⟩ := k
  exact ⟨r, Ev.step h k, q⟩
theorem T.rounds {g : Nat → Option Bool} (h : T g (fun x => x = true)) : ∃ k, g k = some true := (T.of_eq h).rounds
theorem T.congr {α : Type} {g f : Nat → Option α} {Q : α → Prop} (h : ∀ k, g k = f k) (k : T f Q) : T g Q := by
  obtain ⟨r, k, q⟩ := k
  exact ⟨r, Ev.congr h k, q⟩
theorem T.run {α : Type} {g : Nat → Option α} {Q : α → Prop} (h : T g Q) : ∃ r K, (∀ k, K ≤ k → g k = some r) ∧ Q r := by
  obtain ⟨r, ⟨K, h⟩, q⟩ := h
  exact ⟨r, K, h, q⟩
/-- A loop over what is left. -/
theorem T.loop {σ α : Type} (g : σ → Nat → Option α) (m : σ → Nat) (I : σ → Prop) (Q : α → Prop) (h : ∀ s, I s → (∀ s', I s' → m s' < m s → T (g s') Q) → T (g s) Q) : ∀ s, I s → T (g s) Q := by
  intro s
  induction hm : m s using Nat.strongRecOn generalizing s with
  | _ n ih =>
    intro hI
    exact h s hI (fun s' hI' hlt => ih (m s') (hm ▸ hlt) s' rfl hI')
theorem w64 {x : Int} (h : -9223372036854775808 ≤ x) (h' : x ≤ 9223372036854775807) : wrap64 x = x := by unfold wrap64; omega
/-! #### texts and lists -/
theorem tl_inj {a b : ByteArray} : a.toList = b.toList ↔ a = b := by
  rw [ByteArray.toList_eq, ByteArray.toList_eq]
  constructor
  · intro h
    cases a; cases b
    exact congrArg ByteArray.mk (Array.toList_inj.1 h)
  · rintro rfl
    rfl
theorem drop_at {α : Type} (l : List α) (z : α) (i : Int) (h0 : 0 ≤ i) (h1 : i < l.length) : l.drop i.toNat = l.getD i.toNat z :: l.drop (i + 1).toNat := by
  have h : i.toNat < l.length := by omega
  rw [List.drop_eq_getElem_cons h, List.getD_eq_getElem?_getD, List.getElem?_eq_getElem h]
  simp only [Option.getD_some]
  rw [show (i + 1).toNat = i.toNat + 1 by omega]
theorem drop_all {α : Type} (l : List α) (i : Int) (h : ¬ i < l.length) : l.drop i.toNat = [] := List.drop_of_length_le (by omega)
theorem get_mem {α : Type} (l : List α) (z : α) (i : Int) (h0 : 0 ≤ i) (h1 : i < l.length) : l.getD i.toNat z ∈ l := by
  have h : i.toNat < l.length := by omega
  rw [List.getD_eq_getElem?_getD, List.getElem?_eq_getElem h]
  exact List.getElem_mem h
/-- A loop that counts up to n. -/
theorem T.count {α : Type} (n : Nat) (g : Int → Nat → Option α) (Q : α → Prop) (fin : T (g n) Q) (step : ∀ i : Int, 0 ≤ i → i < n → T (g (i + 1)) Q → T (g i) Q) : ∀ i : Int, 0 ≤ i → i ≤ n → T (g i) Q := by
  refine fun i h0 h1 => T.loop g (fun i => (n - i).toNat) (fun i => 0 ≤ i ∧ i ≤ n) Q ?_ i ⟨h0, h1⟩
  rintro i ⟨h0, h1⟩ ih
  by_cases hi : i = n
  · rw [hi]; exact fin
  · exact step i h0 (by omega) (ih (i + 1) ⟨by omega, by omega⟩ (by omega))
/-- A loop that turns each element of a list into one of a list of the same length. -/
theorem T.turn {α β γ : Type} (za : α) (l : List α) (c : α → β) (g : List β → Int → Nat → Option γ) (Q : γ → Prop) (fin : T (g (l.map c) l.length) Q)
    (step : ∀ (out : List β) (i : Int), 0 ≤ i → i < l.length → out.length = l.length → T (g (out.set i.toNat (c (l.getD i.toNat za))) (i + 1)) Q → T (g out i) Q) (out : List β) (hl : out.length = l.length) : T (g out 0) Q := by
  refine T.loop (fun (s : List β × Int) => g s.1 s.2) (fun s => (l.length - s.2).toNat) (fun s => 0 ≤ s.2 ∧ s.2 ≤ l.length ∧ s.1.length = l.length ∧ ∀ j : Nat, (j : Int) < s.2 → s.1[j]? = (l[j]?).map c) Q ?_ (out, 0) ⟨by simp, by simp, hl, fun j hj => absurd hj (by simp)⟩
  rintro ⟨o, i⟩ ⟨h0, h1, h2, h3⟩ ih
  dsimp only at h0 h1 h2 h3 ih ⊢
  by_cases hi : i = l.length
  · have : o = l.map c := List.ext_getElem? (fun j => by
      by_cases hj : (j : Int) < i
      · rw [h3 j hj, List.getElem?_map]
      · rw [List.getElem?_eq_none (by omega), List.getElem?_eq_none (by rw [List.length_map]; omega)])
    rw [this, hi]; exact fin
  · refine step o i h0 (by omega) h2 (ih (_, i + 1) ⟨by show 0 ≤ i + 1; omega, by show i + 1 ≤ _; omega, by rw [List.length_set]; exact h2, fun j hj => ?_⟩ (by show ((l.length : Int) - (i + 1)).toNat < (l.length - i).toNat; omega))
    dsimp only at hj ⊢
    rw [List.getElem?_set]
    by_cases hji : i.toNat = j
    · rw [if_pos hji, if_pos (by omega)]
      subst hji
      rw [List.getD_eq_getElem?_getD, List.getElem?_eq_getElem (by omega : i.toNat < l.length)]
      rfl
    · rw [if_neg hji]
      exact h3 j (by omega)
/-! #### fields, mirrored -/
def toField (x : S71) : S41 := ⟨x.f0, ⟨x.f1.f0, x.f1.f1⟩⟩
theorem szField_ (x : S71) (n : Int) (h0 : 0 ≤ n) (h1 : n ≤ 1048576) (hx : Fine71 x) : ∃ r, laws_szField.f x.f0 x.f1.f0 x.f1.f1 n = some r ∧ (r < 0 ∨ 0 ≤ r ∧ r ≤ n ∧ x.f0.size ≤ n) := by
  unfold laws_szField.f
  have hs := hx.1
  unfold maxLen at hs
  rw [w64 (by omega) (by omega)]
  by_cases h : n - (x.f0.size : Int) < 0
  · exact ⟨-1, by rw [if_pos h], .inl (by decide)⟩
  · exact ⟨_, by rw [if_neg h], .inr ⟨by omega, by omega, by omega⟩⟩
theorem szFieldS_ (l : List S71) (n : Int) (h0 : 0 ≤ n) (h1 : n ≤ 1048576) (hl : l.length ≤ maxLen ∧ ∀ y ∈ l, Fine71 y) : T (fun k => laws_szFieldS.f k l n) (fun r => r < 0 ∨ 0 ≤ r ∧ r ≤ n ∧ l.length ≤ n ∧ ∀ y ∈ l, (y.f0.size : Int) ≤ n) := by
  unfold laws_szFieldS.f
  obtain ⟨hl, hf⟩ := hl
  unfold maxLen at hl
  rw [w64 (by omega) (by omega)]
  refine T.ite (fun _ => T.now (.inl (by decide))) (fun h => ?_)
  refine T.loop (fun (s : Int × Int) k => laws_szFieldS.l0 k l s.1 s.2) (fun s => ((l.length : Int) - s.2).toNat) (fun s => 0 ≤ s.2 ∧ s.2 ≤ l.length ∧ 0 ≤ s.1 ∧ s.1 ≤ n - l.length ∧ ∀ j : Nat, (j : Int) < s.2 → ∀ y, l[j]? = some y → (y.f0.size : Int) ≤ n) _ ?_ (n - l.length, 0) ⟨by simp, by simp, by show 0 ≤ n - (l.length : Int); omega, by show n - (l.length : Int) ≤ _; omega, fun j hj => absurd hj (by simp)⟩
  rintro ⟨m, i⟩ ⟨a0, a1, a2, a3, a4⟩ ih
  dsimp only at a0 a1 a2 a3 a4 ih ⊢
  refine T.step (fun k => laws_szFieldS.l0.eq_2 ..) ?_
  refine T.ite (fun hi => T.ift a0 ?_) (fun hi => T.now (.inr ⟨a2, by omega, by omega, fun y hy => ?_⟩))
  · obtain ⟨r, e, hr⟩ := szField_ (l.getD i.toNat z71) m a2 (by omega) (hf _ (get_mem l _ i a0 hi))
    rw [show laws_szField.f (rd_T71 l i).f0 (rd_T71 l i).f1.f0 (rd_T71 l i).f1.f1 m = some r from e]
    refine T.bind (T.now (Q := fun x => x = _) rfl) ?_
    rintro r rfl
    refine T.ite (fun _ => T.now (.inl (by decide))) (fun hn => ?_)
    rw [w64 (by omega) (by omega)]
    rcases hr with hr | ⟨r0, r1, r2⟩
    · exact absurd hr hn
    · refine ih (r, i + 1) ⟨by show 0 ≤ i + 1; omega, by show i + 1 ≤ _; omega, r0, by show r ≤ _; omega, fun j hj y hy => ?_⟩ (by show ((l.length : Int) - (i + 1)).toNat < _; omega)
      dsimp only at hj
      by_cases hji : (j : Int) < i
      · exact a4 j hji y hy
      · have : j = i.toNat := by omega
        subst this
        rw [List.getD_eq_getElem?_getD, hy, Option.getD_some] at r2
        omega
  · obtain ⟨j, hj, rfl⟩ := List.mem_iff_getElem.1 hy
    exact a4 j (by omega) _ (List.getElem?_eq_getElem hj)
theorem toFieldS_ (l : List S71) (hl : l.length ≤ 1048576) : T (fun k => laws_toFieldS.f k l) (fun r => r = l.map toField) := by
  unfold laws_toFieldS.f
  refine T.ift (by omega) (T.ift (by omega) ?_)
  refine T.turn z71 l toField (fun o i k => laws_toFieldS.l0 k l o i) _ ?_ ?_ _ (by simp)
  · refine T.step (fun k => laws_toFieldS.l0.eq_2 ..) (T.iff_ (by omega) (T.now rfl))
  · intro o i h0 h1 h2 h
    refine T.step (fun k => laws_toFieldS.l0.eq_2 ..) (T.ift h1 (T.ift h0 ?_))
    refine T.bind (T.now (Q := fun x => x = _) rfl) ?_
    rintro _ rfl
    rw [w64 (by omega) (by omega)]
    exact T.ift (by omega) h
theorem eqValue_ (a b : Int) : laws_eqValue.f a b a b = some true := by unfold laws_eqValue.f; rw [if_pos rfl, if_pos rfl]
theorem eqFieldS_ (l : List S41) (hl : l.length ≤ 1048576) : T (fun k => laws_eqFieldS.f k l l) (fun r => r = true) := by
  unfold laws_eqFieldS.f
  refine T.ift rfl ?_
  refine T.count l.length (fun i k => laws_eqFieldS.l0 k l l i) (fun r => r = true) (T.step (fun k => laws_eqFieldS.l0.eq_2 ..) (T.iff_ (by omega) (T.now rfl))) (fun i h0 h1 h => ?_) 0 (by omega) (by omega)
  refine T.step (fun k => laws_eqFieldS.l0.eq_2 ..) (T.ift h1 (T.ift h0 (T.ift h1 ?_)))
  have e : ∀ x : S41, laws_eqField.f x.f0 x.f1.f0 x.f1.f1 x.f0 x.f1.f0 x.f1.f1 = some true := fun x => by
    unfold laws_eqField.f
    rw [if_pos rfl, eqValue_]
    rfl
  rw [e]
  refine T.bind (T.now (Q := fun x => x = _) rfl) ?_
  rintro _ rfl
  rw [w64 (by omega) (by omega)]
  exact T.ift rfl h
/-! #### fields -/
def fieldM (n : ByteArray) : List S41 → Int × Int × Bool
  | [] => (0, 0, false)
  | x :: l => if x.f0.toList = n.toList then (x.f1.f0, x.f1.f1, true) else fieldM n l
theorem impl_FieldOf_ (l : List S41) (n : ByteArray) (hl : l.length ≤ 9223372036854775807) : T (fun k => impl_FieldOf.f k l n) (fun r => r = fieldM n l) := by
  unfold impl_FieldOf.f
  refine T.loop (fun (i : Int) k => impl_FieldOf.l0 k n l (l.length : Int) i) (fun i => ((l.length : Int) - i).toNat) (fun i => 0 ≤ i ∧ i ≤ l.length ∧ fieldM n (l.drop i.toNat) = fieldM n l) _ ?_ 0 ⟨by omega, by omega, rfl⟩
  rintro i ⟨h0, h1, h2⟩ ih
  refine T.step (fun k => impl_FieldOf.l0.eq_2 ..) ?_
  refine T.ite (fun hi => T.ift h0 (T.ift hi ?_)) (fun hi => T.now ?_)
  · rw [drop_at l z41 i h0 hi, fieldM] at h2
    refine T.ite (fun hc => T.now ?_) (fun hc => ?_)
    · rw [← h2]; exact (if_pos hc).symm
    · rw [w64 (by omega) (by omega)]
      exact ih (i + 1) ⟨by omega, by omega, by rw [← h2]; exact (if_neg hc).symm⟩ (by omega)
  · rw [← h2, drop_all l i hi]; rfl
theorem spec_FieldOf_ (l : List S41) (n : ByteArray) (hl : l.length ≤ 9223372036854775807) : T (fun k => spec_FieldOf.f k l n) (fun r => r = fieldM n l) := by
  unfold spec_FieldOf.f
  refine T.loop (fun (i : Int) k => spec_FieldOf.l0 k l n i) (fun i => ((l.length : Int) - i).toNat) (fun i => 0 ≤ i ∧ i ≤ l.length ∧ fieldM n (l.drop i.toNat) = fieldM n l) _ ?_ 0 ⟨by omega, by omega, rfl⟩
  rintro i ⟨h0, h1, h2⟩ ih
  refine T.step (fun k => spec_FieldOf.l0.eq_2 ..) ?_
  refine T.ite (fun hi => T.ift h0 ?_) (fun hi => T.now ?_)
  · rw [drop_at l z41 i h0 hi, fieldM] at h2
    refine T.ite (fun hc => T.now ?_) (fun hc => ?_)
    · rw [← h2]; exact (if_pos hc).symm
    · rw [w64 (by omega) (by omega)]
      exact ih (i + 1) ⟨by omega, by omega, by rw [← h2]; exact (if_neg hc).symm⟩ (by omega)
  · rw [← h2, drop_all l i hi]; rfl
theorem FnExactFieldOf : laws_FnExactFieldOf.Pure := by
  intro l n hl hn
  refine T.rounds ?_
  unfold laws_FnExactFieldOf.f
  refine T.ite (fun _ => T.now rfl) (fun _ => ?_)
  refine T.bind (szFieldS_ l 1048576 (by omega) (by omega) hl) ?_
  intro r hr
  refine T.ite (fun _ => T.now rfl) (fun hn => ?_)
  have hl2 : l.length ≤ 1048576 := by
    rcases hr with hr | ⟨_, _, hr, _⟩
    · exact absurd hr hn
    · omega
  have hm : (l.map toField).length ≤ 1048576 := by rw [List.length_map]; exact hl2
  refine T.bind (toFieldS_ l hl2) ?_
  rintro _ rfl
  refine T.bind (spec_FieldOf_ _ n (by omega)) ?_
  rintro _ rfl
  refine T.bind (toFieldS_ l hl2) ?_
  rintro _ rfl
  refine T.bind (impl_FieldOf_ _ n (by omega)) ?_
  rintro _ rfl
  rw [eqValue_]
  refine T.bind (T.now (Q := fun x => x = _) rfl) ?_
  rintro _ rfl
  refine T.ift rfl (T.step (fun k => laws_FnExactFieldOf.j0.eq_2 ..) (T.iff_ (by simp) ?_))
  refine T.bind (toFieldS_ l hl2) ?_
  rintro _ rfl
  refine T.bind (eqFieldS_ _ hm) ?_
  rintro _ rfl
  exact T.now rfl

end Go.Proofs.Ytefgbocbhohkeaa.Pure
