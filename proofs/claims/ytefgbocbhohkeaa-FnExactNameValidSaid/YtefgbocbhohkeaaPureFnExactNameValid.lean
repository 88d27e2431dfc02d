/- The program's NameValid answers as the reference's, for all texts. Conditions: none beyond the statement's own. -/
import Derived.Test.YtefgbocbhohkeaaPFnExactNameValidx1
namespace Go.Proofs.Ytefgbocbhohkeaa.Pure
open Go.RowKit Go.Proofs.Ytefgbocbhohkeaa.PFnExactNameValid Go.Proofs.YtefgbocbhohkeaaW.PrintWords Go.Proofs.YtefgbocbhohkeaaW.PrintLast

/-! #### rounds: 'T g Q': from some number of rounds on g answers, and the answer is as Q says -/
def T {α : Type} (g : Nat → Option α) (Q : α → Prop) : Prop := ∃ r, Ev g r ∧ Q r
theorem T.ev {α : Type} {g : Nat → Option α} {r : α} (h : Ev g r) : T g (fun x => x = r) := ⟨r, h, rfl⟩
theorem T.of_eq {α : Type} {g : Nat → Option α} {r : α} (h : T g (fun x => x = r)) : Ev g r := by
  obtain ⟨_, h, rfl⟩ := h
  exact h
theorem T.now {α : Type} {r : α} {Q : α → Prop} (h : Q r) : T (fun _ => some r) Q := ⟨r, Ev.now r, h⟩
theorem T.mono {α : Type} {g : Nat → Option α} {P Q : α → Prop} (h : T g P) (k : ∀ a, P a → Q a) : T g Q := by
  obtain ⟨r, h, p⟩ := h
  exact ⟨r, h, k r p⟩
theorem T.bind {α β : Type} {g : Nat → Option α} {f : Nat → α → Option β} {P : α → Prop} {Q : β → Prop} (h : T g P) (k : ∀ a, P a → T (fun n => f n a) Q) : T (fun n => (g n).bind (f n)) Q := by
  obtain ⟨a, h, p⟩ := h
  obtain ⟨r, k, q⟩ := k a p
  exact ⟨r, Ev.bind h k, q⟩
theorem T.ite {α : Type} {c : Prop} [Decidable c] {g f : Nat → Option α} {Q : α → Prop} (h : c → T g Q) (k : ¬ c → T f Q) : T (fun n => if c then g n else f n) Q := by
  by_cases hc : c
  · simpa only [if_pos hc] using h hc
  · simpa only [if_neg hc] using k hc
theorem T.ift {α : Type} {c : Prop} [Decidable c] {g f : Nat → Option α} {Q : α → Prop} (hc : c) (h : T g Q) : T (fun n => if c then g n else f n) Q := T.ite (fun _ => h) (fun n => absurd hc n)
theorem T.iff_ {α : Type} {c : Prop} [Decidable c] {g f : Nat → Option α} {Q : α → Prop} (hc : ¬ c) (h : T f Q) : T (fun n => if c then g n else f n) Q := T.ite (fun n => absurd n hc) (fun _ => h)
theorem T.step {α : Type} {g f : Nat → Option α} {Q : α → Prop} (h : ∀ k, g (k + 1) = f k) (k : T f Q) : T g Q := by
  obtain ⟨r, k, q⟩ := k
  exact ⟨r, Ev.step h k, q⟩
theorem T.rounds {g : Nat → Option Bool} (h : T g (fun x => x = true)) : ∃ k, g k = some true := (T.of_eq h).rounds
theorem T.congr {α : Type} {g f : Nat → Option α} {Q : α → Prop} (h : ∀ k, g k = f k) (k : T f Q) : T g Q := by
  obtain ⟨r, k, q⟩ := k
  exact ⟨r, Ev.congr h k, q⟩
theorem T.run {α : Type} {g : Nat → Option α} {Q : α → Prop} (h : T g Q) : ∃ r K, (∀ k, K ≤ k → g k = some r) ∧ Q r := by
  obtain ⟨r, ⟨K, h⟩, q⟩ := h
  exact ⟨r, K, h, q⟩
/-- A loop over what is left. -/
theorem T.loop {σ α : Type} (g : σ → Nat → Option α) (m : σ → Nat) (I : σ → Prop) (Q : α → Prop) (h : ∀ s, I s → (∀ s', I s' → m s' < m s → T (g s') Q) → T (g s) Q) : ∀ s, I s → T (g s) Q := by
  intro s
  induction hm : m s using Nat.strongRecOn generalizing s with
  | _ n ih =>
    intro hI
    exact h s hI (fun s' hI' hlt => ih (m s') (hm ▸ hlt) s' rfl hI')
theorem w64 {x : Int} (h : -9223372036854775808 ≤ x) (h' : x ≤ 9223372036854775807) : wrap64 x = x := by unfold wrap64; omega
/-! #### names -/
def lowB (s : ByteArray) : Bool := decide (∀ i : Nat, i < s.size → 97 ≤ bt s i ∧ bt s i ≤ 122)
def nameB (s : ByteArray) : Bool := lowB s && decide (1 ≤ s.size ∧ s.size ≤ 8)
theorem nameB_iff (s : ByteArray) : nameB s = true ↔ (∀ i : Nat, i < s.size → 97 ≤ bt s i ∧ bt s i ≤ 122) ∧ 1 ≤ s.size ∧ s.size ≤ 8 := by simp [nameB, lowB]
theorem nameB_low {s : ByteArray} (h : ¬ ∀ i : Nat, i < s.size → 97 ≤ bt s i ∧ bt s i ≤ 122) : nameB s = false := by
  have : ¬ (nameB s = true) := fun hn => h ((nameB_iff s).1 hn).1
  simpa using this
theorem impl_in_ (n a b : Int) : impl_in.f n a b = some (decide (a ≤ n ∧ n ≤ b)) := by
  unfold impl_in.f
  by_cases h : a ≤ n
  · rw [if_pos h]; simp [h]
  · rw [if_neg h]; simp [h]
theorem spec_l1In_ (n a b : Int) : spec_l1In.f n a b = some (decide (a ≤ n ∧ n ≤ b)) := by
  unfold spec_l1In.f
  by_cases h : n ≥ a
  · rw [if_pos h]; simp [show a ≤ n from h]
  · rw [if_neg h]; simp [show ¬ a ≤ n from h]
theorem impl_NameValid_ (s : ByteArray) (hs : s.size ≤ 9223372036854775807) : T (fun k => impl_NameValid.f k s) (fun r => r = nameB s) := by
  unfold impl_NameValid.f
  refine T.loop (fun (i : Int) k => impl_NameValid.l0 k s (s.size : Int) i) (fun i => ((s.size : Int) - i).toNat) (fun i => 0 ≤ i ∧ i ≤ s.size ∧ ∀ j : Nat, (j : Int) < i → 97 ≤ bt s j ∧ bt s j ≤ 122) _ ?_ 0 ⟨by omega, by omega, fun j hj => by omega⟩
  rintro i ⟨h0, h1, hl⟩ ih
  refine T.step (fun k => impl_NameValid.l0.eq_2 ..) ?_
  refine T.ite (fun hi => ?_) (fun hi => ?_)
  · refine T.ift h0 (T.ift hi ?_)
    have e : ((i.toNat : Nat) : Int) = i := by omega
    have hb : bt s (i.toNat : Nat) = bt s i := by rw [e]
    refine T.ite (fun hc => T.now ?_) (fun hc => T.ite (fun hd => T.now ?_) (fun hd => ?_))
    · exact (nameB_low (fun h => by have := h i.toNat (by omega); rw [hb] at this; omega)).symm
    · exact (nameB_low (fun h => by have := h i.toNat (by omega); rw [hb] at this; omega)).symm
    · rw [w64 (by omega) (by omega)]
      refine ih (i + 1) ⟨by omega, by omega, fun j hj => ?_⟩ (by omega)
      by_cases hji : (j : Int) < i
      · exact hl j hji
      · have : (j : Int) = i := by omega
        rw [this]; omega
  · rw [impl_in_]
    refine T.now ?_
    have hi : i = s.size := by omega
    subst hi
    have : lowB s = true := decide_eq_true (fun j hj => hl j (by omega))
    rw [nameB, this, Bool.true_and]
    exact decide_eq_decide.mpr (by omega)
theorem spec_NameValid_ (s : ByteArray) (hs : s.size ≤ 9223372036854775807) : T (fun k => spec_NameValid.f k s) (fun r => r = nameB s) := by
  unfold spec_NameValid.f
  refine T.loop (fun (i : Int) k => spec_NameValid.l0 k s i) (fun i => ((s.size : Int) - i).toNat) (fun i => 0 ≤ i ∧ i ≤ s.size ∧ ∀ j : Nat, (j : Int) < i → 97 ≤ bt s j ∧ bt s j ≤ 122) _ ?_ 0 ⟨by omega, by omega, fun j hj => by omega⟩
  rintro i ⟨h0, h1, hl⟩ ih
  refine T.step (fun k => spec_NameValid.l0.eq_2 ..) ?_
  refine T.ite (fun hi => ?_) (fun hi => ?_)
  · refine T.ift h0 ?_
    have e : ((i.toNat : Nat) : Int) = i := by omega
    have hb : bt s (i.toNat : Nat) = bt s i := by rw [e]
    refine T.ite (fun hc => T.now ?_) (fun hc => T.ite (fun hd => T.now ?_) (fun hd => ?_))
    · exact (nameB_low (fun h => by have := h i.toNat (by omega); rw [hb] at this; omega)).symm
    · exact (nameB_low (fun h => by have := h i.toNat (by omega); rw [hb] at this; omega)).symm
    · rw [w64 (by omega) (by omega)]
      refine ih (i + 1) ⟨by omega, by omega, fun j hj => ?_⟩ (by omega)
      by_cases hji : (j : Int) < i
      · exact hl j hji
      · have : (j : Int) = i := by omega
        rw [this]; omega
  · rw [spec_l1In_]
    refine T.now ?_
    have hi : i = s.size := by omega
    subst hi
    have : lowB s = true := decide_eq_true (fun j hj => hl j (by omega))
    rw [nameB, this, Bool.true_and]
    exact decide_eq_decide.mpr (by omega)
theorem FnExactNameValid : laws_FnExactNameValid.Pure := by
  intro s hs
  refine T.rounds ?_
  unfold laws_FnExactNameValid.f
  refine T.ite (fun _ => T.now rfl) (fun _ => ?_)
  refine T.bind (spec_NameValid_ s (by omega)) ?_
  rintro _ rfl
  refine T.bind (impl_NameValid_ s (by omega)) ?_
  rintro _ rfl
  exact T.iff_ (by simp) (T.now rfl)

end Go.Proofs.Ytefgbocbhohkeaa.Pure
