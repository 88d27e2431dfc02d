/- With a space behind it a text is no name, the first letter of a name is one, and the program's NameValid answers as the reference's, at every drawn text.
   Conditions: none beyond the statement's own. -/
import Derived.Test.YtefgbocbhohkeaaPx3
set_option linter.unusedVariables false
set_option linter.unusedSimpArgs false
namespace Go.Proofs.Ytefgbocbhohkeaa.Pure
open Go.RowKit Go.Proofs.Ytefgbocbhohkeaa.P Go.Proofs.YtefgbocbhohkeaaW.PrintWords Go.Proofs.YtefgbocbhohkeaaW.PrintLast

/-! #### rounds: 'T g Q': from some number of rounds on g answers, and the answer is as Q says -/
def T {α : Type} (g : Nat → Option α) (Q : α → Prop) : Prop := ∃ r, Ev g r ∧ Q r
theorem T.ev {α : Type} {g : Nat → Option α} {r : α} (h : Ev g r) : T g (fun x => x = r) := ⟨r, h, rfl⟩
theorem T.of_eq {α : Type} {g : Nat → Option α} {r : α} (h : T g (fun x => x = r)) : Ev g r := by
  obtain ⟨_, h, rfl⟩ := h
  exact h
theorem T.now {α : Type} {r : α} {Q : α → Prop} (h : Q r) : T (fun _ => some r) Q := ⟨r, Ev.now r, h⟩
theorem T.mono {α : Type} {g : Nat → Option α} {P Q : α → Prop} (h : T g P) (k : ∀ a, P a → Q a) : T g Q := by
  obtain ⟨r, h, p⟩ := h
  exact ⟨r, h, k r p⟩
theorem T.bind {α β : Type} {g : Nat → Option α} {f : Nat → α → Option β} {P : α → Prop} {Q : β → Prop} (h : T g P) (k : ∀ a, P a → T (fun n => f n a) Q) : T (fun n => (g n).bind (f n)) Q := by
  obtain ⟨a, h, p⟩ := h
  obtain ⟨r, k, q⟩ := k a p
  exact ⟨r, Ev.bind h k, q⟩
theorem T.ite {α : Type} {c : Prop} [Decidable c] {g f : Nat → Option α} {Q : α → Prop} (h : c → T g Q) (k : ¬ c → T f Q) : T (fun n => if c then g n else f n) Q := by
  by_cases hc : c
  · simpa only [if_pos hc] using h hc
  · simpa only [if_neg hc] using k hc
theorem T.ift {α : Type} {c : Prop} [Decidable c] {g f : Nat → Option α} {Q : α → Prop} (hc : c) (h : T g Q) : T (fun n => if c then g n else f n) Q := T.ite (fun _ => h) (fun n => absurd hc n)
theorem T.iff_ {α : Type} {c : Prop} [Decidable c] {g f : Nat → Option α} {Q : α → Prop} (hc : ¬ c) (h : T f Q) : T (fun n => if c then g n else f n) Q := T.ite (fun n => absurd n hc) (fun _ => h)
theorem T.step {α : Type} {g f : Nat → Option α} {Q : α → Prop} (h : ∀ k, g (k + 1) = f k) (k : T f Q) : T g Q := by
  obtain ⟨r, k, q⟩ := k
  exact ⟨r, Ev.step h k, q⟩
theorem T.rounds {g : Nat → Option Bool} (h : T g (fun x => x = true)) : ∃ k, g k = some true := (T.of_eq h).rounds
theorem T.congr {α : Type} {g f : Nat → Option α} {Q : α → Prop} (h : ∀ k, g k = f k) (k : T f Q) : T g Q := by
  obtain ⟨r, k, q⟩ := k
  exact ⟨r, Ev.congr h k, q⟩
theorem T.run {α : Type} {g : Nat → Option α} {Q : α → Prop} (h : T g Q) : ∃ r K, (∀ k, K ≤ k → g k = some r) ∧ Q r := by
  obtain ⟨r, ⟨K, h⟩, q⟩ := h
  exact ⟨r, K, h, q⟩
/-- A loop over what is left. -/
theorem T.loop {σ α : Type} (g : σ → Nat → Option α) (m : σ → Nat) (I : σ → Prop) (Q : α → Prop) (h : ∀ s, I s → (∀ s', I s' → m s' < m s → T (g s') Q) → T (g s) Q) : ∀ s, I s → T (g s) Q := by
  intro s
  induction hm : m s using Nat.strongRecOn generalizing s with
  | _ n ih =>
    intro hI
    exact h s hI (fun s' hI' hlt => ih (m s') (hm ▸ hlt) s' rfl hI')
theorem w64 {x : Int} (h : -9223372036854775808 ≤ x) (h' : x ≤ 9223372036854775807) : wrap64 x = x := by unfold wrap64; omega
/-! #### names -/
def lowB (s : ByteArray) : Bool := decide (∀ i : Nat, i < s.size → 97 ≤ bt s i ∧ bt s i ≤ 122)
def nameB (s : ByteArray) : Bool := lowB s && decide (1 ≤ s.size ∧ s.size ≤ 8)
theorem nameB_iff (s : ByteArray) : nameB s = true ↔ (∀ i : Nat, i < s.size → 97 ≤ bt s i ∧ bt s i ≤ 122) ∧ 1 ≤ s.size ∧ s.size ≤ 8 := by simp [nameB, lowB]
theorem nameB_low {s : ByteArray} (h : ¬ ∀ i : Nat, i < s.size → 97 ≤ bt s i ∧ bt s i ≤ 122) : nameB s = false := by
  have : ¬ (nameB s = true) := fun hn => h ((nameB_iff s).1 hn).1
  simpa using this
theorem impl_in_ (n a b : Int) : impl_in.f n a b = some (decide (a ≤ n ∧ n ≤ b)) := by
  unfold impl_in.f
  by_cases h : a ≤ n
  · rw [if_pos h]; simp [h]
  · rw [if_neg h]; simp [h]
theorem impl_NameValid_ (s : ByteArray) (hs : s.size ≤ 9223372036854775807) : T (fun k => impl_NameValid.f k s) (fun r => r = nameB s) := by
  unfold impl_NameValid.f
  refine T.loop (fun (i : Int) k => impl_NameValid.l0 k s (s.size : Int) i) (fun i => ((s.size : Int) - i).toNat) (fun i => 0 ≤ i ∧ i ≤ s.size ∧ ∀ j : Nat, (j : Int) < i → 97 ≤ bt s j ∧ bt s j ≤ 122) _ ?_ 0 ⟨by omega, by omega, fun j hj => by omega⟩
  rintro i ⟨h0, h1, hl⟩ ih
  refine T.step (fun k => impl_NameValid.l0.eq_2 ..) ?_
  refine T.ite (fun hi => ?_) (fun hi => ?_)
  · refine T.ift h0 (T.ift hi ?_)
    have e : ((i.toNat : Nat) : Int) = i := by omega
    have hb : bt s (i.toNat : Nat) = bt s i := by rw [e]
    refine T.ite (fun hc => T.now ?_) (fun hc => T.ite (fun hd => T.now ?_) (fun hd => ?_))
    · exact (nameB_low (fun h => by have := h i.toNat (by omega); rw [hb] at this; omega)).symm
    · exact (nameB_low (fun h => by have := h i.toNat (by omega); rw [hb] at this; omega)).symm
    · rw [w64 (by omega) (by omega)]
      refine ih (i + 1) ⟨by omega, by omega, fun j hj => ?_⟩ (by omega)
      by_cases hji : (j : Int) < i
      · exact hl j hji
      · have : (j : Int) = i := by omega
        rw [this]; omega
  · rw [impl_in_]
    refine T.now ?_
    have hi : i = s.size := by omega
    subst hi
    have : lowB s = true := decide_eq_true (fun j hj => hl j (by omega))
    rw [nameB, this, Bool.true_and]
    exact decide_eq_decide.mpr (by omega)
theorem spec_l1In_ (n a b : Int) : spec_l1In.f n a b = some (decide (a ≤ n ∧ n ≤ b)) := by
  unfold spec_l1In.f
  by_cases h : n ≥ a
  · rw [if_pos h]; simp [show a ≤ n from h]
  · rw [if_neg h]; simp [show ¬ a ≤ n from h]
theorem spec_NameValid_ (s : ByteArray) (hs : s.size ≤ 9223372036854775807) : T (fun k => spec_NameValid.f k s) (fun r => r = nameB s) := by
  unfold spec_NameValid.f
  refine T.loop (fun (i : Int) k => spec_NameValid.l0 k s i) (fun i => ((s.size : Int) - i).toNat) (fun i => 0 ≤ i ∧ i ≤ s.size ∧ ∀ j : Nat, (j : Int) < i → 97 ≤ bt s j ∧ bt s j ≤ 122) _ ?_ 0 ⟨by omega, by omega, fun j hj => by omega⟩
  rintro i ⟨h0, h1, hl⟩ ih
  refine T.step (fun k => spec_NameValid.l0.eq_2 ..) ?_
  refine T.ite (fun hi => ?_) (fun hi => ?_)
  · refine T.ift h0 ?_
    have e : ((i.toNat : Nat) : Int) = i := by omega
    have hb : bt s (i.toNat : Nat) = bt s i := by rw [e]
    refine T.ite (fun hc => T.now ?_) (fun hc => T.ite (fun hd => T.now ?_) (fun hd => ?_))
    · exact (nameB_low (fun h => by have := h i.toNat (by omega); rw [hb] at this; omega)).symm
    · exact (nameB_low (fun h => by have := h i.toNat (by omega); rw [hb] at this; omega)).symm
    · rw [w64 (by omega) (by omega)]
      refine ih (i + 1) ⟨by omega, by omega, fun j hj => ?_⟩ (by omega)
      by_cases hji : (j : Int) < i
      · exact hl j hji
      · have : (j : Int) = i := by omega
        rw [this]; omega
  · rw [spec_l1In_]
    refine T.now ?_
    have hi : i = s.size := by omega
    subst hi
    have : lowB s = true := decide_eq_true (fun j hj => hl j (by omega))
    rw [nameB, this, Bool.true_and]
    exact decide_eq_decide.mpr (by omega)
/-! #### the reader of codes -/
def Bytes (l : List Int) : Prop := l.length ≤ 2000 ∧ ∀ x ∈ l, 0 ≤ x ∧ x ≤ 255
theorem bytes_of {l : List Int} (h : ∀ x ∈ l, (Lit.int .u8 x).wf = true) (hl : l.length ≤ 2000) : Bytes l := ⟨hl, fun x hx => by
  have := h x hx
  simp [Lit.wf, IntKind.min, IntKind.max, IntKind.signed, IntKind.bits] at this
  omega⟩
theorem Bytes.at_ {l : List Int} (h : Bytes l) (i : Int) : 0 ≤ rd l i ∧ rd l i ≤ 255 := by
  unfold rd
  rw [List.getD_eq_getElem?_getD]
  cases hx : l[i.toNat]? with
  | none => simp
  | some x => exact h.2 x (List.mem_of_getElem? hx)
theorem xor_nat (a b j : Nat) (hj : j ≤ 63) (ha : a < 2 ^ j) (hb : b < 2 ^ j) : Go.bits .xor .i64 (a : Int) (b : Int) = ((a ^^^ b : Nat) : Int) := by
  have hp : 2 ^ j ≤ 2 ^ 63 := Nat.pow_le_pow_right (by decide) hj
  have hx : a ^^^ b < 2 ^ 63 := Nat.lt_of_lt_of_le (Nat.xor_lt_two_pow ha hb) hp
  have ha' : a % 2 ^ 64 = a := Nat.mod_eq_of_lt (by omega)
  have hb' : b % 2 ^ 64 = b := Nat.mod_eq_of_lt (by omega)
  simp only [Go.bits, BitVec.ofInt_natCast]
  rw [Go.IntKind.wrap_i64]
  show ((((BitVec.ofNat 64 a ^^^ BitVec.ofNat 64 b).toNat : Nat) : Int) + 9223372036854775808) % 18446744073709551616 - 9223372036854775808 = _
  rw [BitVec.toNat_xor, BitVec.toNat_ofNat, BitVec.toNat_ofNat, ha', hb']
  omega
theorem tmod_in {x n : Int} (hx : 0 ≤ x) (hn : 1 ≤ n) : 0 ≤ Int.tmod x n ∧ Int.tmod x n < n := by
  rw [Int.tmod_eq_emod_of_nonneg hx]
  exact ⟨Int.emod_nonneg _ (by omega), Int.emod_lt_of_pos _ (by omega)⟩
theorem tdiv_in {x n : Int} (hx : 0 ≤ x) (hn : 1 ≤ n) : 0 ≤ Int.tdiv x n ∧ Int.tdiv x n ≤ x := by
  rw [Int.tdiv_eq_ediv_of_nonneg hx]
  exact ⟨Int.ediv_nonneg hx (by omega), Int.ediv_le_self _ hx⟩
/-- What a draw of a number hands back: the place has gone on by one. -/
def Pick (p n : Int) (r : Int × Int) : Prop := r.2 = p + 1 ∧ 0 ≤ r.1 ∧ (1 ≤ n → r.1 < n) ∧ (n < 1 → r.1 = 0)
theorem spec_pick_ (l : List Int) (p n : Int) (hb : Bytes l) (h0 : 0 ≤ p) (h1 : p ≤ 1000000000000) : T (fun k => spec_l20Rd_pick.f k l p n) (Pick p n) := by
  unfold spec_l20Rd_pick.f
  have hp : wrap64 (p + 1) = p + 1 := w64 (by omega) (by omega)
  have hk : wrap64 (p + 1 - 1) = p := by rw [show p + 1 - 1 = p by omega]; exact w64 (by omega) (by omega)
  rw [hp]
  refine T.ite (fun hn => ?_) (fun hn => ?_)
  · refine T.step (fun k => spec_l20Rd_pick.j0.eq_2 ..) (T.ift rfl (T.now ⟨rfl, by simp, fun h => by omega, fun _ => rfl⟩))
  · refine T.step (fun k => spec_l20Rd_pick.j0.eq_2 ..) ?_
    refine T.ite (fun hz => T.now ⟨rfl, by simp, fun h => by show (0 : Int) < n; omega, fun _ => rfl⟩) (fun hz => ?_)
    have hz : (l.length : Int) ≠ 0 := by simpa using hz
    have hlen := hb.1
    rw [hk]
    have hn1 : 1 ≤ n := by omega
    refine T.ite (fun hlt => ?_) (fun hge => ?_)
    · refine T.ift h0 (T.iff_ (by omega) (T.now ?_))
      have hr := hb.at_ p
      rw [w64 (by omega) (by omega)]
      have ht := tmod_in hr.1 hn1
      exact ⟨rfl, ht.1, fun _ => ht.2, fun h => by omega⟩
    · have m1 := tmod_in h0 (show (1 : Int) ≤ l.length by omega)
      have e7 : wrap64 (p * 7) = p * 7 := w64 (by omega) (by omega)
      have e73 : wrap64 (p * 7 + 3) = p * 7 + 3 := w64 (by omega) (by omega)
      have m2 := tmod_in (show (0 : Int) ≤ p * 7 + 3 by omega) (show (1 : Int) ≤ l.length by omega)
      have q1 := tdiv_in h0 (show (1 : Int) ≤ l.length by omega)
      rw [e7, e73]
      refine T.iff_ (by omega) (T.ift m1.1 (T.ift m1.2 (T.ift m2.1 (T.ift m2.2 (T.iff_ (by omega) (T.now ?_))))))
      have r1 := hb.at_ (Int.tmod p l.length)
      have r2 := hb.at_ (Int.tmod (p * 7 + 3) l.length)
      generalize rd l (Int.tmod p l.length) = u at r1 ⊢
      generalize rd l (Int.tmod (p * 7 + 3) l.length) = v at r2 ⊢
      generalize Int.tdiv p l.length = q at q1 ⊢
      have a1 : wrap64 u = u := w64 (by omega) (by omega)
      have a2 : wrap64 v = v := w64 (by omega) (by omega)
      have a3 : wrap64 (u * 131) = u * 131 := w64 (by omega) (by omega)
      have a4 : wrap64 (v * 1117) = v * 1117 := w64 (by omega) (by omega)
      have a5 : wrap64 (u * 131 + v * 1117) = u * 131 + v * 1117 := w64 (by omega) (by omega)
      have a6 : wrap64 (p * 29) = p * 29 := w64 (by omega) (by omega)
      have a7 : wrap64 (u * 131 + v * 1117 + p * 29) = u * 131 + v * 1117 + p * 29 := w64 (by omega) (by omega)
      have a8 : wrap64 q = q := w64 (by omega) (by omega)
      have a9 : wrap64 (q * 53) = q * 53 := w64 (by omega) (by omega)
      have a10 : wrap64 (u * 131 + v * 1117 + p * 29 + q * 53) = u * 131 + v * 1117 + p * 29 + q * 53 := w64 (by omega) (by omega)
      rw [a1, a2, a3, a4, a5, a6, a7, a8, a9, a10]
      have hx0 : 0 ≤ u * 131 + v * 1117 + p * 29 + q * 53 := by omega
      have hx1 : u * 131 + v * 1117 + p * 29 + q * 53 < 2 ^ 50 := by omega
      generalize u * 131 + v * 1117 + p * 29 + q * 53 = x at hx0 hx1 ⊢
      have d := tdiv_in hx0 (show (1 : Int) ≤ 64 by omega)
      rw [show wrap64 (Int.tdiv x 64) = Int.tdiv x 64 from w64 (by omega) (by omega)]
      have hxor : 0 ≤ Go.bits .xor .i64 x (Int.tdiv x 64) := by
        generalize Int.tdiv x 64 = y at d ⊢
        obtain ⟨a, rfl⟩ := Int.eq_ofNat_of_zero_le hx0
        obtain ⟨b, rfl⟩ := Int.eq_ofNat_of_zero_le d.1
        rw [xor_nat a b 50 (by decide) (by omega) (by omega)]
        omega
      have ht := tmod_in hxor hn1
      exact ⟨rfl, ht.1, fun _ => ht.2, fun h => by omega⟩
theorem spec_open_ (l : List Int) (h : ∀ x ∈ l, (Lit.int .u8 x).wf = true) : ∃ l', spec_l20Open.f l = some (l', 0) ∧ Bytes l' := by
  unfold spec_l20Open.f
  by_cases h1 : (l.length : Int) > 2000
  · refine ⟨l.take 2000, by rw [if_pos h1, if_pos (by omega)], bytes_of (fun x hx => h x (List.mem_of_mem_take hx)) (by rw [List.length_take]; omega)⟩
  · exact ⟨l, by rw [if_neg h1], bytes_of h (by omega)⟩
def Odd1 (p : Int) (r : Bool × Int) : Prop := p ≤ r.2 ∧ r.2 ≤ p + 1
theorem spec_odd_ (l : List Int) (p n : Int) (hb : Bytes l) (h0 : 0 ≤ p) (h1 : p ≤ 1000000000000) : T (fun k => spec_l20Rd_odd.f k l p n) (Odd1 p) := by
  unfold spec_l20Rd_odd.f
  refine T.ite (fun hn => ?_) (fun _ => T.now ⟨by show p ≤ p; omega, by show p ≤ p + 1; omega⟩)
  refine T.bind (spec_pick_ l p n hb h0 h1) ?_
  rintro ⟨a, q⟩ ⟨rfl, _⟩
  exact T.now ⟨by show p ≤ p + 1; omega, by show p + 1 ≤ p + 1; omega⟩
theorem alive_ : T (fun k => laws_alive.f k) (fun r => r = true) := by
  unfold laws_alive.f
  refine T.bind (impl_NameValid_ _ (by decide)) ?_
  rintro _ rfl
  exact T.now (by decide)
theorem spec_name_ (l : List Int) (p n : Int) (hb : Bytes l) (h0 : 0 ≤ p) (h1 : p ≤ 900000000000) : T (fun k => spec_l20Name.f k l p n) (fun r => r.1.size ≤ 100 ∧ p ≤ r.2 ∧ r.2 ≤ p + 2) := by
  unfold spec_l20Name.f
  refine T.bind (spec_odd_ l p n hb h0 (by omega)) ?_
  rintro ⟨a, q⟩ ⟨ha, hq⟩
  dsimp only at ha hq ⊢
  refine T.ite (fun _ => ?_) (fun _ => ?_) <;>
  · refine T.bind (T.now (Q := fun x => x = _) rfl) ?_
    rintro _ rfl
    refine T.bind (spec_pick_ l q _ hb (by omega) (by omega)) ?_
    rintro ⟨i, q'⟩ ⟨rfl, hi0, hi, _⟩
    dsimp only at hi0 hi ⊢
    have hi := hi (by omega)
    refine T.ift hi0 (T.ift (by simp only [List.length_cons, List.length_nil]; omega) (T.now ⟨?_, by omega, by omega⟩))
    have : i.toNat = 0 ∨ i.toNat = 1 ∨ i.toNat = 2 ∨ i.toNat = 3 ∨ i.toNat = 4 := by omega
    rcases this with h | h | h | h | h <;> simp only [rdOf, h] <;> decide
theorem FnNameValid : laws_FnNameValid.Pure := by
  intro l _ _ hw
  refine T.rounds ?_
  unfold laws_FnNameValid.f
  refine T.ite (fun _ => T.now rfl) (fun _ => ?_)
  refine T.bind (P := fun s => s.size ≤ 100) ?_ ?_
  · unfold spec_DrawNameValid.f
    obtain ⟨l', e, hb⟩ := spec_open_ l hw
    rw [e]
    refine T.bind (T.now (Q := fun x => x = _) rfl) ?_
    rintro _ rfl
    refine T.bind (spec_name_ l' 0 2 hb (by omega) (by omega)) ?_
    rintro ⟨s, q⟩ ⟨hs, _⟩
    exact T.now hs
  intro s hs
  refine T.bind (impl_NameValid_ s (by omega)) ?_
  rintro _ rfl
  refine T.bind (spec_NameValid_ s (by omega)) ?_
  rintro _ rfl
  refine T.iff_ (by simp) (T.ift (by omega) ?_)
  have hsz : (s ++ (⟨#[32]⟩ : ByteArray)).size = s.size + 1 := by rw [ByteArray.size_append]; rfl
  refine T.bind (impl_NameValid_ _ (by rw [hsz]; omega)) ?_
  rintro _ rfl
  have hno : nameB (s ++ (⟨#[32]⟩ : ByteArray)) = false := nameB_low (fun h => by
    have := h s.size (by rw [hsz]; omega)
    have hb : bt (s ++ (⟨#[32]⟩ : ByteArray)) (s.size : Nat) = 32 := by
      unfold bt
      rw [dif_pos (by rw [hsz]; omega)]
      have e : (s ++ (⟨#[32]⟩ : ByteArray))[s.size]'(by rw [hsz]; omega) = 32 := by
        rw [ByteArray.getElem_append_right (Nat.le_refl _)]
        simp only [Nat.sub_self]
        rfl
      exact congrArg (fun u : UInt8 => (u.toNat : Int)) e
    rw [hb] at this
    omega)
  refine T.iff_ (by rw [hno]; decide) (T.ite (fun hn => ?_) (fun _ => ?_))
  · obtain ⟨hl, h1, h8⟩ := (nameB_iff s).1 hn
    refine T.ift (by omega) (T.ift (by omega) ?_)
    have hs1 : (s.extract 0 1).size = 1 := by simp; omega
    refine T.bind (impl_NameValid_ _ (by rw [hs1]; omega)) ?_
    rintro _ rfl
    have hy : nameB (s.extract 0 1) = true := (nameB_iff _).2 ⟨fun i hi => by
      have h0 : i = 0 := by omega
      subst h0
      have := hl 0 (by omega)
      have e : bt (s.extract 0 1) (0 : Nat) = bt s (0 : Nat) := by
        unfold bt
        rw [dif_pos (by rw [hs1]; omega), dif_pos (by show (0 : Nat) < s.size; omega)]
        rw [ByteArray.getElem_extract]
        rfl
      rw [e]; exact this, by omega, by omega⟩
    exact T.ift hy (T.bind alive_ (by rintro _ rfl; exact T.now rfl))
  · exact T.bind alive_ (by rintro _ rfl; exact T.now rfl)

end Go.Proofs.Ytefgbocbhohkeaa.Pure
