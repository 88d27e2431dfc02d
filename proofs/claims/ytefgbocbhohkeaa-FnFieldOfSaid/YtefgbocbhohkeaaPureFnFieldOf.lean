/- Fields are found by their names, without the field with the name there is none, and the program's FieldOf answers as the reference's, at every drawn list.
   Conditions: none beyond the statement's own. -/
import Derived.Test.YtefgbocbhohkeaaPx8
set_option linter.unusedVariables false
set_option linter.unusedSimpArgs false
namespace Go.Proofs.Ytefgbocbhohkeaa.Pure
open Go.RowKit Go.Proofs.Ytefgbocbhohkeaa.P Go.Proofs.YtefgbocbhohkeaaW.PrintWords Go.Proofs.YtefgbocbhohkeaaW.PrintLast

/-! #### rounds: 'T g Q': from some number of rounds on g answers, and the answer is as Q says -/
def T {α : Type} (g : Nat → Option α) (Q : α → Prop) : Prop := ∃ r, Ev g r ∧ Q r
theorem T.ev {α : Type} {g : Nat → Option α} {r : α} (h : Ev g r) : T g (fun x => x = r) := ⟨r, h, rfl⟩
theorem T.of_eq {α : Type} {g : Nat → Option α} {r : α} (h : T g (fun x => x = r)) : Ev g r := by
  obtain ⟨_, h, rfl⟩ := h
  exact h
theorem T.now {α : Type} {r : α} {Q : α → Prop} (h : Q r) : T (fun _ => some r) Q := ⟨r, Ev.now r, h⟩
theorem T.mono {α : Type} {g : Nat → Option α} {P Q : α → Prop} (h : T g P) (k : ∀ a, P a → Q a) : T g Q := by
  obtain ⟨r, h, p⟩ := h
  exact ⟨r, h, k r p⟩
theorem T.bind {α β : Type} {g : Nat → Option α} {f : Nat → α → Option β} {P : α → Prop} {Q : β → Prop} (h : T g P) (k : ∀ a, P a → T (fun n => f n a) Q) : T (fun n => (g n).bind (f n)) Q := by
  obtain ⟨a, h, p⟩ := h
  obtain ⟨r, k, q⟩ := k a p
  exact ⟨r, Ev.bind h k, q⟩
theorem T.ite {α : Type} {c : Prop} [Decidable c] {g f : Nat → Option α} {Q : α → Prop} (h : c → T g Q) (k : ¬ c → T f Q) : T (fun n => if c then g n else f n) Q := by
  by_cases hc : c
  · simpa only [if_pos hc] using h hc
  · simpa only [if_neg hc] using k hc
theorem T.ift {α : Type} {c : Prop} [Decidable c] {g f : Nat → Option α} {Q : α → Prop} (hc : c) (h : T g Q) : T (fun n => if c then g n else f n) Q := T.ite (fun _ => h) (fun n => absurd hc n)
theorem T.iff_ {α : Type} {c : Prop} [Decidable c] {g f : Nat → Option α} {Q : α → Prop} (hc : ¬ c) (h : T f Q) : T (fun n => if c then g n else f n) Q := T.ite (fun n => absurd n hc) (fun _ => h)
theorem T.step {α : Type} {g f : Nat → Option α} {Q : α → Prop} (h : ∀ k, g (k + 1) = f k) (k : T f Q) : T g Q := by
  obtain ⟨r, k, q⟩ := k
  exact ⟨r, Ev.step h k, q⟩
theorem T.rounds {g : Nat → Option Bool} (h : T g (fun x => x = true)) : ∃ k, g k = some true := (T.of_eq h).rounds
theorem T.congr {α : Type} {g f : Nat → Option α} {Q : α → Prop} (h : ∀ k, g k = f k) (k : T f Q) : T g Q := by
  obtain ⟨r, k, q⟩ := k
  exact ⟨r, Ev.congr h k, q⟩
theorem T.run {α : Type} {g : Nat → Option α} {Q : α → Prop} (h : T g Q) : ∃ r K, (∀ k, K ≤ k → g k = some r) ∧ Q r := by
  obtain ⟨r, ⟨K, h⟩, q⟩ := h
  exact ⟨r, K, h, q⟩
/-- A loop over what is left. -/
theorem T.loop {σ α : Type} (g : σ → Nat → Option α) (m : σ → Nat) (I : σ → Prop) (Q : α → Prop) (h : ∀ s, I s → (∀ s', I s' → m s' < m s → T (g s') Q) → T (g s) Q) : ∀ s, I s → T (g s) Q := by
  intro s
  induction hm : m s using Nat.strongRecOn generalizing s with
  | _ n ih =>
    intro hI
    exact h s hI (fun s' hI' hlt => ih (m s') (hm ▸ hlt) s' rfl hI')
theorem w64 {x : Int} (h : -9223372036854775808 ≤ x) (h' : x ≤ 9223372036854775807) : wrap64 x = x := by unfold wrap64; omega
/-! #### names -/
def lowB (s : ByteArray) : Bool := decide (∀ i : Nat, i < s.size → 97 ≤ bt s i ∧ bt s i ≤ 122)
def nameB (s : ByteArray) : Bool := lowB s && decide (1 ≤ s.size ∧ s.size ≤ 8)
theorem nameB_iff (s : ByteArray) : nameB s = true ↔ (∀ i : Nat, i < s.size → 97 ≤ bt s i ∧ bt s i ≤ 122) ∧ 1 ≤ s.size ∧ s.size ≤ 8 := by simp [nameB, lowB]
theorem nameB_low {s : ByteArray} (h : ¬ ∀ i : Nat, i < s.size → 97 ≤ bt s i ∧ bt s i ≤ 122) : nameB s = false := by
  have : ¬ (nameB s = true) := fun hn => h ((nameB_iff s).1 hn).1
  simpa using this
theorem impl_in_ (n a b : Int) : impl_in.f n a b = some (decide (a ≤ n ∧ n ≤ b)) := by
  unfold impl_in.f
  by_cases h : a ≤ n
  · rw [if_pos h]; simp [h]
  · rw [if_neg h]; simp [h]
theorem impl_NameValid_ (s : ByteArray) (hs : s.size ≤ 9223372036854775807) : T (fun k => impl_NameValid.f k s) (fun r => r = nameB s) := by
  unfold impl_NameValid.f
  refine T.loop (fun (i : Int) k => impl_NameValid.l0 k s (s.size : Int) i) (fun i => ((s.size : Int) - i).toNat) (fun i => 0 ≤ i ∧ i ≤ s.size ∧ ∀ j : Nat, (j : Int) < i → 97 ≤ bt s j ∧ bt s j ≤ 122) _ ?_ 0 ⟨by omega, by omega, fun j hj => by omega⟩
  rintro i ⟨h0, h1, hl⟩ ih
  refine T.step (fun k => impl_NameValid.l0.eq_2 ..) ?_
  refine T.ite (fun hi => ?_) (fun hi => ?_)
  · refine T.ift h0 (T.ift hi ?_)
    have e : ((i.toNat : Nat) : Int) = i := by omega
    have hb : bt s (i.toNat : Nat) = bt s i := by rw [e]
    refine T.ite (fun hc => T.now ?_) (fun hc => T.ite (fun hd => T.now ?_) (fun hd => ?_))
    · exact (nameB_low (fun h => by have := h i.toNat (by omega); rw [hb] at this; omega)).symm
    · exact (nameB_low (fun h => by have := h i.toNat (by omega); rw [hb] at this; omega)).symm
    · rw [w64 (by omega) (by omega)]
      refine ih (i + 1) ⟨by omega, by omega, fun j hj => ?_⟩ (by omega)
      by_cases hji : (j : Int) < i
      · exact hl j hji
      · have : (j : Int) = i := by omega
        rw [this]; omega
  · rw [impl_in_]
    refine T.now ?_
    have hi : i = s.size := by omega
    subst hi
    have : lowB s = true := decide_eq_true (fun j hj => hl j (by omega))
    rw [nameB, this, Bool.true_and]
    exact decide_eq_decide.mpr (by omega)
theorem alive_ : T (fun k => laws_alive.f k) (fun r => r = true) := by
  unfold laws_alive.f
  refine T.bind (impl_NameValid_ _ (by decide)) ?_
  rintro _ rfl
  exact T.now (by decide)
/-! #### the reader of codes -/
def Bytes (l : List Int) : Prop := l.length ≤ 2000 ∧ ∀ x ∈ l, 0 ≤ x ∧ x ≤ 255
theorem bytes_of {l : List Int} (h : ∀ x ∈ l, (Lit.int .u8 x).wf = true) (hl : l.length ≤ 2000) : Bytes l := ⟨hl, fun x hx => by
  have := h x hx
  simp [Lit.wf, IntKind.min, IntKind.max, IntKind.signed, IntKind.bits] at this
  omega⟩
theorem Bytes.at_ {l : List Int} (h : Bytes l) (i : Int) : 0 ≤ rd l i ∧ rd l i ≤ 255 := by
  unfold rd
  rw [List.getD_eq_getElem?_getD]
  cases hx : l[i.toNat]? with
  | none => simp
  | some x => exact h.2 x (List.mem_of_getElem? hx)
theorem xor_nat (a b j : Nat) (hj : j ≤ 63) (ha : a < 2 ^ j) (hb : b < 2 ^ j) : Go.bits .xor .i64 (a : Int) (b : Int) = ((a ^^^ b : Nat) : Int) := by
  have hp : 2 ^ j ≤ 2 ^ 63 := Nat.pow_le_pow_right (by decide) hj
  have hx : a ^^^ b < 2 ^ 63 := Nat.lt_of_lt_of_le (Nat.xor_lt_two_pow ha hb) hp
  have ha' : a % 2 ^ 64 = a := Nat.mod_eq_of_lt (by omega)
  have hb' : b % 2 ^ 64 = b := Nat.mod_eq_of_lt (by omega)
  simp only [Go.bits, BitVec.ofInt_natCast]
  rw [Go.IntKind.wrap_i64]
  show ((((BitVec.ofNat 64 a ^^^ BitVec.ofNat 64 b).toNat : Nat) : Int) + 9223372036854775808) % 18446744073709551616 - 9223372036854775808 = _
  rw [BitVec.toNat_xor, BitVec.toNat_ofNat, BitVec.toNat_ofNat, ha', hb']
  omega
theorem tmod_in {x n : Int} (hx : 0 ≤ x) (hn : 1 ≤ n) : 0 ≤ Int.tmod x n ∧ Int.tmod x n < n := by
  rw [Int.tmod_eq_emod_of_nonneg hx]
  exact ⟨Int.emod_nonneg _ (by omega), Int.emod_lt_of_pos _ (by omega)⟩
theorem tdiv_in {x n : Int} (hx : 0 ≤ x) (hn : 1 ≤ n) : 0 ≤ Int.tdiv x n ∧ Int.tdiv x n ≤ x := by
  rw [Int.tdiv_eq_ediv_of_nonneg hx]
  exact ⟨Int.ediv_nonneg hx (by omega), Int.ediv_le_self _ hx⟩
/-- What a draw of a number hands back: the place has gone on by one. -/
def Pick (p n : Int) (r : Int × Int) : Prop := r.2 = p + 1 ∧ 0 ≤ r.1 ∧ (1 ≤ n → r.1 < n) ∧ (n < 1 → r.1 = 0)
theorem spec_pick_ (l : List Int) (p n : Int) (hb : Bytes l) (h0 : 0 ≤ p) (h1 : p ≤ 1000000000000) : T (fun k => spec_l20Rd_pick.f k l p n) (Pick p n) := by
  unfold spec_l20Rd_pick.f
  have hp : wrap64 (p + 1) = p + 1 := w64 (by omega) (by omega)
  have hk : wrap64 (p + 1 - 1) = p := by rw [show p + 1 - 1 = p by omega]; exact w64 (by omega) (by omega)
  rw [hp]
  refine T.ite (fun hn => ?_) (fun hn => ?_)
  · refine T.step (fun k => spec_l20Rd_pick.j0.eq_2 ..) (T.ift rfl (T.now ⟨rfl, by simp, fun h => by omega, fun _ => rfl⟩))
  · refine T.step (fun k => spec_l20Rd_pick.j0.eq_2 ..) ?_
    refine T.ite (fun hz => T.now ⟨rfl, by simp, fun h => by show (0 : Int) < n; omega, fun _ => rfl⟩) (fun hz => ?_)
    have hz : (l.length : Int) ≠ 0 := by simpa using hz
    have hlen := hb.1
    rw [hk]
    have hn1 : 1 ≤ n := by omega
    refine T.ite (fun hlt => ?_) (fun hge => ?_)
    · refine T.ift h0 (T.iff_ (by omega) (T.now ?_))
      have hr := hb.at_ p
      rw [w64 (by omega) (by omega)]
      have ht := tmod_in hr.1 hn1
      exact ⟨rfl, ht.1, fun _ => ht.2, fun h => by omega⟩
    · have m1 := tmod_in h0 (show (1 : Int) ≤ l.length by omega)
      have e7 : wrap64 (p * 7) = p * 7 := w64 (by omega) (by omega)
      have e73 : wrap64 (p * 7 + 3) = p * 7 + 3 := w64 (by omega) (by omega)
      have m2 := tmod_in (show (0 : Int) ≤ p * 7 + 3 by omega) (show (1 : Int) ≤ l.length by omega)
      have q1 := tdiv_in h0 (show (1 : Int) ≤ l.length by omega)
      rw [e7, e73]
      refine T.iff_ (by omega) (T.ift m1.1 (T.ift m1.2 (T.ift m2.1 (T.ift m2.2 (T.iff_ (by omega) (T.now ?_))))))
      have r1 := hb.at_ (Int.tmod p l.length)
      have r2 := hb.at_ (Int.tmod (p * 7 + 3) l.length)
      generalize rd l (Int.tmod p l.length) = u at r1 ⊢
      generalize rd l (Int.tmod (p * 7 + 3) l.length) = v at r2 ⊢
      generalize Int.tdiv p l.length = q at q1 ⊢
      have a1 : wrap64 u = u := w64 (by omega) (by omega)
      have a2 : wrap64 v = v := w64 (by omega) (by omega)
      have a3 : wrap64 (u * 131) = u * 131 := w64 (by omega) (by omega)
      have a4 : wrap64 (v * 1117) = v * 1117 := w64 (by omega) (by omega)
      have a5 : wrap64 (u * 131 + v * 1117) = u * 131 + v * 1117 := w64 (by omega) (by omega)
      have a6 : wrap64 (p * 29) = p * 29 := w64 (by omega) (by omega)
      have a7 : wrap64 (u * 131 + v * 1117 + p * 29) = u * 131 + v * 1117 + p * 29 := w64 (by omega) (by omega)
      have a8 : wrap64 q = q := w64 (by omega) (by omega)
      have a9 : wrap64 (q * 53) = q * 53 := w64 (by omega) (by omega)
      have a10 : wrap64 (u * 131 + v * 1117 + p * 29 + q * 53) = u * 131 + v * 1117 + p * 29 + q * 53 := w64 (by omega) (by omega)
      rw [a1, a2, a3, a4, a5, a6, a7, a8, a9, a10]
      have hx0 : 0 ≤ u * 131 + v * 1117 + p * 29 + q * 53 := by omega
      have hx1 : u * 131 + v * 1117 + p * 29 + q * 53 < 2 ^ 50 := by omega
      generalize u * 131 + v * 1117 + p * 29 + q * 53 = x at hx0 hx1 ⊢
      have d := tdiv_in hx0 (show (1 : Int) ≤ 64 by omega)
      rw [show wrap64 (Int.tdiv x 64) = Int.tdiv x 64 from w64 (by omega) (by omega)]
      have hxor : 0 ≤ Go.bits .xor .i64 x (Int.tdiv x 64) := by
        generalize Int.tdiv x 64 = y at d ⊢
        obtain ⟨a, rfl⟩ := Int.eq_ofNat_of_zero_le hx0
        obtain ⟨b, rfl⟩ := Int.eq_ofNat_of_zero_le d.1
        rw [xor_nat a b 50 (by decide) (by omega) (by omega)]
        omega
      have ht := tmod_in hxor hn1
      exact ⟨rfl, ht.1, fun _ => ht.2, fun h => by omega⟩
theorem spec_open_ (l : List Int) (h : ∀ x ∈ l, (Lit.int .u8 x).wf = true) : ∃ l', spec_l20Open.f l = some (l', 0) ∧ Bytes l' := by
  unfold spec_l20Open.f
  by_cases h1 : (l.length : Int) > 2000
  · refine ⟨l.take 2000, by rw [if_pos h1, if_pos (by omega)], bytes_of (fun x hx => h x (List.mem_of_mem_take hx)) (by rw [List.length_take]; omega)⟩
  · exact ⟨l, by rw [if_neg h1], bytes_of h (by omega)⟩
def Odd1 (p : Int) (r : Bool × Int) : Prop := p ≤ r.2 ∧ r.2 ≤ p + 1
theorem spec_odd_ (l : List Int) (p n : Int) (hb : Bytes l) (h0 : 0 ≤ p) (h1 : p ≤ 1000000000000) : T (fun k => spec_l20Rd_odd.f k l p n) (Odd1 p) := by
  unfold spec_l20Rd_odd.f
  refine T.ite (fun hn => ?_) (fun _ => T.now ⟨by show p ≤ p; omega, by show p ≤ p + 1; omega⟩)
  refine T.bind (spec_pick_ l p n hb h0 h1) ?_
  rintro ⟨a, q⟩ ⟨rfl, _⟩
  exact T.now ⟨by show p ≤ p + 1; omega, by show p + 1 ≤ p + 1; omega⟩
theorem spec_name_ (l : List Int) (p n : Int) (hb : Bytes l) (h0 : 0 ≤ p) (h1 : p ≤ 900000000000) : T (fun k => spec_l20Name.f k l p n) (fun r => r.1.size ≤ 100 ∧ p ≤ r.2 ∧ r.2 ≤ p + 2) := by
  unfold spec_l20Name.f
  refine T.bind (spec_odd_ l p n hb h0 (by omega)) ?_
  rintro ⟨a, q⟩ ⟨ha, hq⟩
  dsimp only at ha hq ⊢
  refine T.ite (fun _ => ?_) (fun _ => ?_) <;>
  · refine T.bind (T.now (Q := fun x => x = _) rfl) ?_
    rintro _ rfl
    refine T.bind (spec_pick_ l q _ hb (by omega) (by omega)) ?_
    rintro ⟨i, q'⟩ ⟨rfl, hi0, hi, _⟩
    dsimp only at hi0 hi ⊢
    have hi := hi (by omega)
    refine T.ift hi0 (T.ift (by simp only [List.length_cons, List.length_nil]; omega) (T.now ⟨?_, by omega, by omega⟩))
    have : i.toNat = 0 ∨ i.toNat = 1 ∨ i.toNat = 2 ∨ i.toNat = 3 ∨ i.toNat = 4 := by omega
    rcases this with h | h | h | h | h <;> simp only [rdOf, h] <;> decide
theorem mx_le (a b : Int) : a ≤ mx a b ∧ b ≤ mx a b ∧ (mx a b = a ∨ mx a b = b) := by unfold mx; split <;> omega
theorem spec_value_ (l : List Int) (p many n : Int) (hb : Bytes l) (h0 : 0 ≤ p) (h1 : p ≤ 900000000000) :
    T (fun k => spec_l20Value.f k l p many n) (fun r => p ≤ r.2.2 ∧ r.2.2 ≤ p + 6) := by
  unfold spec_l20Value.f
  have hx := mx_le 1 many
  have J1 : ∀ (q a b : Int), p ≤ q → q ≤ p + 4 → T (fun k => spec_l20Value.j1 k many n l q a b) (fun r => p ≤ r.2.2 ∧ r.2.2 ≤ p + 6) := by
    intro q a b hq0 hq1
    refine T.step (fun k => spec_l20Value.j1.eq_2 ..) ?_
    refine T.bind (spec_odd_ l q n hb (by omega) (by omega)) ?_
    rintro ⟨c, q'⟩ ⟨ha, hq⟩
    dsimp only at ha hq ⊢
    refine T.ite (fun _ => ?_) (fun _ => T.now ⟨by show p ≤ q'; omega, by show q' ≤ p + 6; omega⟩)
    refine T.bind (T.now (Q := fun x => x = _) rfl) ?_
    rintro _ rfl
    refine T.bind (spec_pick_ l q' 6 hb (by omega) (by omega)) ?_
    rintro ⟨i, q2⟩ ⟨rfl, hi0, hi, _⟩
    dsimp only at hi0 hi ⊢
    have hi := hi (by omega)
    exact T.ift hi0 (T.ift (by simp only [List.length_cons, List.length_nil]; omega) (T.now ⟨by show p ≤ q' + 1; omega, by show q' + 1 ≤ p + 6; omega⟩))
  have J0 : ∀ (c : Bool) (q a b : Int), p ≤ q → q ≤ p + 4 → T (fun k => spec_l20Value.j0 k many n c l q a b) (fun r => p ≤ r.2.2 ∧ r.2.2 ≤ p + 6) := by
    intro c q a b hq0 hq1
    refine T.step (fun k => spec_l20Value.j0.eq_2 ..) ?_
    exact T.ite (fun _ => J1 _ _ _ hq0 hq1) (fun _ => J1 _ _ _ hq0 hq1)
  refine T.bind (spec_pick_ l p 2 hb h0 (by omega)) ?_
  rintro ⟨a, q⟩ ⟨rfl, _⟩
  refine T.bind (spec_pick_ l _ 10 hb (by show 0 ≤ p + 1; omega) (by show p + 1 ≤ _; omega)) ?_
  rintro ⟨b, q⟩ ⟨rfl, _⟩
  refine T.bind (spec_pick_ l _ _ hb (by show 0 ≤ p + 1 + 1; omega) (by show p + 1 + 1 ≤ _; omega)) ?_
  rintro ⟨c, q⟩ ⟨rfl, _⟩
  refine T.bind (T.now (Q := fun x => x = _) rfl) ?_
  rintro _ rfl
  refine T.bind (spec_pick_ l _ 3 hb (by show 0 ≤ p + 1 + 1 + 1; omega) (by show p + 1 + 1 + 1 ≤ _; omega)) ?_
  rintro ⟨i, q⟩ ⟨rfl, hi0, hi, _⟩
  dsimp only at hi0 hi ⊢
  have hi := hi (by omega)
  refine T.ift hi0 (T.ift (by simp only [List.length_cons, List.length_nil]; omega) ?_)
  exact T.ite (fun _ => J0 _ _ _ _ (by omega) (by omega)) (fun _ => J0 _ _ _ _ (by omega) (by omega))
/-! #### texts and lists -/
theorem tl_inj {a b : ByteArray} : a.toList = b.toList ↔ a = b := by
  rw [ByteArray.toList_eq, ByteArray.toList_eq]
  constructor
  · intro h
    cases a; cases b
    exact congrArg ByteArray.mk (Array.toList_inj.1 h)
  · rintro rfl
    rfl
theorem drop_at {α : Type} (l : List α) (z : α) (i : Int) (h0 : 0 ≤ i) (h1 : i < l.length) : l.drop i.toNat = l.getD i.toNat z :: l.drop (i + 1).toNat := by
  have h : i.toNat < l.length := by omega
  rw [List.drop_eq_getElem_cons h, List.getD_eq_getElem?_getD, List.getElem?_eq_getElem h]
  simp only [Option.getD_some]
  rw [show (i + 1).toNat = i.toNat + 1 by omega]
theorem drop_all {α : Type} (l : List α) (i : Int) (h : ¬ i < l.length) : l.drop i.toNat = [] := List.drop_of_length_le (by omega)
theorem get_mem {α : Type} (l : List α) (z : α) (i : Int) (h0 : 0 ≤ i) (h1 : i < l.length) : l.getD i.toNat z ∈ l := by
  have h : i.toNat < l.length := by omega
  rw [List.getD_eq_getElem?_getD, List.getElem?_eq_getElem h]
  exact List.getElem_mem h
/-- A loop that counts up to n. -/
theorem T.count {α : Type} (n : Nat) (g : Int → Nat → Option α) (Q : α → Prop) (fin : T (g n) Q) (step : ∀ i : Int, 0 ≤ i → i < n → T (g (i + 1)) Q → T (g i) Q) : ∀ i : Int, 0 ≤ i → i ≤ n → T (g i) Q := by
  refine fun i h0 h1 => T.loop g (fun i => (n - i).toNat) (fun i => 0 ≤ i ∧ i ≤ n) Q ?_ i ⟨h0, h1⟩
  rintro i ⟨h0, h1⟩ ih
  by_cases hi : i = n
  · rw [hi]; exact fin
  · exact step i h0 (by omega) (ih (i + 1) ⟨by omega, by omega⟩ (by omega))
/-- A loop that turns each element of a list into one of a list of the same length. -/
theorem T.turn {α β γ : Type} (za : α) (l : List α) (c : α → β) (g : List β → Int → Nat → Option γ) (Q : γ → Prop) (fin : T (g (l.map c) l.length) Q)
    (step : ∀ (out : List β) (i : Int), 0 ≤ i → i < l.length → out.length = l.length → T (g (out.set i.toNat (c (l.getD i.toNat za))) (i + 1)) Q → T (g out i) Q) (out : List β) (hl : out.length = l.length) : T (g out 0) Q := by
  refine T.loop (fun (s : List β × Int) => g s.1 s.2) (fun s => (l.length - s.2).toNat) (fun s => 0 ≤ s.2 ∧ s.2 ≤ l.length ∧ s.1.length = l.length ∧ ∀ j : Nat, (j : Int) < s.2 → s.1[j]? = (l[j]?).map c) Q ?_ (out, 0) ⟨by simp, by simp, hl, fun j hj => absurd hj (by simp)⟩
  rintro ⟨o, i⟩ ⟨h0, h1, h2, h3⟩ ih
  dsimp only at h0 h1 h2 h3 ih ⊢
  by_cases hi : i = l.length
  · have : o = l.map c := List.ext_getElem? (fun j => by
      by_cases hj : (j : Int) < i
      · rw [h3 j hj, List.getElem?_map]
      · rw [List.getElem?_eq_none (by omega), List.getElem?_eq_none (by rw [List.length_map]; omega)])
    rw [this, hi]; exact fin
  · refine step o i h0 (by omega) h2 (ih (_, i + 1) ⟨by show 0 ≤ i + 1; omega, by show i + 1 ≤ _; omega, by rw [List.length_set]; exact h2, fun j hj => ?_⟩ (by show ((l.length : Int) - (i + 1)).toNat < (l.length - i).toNat; omega))
    dsimp only at hj ⊢
    rw [List.getElem?_set]
    by_cases hji : i.toNat = j
    · rw [if_pos hji, if_pos (by omega)]
      subst hji
      rw [List.getD_eq_getElem?_getD, List.getElem?_eq_getElem (by omega : i.toNat < l.length)]
      rfl
    · rw [if_neg hji]
      exact h3 j (by omega)
theorem spec_kinded_ (l : List Int) (p : Int) (s : ByteArray) (n : Int) (hb : Bytes l) (h0 : 0 ≤ p) (h1 : p ≤ 900000000000) : T (fun k => spec_l20Kinded.f k l p s n) (fun r => r.2.2 = p + 1) := by
  unfold spec_l20Kinded.f
  have J : ∀ c : Bool, T (fun k => spec_l20Kinded.j0 k n s c l p) (fun r => r.2.2 = p + 1) := by
    intro c
    refine T.step (fun k => spec_l20Kinded.j0.eq_2 ..) ?_
    refine T.ite (fun _ => ?_) (fun _ => T.ite (fun _ => ?_) (fun _ => ?_)) <;>
    · refine T.bind (spec_pick_ l p _ hb h0 (by omega)) ?_
      rintro ⟨a, q⟩ ⟨rfl, _⟩
      exact T.now rfl
  exact T.ite (fun _ => J _) (fun _ => J _)
theorem spec_fields_ (l : List Int) (p n : Int) (hb : Bytes l) (h0 : 0 ≤ p) (h1 : p ≤ 800000000000) :
    T (fun k => spec_l20Fields.f k l p n) (fun r => r.1.length ≤ 4 ∧ (∀ y ∈ r.1, y.f0.size ≤ 100) ∧ p ≤ r.2 ∧ r.2 ≤ p + 10) := by
  unfold spec_l20Fields.f
  refine T.loop (fun (s : List S41 × Int × Int) k => spec_l20Fields.l0 k n s.1 [(⟨#[108, 101, 118, 101, 108]⟩ : ByteArray), (⟨#[111, 119, 110, 101, 114]⟩ : ByteArray), (⟨#[111, 112, 101, 110]⟩ : ByteArray), (⟨#[97, 103, 101]⟩ : ByteArray), (⟨#[98, 111, 115, 115]⟩ : ByteArray)] s.2.1 l s.2.2) (fun s => (5 - s.2.1).toNat) (fun s => 0 ≤ s.2.1 ∧ s.2.1 ≤ 5 ∧ s.1.length ≤ 4 ∧ (∀ y ∈ s.1, y.f0.size ≤ 100) ∧ p ≤ s.2.2 ∧ s.2.2 ≤ p + 2 * s.2.1) _ ?_ ([], 0, p) ⟨by simp, by simp, by simp, fun y hy => absurd hy (by simp), by simp, by show p ≤ p + 2 * 0; omega⟩
  rintro ⟨o, i, q⟩ ⟨a0, a1, a2, a3, a4, a5⟩ ih
  dsimp only at a0 a1 a2 a3 a4 a5 ih ⊢
  have fin : T (fun _ : Nat => some (o, q)) (fun r : List S41 × Int => r.1.length ≤ 4 ∧ (∀ y ∈ r.1, y.f0.size ≤ 100) ∧ p ≤ r.2 ∧ r.2 ≤ p + 10) := T.now ⟨a2, a3, a4, by show q ≤ p + 10; omega⟩
  have J : ∀ c : Bool, (c = true → i < 5 ∧ o.length < 4) → T (fun k => spec_l20Fields.j1 k n o [(⟨#[108, 101, 118, 101, 108]⟩ : ByteArray), (⟨#[111, 119, 110, 101, 114]⟩ : ByteArray), (⟨#[111, 112, 101, 110]⟩ : ByteArray), (⟨#[97, 103, 101]⟩ : ByteArray), (⟨#[98, 111, 115, 115]⟩ : ByteArray)] i c l q) (fun r => r.1.length ≤ 4 ∧ (∀ y ∈ r.1, y.f0.size ≤ 100) ∧ p ≤ r.2 ∧ r.2 ≤ p + 10) := by
    intro c hc
    refine T.step (fun k => spec_l20Fields.j1.eq_2 ..) ?_
    refine T.ite (fun h => ?_) (fun _ => fin)
    obtain ⟨hi, ho⟩ := hc h
    refine T.bind (spec_pick_ l q 2 hb (by omega) (by omega)) ?_
    rintro ⟨a, q2⟩ ⟨rfl, _⟩
    dsimp only
    have skip : ∀ o' : List S41, ∀ q', o'.length ≤ 4 → (∀ y ∈ o', y.f0.size ≤ 100) → p ≤ q' → q' ≤ q + 2 → T (fun k => spec_l20Fields.l0 k n o' [(⟨#[108, 101, 118, 101, 108]⟩ : ByteArray), (⟨#[111, 119, 110, 101, 114]⟩ : ByteArray), (⟨#[111, 112, 101, 110]⟩ : ByteArray), (⟨#[97, 103, 101]⟩ : ByteArray), (⟨#[98, 111, 115, 115]⟩ : ByteArray)] (wrap64 (i + 1)) l q') (fun r => r.1.length ≤ 4 ∧ (∀ y ∈ r.1, y.f0.size ≤ 100) ∧ p ≤ r.2 ∧ r.2 ≤ p + 10) := fun o' q' b2 b3 b4 b5 => by
      rw [w64 (by omega) (by omega)]
      exact ih (o', i + 1, q') ⟨by show 0 ≤ i + 1; omega, by show i + 1 ≤ 5; omega, b2, b3, b4, by show q' ≤ p + 2 * (i + 1); omega⟩ (by show (5 - (i + 1)).toNat < (5 - i).toNat; omega)
    refine T.ite (fun _ => T.ite (fun _ => T.ift a0 (T.ift (by simp only [List.length_cons, List.length_nil]; omega) ?_)) (fun _ => skip o _ a2 a3 (by omega) (by omega))) (fun _ => skip o _ a2 a3 (by omega) (by omega))
    refine T.bind (spec_kinded_ l _ _ n hb (by omega) (by omega)) ?_
    rintro ⟨x, y, q3⟩ rfl
    refine T.ift (by omega) ?_
    refine skip _ _ (by rw [List.length_append]; simp only [List.length_cons, List.length_nil]; omega) ?_ (by show p ≤ q + 1 + 1; omega) (by show q + 1 + 1 ≤ q + 2; omega)
    intro y hy
    rcases List.mem_append.1 hy with hy | hy
    · exact a3 y hy
    · rw [List.mem_singleton.1 hy]
      dsimp only
      have : i.toNat = 0 ∨ i.toNat = 1 ∨ i.toNat = 2 ∨ i.toNat = 3 ∨ i.toNat = 4 := by omega
      rcases this with h | h | h | h | h <;> simp only [rdOf, h] <;> decide
  refine T.step (fun k => spec_l20Fields.l0.eq_2 ..) ?_
  refine T.ite (fun hi => J _ (fun hc => ⟨?_, ?_⟩)) (fun _ => J _ (fun hc => absurd hc (by simp)))
  · simp only [List.length_cons, List.length_nil] at hi; omega
  · have := of_decide_eq_true hc; omega
/-! #### fields -/
def fieldM (n : ByteArray) : List S41 → Int × Int × Bool
  | [] => (0, 0, false)
  | x :: l => if x.f0.toList = n.toList then (x.f1.f0, x.f1.f1, true) else fieldM n l
theorem impl_FieldOf_ (l : List S41) (n : ByteArray) (hl : l.length ≤ 9223372036854775807) : T (fun k => impl_FieldOf.f k l n) (fun r => r = fieldM n l) := by
  unfold impl_FieldOf.f
  refine T.loop (fun (i : Int) k => impl_FieldOf.l0 k n l (l.length : Int) i) (fun i => ((l.length : Int) - i).toNat) (fun i => 0 ≤ i ∧ i ≤ l.length ∧ fieldM n (l.drop i.toNat) = fieldM n l) _ ?_ 0 ⟨by omega, by omega, rfl⟩
  rintro i ⟨h0, h1, h2⟩ ih
  refine T.step (fun k => impl_FieldOf.l0.eq_2 ..) ?_
  refine T.ite (fun hi => T.ift h0 (T.ift hi ?_)) (fun hi => T.now ?_)
  · rw [drop_at l z41 i h0 hi, fieldM] at h2
    refine T.ite (fun hc => T.now ?_) (fun hc => ?_)
    · rw [← h2]; exact (if_pos hc).symm
    · rw [w64 (by omega) (by omega)]
      exact ih (i + 1) ⟨by omega, by omega, by rw [← h2]; exact (if_neg hc).symm⟩ (by omega)
  · rw [← h2, drop_all l i hi]; rfl
theorem spec_FieldOf_ (l : List S41) (n : ByteArray) (hl : l.length ≤ 9223372036854775807) : T (fun k => spec_FieldOf.f k l n) (fun r => r = fieldM n l) := by
  unfold spec_FieldOf.f
  refine T.loop (fun (i : Int) k => spec_FieldOf.l0 k l n i) (fun i => ((l.length : Int) - i).toNat) (fun i => 0 ≤ i ∧ i ≤ l.length ∧ fieldM n (l.drop i.toNat) = fieldM n l) _ ?_ 0 ⟨by omega, by omega, rfl⟩
  rintro i ⟨h0, h1, h2⟩ ih
  refine T.step (fun k => spec_FieldOf.l0.eq_2 ..) ?_
  refine T.ite (fun hi => T.ift h0 ?_) (fun hi => T.now ?_)
  · rw [drop_at l z41 i h0 hi, fieldM] at h2
    refine T.ite (fun hc => T.now ?_) (fun hc => ?_)
    · rw [← h2]; exact (if_pos hc).symm
    · rw [w64 (by omega) (by omega)]
      exact ih (i + 1) ⟨by omega, by omega, by rw [← h2]; exact (if_neg hc).symm⟩ (by omega)
  · rw [← h2, drop_all l i hi]; rfl
theorem fieldM_not (n : ByteArray) : ∀ l : List S41, (∀ y ∈ l, ¬ y.f0.toList = n.toList) → fieldM n l = (0, 0, false)
  | [], _ => rfl
  | x :: l, h => by
    rw [fieldM, if_neg (h x (List.mem_cons_self ..))]
    exact fieldM_not n l (fun y hy => h y (List.mem_cons_of_mem _ hy))
theorem fieldM_found (n : ByteArray) : ∀ l : List S41, (fieldM n l).2.2 = true ∧ (l.filter (fun y => decide (¬ y.f0.toList = n.toList))).length < l.length ∨ fieldM n l = (0, 0, false) ∧ (l.filter (fun y => decide (¬ y.f0.toList = n.toList))).length = l.length
  | [] => .inr ⟨rfl, rfl⟩
  | x :: l => by
    by_cases h : x.f0.toList = n.toList
    · refine .inl ⟨by rw [fieldM, if_pos h], ?_⟩
      rw [List.filter_cons_of_neg (by simp [h]), List.length_cons]
      have := List.length_filter_le (fun y : S41 => decide (¬ y.f0.toList = n.toList)) l
      omega
    · rw [List.filter_cons_of_pos (by simp [h]), List.length_cons, List.length_cons, fieldM, if_neg h]
      rcases fieldM_found n l with ⟨a, b⟩ | ⟨a, b⟩
      · exact .inl ⟨a, by omega⟩
      · exact .inr ⟨a, by omega⟩
theorem FnFieldOf : laws_FnFieldOf.Pure := by
  intro l _ _ hw
  refine T.rounds ?_
  unfold laws_FnFieldOf.f
  refine T.ite (fun _ => T.now rfl) (fun _ => ?_)
  refine T.bind (P := fun r => r.1.length ≤ 4 ∧ r.2.size ≤ 100) ?_ ?_
  · unfold spec_DrawFieldOf.f
    obtain ⟨l', e, hb⟩ := spec_open_ l hw
    rw [e]
    refine T.bind (T.now (Q := fun x => x = _) rfl) ?_
    rintro _ rfl
    refine T.bind (spec_fields_ l' 0 4 hb (by omega) (by omega)) ?_
    rintro ⟨fs, q⟩ ⟨h1, _, h2, h3⟩
    dsimp only at h1 h2 h3 ⊢
    refine T.bind (spec_name_ l' q 9 hb (by omega) (by omega)) ?_
    rintro ⟨nm, q'⟩ ⟨hn, _⟩
    exact T.now ⟨h1, hn⟩
  rintro ⟨fs, n⟩ ⟨hl, hn⟩
  dsimp only at hl hn ⊢
  refine T.bind (impl_FieldOf_ fs n (by omega)) ?_
  rintro _ rfl
  refine T.bind (spec_FieldOf_ fs n (by omega)) ?_
  rintro _ rfl
  refine T.iff_ (by simp) ?_
  have fin : T (fun k => (laws_alive.f k).bind fun t128 => (some t128)) (fun r => r = true) := T.bind alive_ (by rintro _ rfl; exact T.now rfl)
  refine T.step (fun k => laws_FnFieldOf.j0.eq_2 ..) (T.iff_ (by simp) ?_)
  refine T.loop (fun (s : List S41 × Int) k => laws_FnFieldOf.l0 k fs n (fieldM n fs).2.2 s.1 s.2 (fieldM n fs).1 (fieldM n fs).2.1) (fun s => ((fs.length : Int) - s.2).toNat) (fun s => 0 ≤ s.2 ∧ s.2 ≤ fs.length ∧ s.1 = (fs.take s.2.toNat).filter (fun y => decide (¬ y.f0.toList = n.toList))) _ ?_ ([], 0) ⟨by simp, by simp, by simp⟩
  rintro ⟨o, i⟩ ⟨a0, a1, a2⟩ ih
  dsimp only at a0 a1 a2 ih ⊢
  have ho : o.length ≤ 4 := by
    rw [a2]
    have h1 := List.length_filter_le (fun y : S41 => decide (¬ y.f0.toList = n.toList)) (fs.take i.toNat)
    have h2 := List.length_take_le i.toNat fs
    have h3 := List.length_take_le' i.toNat fs
    omega
  refine T.step (fun k => laws_FnFieldOf.l0.eq_2 ..) ?_
  refine T.ite (fun hi => T.ift a0 ?_) (fun hi => ?_)
  · have ht : fs.take (i + 1).toNat = fs.take i.toNat ++ [rd_T41 fs i] := by
      rw [show (i + 1).toNat = i.toNat + 1 by omega, List.take_add_one, List.getElem?_eq_getElem (by omega : i.toNat < fs.length)]
      show _ = _ ++ [fs.getD i.toNat _]
      rw [List.getD_eq_getElem?_getD, List.getElem?_eq_getElem (by omega : i.toNat < fs.length)]
      rfl
    refine T.ite (fun hc => ?_) (fun hc => T.ift (by omega) ?_)
    · rw [w64 (by omega) (by omega)]
      refine ih (o, i + 1) ⟨by show 0 ≤ i + 1; omega, by show i + 1 ≤ _; omega, ?_⟩ (by show ((fs.length : Int) - (i + 1)).toNat < _; omega)
      show o = _
      rw [ht, List.filter_append, ← a2, List.filter_cons_of_neg (by simp [hc])]
      simp
    · rw [w64 (by omega) (by omega)]
      refine ih (_, i + 1) ⟨by show 0 ≤ i + 1; omega, by show i + 1 ≤ _; omega, ?_⟩ (by show ((fs.length : Int) - (i + 1)).toNat < _; omega)
      show o ++ [_] = _
      rw [ht, List.filter_append, ← a2, List.filter_cons_of_pos (by simp [hc])]
      simp
  · have : o = fs.filter (fun y => decide (¬ y.f0.toList = n.toList)) := by rw [a2, List.take_of_length_le (by omega)]
    refine T.bind (impl_FieldOf_ o n (by omega)) ?_
    rintro _ rfl
    rw [fieldM_not n o (by rw [this]; intro y hy; simpa using (List.mem_filter.1 hy).2)]
    refine T.iff_ (by simp) ?_
    rcases fieldM_found n fs with ⟨h1, h2⟩ | ⟨h1, h2⟩
    · rw [← this] at h2
      rw [h1]
      exact T.ift (by omega) (T.ift rfl fin)
    · rw [← this] at h2
      rw [h1]
      exact T.iff_ (by omega) (T.iff_ (by simp) (T.ift (by simp) fin))

end Go.Proofs.Ytefgbocbhohkeaa.Pure
