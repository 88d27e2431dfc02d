/- Each of all requests is valid, no two neighbours are the same, there are as many as there should be, and the program's AllRequests answers as the reference's, at every drawn world.
   Conditions: none beyond the statement's own. -/
import Derived.Test.YtoipfhdlgoaldaaPx1005
set_option linter.unusedVariables false
set_option linter.unusedSimpArgs false
namespace Go.Proofs.Ytoipfhdlgoaldaa.Pure
open Go.RowKit Go.Proofs.Ytoipfhdlgoaldaa.P Go.Proofs.YtoipfhdlgoaldaaW.PrintWords Go.Proofs.YtoipfhdlgoaldaaW.PrintLast

/-! #### rounds: 'T g Q': from some number of rounds on g answers, and the answer is as Q says -/
def T {α : Type} (g : Nat → Option α) (Q : α → Prop) : Prop := ∃ r, Ev g r ∧ Q r
theorem T.ev {α : Type} {g : Nat → Option α} {r : α} (h : Ev g r) : T g (fun x => x = r) := ⟨r, h, rfl⟩
theorem T.of_eq {α : Type} {g : Nat → Option α} {r : α} (h : T g (fun x => x = r)) : Ev g r := by
  obtain ⟨_, h, rfl⟩ := h
  exact h
theorem T.now {α : Type} {r : α} {Q : α → Prop} (h : Q r) : T (fun _ => some r) Q := ⟨r, Ev.now r, h⟩
theorem T.mono {α : Type} {g : Nat → Option α} {P Q : α → Prop} (h : T g P) (k : ∀ a, P a → Q a) : T g Q := by
  obtain ⟨r, h, p⟩ := h
  exact ⟨r, h, k r p⟩
theorem T.bind {α β : Type} {g : Nat → Option α} {f : Nat → α → Option β} {P : α → Prop} {Q : β → Prop} (h : T g P) (k : ∀ a, P a → T (fun n => f n a) Q) : T (fun n => (g n).bind (f n)) Q := by
  obtain ⟨a, h, p⟩ := h
  obtain ⟨r, k, q⟩ := k a p
  exact ⟨r, Ev.bind h k, q⟩
theorem T.ite {α : Type} {c : Prop} [Decidable c] {g f : Nat → Option α} {Q : α → Prop} (h : c → T g Q) (k : ¬ c → T f Q) : T (fun n => if c then g n else f n) Q := by
  by_cases hc : c
  · simpa only [if_pos hc] using h hc
  · simpa only [if_neg hc] using k hc
theorem T.ift {α : Type} {c : Prop} [Decidable c] {g f : Nat → Option α} {Q : α → Prop} (hc : c) (h : T g Q) : T (fun n => if c then g n else f n) Q := T.ite (fun _ => h) (fun n => absurd hc n)
theorem T.iff_ {α : Type} {c : Prop} [Decidable c] {g f : Nat → Option α} {Q : α → Prop} (hc : ¬ c) (h : T f Q) : T (fun n => if c then g n else f n) Q := T.ite (fun n => absurd n hc) (fun _ => h)
theorem T.step {α : Type} {g f : Nat → Option α} {Q : α → Prop} (h : ∀ k, g (k + 1) = f k) (k : T f Q) : T g Q := by
  obtain ⟨r, k, q⟩ := k
  exact ⟨r, Ev.step h k, q⟩
theorem T.rounds {g : Nat → Option Bool} (h : T g (fun x => x = true)) : ∃ k, g k = some true := (T.of_eq h).rounds
theorem T.congr {α : Type} {g f : Nat → Option α} {Q : α → Prop} (h : ∀ k, g k = f k) (k : T f Q) : T g Q := by
  obtain ⟨r, k, q⟩ := k
  exact ⟨r, Ev.congr h k, q⟩
theorem T.run {α : Type} {g : Nat → Option α} {Q : α → Prop} (h : T g Q) : ∃ r K, (∀ k, K ≤ k → g k = some r) ∧ Q r := by
  obtain ⟨r, ⟨K, h⟩, q⟩ := h
  exact ⟨r, K, h, q⟩
/-- A loop over what is left. -/
theorem T.loop {σ α : Type} (g : σ → Nat → Option α) (m : σ → Nat) (I : σ → Prop) (Q : α → Prop) (h : ∀ s, I s → (∀ s', I s' → m s' < m s → T (g s') Q) → T (g s) Q) : ∀ s, I s → T (g s) Q := by
  intro s
  induction hm : m s using Nat.strongRecOn generalizing s with
  | _ n ih =>
    intro hI
    exact h s hI (fun s' hI' hlt => ih (m s') (hm ▸ hlt) s' rfl hI')
theorem w64 {x : Int} (h : -9223372036854775808 ≤ x) (h' : x ≤ 9223372036854775807) : wrap64 x = x := by unfold wrap64; omega
theorem T.got {α β : Type} {r : α} {f : Nat → α → Option β} {Q : β → Prop} (h : T (fun n => f n r) Q) : T (fun n => (some r).bind (f n)) Q := h
/-! #### names -/
def lowB (s : ByteArray) : Bool := decide (∀ i : Nat, i < s.size → 97 ≤ bt s i ∧ bt s i ≤ 122)
def nameB (s : ByteArray) : Bool := lowB s && decide (1 ≤ s.size ∧ s.size ≤ 8)
theorem nameB_iff (s : ByteArray) : nameB s = true ↔ (∀ i : Nat, i < s.size → 97 ≤ bt s i ∧ bt s i ≤ 122) ∧ 1 ≤ s.size ∧ s.size ≤ 8 := by simp [nameB, lowB]
theorem nameB_low {s : ByteArray} (h : ¬ ∀ i : Nat, i < s.size → 97 ≤ bt s i ∧ bt s i ≤ 122) : nameB s = false := by
  have : ¬ (nameB s = true) := fun hn => h ((nameB_iff s).1 hn).1
  simpa using this
theorem impl_in_ (n a b : Int) : impl_in.f n a b = some (decide (a ≤ n ∧ n ≤ b)) := by
  unfold impl_in.f
  by_cases h : a ≤ n
  · rw [if_pos h]; simp [h]
  · rw [if_neg h]; simp [h]
theorem impl_NameValid_ (s : ByteArray) (hs : s.size ≤ 9223372036854775807) : T (fun k => impl_NameValid.f k s) (fun r => r = nameB s) := by
  unfold impl_NameValid.f
  refine T.loop (fun (i : Int) k => impl_NameValid.l0 k s (s.size : Int) i) (fun i => ((s.size : Int) - i).toNat) (fun i => 0 ≤ i ∧ i ≤ s.size ∧ ∀ j : Nat, (j : Int) < i → 97 ≤ bt s j ∧ bt s j ≤ 122) _ ?_ 0 ⟨by omega, by omega, fun j hj => by omega⟩
  rintro i ⟨h0, h1, hl⟩ ih
  refine T.step (fun k => impl_NameValid.l0.eq_2 ..) ?_
  refine T.ite (fun hi => ?_) (fun hi => ?_)
  · refine T.ift h0 (T.ift hi ?_)
    have e : ((i.toNat : Nat) : Int) = i := by omega
    have hb : bt s (i.toNat : Nat) = bt s i := by rw [e]
    refine T.ite (fun hc => T.now ?_) (fun hc => T.ite (fun hd => T.now ?_) (fun hd => ?_))
    · exact (nameB_low (fun h => by have := h i.toNat (by omega); rw [hb] at this; omega)).symm
    · exact (nameB_low (fun h => by have := h i.toNat (by omega); rw [hb] at this; omega)).symm
    · rw [w64 (by omega) (by omega)]
      refine ih (i + 1) ⟨by omega, by omega, fun j hj => ?_⟩ (by omega)
      by_cases hji : (j : Int) < i
      · exact hl j hji
      · have : (j : Int) = i := by omega
        rw [this]; omega
  · rw [impl_in_]
    refine T.now ?_
    have hi : i = s.size := by omega
    subst hi
    have : lowB s = true := decide_eq_true (fun j hj => hl j (by omega))
    rw [nameB, this, Bool.true_and]
    exact decide_eq_decide.mpr (by omega)
theorem alive_ : T (fun k => laws_alive.f k) (fun r => r = true) := by
  unfold laws_alive.f
  refine T.bind (impl_NameValid_ _ (by decide)) ?_
  rintro _ rfl
  exact T.now (by decide)
/-! #### the reader of codes -/
def Bytes (l : List Int) : Prop := l.length ≤ 2000 ∧ ∀ x ∈ l, 0 ≤ x ∧ x ≤ 255
theorem bytes_of {l : List Int} (h : ∀ x ∈ l, (Lit.int .u8 x).wf = true) (hl : l.length ≤ 2000) : Bytes l := ⟨hl, fun x hx => by
  have := h x hx
  simp [Lit.wf, IntKind.min, IntKind.max, IntKind.signed, IntKind.bits] at this
  omega⟩
theorem Bytes.at_ {l : List Int} (h : Bytes l) (i : Int) : 0 ≤ rd l i ∧ rd l i ≤ 255 := by
  unfold rd
  rw [List.getD_eq_getElem?_getD]
  cases hx : l[i.toNat]? with
  | none => simp
  | some x => exact h.2 x (List.mem_of_getElem? hx)
theorem xor_nat (a b j : Nat) (hj : j ≤ 63) (ha : a < 2 ^ j) (hb : b < 2 ^ j) : Go.bits .xor .i64 (a : Int) (b : Int) = ((a ^^^ b : Nat) : Int) := by
  have hp : 2 ^ j ≤ 2 ^ 63 := Nat.pow_le_pow_right (by decide) hj
  have hx : a ^^^ b < 2 ^ 63 := Nat.lt_of_lt_of_le (Nat.xor_lt_two_pow ha hb) hp
  have ha' : a % 2 ^ 64 = a := Nat.mod_eq_of_lt (by omega)
  have hb' : b % 2 ^ 64 = b := Nat.mod_eq_of_lt (by omega)
  simp only [Go.bits, BitVec.ofInt_natCast]
  rw [Go.IntKind.wrap_i64]
  show ((((BitVec.ofNat 64 a ^^^ BitVec.ofNat 64 b).toNat : Nat) : Int) + 9223372036854775808) % 18446744073709551616 - 9223372036854775808 = _
  rw [BitVec.toNat_xor, BitVec.toNat_ofNat, BitVec.toNat_ofNat, ha', hb']
  omega
theorem tmod_in {x n : Int} (hx : 0 ≤ x) (hn : 1 ≤ n) : 0 ≤ Int.tmod x n ∧ Int.tmod x n < n := by
  rw [Int.tmod_eq_emod_of_nonneg hx]
  exact ⟨Int.emod_nonneg _ (by omega), Int.emod_lt_of_pos _ (by omega)⟩
theorem tdiv_in {x n : Int} (hx : 0 ≤ x) (hn : 1 ≤ n) : 0 ≤ Int.tdiv x n ∧ Int.tdiv x n ≤ x := by
  rw [Int.tdiv_eq_ediv_of_nonneg hx]
  exact ⟨Int.ediv_nonneg hx (by omega), Int.ediv_le_self _ hx⟩
/-- What a draw of a number hands back: the place has gone on by one. -/
def Pick (p n : Int) (r : Int × Int) : Prop := r.2 = p + 1 ∧ 0 ≤ r.1 ∧ (1 ≤ n → r.1 < n) ∧ (n < 1 → r.1 = 0)
theorem spec_pick_ (l : List Int) (p n : Int) (hb : Bytes l) (h0 : 0 ≤ p) (h1 : p ≤ 1000000000000) : T (fun k => spec_l20Rd_pick.f k l p n) (Pick p n) := by
  unfold spec_l20Rd_pick.f
  have hp : wrap64 (p + 1) = p + 1 := w64 (by omega) (by omega)
  have hk : wrap64 (p + 1 - 1) = p := by rw [show p + 1 - 1 = p by omega]; exact w64 (by omega) (by omega)
  rw [hp]
  refine T.ite (fun hn => ?_) (fun hn => ?_)
  · refine T.step (fun k => spec_l20Rd_pick.j0.eq_2 ..) (T.ift rfl (T.now ⟨rfl, by simp, fun h => by omega, fun _ => rfl⟩))
  · refine T.step (fun k => spec_l20Rd_pick.j0.eq_2 ..) ?_
    refine T.ite (fun hz => T.now ⟨rfl, by simp, fun h => by show (0 : Int) < n; omega, fun _ => rfl⟩) (fun hz => ?_)
    have hz : (l.length : Int) ≠ 0 := by simpa using hz
    have hlen := hb.1
    rw [hk]
    have hn1 : 1 ≤ n := by omega
    refine T.ite (fun hlt => ?_) (fun hge => ?_)
    · refine T.ift h0 (T.iff_ (by omega) (T.now ?_))
      have hr := hb.at_ p
      rw [w64 (by omega) (by omega)]
      have ht := tmod_in hr.1 hn1
      exact ⟨rfl, ht.1, fun _ => ht.2, fun h => by omega⟩
    · have m1 := tmod_in h0 (show (1 : Int) ≤ l.length by omega)
      have e7 : wrap64 (p * 7) = p * 7 := w64 (by omega) (by omega)
      have e73 : wrap64 (p * 7 + 3) = p * 7 + 3 := w64 (by omega) (by omega)
      have m2 := tmod_in (show (0 : Int) ≤ p * 7 + 3 by omega) (show (1 : Int) ≤ l.length by omega)
      have q1 := tdiv_in h0 (show (1 : Int) ≤ l.length by omega)
      rw [e7, e73]
      refine T.iff_ (by omega) (T.ift m1.1 (T.ift m1.2 (T.ift m2.1 (T.ift m2.2 (T.iff_ (by omega) (T.now ?_))))))
      have r1 := hb.at_ (Int.tmod p l.length)
      have r2 := hb.at_ (Int.tmod (p * 7 + 3) l.length)
      generalize rd l (Int.tmod p l.length) = u at r1 ⊢
      generalize rd l (Int.tmod (p * 7 + 3) l.length) = v at r2 ⊢
      generalize Int.tdiv p l.length = q at q1 ⊢
      have a1 : wrap64 u = u := w64 (by omega) (by omega)
      have a2 : wrap64 v = v := w64 (by omega) (by omega)
      have a3 : wrap64 (u * 131) = u * 131 := w64 (by omega) (by omega)
      have a4 : wrap64 (v * 1117) = v * 1117 := w64 (by omega) (by omega)
      have a5 : wrap64 (u * 131 + v * 1117) = u * 131 + v * 1117 := w64 (by omega) (by omega)
      have a6 : wrap64 (p * 29) = p * 29 := w64 (by omega) (by omega)
      have a7 : wrap64 (u * 131 + v * 1117 + p * 29) = u * 131 + v * 1117 + p * 29 := w64 (by omega) (by omega)
      have a8 : wrap64 q = q := w64 (by omega) (by omega)
      have a9 : wrap64 (q * 53) = q * 53 := w64 (by omega) (by omega)
      have a10 : wrap64 (u * 131 + v * 1117 + p * 29 + q * 53) = u * 131 + v * 1117 + p * 29 + q * 53 := w64 (by omega) (by omega)
      rw [a1, a2, a3, a4, a5, a6, a7, a8, a9, a10]
      have hx0 : 0 ≤ u * 131 + v * 1117 + p * 29 + q * 53 := by omega
      have hx1 : u * 131 + v * 1117 + p * 29 + q * 53 < 2 ^ 50 := by omega
      generalize u * 131 + v * 1117 + p * 29 + q * 53 = x at hx0 hx1 ⊢
      have d := tdiv_in hx0 (show (1 : Int) ≤ 64 by omega)
      rw [show wrap64 (Int.tdiv x 64) = Int.tdiv x 64 from w64 (by omega) (by omega)]
      have hxor : 0 ≤ Go.bits .xor .i64 x (Int.tdiv x 64) := by
        generalize Int.tdiv x 64 = y at d ⊢
        obtain ⟨a, rfl⟩ := Int.eq_ofNat_of_zero_le hx0
        obtain ⟨b, rfl⟩ := Int.eq_ofNat_of_zero_le d.1
        rw [xor_nat a b 50 (by decide) (by omega) (by omega)]
        omega
      have ht := tmod_in hxor hn1
      exact ⟨rfl, ht.1, fun _ => ht.2, fun h => by omega⟩
theorem spec_open_ (l : List Int) (h : ∀ x ∈ l, (Lit.int .u8 x).wf = true) : ∃ l', spec_l20Open.f l = some (l', 0) ∧ Bytes l' := by
  unfold spec_l20Open.f
  by_cases h1 : (l.length : Int) > 2000
  · refine ⟨l.take 2000, by rw [if_pos h1, if_pos (by omega)], bytes_of (fun x hx => h x (List.mem_of_mem_take hx)) (by rw [List.length_take]; omega)⟩
  · exact ⟨l, by rw [if_neg h1], bytes_of h (by omega)⟩
def Odd1 (p : Int) (r : Bool × Int) : Prop := p ≤ r.2 ∧ r.2 ≤ p + 1
theorem spec_odd_ (l : List Int) (p n : Int) (hb : Bytes l) (h0 : 0 ≤ p) (h1 : p ≤ 1000000000000) : T (fun k => spec_l20Rd_odd.f k l p n) (Odd1 p) := by
  unfold spec_l20Rd_odd.f
  refine T.ite (fun hn => ?_) (fun _ => T.now ⟨by show p ≤ p; omega, by show p ≤ p + 1; omega⟩)
  refine T.bind (spec_pick_ l p n hb h0 h1) ?_
  rintro ⟨a, q⟩ ⟨rfl, _⟩
  exact T.now ⟨by show p ≤ p + 1; omega, by show p + 1 ≤ p + 1; omega⟩
/-! #### texts and lists -/
theorem tl_inj {a b : ByteArray} : a.toList = b.toList ↔ a = b := by
  rw [ByteArray.toList_eq, ByteArray.toList_eq]
  constructor
  · intro h
    cases a; cases b
    exact congrArg ByteArray.mk (Array.toList_inj.1 h)
  · rintro rfl
    rfl
theorem drop_at {α : Type} (l : List α) (z : α) (i : Int) (h0 : 0 ≤ i) (h1 : i < l.length) : l.drop i.toNat = l.getD i.toNat z :: l.drop (i + 1).toNat := by
  have h : i.toNat < l.length := by omega
  rw [List.drop_eq_getElem_cons h, List.getD_eq_getElem?_getD, List.getElem?_eq_getElem h]
  simp only [Option.getD_some]
  rw [show (i + 1).toNat = i.toNat + 1 by omega]
theorem drop_all {α : Type} (l : List α) (i : Int) (h : ¬ i < l.length) : l.drop i.toNat = [] := List.drop_of_length_le (by omega)
theorem get_mem {α : Type} (l : List α) (z : α) (i : Int) (h0 : 0 ≤ i) (h1 : i < l.length) : l.getD i.toNat z ∈ l := by
  have h : i.toNat < l.length := by omega
  rw [List.getD_eq_getElem?_getD, List.getElem?_eq_getElem h]
  exact List.getElem_mem h
/-- A loop that counts up to n. -/
theorem T.count {α : Type} (n : Nat) (g : Int → Nat → Option α) (Q : α → Prop) (fin : T (g n) Q) (step : ∀ i : Int, 0 ≤ i → i < n → T (g (i + 1)) Q → T (g i) Q) : ∀ i : Int, 0 ≤ i → i ≤ n → T (g i) Q := by
  refine fun i h0 h1 => T.loop g (fun i => (n - i).toNat) (fun i => 0 ≤ i ∧ i ≤ n) Q ?_ i ⟨h0, h1⟩
  rintro i ⟨h0, h1⟩ ih
  by_cases hi : i = n
  · rw [hi]; exact fin
  · exact step i h0 (by omega) (ih (i + 1) ⟨by omega, by omega⟩ (by omega))
/-- A loop that turns each element of a list into one of a list of the same length. -/
theorem T.turn {α β γ : Type} (za : α) (l : List α) (c : α → β) (g : List β → Int → Nat → Option γ) (Q : γ → Prop) (fin : T (g (l.map c) l.length) Q)
    (step : ∀ (out : List β) (i : Int), 0 ≤ i → i < l.length → out.length = l.length → T (g (out.set i.toNat (c (l.getD i.toNat za))) (i + 1)) Q → T (g out i) Q) (out : List β) (hl : out.length = l.length) : T (g out 0) Q := by
  refine T.loop (fun (s : List β × Int) => g s.1 s.2) (fun s => (l.length - s.2).toNat) (fun s => 0 ≤ s.2 ∧ s.2 ≤ l.length ∧ s.1.length = l.length ∧ ∀ j : Nat, (j : Int) < s.2 → s.1[j]? = (l[j]?).map c) Q ?_ (out, 0) ⟨by simp, by simp, hl, fun j hj => absurd hj (by simp)⟩
  rintro ⟨o, i⟩ ⟨h0, h1, h2, h3⟩ ih
  dsimp only at h0 h1 h2 h3 ih ⊢
  by_cases hi : i = l.length
  · have : o = l.map c := List.ext_getElem? (fun j => by
      by_cases hj : (j : Int) < i
      · rw [h3 j hj, List.getElem?_map]
      · rw [List.getElem?_eq_none (by omega), List.getElem?_eq_none (by rw [List.length_map]; omega)])
    rw [this, hi]; exact fin
  · refine step o i h0 (by omega) h2 (ih (_, i + 1) ⟨by show 0 ≤ i + 1; omega, by show i + 1 ≤ _; omega, by rw [List.length_set]; exact h2, fun j hj => ?_⟩ (by show ((l.length : Int) - (i + 1)).toNat < (l.length - i).toNat; omega))
    dsimp only at hj ⊢
    rw [List.getElem?_set]
    by_cases hji : i.toNat = j
    · rw [if_pos hji, if_pos (by omega)]
      subst hji
      rw [List.getD_eq_getElem?_getD, List.getElem?_eq_getElem (by omega : i.toNat < l.length)]
      rfl
    · rw [if_neg hji]
      exact h3 j (by omega)
theorem spec_kinded_ (l : List Int) (p : Int) (s : ByteArray) (n : Int) (hb : Bytes l) (h0 : 0 ≤ p) (h1 : p ≤ 900000000000) : T (fun k => spec_l20Kinded.f k l p s n) (fun r => r.2.2 = p + 1) := by
  unfold spec_l20Kinded.f
  have J : ∀ c : Bool, T (fun k => spec_l20Kinded.j0 k n s c l p) (fun r => r.2.2 = p + 1) := by
    intro c
    refine T.step (fun k => spec_l20Kinded.j0.eq_2 ..) ?_
    refine T.ite (fun _ => ?_) (fun _ => T.ite (fun _ => ?_) (fun _ => ?_)) <;>
    · refine T.bind (spec_pick_ l p _ hb h0 (by omega)) ?_
      rintro ⟨a, q⟩ ⟨rfl, _⟩
      exact T.now rfl
  exact T.ite (fun _ => J _) (fun _ => J _)
theorem spec_fields_ (l : List Int) (p n : Int) (hb : Bytes l) (h0 : 0 ≤ p) (h1 : p ≤ 800000000000) :
    T (fun k => spec_l20Fields.f k l p n) (fun r => r.1.length ≤ 4 ∧ (∀ y ∈ r.1, y.f0.size ≤ 100) ∧ p ≤ r.2 ∧ r.2 ≤ p + 10) := by
  unfold spec_l20Fields.f
  refine T.loop (fun (s : List S55 × Int × Int) k => spec_l20Fields.l0 k n s.1 [(⟨#[108, 101, 118, 101, 108]⟩ : ByteArray), (⟨#[111, 119, 110, 101, 114]⟩ : ByteArray), (⟨#[111, 112, 101, 110]⟩ : ByteArray), (⟨#[97, 103, 101]⟩ : ByteArray), (⟨#[98, 111, 115, 115]⟩ : ByteArray)] s.2.1 l s.2.2) (fun s => (5 - s.2.1).toNat) (fun s => 0 ≤ s.2.1 ∧ s.2.1 ≤ 5 ∧ s.1.length ≤ 4 ∧ (∀ y ∈ s.1, y.f0.size ≤ 100) ∧ p ≤ s.2.2 ∧ s.2.2 ≤ p + 2 * s.2.1) _ ?_ ([], 0, p) ⟨by simp, by simp, by simp, fun y hy => absurd hy (by simp), by simp, by show p ≤ p + 2 * 0; omega⟩
  rintro ⟨o, i, q⟩ ⟨a0, a1, a2, a3, a4, a5⟩ ih
  dsimp only at a0 a1 a2 a3 a4 a5 ih ⊢
  have fin : T (fun _ : Nat => some (o, q)) (fun r : List S55 × Int => r.1.length ≤ 4 ∧ (∀ y ∈ r.1, y.f0.size ≤ 100) ∧ p ≤ r.2 ∧ r.2 ≤ p + 10) := T.now ⟨a2, a3, a4, by show q ≤ p + 10; omega⟩
  have J : ∀ c : Bool, (c = true → i < 5 ∧ o.length < 4) → T (fun k => spec_l20Fields.j1 k n o [(⟨#[108, 101, 118, 101, 108]⟩ : ByteArray), (⟨#[111, 119, 110, 101, 114]⟩ : ByteArray), (⟨#[111, 112, 101, 110]⟩ : ByteArray), (⟨#[97, 103, 101]⟩ : ByteArray), (⟨#[98, 111, 115, 115]⟩ : ByteArray)] i c l q) (fun r => r.1.length ≤ 4 ∧ (∀ y ∈ r.1, y.f0.size ≤ 100) ∧ p ≤ r.2 ∧ r.2 ≤ p + 10) := by
    intro c hc
    refine T.step (fun k => spec_l20Fields.j1.eq_2 ..) ?_
    refine T.ite (fun h => ?_) (fun _ => fin)
    obtain ⟨hi, ho⟩ := hc h
    refine T.bind (spec_pick_ l q 2 hb (by omega) (by omega)) ?_
    rintro ⟨a, q2⟩ ⟨rfl, _⟩
    dsimp only
    have skip : ∀ o' : List S55, ∀ q', o'.length ≤ 4 → (∀ y ∈ o', y.f0.size ≤ 100) → p ≤ q' → q' ≤ q + 2 → T (fun k => spec_l20Fields.l0 k n o' [(⟨#[108, 101, 118, 101, 108]⟩ : ByteArray), (⟨#[111, 119, 110, 101, 114]⟩ : ByteArray), (⟨#[111, 112, 101, 110]⟩ : ByteArray), (⟨#[97, 103, 101]⟩ : ByteArray), (⟨#[98, 111, 115, 115]⟩ : ByteArray)] (wrap64 (i + 1)) l q') (fun r => r.1.length ≤ 4 ∧ (∀ y ∈ r.1, y.f0.size ≤ 100) ∧ p ≤ r.2 ∧ r.2 ≤ p + 10) := fun o' q' b2 b3 b4 b5 => by
      rw [w64 (by omega) (by omega)]
      exact ih (o', i + 1, q') ⟨by show 0 ≤ i + 1; omega, by show i + 1 ≤ 5; omega, b2, b3, b4, by show q' ≤ p + 2 * (i + 1); omega⟩ (by show (5 - (i + 1)).toNat < (5 - i).toNat; omega)
    refine T.ite (fun _ => T.ite (fun _ => T.ift a0 (T.ift (by simp only [List.length_cons, List.length_nil]; omega) ?_)) (fun _ => skip o _ a2 a3 (by omega) (by omega))) (fun _ => skip o _ a2 a3 (by omega) (by omega))
    refine T.bind (spec_kinded_ l _ _ n hb (by omega) (by omega)) ?_
    rintro ⟨x, y, q3⟩ rfl
    refine T.ift (by omega) ?_
    refine skip _ _ (by rw [List.length_append]; simp only [List.length_cons, List.length_nil]; omega) ?_ (by show p ≤ q + 1 + 1; omega) (by show q + 1 + 1 ≤ q + 2; omega)
    intro y hy
    rcases List.mem_append.1 hy with hy | hy
    · exact a3 y hy
    · rw [List.mem_singleton.1 hy]
      dsimp only
      have : i.toNat = 0 ∨ i.toNat = 1 ∨ i.toNat = 2 ∨ i.toNat = 3 ∨ i.toNat = 4 := by omega
      rcases this with h | h | h | h | h <;> simp only [rdOf, h] <;> decide
  refine T.step (fun k => spec_l20Fields.l0.eq_2 ..) ?_
  refine T.ite (fun hi => J _ (fun hc => ⟨?_, ?_⟩)) (fun _ => J _ (fun hc => absurd hc (by simp)))
  · simp only [List.length_cons, List.length_nil] at hi; omega
  · have := of_decide_eq_true hc; omega
/-! #### values -/
def valueB (kd n many : Int) : Bool := if kd = 1 then decide (0 ≤ n ∧ n ≤ 1) else if kd = 2 then decide (0 ≤ n ∧ n ≤ 99) else if kd = 3 then decide (0 ≤ n ∧ n < many) else false
theorem impl_ValueValid_ (kd n many : Int) : impl_ValueValid.f kd n many = some (valueB kd n many) := by
  unfold impl_ValueValid.f valueB
  by_cases h1 : kd = 1
  · rw [if_pos h1, if_pos h1, impl_in_]; rfl
  rw [if_neg h1, if_neg h1]
  by_cases h2 : kd = 2
  · rw [if_pos h2, if_pos h2, impl_in_]; rfl
  rw [if_neg h2, if_neg h2]
  by_cases h3 : kd = 3
  · rw [if_pos h3, if_pos h3]
    by_cases h : n ≥ 0
    · rw [if_pos h]; simp [show 0 ≤ n from h]
    · rw [if_neg h]; simp [show ¬ 0 ≤ n from h]
  · rw [if_neg h3, if_neg h3]
/-! #### fields and worlds -/
def fieldAt (l : List S55) (many i : Int) : Prop := nameB (rd_T55 l i).f0 = true ∧ valueB (rd_T55 l i).f1.f0 (rd_T55 l i).f1.f1 many = true ∧ ∀ j : Int, 0 ≤ j → j < i → ¬ (rd_T55 l j).f0 = (rd_T55 l i).f0
def FieldsOk (l : List S55) (many : Int) : Prop := (∀ i : Int, 0 ≤ i → i < l.length → fieldAt l many i) ∧ (l.length : Int) ≤ 4
def ascAt (g : List Int) (hi j : Int) : Prop := 0 ≤ rd g j ∧ rd g j ≤ hi ∧ (0 < j → rd g (j - 1) < rd g j)
def AscOk (g : List Int) (hi : Int) : Prop := ∀ j : Int, 0 ≤ j → j < g.length → ascAt g hi j
def thingAt (w : List S74) (many i : Int) : Prop := AscOk (rd_T74 w i).f0 (i - 1) ∧ FieldsOk (rd_T74 w i).f1 many
def WorldOk (w : List S74) : Prop := (w.length : Int) ≤ 7 ∧ ∀ i : Int, 0 ≤ i → i < w.length → thingAt w w.length i
/-- Nothing in it is too long. -/
def ShortF (l : List S55) : Prop := l.length ≤ 9223372036854775806 ∧ ∀ y ∈ l, y.f0.size ≤ 9223372036854775807
def ShortT (x : S74) : Prop := x.f0.length ≤ 9223372036854775806 ∧ ShortF x.f1
def ShortW (w : List S74) : Prop := w.length ≤ 9223372036854775806 ∧ ∀ x ∈ w, ShortT x
theorem ShortF.of {l : List S55} (h : l.length ≤ 10) (hs : ∀ y ∈ l, y.f0.size ≤ 100) : ShortF l := ⟨by omega, fun y hy => by have := hs y hy; omega⟩
theorem ShortW.snoc {w : List S74} {x : S74} (h : ∀ y ∈ w, ShortT y) (hx : ShortT x) : ∀ y ∈ w ++ [x], ShortT y := fun y hy => by
  rcases List.mem_append.1 hy with hy | hy
  · exact h y hy
  · rw [List.mem_singleton.1 hy]; exact hx
theorem spec_TruthOf_one : spec_TruthOf.f true = some (1, 1) := rfl
theorem spec_things_ (l : List Int) (p n : Int) (hb : Bytes l) (h0 : 0 ≤ p) (h1 : p ≤ 700000000000) :
    T (fun k => spec_l20Things.f k l p n) (fun r => r.1.length ≤ 8 ∧ (∀ y ∈ r.1, ShortT y) ∧ p ≤ r.2 ∧ r.2 ≤ p + 200) := by
  unfold spec_l20Things.f
  refine T.bind (spec_pick_ l p 6 hb h0 (by omega)) ?_
  rintro ⟨many, q⟩ ⟨rfl, m0, m1, _⟩
  dsimp only at m0 m1 ⊢
  have m1 := m1 (by omega)
  refine T.loop (fun (s : List S74 × Int × Int) k => spec_l20Things.l0 k n s.1 many s.2.1 l s.2.2) (fun s => (many - s.2.1).toNat) (fun s => 0 ≤ s.2.1 ∧ s.2.1 ≤ many ∧ (s.1.length : Int) = s.2.1 ∧ (∀ y ∈ s.1, ShortT y) ∧ p + 1 ≤ s.2.2 ∧ s.2.2 ≤ p + 1 + 20 * s.2.1) _ ?_ ([], 0, p + 1) ⟨by simp, m0, by simp, fun y hy => absurd hy (by simp), by simp, by show p + 1 ≤ p + 1 + 20 * 0; omega⟩
  rintro ⟨o, i, q⟩ ⟨a0, a1, a2, a3, a4, a5⟩ ih
  dsimp only at a0 a1 a2 a3 a4 a5 ih ⊢
  refine T.step (fun k => spec_l20Things.l0.eq_2 ..) ?_
  refine T.ite (fun hi => ?_) (fun hi => ?_)
  · refine T.bind (spec_fields_ l q many hb (by omega) (by omega)) ?_
    rintro ⟨fs, q2⟩ ⟨f1, f2, f3, f4⟩
    dsimp only at f1 f2 f3 f4 ⊢
    refine T.loop (fun (s : Int × Int × List Int) k => spec_l20Things.l1 k n o many i s.1 l s.2.1 s.2.2 fs) (fun s => (i - s.1).toNat) (fun s => 0 ≤ s.1 ∧ s.1 ≤ i ∧ q2 ≤ s.2.1 ∧ s.2.1 ≤ q2 + s.1 ∧ s.2.2.length ≤ s.1) _ ?_ (0, q2, []) ⟨by simp, a0, by simp, by show q2 ≤ q2 + 0; omega, by simp⟩
    rintro ⟨j, q3, g⟩ ⟨j0, j1, j2, j3, j4⟩ ihj
    dsimp only at j0 j1 j2 j3 j4 ihj ⊢
    refine T.step (fun k => spec_l20Things.l1.eq_2 ..) ?_
    refine T.ite (fun hj => ?_) (fun hj => T.ift (by omega) ?_)
    · refine T.bind (spec_pick_ l q3 4 hb (by omega) (by omega)) ?_
      rintro ⟨a, q4⟩ ⟨rfl, _⟩
      dsimp only
      rw [w64 (by omega) (by omega)]
      refine T.ite (fun _ => T.ift (by omega) ?_) (fun _ => ?_)
      · exact ihj (j + 1, q3 + 1, g ++ [j]) ⟨by show 0 ≤ j + 1; omega, by show j + 1 ≤ i; omega, by show q2 ≤ q3 + 1; omega, by show q3 + 1 ≤ q2 + (j + 1); omega, by show ((g ++ [j]).length : Int) ≤ j + 1; rw [List.length_append]; simp only [List.length_cons, List.length_nil]; omega⟩ (by show (i - (j + 1)).toNat < _; omega)
      · exact ihj (j + 1, q3 + 1, g) ⟨by show 0 ≤ j + 1; omega, by show j + 1 ≤ i; omega, by show q2 ≤ q3 + 1; omega, by show q3 + 1 ≤ q2 + (j + 1); omega, by show (g.length : Int) ≤ j + 1; omega⟩ (by show (i - (j + 1)).toNat < _; omega)
    · rw [w64 (by omega) (by omega)]
      refine ih (o ++ [⟨g, fs⟩], i + 1, q3) ⟨by show 0 ≤ i + 1; omega, by show i + 1 ≤ many; omega, by show ((o ++ [_]).length : Int) = i + 1; rw [List.length_append]; simp only [List.length_cons, List.length_nil]; omega, ShortW.snoc a3 ⟨by show g.length ≤ _; omega, ShortF.of (by show fs.length ≤ _; omega) f2⟩, by show p + 1 ≤ q3; omega, by show q3 ≤ p + 1 + 20 * (i + 1); omega⟩ (by show (many - (i + 1)).toNat < _; omega)
  · refine T.bind (spec_odd_ l q n hb (by omega) (by omega)) ?_
    rintro ⟨c, q2⟩ ⟨c0, c1⟩
    dsimp only at c0 c1 ⊢
    have lo : ∀ x : S74, (o ++ [x]).length ≤ 8 := fun x => by rw [List.length_append]; simp only [List.length_cons, List.length_nil]; omega
    refine T.ite (fun _ => ?_) (fun _ => T.now ⟨by show o.length ≤ 8; omega, a3, by show p ≤ q2; omega, by show q2 ≤ p + 200; omega⟩)
    refine T.bind (spec_pick_ l q2 4 hb (by omega) (by omega)) ?_
    rintro ⟨a, q4⟩ ⟨rfl, _⟩
    dsimp only
    have sA : (⟨#[65]⟩ : ByteArray).size ≤ 100 := by decide
    have sa : (⟨#[97]⟩ : ByteArray).size ≤ 100 := by decide
    have sg : ∀ g : List Int, g.length ≤ 5 → g.length ≤ 9223372036854775806 := fun g h => by omega
    refine T.ite (fun _ => T.ift (by omega) (T.now ⟨lo _, ShortW.snoc a3 ⟨sg _ (by simp), ShortF.of (by simp) (by simp)⟩, by show p ≤ q2 + 1; omega, by show q2 + 1 ≤ p + 200; omega⟩)) (fun _ => T.ite (fun _ => T.ift (by omega) (T.now ⟨lo _, ShortW.snoc a3 ⟨sg _ (by simp), ShortF.of (by simp) (fun y hy => ?_)⟩, by show p ≤ q2 + 1; omega, by show q2 + 1 ≤ p + 200; omega⟩)) (fun _ => T.ite (fun _ => ?_) (fun _ => T.ift (by omega) (T.now ⟨by simp, fun y hy => ?_, by show p ≤ q2 + 1; omega, by show q2 + 1 ≤ p + 200; omega⟩))))
    · rw [List.mem_singleton.1 hy]; exact sA
    · rw [spec_TruthOf_one]
      refine T.got (T.got (T.ift (by omega) (T.now ⟨lo _, ShortW.snoc a3 ⟨sg _ (by simp), ShortF.of (by simp) (fun y hy => ?_)⟩, by show p ≤ q2 + 1; omega, by show q2 + 1 ≤ p + 200; omega⟩)))
      rcases List.mem_cons.1 hy with rfl | hy
      · exact sa
      · rw [List.mem_singleton.1 hy]; exact sa
    · rw [List.eq_of_mem_replicate hy]
      exact ⟨by simp [z74], ShortF.of (by simp [z74]) (by simp [z74])⟩
theorem ShortW.of {w : List S74} (h : w.length ≤ 100) (hs : ∀ y ∈ w, ShortT y) : ShortW w := ⟨by omega, hs⟩
/-! #### requests -/
def RequestOk (w : List S74) (who act what : Int) (fs : List S55) : Prop := WorldOk w ∧ (0 ≤ who ∧ who ≤ (w.length : Int) - 1) ∧ (0 ≤ what ∧ what ≤ (w.length : Int) - 1) ∧ (0 ≤ act ∧ act ≤ 3) ∧ FieldsOk fs w.length
theorem impl_fieldsValid_ (l : List S55) (many : Int) (hl : ShortF l) : T (fun k => impl_fieldsValid.f k l many) (fun r => r = true ↔ FieldsOk l many) := by
  unfold impl_fieldsValid.f
  have hlen := hl.1
  refine T.loop (fun (s : Int × List ByteArray) k => impl_fieldsValid.l0 k l many l (l.length : Int) s.1 s.2) (fun s => ((l.length : Int) - s.1).toNat) (fun s => 0 ≤ s.1 ∧ s.1 ≤ l.length ∧ (∀ m : Int, 0 ≤ m → m < s.1 → fieldAt l many m) ∧ ∀ n, n ∈ s.2 ↔ ∃ j : Int, 0 ≤ j ∧ j < s.1 ∧ (rd_T55 l j).f0 = n) _ ?_ (0, []) ⟨by simp, by simp, fun m h0 h1 => by dsimp only at h1; omega, fun n => ⟨fun h => absurd h (by simp), fun ⟨j, h0, h1, _⟩ => by dsimp only at h1; omega⟩⟩
  rintro ⟨i, ms⟩ ⟨h0, h1, h2, h3⟩ ih
  dsimp only at h0 h1 h2 h3 ih ⊢
  have bad : ¬ fieldAt l many i → i < l.length → T (fun _ => some false) (fun r => r = true ↔ FieldsOk l many) := fun h hi => T.now ⟨fun e => (by cases e), fun e => absurd (e.1 i h0 hi) h⟩
  refine T.step (fun k => impl_fieldsValid.l0.eq_2 ..) ?_
  refine T.ite (fun hi => T.ift h0 (T.ift hi ?_)) (fun hi => T.now ?_)
  · have hm : rd_T55 l i ∈ l := get_mem l z55 i h0 hi
    refine T.bind (impl_NameValid_ _ (hl.2 _ hm)) ?_
    rintro _ rfl
    refine T.ite (fun hn => ?_) (fun hn => bad (fun h => hn h.1) hi)
    refine T.ite (fun hs => bad (fun h => ?_) hi) (fun hs => ?_)
    · obtain ⟨j, j0, j1, e⟩ := (h3 _).1 ((memB_iff _ _).1 hs)
      exact h.2.2 j j0 j1 e
    rw [impl_ValueValid_]
    refine T.got ?_
    refine T.ite (fun hv => ?_) (fun hv => bad (fun h => hv h.2.1) hi)
    have hs' : ∀ j : Int, 0 ≤ j → j < i → ¬ (rd_T55 l j).f0 = (rd_T55 l i).f0 := fun j j0 j1 e => hs ((memB_iff _ _).2 ((h3 _).2 ⟨j, j0, j1, e⟩))
    rw [w64 (by omega) (by omega)]
    refine ih (i + 1, insB (rd_T55 l i).f0 ms) ⟨by show 0 ≤ i + 1; omega, by show i + 1 ≤ _; omega, fun m m0 m1 => ?_, fun n => ?_⟩ (by show ((l.length : Int) - (i + 1)).toNat < _; omega)
    · by_cases hmi : m < i
      · exact h2 m m0 hmi
      · dsimp only at m1
        obtain rfl : m = i := by omega
        exact ⟨hn, hv, hs'⟩
    · have hsb : memB (rd_T55 l i).f0 ms = false := by simpa using hs
      show n ∈ insB (rd_T55 l i).f0 ms ↔ ∃ j : Int, 0 ≤ j ∧ j < i + 1 ∧ (rd_T55 l j).f0 = n
      unfold insB
      rw [if_neg hs, List.mem_append, List.mem_singleton, h3]
      constructor
      · rintro (⟨j, j0, j1, e⟩ | e)
        · exact ⟨j, j0, by omega, e⟩
        · exact ⟨i, h0, by omega, e.symm⟩
      · rintro ⟨j, j0, j1, e⟩
        by_cases hji : j < i
        · exact .inl ⟨j, j0, hji, e⟩
        · obtain rfl : j = i := by omega
          exact .inr e.symm
  · obtain rfl : i = l.length := by omega
    rw [decide_eq_true_eq]
    exact ⟨fun h => ⟨h2, h⟩, fun h => h.2⟩
theorem impl_ascends_ (g : List Int) (hi : Int) (hg : g.length ≤ 9223372036854775806) (hh : hi ≤ 9223372036854775806) : T (fun k => impl_ascends.f k g 0 hi) (fun r => r = true ↔ AscOk g hi) := by
  unfold impl_ascends.f
  refine T.loop (fun (s : Int × Int) k => impl_ascends.l0 k s.1 hi g (g.length : Int) s.2) (fun s => ((g.length : Int) - s.2).toNat) (fun s => 0 ≤ s.2 ∧ s.2 ≤ g.length ∧ (∀ m : Int, 0 ≤ m → m < s.2 → ascAt g hi m) ∧ 0 ≤ s.1 ∧ (s.2 = 0 → s.1 = 0) ∧ (0 < s.2 → s.1 = rd g (s.2 - 1) + 1)) _ ?_ (0, 0) ⟨by simp, by simp, fun m h0 h1 => by dsimp only at h1; omega, by simp, fun _ => rfl, fun h => by dsimp only at h; omega⟩
  rintro ⟨low, i⟩ ⟨h0, h1, h2, h3, h4, h5⟩ ih
  dsimp only at h0 h1 h2 h3 h4 h5 ih ⊢
  refine T.step (fun k => impl_ascends.l0.eq_2 ..) ?_
  refine T.ite (fun hlt => T.ift h0 (T.ift hlt ?_)) (fun hlt => T.now ⟨fun _ m m0 m1 => h2 m m0 (by omega), fun _ => rfl⟩)
  rw [impl_in_]
  refine T.got ?_
  have key : (low ≤ rd g i ∧ rd g i ≤ hi) ↔ ascAt g hi i := by
    unfold ascAt
    by_cases hz : i = 0
    · have := h4 hz
      exact ⟨fun h => ⟨by omega, h.2, fun hp => by omega⟩, fun h => ⟨by omega, h.2.1⟩⟩
    · have := h5 (by omega)
      exact ⟨fun h => ⟨by omega, h.2, fun _ => by omega⟩, fun h => ⟨by have := h.2.2 (by omega); omega, h.2.1⟩⟩
  refine T.ite (fun hc => ?_) (fun hc => T.now ⟨fun e => (by cases e), fun e => absurd (decide_eq_true (key.2 (e i h0 hlt))) hc⟩)
  have hc := of_decide_eq_true hc
  rw [w64 (by omega) (by omega), w64 (by omega) (by omega)]
  refine ih (rd g i + 1, i + 1) ⟨by show 0 ≤ i + 1; omega, by show i + 1 ≤ _; omega, fun m m0 m1 => ?_, by show 0 ≤ rd g i + 1; omega, fun h => by dsimp only at h; omega, fun _ => ?_⟩ (by show ((g.length : Int) - (i + 1)).toNat < _; omega)
  · by_cases hmi : m < i
    · exact h2 m m0 hmi
    · dsimp only at m1
      obtain rfl : m = i := by omega
      exact key.1 hc
  · show rd g i + 1 = rd g (i + 1 - 1) + 1
    rw [show i + 1 - 1 = i by omega]
theorem impl_WorldValid_ (w : List S74) (hw : ShortW w) : T (fun k => impl_WorldValid.f k w) (fun r => r = true ↔ WorldOk w) := by
  unfold impl_WorldValid.f
  refine T.ite (fun h7 => T.now ⟨fun e => (by cases e), fun e => by have := e.1; omega⟩) (fun h7 => ?_)
  refine T.loop (fun (i : Int) k => impl_WorldValid.l0 k w w (w.length : Int) i) (fun i => ((w.length : Int) - i).toNat) (fun i => 0 ≤ i ∧ i ≤ w.length ∧ ∀ m : Int, 0 ≤ m → m < i → thingAt w w.length m) _ ?_ 0 ⟨by omega, by omega, fun m h0 h1 => by omega⟩
  rintro i ⟨h0, h1, h2⟩ ih
  refine T.step (fun k => impl_WorldValid.l0.eq_2 ..) ?_
  refine T.ite (fun hi => T.ift h0 (T.ift hi ?_)) (fun hi => T.now ⟨fun _ => ⟨by omega, fun m m0 m1 => h2 m m0 (by omega)⟩, fun _ => rfl⟩)
  have hm : rd_T74 w i ∈ w := get_mem w z74 i h0 hi
  have hx := hw.2 _ hm
  rw [w64 (by omega) (by omega)]
  refine T.bind (impl_ascends_ _ _ hx.1 (by omega)) ?_
  intro a ha
  refine T.ite (fun hc => ?_) (fun hc => T.now ⟨fun e => (by cases e), fun e => absurd (ha.2 (e.2 i h0 hi).1) hc⟩)
  refine T.bind (impl_fieldsValid_ _ _ hx.2) ?_
  intro b hb
  refine T.ite (fun hd => ?_) (fun hd => T.now ⟨fun e => (by cases e), fun e => absurd (hb.2 (e.2 i h0 hi).2) hd⟩)
  rw [w64 (by omega) (by omega)]
  refine ih (i + 1) ⟨by omega, by omega, fun m m0 m1 => ?_⟩ (by omega)
  by_cases hmi : m < i
  · exact h2 m m0 hmi
  · obtain rfl : m = i := by omega
    exact ⟨ha.1 hc, hb.1 hd⟩
theorem impl_isThing_ (w : List S74) (n : Int) (hw : w.length ≤ 9223372036854775806) : impl_isThing.f w n = some (decide (0 ≤ n ∧ n ≤ (w.length : Int) - 1)) := by
  unfold impl_isThing.f
  rw [w64 (by omega) (by omega), impl_in_]
  rfl
theorem impl_RequestValid_ (w : List S74) (who act what : Int) (fs : List S55) (hw : ShortW w) (hf : ShortF fs) : T (fun k => impl_RequestValid.f k w who act what fs) (fun r => r = true ↔ RequestOk w who act what fs) := by
  unfold impl_RequestValid.f
  have no : ¬ RequestOk w who act what fs → T (fun _ => some false) (fun r => r = true ↔ RequestOk w who act what fs) := fun h => T.now ⟨fun e => (by cases e), fun e => absurd e h⟩
  refine T.bind (impl_WorldValid_ w hw) ?_
  intro a ha
  refine T.ite (fun h1 => ?_) (fun h1 => no (fun e => h1 (ha.2 e.1)))
  rw [impl_isThing_ w _ hw.1]
  refine T.got ?_
  refine T.ite (fun h2 => ?_) (fun h2 => no (fun e => h2 (decide_eq_true e.2.1)))
  rw [impl_isThing_ w _ hw.1]
  refine T.got ?_
  refine T.ite (fun h3 => ?_) (fun h3 => no (fun e => h3 (decide_eq_true e.2.2.1)))
  have e : impl_isAct.f act = some (decide (0 ≤ act ∧ act ≤ 3)) := by
    unfold impl_isAct.f
    rw [impl_in_]
    rfl
  rw [e]
  refine T.got ?_
  refine T.ite (fun h4 => ?_) (fun h4 => no (fun e => h4 (decide_eq_true e.2.2.2.1)))
  refine T.bind (impl_fieldsValid_ fs _ hf) ?_
  intro b hb
  exact T.now ⟨fun h => ⟨ha.1 h1, of_decide_eq_true h2, of_decide_eq_true h3, of_decide_eq_true h4, hb.1 h⟩, fun h => hb.2 h.2.2.2.2⟩
theorem spec_l1In_ (n a b : Int) : spec_l1In.f n a b = some (decide (a ≤ n ∧ n ≤ b)) := by
  unfold spec_l1In.f
  by_cases h : n ≥ a
  · rw [if_pos h]; simp [show a ≤ n from h]
  · rw [if_neg h]; simp [show ¬ a ≤ n from h]
theorem spec_NameValid_ (s : ByteArray) (hs : s.size ≤ 9223372036854775807) : T (fun k => spec_NameValid.f k s) (fun r => r = nameB s) := by
  unfold spec_NameValid.f
  refine T.loop (fun (i : Int) k => spec_NameValid.l0 k s i) (fun i => ((s.size : Int) - i).toNat) (fun i => 0 ≤ i ∧ i ≤ s.size ∧ ∀ j : Nat, (j : Int) < i → 97 ≤ bt s j ∧ bt s j ≤ 122) _ ?_ 0 ⟨by omega, by omega, fun j hj => by omega⟩
  rintro i ⟨h0, h1, hl⟩ ih
  refine T.step (fun k => spec_NameValid.l0.eq_2 ..) ?_
  refine T.ite (fun hi => ?_) (fun hi => ?_)
  · refine T.ift h0 ?_
    have e : ((i.toNat : Nat) : Int) = i := by omega
    have hb : bt s (i.toNat : Nat) = bt s i := by rw [e]
    refine T.ite (fun hc => T.now ?_) (fun hc => T.ite (fun hd => T.now ?_) (fun hd => ?_))
    · exact (nameB_low (fun h => by have := h i.toNat (by omega); rw [hb] at this; omega)).symm
    · exact (nameB_low (fun h => by have := h i.toNat (by omega); rw [hb] at this; omega)).symm
    · rw [w64 (by omega) (by omega)]
      refine ih (i + 1) ⟨by omega, by omega, fun j hj => ?_⟩ (by omega)
      by_cases hji : (j : Int) < i
      · exact hl j hji
      · have : (j : Int) = i := by omega
        rw [this]; omega
  · rw [spec_l1In_]
    refine T.now ?_
    have hi : i = s.size := by omega
    subst hi
    have : lowB s = true := decide_eq_true (fun j hj => hl j (by omega))
    rw [nameB, this, Bool.true_and]
    exact decide_eq_decide.mpr (by omega)
theorem spec_ValueValid_ (kd n many : Int) : spec_ValueValid.f kd n many = some (valueB kd n many) := by
  unfold spec_ValueValid.f valueB
  by_cases h1 : kd = 1
  · rw [if_pos h1, if_pos h1, spec_l1In_]; rfl
  rw [if_neg h1, if_neg h1]
  by_cases h2 : kd = 2
  · rw [if_pos h2, if_pos h2, spec_l1In_]; rfl
  rw [if_neg h2, if_neg h2]
  by_cases h3 : kd = 3
  · rw [if_pos h3, if_pos h3]
    by_cases h : n ≥ 0
    · rw [if_pos h]; simp [show 0 ≤ n from h]
    · rw [if_neg h]; simp [show ¬ 0 ≤ n from h]
  · rw [if_neg h3, if_neg h3]
theorem spec_l2Fields_ (l : List S55) (many : Int) (hl : ShortF l) : T (fun k => spec_l2Fields.f k l many) (fun r => r = true ↔ FieldsOk l many) := by
  unfold spec_l2Fields.f
  have hlen := hl.1
  refine T.loop (fun (i : Int) k => spec_l2Fields.l0 k l many i) (fun i => ((l.length : Int) - i).toNat) (fun i => 0 ≤ i ∧ i ≤ l.length ∧ ∀ m : Int, 0 ≤ m → m < i → fieldAt l many m) _ ?_ 0 ⟨by omega, by omega, fun m h0 h1 => by omega⟩
  rintro i ⟨h0, h1, h2⟩ ih
  have bad : ¬ fieldAt l many i → i < l.length → T (fun _ => some false) (fun r => r = true ↔ FieldsOk l many) := fun h hi => T.now ⟨fun e => (by cases e), fun e => absurd (e.1 i h0 hi) h⟩
  refine T.step (fun k => spec_l2Fields.l0.eq_2 ..) ?_
  refine T.ite (fun hi => T.ift h0 ?_) (fun hi => T.now ?_)
  · have hm : rd_T55 l i ∈ l := get_mem l z55 i h0 hi
    have J : ∀ c : Bool, (c = true → ¬ fieldAt l many i) → (c = false → nameB (rd_T55 l i).f0 = true ∧ valueB (rd_T55 l i).f1.f0 (rd_T55 l i).f1.f1 many = true) → T (fun k => spec_l2Fields.j1 k l many i c) (fun r => r = true ↔ FieldsOk l many) := by
      intro c c1 c2
      refine T.step (fun k => spec_l2Fields.j1.eq_2 ..) ?_
      refine T.ite (fun hc => bad (c1 hc) hi) (fun hc => ?_)
      have c2 := c2 (by simpa using hc)
      refine T.loop (fun (j : Int) k => spec_l2Fields.l1 k l many i j) (fun j => (i - j).toNat) (fun j => 0 ≤ j ∧ j ≤ i ∧ ∀ m : Int, 0 ≤ m → m < j → ¬ (rd_T55 l m).f0 = (rd_T55 l i).f0) _ ?_ 0 ⟨by omega, by omega, fun m h0 h1 => by omega⟩
      rintro j ⟨j0, j1, j2⟩ ihj
      refine T.step (fun k => spec_l2Fields.l1.eq_2 ..) ?_
      refine T.ite (fun hj => T.ift j0 (T.ift (by omega) (T.ift h0 (T.ift hi ?_)))) (fun hj => ?_)
      · refine T.ite (fun he => bad (fun h => h.2.2 j j0 hj (tl_inj.1 he)) hi) (fun he => ?_)
        rw [w64 (by omega) (by omega)]
        refine ihj (j + 1) ⟨by omega, by omega, fun m m0 m1 => ?_⟩ (by omega)
        by_cases hmj : m < j
        · exact j2 m m0 hmj
        · obtain rfl : m = j := by omega
          exact fun e => he (tl_inj.2 e)
      · rw [w64 (by omega) (by omega)]
        refine ih (i + 1) ⟨by omega, by omega, fun m m0 m1 => ?_⟩ (by omega)
        by_cases hmi : m < i
        · exact h2 m m0 hmi
        · obtain rfl : m = i := by omega
          exact ⟨c2.1, c2.2, fun q q0 q1 => j2 q q0 (by omega)⟩
    refine T.bind (spec_NameValid_ _ (hl.2 _ hm)) ?_
    rintro _ rfl
    refine T.ite (fun hn => ?_) (fun hn => J _ (fun _ h => hn h.1) (fun h => by cases h))
    rw [spec_ValueValid_]
    refine T.got ?_
    exact J _ (fun hc h => by rw [h.2.1] at hc; cases hc) (fun hc => ⟨hn, by simpa using hc⟩)
  · obtain rfl : i = l.length := by omega
    rw [decide_eq_true_eq]
    exact ⟨fun h => ⟨h2, h⟩, fun h => h.2⟩
theorem spec_WorldValid_ (w : List S74) (hw : ShortW w) : T (fun k => spec_WorldValid.f k w) (fun r => r = true ↔ WorldOk w) := by
  unfold spec_WorldValid.f
  have hlen := hw.1
  refine T.loop (fun (i : Int) k => spec_WorldValid.l0 k w i) (fun i => ((w.length : Int) - i).toNat) (fun i => 0 ≤ i ∧ i ≤ w.length ∧ ∀ m : Int, 0 ≤ m → m < i → thingAt w w.length m) _ ?_ 0 ⟨by omega, by omega, fun m h0 h1 => by omega⟩
  rintro i ⟨h0, h1, h2⟩ ih
  have bad : ¬ thingAt w w.length i → i < w.length → T (fun _ => some false) (fun r => r = true ↔ WorldOk w) := fun h hi => T.now ⟨fun e => (by cases e), fun e => absurd (e.2 i h0 hi) h⟩
  refine T.step (fun k => spec_WorldValid.l0.eq_2 ..) ?_
  refine T.ite (fun hi => ?_) (fun hi => T.now ?_)
  · have hm : rd_T74 w i ∈ w := get_mem w z74 i h0 hi
    have hx := hw.2 _ hm
    have hg := hx.1
    refine T.loop (fun (j : Int) k => spec_WorldValid.l1 k w i j) (fun j => (((rd_T74 w i).f0.length : Int) - j).toNat) (fun j => 0 ≤ j ∧ j ≤ (rd_T74 w i).f0.length ∧ ∀ m : Int, 0 ≤ m → m < j → ascAt (rd_T74 w i).f0 (i - 1) m) _ ?_ 0 ⟨by omega, by omega, fun m h0 h1 => by omega⟩
    rintro j ⟨j0, j1, j2⟩ ihj
    have badj : ¬ ascAt (rd_T74 w i).f0 (i - 1) j → j < (rd_T74 w i).f0.length → T (fun _ => some false) (fun r => r = true ↔ WorldOk w) := fun h hj => bad (fun e => h (e.1 j j0 hj)) hi
    refine T.step (fun k => spec_WorldValid.l1.eq_2 ..) (T.ift h0 (T.ift hi ?_))
    refine T.ite (fun hj => T.ift j0 ?_) (fun hj => ?_)
    · rw [spec_l1In_]
      refine T.got ?_
      rw [w64 (x := i - 1) (by omega) (by omega)]
      have next : ascAt (rd_T74 w i).f0 (i - 1) j → T (fun k => spec_WorldValid.l1 k w i (wrap64 (j + 1))) (fun r => r = true ↔ WorldOk w) := fun hok => by
        rw [w64 (by omega) (by omega)]
        refine ihj (j + 1) ⟨by omega, by omega, fun m m0 m1 => ?_⟩ (by omega)
        by_cases hmj : m < j
        · exact j2 m m0 hmj
        · obtain rfl : m = j := by omega
          exact hok
      refine T.ite (fun hc => ?_) (fun hc => badj (fun h => hc (decide_eq_true ⟨h.1, h.2.1⟩)) hj)
      have hc := of_decide_eq_true hc
      refine T.ite (fun hp => ?_) (fun hp => next ⟨hc.1, hc.2, fun h => absurd h hp⟩)
      rw [w64 (by omega) (by omega)]
      refine T.ift (by omega) (T.ift (by omega) ?_)
      exact T.ite (fun he => badj (fun h => by have := h.2.2 hp; omega) hj) (fun he => next ⟨hc.1, hc.2, fun _ => by omega⟩)
    · refine T.bind (spec_l2Fields_ _ _ hx.2) ?_
      intro b hb
      refine T.ite (fun hd => ?_) (fun hd => bad (fun e => hd (hb.2 e.2)) hi)
      rw [w64 (by omega) (by omega)]
      refine ih (i + 1) ⟨by omega, by omega, fun m m0 m1 => ?_⟩ (by omega)
      by_cases hmi : m < i
      · exact h2 m m0 hmi
      · obtain rfl : m = i := by omega
        exact ⟨fun q q0 q1 => j2 q q0 (by omega), hb.1 hd⟩
  · rw [decide_eq_true_eq]
    exact ⟨fun h => ⟨h, fun m m0 m1 => h2 m m0 (by omega)⟩, fun h => h.1⟩
/-! #### all requests, in order -/
def whats (who act : Int) (fs : List S55) : Nat → List S42
  | 0 => []
  | m + 1 => whats who act fs m ++ [⟨who, act, (m : Int), fs⟩]
def acts (who : Int) (n : Nat) (fs : List S55) : Nat → List S42
  | 0 => []
  | m + 1 => acts who n fs m ++ whats who (m : Int) fs n
def whos (n : Nat) (fs : List S55) : Nat → List S42
  | 0 => []
  | m + 1 => whos n fs m ++ acts (m : Int) n fs 4
theorem whats_len (who act : Int) (fs : List S55) : ∀ m, (whats who act fs m).length = m
  | 0 => rfl
  | m + 1 => by rw [whats, List.length_append, whats_len who act fs m]; rfl
theorem acts_len (who : Int) (n : Nat) (fs : List S55) : ∀ m, (acts who n fs m).length = m * n
  | 0 => by simp [acts]
  | m + 1 => by rw [acts, List.length_append, acts_len who n fs m, whats_len, Nat.add_mul, Nat.one_mul]
theorem whos_len (n : Nat) (fs : List S55) : ∀ m, (whos n fs m).length = m * (4 * n)
  | 0 => by simp [whos]
  | m + 1 => by rw [whos, List.length_append, whos_len n fs m, acts_len, Nat.add_mul, Nat.one_mul]
theorem whats_mem {who act : Int} {fs : List S55} : ∀ {m : Nat} {e : S42}, e ∈ whats who act fs m → e.f0 = who ∧ e.f1 = act ∧ (0 ≤ e.f2 ∧ e.f2 < m) ∧ e.f3 = fs
  | 0, e, h => by simp [whats] at h
  | m + 1, e, h => by
    rw [whats, List.mem_append, List.mem_singleton] at h
    rcases h with h | rfl
    · have := whats_mem h
      exact ⟨this.1, this.2.1, ⟨this.2.2.1.1, by omega⟩, this.2.2.2⟩
    · exact ⟨rfl, rfl, ⟨by show (0 : Int) ≤ (m : Int); omega, by show (m : Int) < _; omega⟩, rfl⟩
theorem acts_mem {who : Int} {n : Nat} {fs : List S55} : ∀ {m : Nat} {e : S42}, e ∈ acts who n fs m → e.f0 = who ∧ (0 ≤ e.f1 ∧ e.f1 < m) ∧ (0 ≤ e.f2 ∧ e.f2 < n) ∧ e.f3 = fs
  | 0, e, h => by simp [acts] at h
  | m + 1, e, h => by
    rw [acts, List.mem_append] at h
    rcases h with h | h
    · have := acts_mem h
      exact ⟨this.1, ⟨this.2.1.1, by omega⟩, this.2.2.1, this.2.2.2⟩
    · have := whats_mem h
      exact ⟨this.1, ⟨by omega, by omega⟩, this.2.2.1, this.2.2.2⟩
theorem whos_mem {n : Nat} {fs : List S55} : ∀ {m : Nat} {e : S42}, e ∈ whos n fs m → (0 ≤ e.f0 ∧ e.f0 < m) ∧ (0 ≤ e.f1 ∧ e.f1 < 4) ∧ (0 ≤ e.f2 ∧ e.f2 < n) ∧ e.f3 = fs
  | 0, e, h => by simp [whos] at h
  | m + 1, e, h => by
    rw [whos, List.mem_append] at h
    rcases h with h | h
    · have := whos_mem h
      exact ⟨⟨this.1.1, by omega⟩, this.2⟩
    · have := acts_mem h
      exact ⟨⟨by omega, by omega⟩, ⟨this.2.1.1, by omega⟩, this.2.2⟩
/-- Two requests are apart, were it only in who, what act, or on what. -/
def Apart (a b : S42) : Prop := ¬ (a.f0 = b.f0 ∧ a.f1 = b.f1 ∧ a.f2 = b.f2)
theorem whats_apart (who act : Int) (fs : List S55) : ∀ m, (whats who act fs m).Pairwise Apart
  | 0 => List.Pairwise.nil
  | m + 1 => by
    rw [whats, List.pairwise_append]
    refine ⟨whats_apart who act fs m, List.pairwise_singleton .., fun x hx y hy => ?_⟩
    rw [List.mem_singleton.1 hy]
    have := whats_mem hx
    rintro ⟨_, _, h⟩
    have h : x.f2 = (m : Int) := h
    omega
theorem acts_apart (who : Int) (n : Nat) (fs : List S55) : ∀ m, (acts who n fs m).Pairwise Apart
  | 0 => List.Pairwise.nil
  | m + 1 => by
    rw [acts, List.pairwise_append]
    refine ⟨acts_apart who n fs m, whats_apart .., fun x hx y hy => ?_⟩
    have := acts_mem hx
    have := whats_mem hy
    rintro ⟨_, h, _⟩
    omega
theorem whos_apart (n : Nat) (fs : List S55) : ∀ m, (whos n fs m).Pairwise Apart
  | 0 => List.Pairwise.nil
  | m + 1 => by
    rw [whos, List.pairwise_append]
    refine ⟨whos_apart n fs m, acts_apart .., fun x hx y hy => ?_⟩
    have := whos_mem hx
    have := acts_mem hy
    rintro ⟨h, _, _⟩
    omega
open Classical in
noncomputable def allM (w : List S74) (fs : List S55) : List S42 := if WorldOk w ∧ FieldsOk fs w.length then whos w.length fs w.length else []
theorem sameFields_ (l : List S55) (h : l.length ≤ 9223372036854775806) : T (fun k => laws_sameFields.f k l l) (fun r => r = true) := by
  unfold laws_sameFields.f
  refine T.ift rfl ?_
  refine T.loop (fun (i : Int) k => laws_sameFields.l0 k l l i) (fun i => ((l.length : Int) - i).toNat) (fun i => 0 ≤ i ∧ i ≤ l.length) _ ?_ 0 ⟨by omega, by omega⟩
  rintro i ⟨i0, i1⟩ ih
  refine T.step (fun k => laws_sameFields.l0.eq_2 ..) ?_
  refine T.ite (fun hi => T.ift i0 (T.ift hi (T.iff_ (by simp) ?_))) (fun _ => T.now rfl)
  rw [w64 (by omega) (by omega)]
  exact ih (i + 1) ⟨by omega, by omega⟩ (by omega)
theorem sameRequest_ (a b c : Int) (l : List S55) (h : l.length ≤ 9223372036854775806) : T (fun k => laws_sameRequest.f k a b c l a b c l) (fun r => r = true) := by
  unfold laws_sameRequest.f
  refine T.ift rfl (T.ift rfl (T.ift rfl ?_))
  exact T.bind (sameFields_ l h) (by rintro _ rfl; exact T.now rfl)
theorem sameRequest_no {a b c a' b' c' : Int} (l l' : List S55) (h : ¬ (a = a' ∧ b = b' ∧ c = c')) : T (fun k => laws_sameRequest.f k a b c l a' b' c' l') (fun r => r = false) := by
  unfold laws_sameRequest.f
  exact T.ite (fun h1 => T.ite (fun h2 => T.iff_ (fun h3 => h ⟨h1, h2, h3⟩) (T.now rfl)) (fun _ => T.now rfl)) (fun _ => T.now rfl)
theorem sameRequests_ (l : List S42) (h : l.length ≤ 9223372036854775806) (hf : ∀ y ∈ l, y.f3.length ≤ 9223372036854775806) : T (fun k => laws_sameRequests.f k l l) (fun r => r = true) := by
  unfold laws_sameRequests.f
  refine T.ift rfl ?_
  refine T.loop (fun (i : Int) k => laws_sameRequests.l0 k l l i) (fun i => ((l.length : Int) - i).toNat) (fun i => 0 ≤ i ∧ i ≤ l.length) _ ?_ 0 ⟨by omega, by omega⟩
  rintro i ⟨i0, i1⟩ ih
  refine T.step (fun k => laws_sameRequests.l0.eq_2 ..) ?_
  refine T.ite (fun hi => T.ift i0 (T.ift hi ?_)) (fun _ => T.now rfl)
  refine T.bind (sameRequest_ _ _ _ _ (hf _ (get_mem l z42 i i0 hi))) ?_
  rintro _ rfl
  refine T.ift rfl ?_
  rw [w64 (by omega) (by omega)]
  exact ih (i + 1) ⟨by omega, by omega⟩ (by omega)
theorem mulle {n m : Nat} (h : n ≤ 8) (h2 : m ≤ 8) : m * (4 * n) ≤ 256 := by
  have := Nat.mul_le_mul h2 (Nat.mul_le_mul (Nat.le_refl 4) h)
  omega
theorem reqs_len (n : Nat) (fs : List S55) (who act what : Nat) (hn : n ≤ 8) (h1 : who ≤ 8) (h2 : act ≤ 4) (h3 : what ≤ 8) : (whos n fs who ++ acts who n fs act ++ whats who act fs what).length ≤ 1000 := by
  rw [List.length_append, List.length_append, whos_len, acts_len, whats_len]
  have := mulle hn h1
  have := Nat.mul_le_mul h2 hn
  omega
theorem impl_clone_ (l : List S55) (h : l.length ≤ 1000) : impl_cloneFields.f l = some l := by
  unfold impl_cloneFields.f
  rw [if_pos (by simp only [List.length_nil]; omega), List.nil_append]
theorem impl_AllRequests_ (w : List S74) (fs : List S55) (hs : ShortW w) (hf : ShortF fs) (h8 : w.length ≤ 8) (hfl : fs.length ≤ 1000) : T (fun k => impl_AllRequests.f k w fs) (fun r => r = allM w fs) := by
  unfold impl_AllRequests.f
  refine T.bind (P := fun r => r = true ↔ (WorldOk w ∧ FieldsOk fs w.length)) ?_ ?_
  · unfold impl_worldFits.f
    refine T.bind (impl_WorldValid_ w hs) ?_
    intro a ha
    refine T.ite (fun h => ?_) (fun h => T.now ⟨fun e => (by cases e), fun e => absurd (ha.2 e.1) h⟩)
    refine T.bind (impl_fieldsValid_ fs _ hf) ?_
    intro b hb
    exact T.now ⟨fun e => ⟨ha.1 h, hb.1 e⟩, fun e => hb.2 e.2⟩
  intro t ht
  refine T.ite (fun h => ?_) (fun h => T.now (by unfold allM; rw [if_neg (fun e => h (ht.2 e))]))
  have hok := ht.1 h
  refine T.loop (fun (i : Int) k => impl_AllRequests.l0 k w fs (whos w.length fs i.toNat) (w.length : Int) i) (fun i => ((w.length : Int) - i).toNat) (fun i => 0 ≤ i ∧ i ≤ w.length) _ ?_ 0 ⟨by omega, by omega⟩
  rintro i ⟨i0, i1⟩ ih
  refine T.step (fun k => impl_AllRequests.l0.eq_2 ..) ?_
  refine T.ite (fun hi => ?_) (fun hi => T.now (by unfold allM; rw [if_pos hok, show i = (w.length : Int) by omega, Int.toNat_natCast]))
  have ih := ih (i + 1) ⟨by omega, by omega⟩ (by omega)
  obtain ⟨n, rfl⟩ : ∃ n : Nat, i = n := ⟨i.toNat, by omega⟩
  simp only [show ((n : Int) + 1).toNat = n + 1 by omega, Int.toNat_natCast] at ih ⊢
  have e0 : whos w.length fs n = whos w.length fs n ++ acts (n : Int) w.length fs (0 : Int).toNat := by simp [acts]
  rw [e0]
  refine T.loop (fun (a : Int) k => impl_AllRequests.l1 k w fs (whos w.length fs n ++ acts (n : Int) w.length fs a.toNat) n a (w.length : Int) n) (fun a => (4 - a).toNat) (fun a => 0 ≤ a ∧ a ≤ 4) _ ?_ 0 ⟨by omega, by omega⟩
  rintro a ⟨a0, a1⟩ iha
  refine T.step (fun k => impl_AllRequests.l1.eq_2 ..) ?_
  refine T.ite (fun ha => ?_) (fun ha => ?_)
  · have iha := iha (a + 1) ⟨by omega, by omega⟩ (by omega)
    obtain ⟨m, rfl⟩ : ∃ m : Nat, a = m := ⟨a.toNat, by omega⟩
    simp only [show ((m : Int) + 1).toNat = m + 1 by omega, Int.toNat_natCast] at iha ⊢
    have e1 : whos w.length fs n ++ acts (n : Int) w.length fs m = whos w.length fs n ++ acts (n : Int) w.length fs m ++ whats (n : Int) (m : Int) fs (0 : Int).toNat := by simp [whats]
    rw [e1]
    refine T.loop (fun (x : Int) k => impl_AllRequests.l2 k w fs (whos w.length fs n ++ acts (n : Int) w.length fs m ++ whats (n : Int) (m : Int) fs x.toNat) n m (w.length : Int) n (w.length : Int) x) (fun x => ((w.length : Int) - x).toNat) (fun x => 0 ≤ x ∧ x ≤ w.length) _ ?_ 0 ⟨by omega, by omega⟩
    rintro x ⟨x0, x1⟩ ihx
    refine T.step (fun k => impl_AllRequests.l2.eq_2 ..) ?_
    refine T.ite (fun hx => ?_) (fun hx => ?_)
    · have ihx := ihx (x + 1) ⟨by omega, by omega⟩ (by omega)
      rw [impl_clone_ fs hfl]
      refine T.got (T.ift (by have := reqs_len w.length fs n m x.toNat h8 (by omega) (by omega) (by omega); omega) ?_)
      rw [w64 (by omega) (by omega)]
      obtain ⟨p, rfl⟩ : ∃ p : Nat, x = p := ⟨x.toNat, by omega⟩
      simp only [show ((p : Int) + 1).toNat = p + 1 by omega, Int.toNat_natCast] at ihx ⊢
      rw [List.append_assoc]
      exact ihx
    · rw [w64 (by omega) (by omega), show x = (w.length : Int) by omega, Int.toNat_natCast, List.append_assoc]
      exact iha
  · rw [w64 (by omega) (by omega), show a = 4 by omega]
    exact ih
theorem spec_AllRequests_ (w : List S74) (fs : List S55) (hs : ShortW w) (hf : ShortF fs) (h8 : w.length ≤ 8) (hfl : fs.length ≤ 1000) : T (fun k => spec_AllRequests.f k w fs) (fun r => r = allM w fs) := by
  unfold spec_AllRequests.f
  refine T.got ?_
  have no : ¬ (WorldOk w ∧ FieldsOk fs w.length) → T (fun k => spec_AllRequests.j0 k w fs [] true) (fun r => r = allM w fs) := fun h =>
    T.step (fun k => spec_AllRequests.j0.eq_2 ..) (T.ift rfl (T.now (by unfold allM; rw [if_neg h])))
  refine T.bind (spec_WorldValid_ w hs) ?_
  intro a ha
  refine T.ite (fun h => ?_) (fun h => no (fun e => h (ha.2 e.1)))
  refine T.bind (spec_l2Fields_ fs _ hf) ?_
  intro b hb
  cases b with
  | false => exact no (fun e => by have := hb.2 e.2; cases this)
  | true =>
  refine T.step (fun k => spec_AllRequests.j0.eq_2 ..) (T.iff_ (by simp) ?_)
  have hok : WorldOk w ∧ FieldsOk fs w.length := ⟨ha.1 h, hb.1 rfl⟩
  refine T.loop (fun (i : Int) k => spec_AllRequests.l0 k w fs (whos w.length fs i.toNat) i) (fun i => ((w.length : Int) - i).toNat) (fun i => 0 ≤ i ∧ i ≤ w.length) _ ?_ 0 ⟨by omega, by omega⟩
  rintro i ⟨i0, i1⟩ ih
  refine T.step (fun k => spec_AllRequests.l0.eq_2 ..) ?_
  refine T.ite (fun hi => ?_) (fun hi => T.now (by unfold allM; rw [if_pos hok, show i = (w.length : Int) by omega, Int.toNat_natCast]))
  have ih := ih (i + 1) ⟨by omega, by omega⟩ (by omega)
  obtain ⟨n, rfl⟩ : ∃ n : Nat, i = n := ⟨i.toNat, by omega⟩
  simp only [show ((n : Int) + 1).toNat = n + 1 by omega, Int.toNat_natCast] at ih ⊢
  have e0 : whos w.length fs n = whos w.length fs n ++ acts (n : Int) w.length fs (0 : Int).toNat := by simp [acts]
  rw [e0]
  refine T.loop (fun (a : Int) k => spec_AllRequests.l1 k w fs (whos w.length fs n ++ acts (n : Int) w.length fs a.toNat) n a) (fun a => (4 - a).toNat) (fun a => 0 ≤ a ∧ a ≤ 4) _ ?_ 0 ⟨by omega, by omega⟩
  rintro a ⟨a0, a1⟩ iha
  refine T.step (fun k => spec_AllRequests.l1.eq_2 ..) ?_
  refine T.ite (fun ha => ?_) (fun ha => ?_)
  · have iha := iha (a + 1) ⟨by omega, by omega⟩ (by omega)
    obtain ⟨m, rfl⟩ : ∃ m : Nat, a = m := ⟨a.toNat, by omega⟩
    simp only [show ((m : Int) + 1).toNat = m + 1 by omega, Int.toNat_natCast] at iha ⊢
    have e1 : whos w.length fs n ++ acts (n : Int) w.length fs m = whos w.length fs n ++ acts (n : Int) w.length fs m ++ whats (n : Int) (m : Int) fs (0 : Int).toNat := by simp [whats]
    rw [e1]
    refine T.loop (fun (x : Int) k => spec_AllRequests.l2 k w fs (whos w.length fs n ++ acts (n : Int) w.length fs m ++ whats (n : Int) (m : Int) fs x.toNat) n m x) (fun x => ((w.length : Int) - x).toNat) (fun x => 0 ≤ x ∧ x ≤ w.length) _ ?_ 0 ⟨by omega, by omega⟩
    rintro x ⟨x0, x1⟩ ihx
    refine T.step (fun k => spec_AllRequests.l2.eq_2 ..) ?_
    refine T.ite (fun hx => ?_) (fun hx => ?_)
    · have ihx := ihx (x + 1) ⟨by omega, by omega⟩ (by omega)
      refine T.got (T.ift (by simp only [List.length_nil]; omega) (T.ift (by have := reqs_len w.length fs n m x.toNat h8 (by omega) (by omega) (by omega); omega) ?_))
      rw [w64 (by omega) (by omega)]
      obtain ⟨p, rfl⟩ : ∃ p : Nat, x = p := ⟨x.toNat, by omega⟩
      simp only [show ((p : Int) + 1).toNat = p + 1 by omega, Int.toNat_natCast] at ihx ⊢
      rw [List.append_assoc, List.nil_append]
      exact ihx
    · rw [w64 (by omega) (by omega), show x = (w.length : Int) by omega, Int.toNat_natCast, List.append_assoc]
      exact iha
  · rw [w64 (by omega) (by omega), show a = 4 by omega]
    exact ih
theorem FnAllRequests : laws_FnAllRequests.Pure := by
  intro l _ _ hw
  refine T.rounds ?_
  unfold laws_FnAllRequests.f
  refine T.ite (fun _ => T.now rfl) (fun _ => ?_)
  refine T.bind (P := fun r => ShortW r.1 ∧ r.1.length ≤ 8 ∧ ShortF r.2 ∧ r.2.length ≤ 10) ?_ ?_
  · unfold spec_DrawAllRequests.f
    obtain ⟨l', e, hb⟩ := spec_open_ l hw
    rw [e]
    refine T.got ?_
    refine T.bind (spec_things_ l' 0 9 hb (by omega) (by omega)) ?_
    rintro ⟨w, q⟩ ⟨h1, h2, h3, h4⟩
    dsimp only at h1 h2 h3 h4 ⊢
    refine T.bind (spec_fields_ l' q _ hb (by omega) (by omega)) ?_
    rintro ⟨fs, q2⟩ ⟨f1, f2, f3, f4⟩
    dsimp only at f1 f2 f3 f4 ⊢
    refine T.bind (spec_odd_ l' q2 9 hb (by omega) (by omega)) ?_
    rintro ⟨c, q3⟩ _
    dsimp only
    have hW : ShortW w := ShortW.of (by omega) h2
    refine T.ite (fun _ => T.ift (by omega) (T.now ⟨hW, h1, ?_⟩)) (fun _ => T.now ⟨hW, h1, ShortF.of (by show fs.length ≤ 10; omega) f2, by show fs.length ≤ 10; omega⟩)
    have hl : (fs ++ [(⟨(⟨#[120]⟩ : ByteArray), ⟨0, 0⟩⟩ : S55)]).length ≤ 10 := by rw [List.length_append]; simp only [List.length_cons, List.length_nil]; omega
    refine ⟨ShortF.of hl (fun y hy => ?_), hl⟩
    rcases List.mem_append.1 hy with hy | hy
    · exact f2 y hy
    · rw [List.mem_singleton.1 hy]
      show (⟨#[120]⟩ : ByteArray).size ≤ 100
      decide
  rintro ⟨w, fs⟩ ⟨hs, h8, hf, hfl⟩
  dsimp only at hs h8 hf hfl ⊢
  refine T.bind (impl_AllRequests_ w fs hs hf h8 (by omega)) ?_
  intro t ht
  refine T.bind (spec_AllRequests_ w fs hs hf h8 (by omega)) ?_
  intro s hs1
  rw [← ht] at hs1
  subst hs1
  have main : (s = [] ∨ (s.length = w.length * (4 * w.length) ∧ WorldOk w ∧ FieldsOk fs w.length)) ∧ (∀ e ∈ s, ((0 ≤ e.f0 ∧ e.f0 < w.length) ∧ (0 ≤ e.f1 ∧ e.f1 < 4) ∧ (0 ≤ e.f2 ∧ e.f2 < w.length) ∧ e.f3 = fs) ∧ WorldOk w ∧ FieldsOk fs w.length) ∧ s.Pairwise Apart := by
    rw [ht]
    unfold allM
    by_cases hok : WorldOk w ∧ FieldsOk fs w.length
    · rw [if_pos hok]
      exact ⟨Or.inr ⟨whos_len .., hok⟩, fun e he => ⟨whos_mem he, hok⟩, whos_apart ..⟩
    · rw [if_neg hok]
      exact ⟨Or.inl rfl, (fun e he => absurd he List.not_mem_nil), List.Pairwise.nil⟩
  clear ht
  obtain ⟨m1, m2, m3⟩ := main
  have hlen : s.length ≤ 256 := by
    rcases m1 with m1 | m1
    · rw [m1]; simp
    · rw [m1.1]; exact mulle h8 h8
  refine T.bind (sameRequests_ s (by omega) (fun y hy => by rw [(m2 y hy).1.2.2.2]; omega)) ?_
  rintro _ rfl
  refine T.ift rfl ?_
  have fin : ∀ (k0 : Nat → Option Bool), (∀ k, k0 k = (laws_alive.f k).bind fun t => some t) → T k0 (fun r => r = true) := fun k0 h => T.congr h (T.bind alive_ (by rintro _ rfl; exact T.now rfl))
  refine T.loop (fun (i : Int) k => laws_FnAllRequests.l0 k w fs s i) (fun i => ((s.length : Int) - i).toNat) (fun i => 0 ≤ i ∧ i ≤ s.length) _ ?_ 0 ⟨by omega, by omega⟩
  rintro i ⟨i0, i1⟩ ih
  refine T.step (fun k => laws_FnAllRequests.l0.eq_2 ..) ?_
  refine T.ite (fun hi => T.ift i0 ?_) (fun hi => ?_)
  · have go : T (fun k => laws_FnAllRequests.l0 k w fs s (wrap64 (i + 1))) (fun r => r = true) := by
      rw [w64 (by omega) (by omega)]
      exact ih (i + 1) ⟨by omega, by omega⟩ (by omega)
    have hm := m2 _ (get_mem s z42 i i0 hi)
    have hm : ((0 ≤ (rd_T42 s i).f0 ∧ (rd_T42 s i).f0 < w.length) ∧ (0 ≤ (rd_T42 s i).f1 ∧ (rd_T42 s i).f1 < 4) ∧ (0 ≤ (rd_T42 s i).f2 ∧ (rd_T42 s i).f2 < w.length) ∧ (rd_T42 s i).f3 = fs) ∧ WorldOk w ∧ FieldsOk fs w.length := hm
    rw [hm.1.2.2.2]
    refine T.bind (impl_RequestValid_ w _ _ _ fs hs hf) ?_
    intro x hx
    refine T.ift (hx.2 ⟨hm.2.1, ⟨hm.1.1.1, by omega⟩, ⟨hm.1.2.2.1.1, by omega⟩, ⟨hm.1.2.1.1, by omega⟩, hm.2.2⟩) ?_
    refine T.bind (sameFields_ fs hf.1) ?_
    rintro _ rfl
    refine T.ift rfl ?_
    refine T.ite (fun hp => ?_) (fun _ => go)
    rw [w64 (x := i - 1) (by omega) (by omega)]
    refine T.ift (by omega) (T.ift (by omega) ?_)
    refine T.bind (sameRequest_no _ _ ?_) (by rintro _ rfl; exact T.iff_ (by simp) go)
    have := List.pairwise_iff_getElem.1 m3 (i - 1).toNat i.toNat (by omega) (by omega) (by omega)
    have g : ∀ j : Int, 0 ≤ j → (hj : j.toNat < s.length) → rd_T42 s j = s[j.toNat] := fun j _ hj => by
      show s.getD j.toNat _ = _
      rw [List.getD_eq_getElem?_getD, List.getElem?_eq_getElem hj, Option.getD_some]
    rw [g i i0 (by omega), g (i - 1) (by omega) (by omega)]
    rintro ⟨e1, e2, e3⟩
    exact this ⟨e1.symm, e2.symm, e3.symm⟩
  · refine T.ite (fun _ => fin _ (fun _ => rfl)) (fun hz => T.ift ?_ (fin _ (fun _ => rfl)))
    rcases m1 with m1 | m1
    · rw [m1] at hz; simp at hz
    · rw [m1.1]
      have hsq : w.length * w.length ≤ 64 := Nat.mul_le_mul h8 h8
      have e : ((w.length * (4 * w.length) : Nat) : Int) = ((w.length * w.length : Nat) : Int) * 4 := by
        rw [Nat.mul_left_comm]; simp only [Int.natCast_mul]; rw [Int.mul_comm]; rfl
      rw [e, ← Int.natCast_mul, w64 (x := ((w.length * w.length : Nat) : Int)) (by omega) (by omega), w64 (by omega) (by omega)]

end Go.Proofs.Ytoipfhdlgoaldaa.Pure
