/- What an expression uses is the greatest of what its parts use, and the program's ThingsUsed answers as the reference's, at every drawn expression.
   Conditions: none beyond the statement's own. -/
import Derived.Test.YtjpeciodihnolaaPx1003
set_option linter.unusedVariables false
set_option linter.unusedSimpArgs false
namespace Go.Proofs.Ytjpeciodihnolaa.Pure
open Go.RowKit Go.Proofs.Ytjpeciodihnolaa.P Go.Proofs.YtjpeciodihnolaaW.PrintWords Go.Proofs.YtjpeciodihnolaaW.PrintLast

/-! #### rounds: 'T g Q': from some number of rounds on g answers, and the answer is as Q says -/
def T {α : Type} (g : Nat → Option α) (Q : α → Prop) : Prop := ∃ r, Ev g r ∧ Q r
theorem T.ev {α : Type} {g : Nat → Option α} {r : α} (h : Ev g r) : T g (fun x => x = r) := ⟨r, h, rfl⟩
theorem T.of_eq {α : Type} {g : Nat → Option α} {r : α} (h : T g (fun x => x = r)) : Ev g r := by
  obtain ⟨_, h, rfl⟩ := h
  exact h
theorem T.now {α : Type} {r : α} {Q : α → Prop} (h : Q r) : T (fun _ => some r) Q := ⟨r, Ev.now r, h⟩
theorem T.mono {α : Type} {g : Nat → Option α} {P Q : α → Prop} (h : T g P) (k : ∀ a, P a → Q a) : T g Q := by
  obtain ⟨r, h, p⟩ := h
  exact ⟨r, h, k r p⟩
theorem T.bind {α β : Type} {g : Nat → Option α} {f : Nat → α → Option β} {P : α → Prop} {Q : β → Prop} (h : T g P) (k : ∀ a, P a → T (fun n => f n a) Q) : T (fun n => (g n).bind (f n)) Q := by
  obtain ⟨a, h, p⟩ := h
  obtain ⟨r, k, q⟩ := k a p
  exact ⟨r, Ev.bind h k, q⟩
theorem T.ite {α : Type} {c : Prop} [Decidable c] {g f : Nat → Option α} {Q : α → Prop} (h : c → T g Q) (k : ¬ c → T f Q) : T (fun n => if c then g n else f n) Q := by
  by_cases hc : c
  · simpa only [if_pos hc] using h hc
  · simpa only [if_neg hc] using k hc
theorem T.ift {α : Type} {c : Prop} [Decidable c] {g f : Nat → Option α} {Q : α → Prop} (hc : c) (h : T g Q) : T (fun n => if c then g n else f n) Q := T.ite (fun _ => h) (fun n => absurd hc n)
theorem T.iff_ {α : Type} {c : Prop} [Decidable c] {g f : Nat → Option α} {Q : α → Prop} (hc : ¬ c) (h : T f Q) : T (fun n => if c then g n else f n) Q := T.ite (fun n => absurd n hc) (fun _ => h)
theorem T.step {α : Type} {g f : Nat → Option α} {Q : α → Prop} (h : ∀ k, g (k + 1) = f k) (k : T f Q) : T g Q := by
  obtain ⟨r, k, q⟩ := k
  exact ⟨r, Ev.step h k, q⟩
theorem T.rounds {g : Nat → Option Bool} (h : T g (fun x => x = true)) : ∃ k, g k = some true := (T.of_eq h).rounds
theorem T.congr {α : Type} {g f : Nat → Option α} {Q : α → Prop} (h : ∀ k, g k = f k) (k : T f Q) : T g Q := by
  obtain ⟨r, k, q⟩ := k
  exact ⟨r, Ev.congr h k, q⟩
theorem T.run {α : Type} {g : Nat → Option α} {Q : α → Prop} (h : T g Q) : ∃ r K, (∀ k, K ≤ k → g k = some r) ∧ Q r := by
  obtain ⟨r, ⟨K, h⟩, q⟩ := h
  exact ⟨r, K, h, q⟩
/-- A loop over what is left. -/
theorem T.loop {σ α : Type} (g : σ → Nat → Option α) (m : σ → Nat) (I : σ → Prop) (Q : α → Prop) (h : ∀ s, I s → (∀ s', I s' → m s' < m s → T (g s') Q) → T (g s) Q) : ∀ s, I s → T (g s) Q := by
  intro s
  induction hm : m s using Nat.strongRecOn generalizing s with
  | _ n ih =>
    intro hI
    exact h s hI (fun s' hI' hlt => ih (m s') (hm ▸ hlt) s' rfl hI')
theorem w64 {x : Int} (h : -9223372036854775808 ≤ x) (h' : x ≤ 9223372036854775807) : wrap64 x = x := by unfold wrap64; omega
theorem T.got {α β : Type} {r : α} {f : Nat → α → Option β} {Q : β → Prop} (h : T (fun n => f n r) Q) : T (fun n => (some r).bind (f n)) Q := h
/-! #### names -/
def lowB (s : ByteArray) : Bool := decide (∀ i : Nat, i < s.size → 97 ≤ bt s i ∧ bt s i ≤ 122)
def nameB (s : ByteArray) : Bool := lowB s && decide (1 ≤ s.size ∧ s.size ≤ 8)
theorem nameB_iff (s : ByteArray) : nameB s = true ↔ (∀ i : Nat, i < s.size → 97 ≤ bt s i ∧ bt s i ≤ 122) ∧ 1 ≤ s.size ∧ s.size ≤ 8 := by simp [nameB, lowB]
theorem nameB_low {s : ByteArray} (h : ¬ ∀ i : Nat, i < s.size → 97 ≤ bt s i ∧ bt s i ≤ 122) : nameB s = false := by
  have : ¬ (nameB s = true) := fun hn => h ((nameB_iff s).1 hn).1
  simpa using this
theorem impl_in_ (n a b : Int) : impl_in.f n a b = some (decide (a ≤ n ∧ n ≤ b)) := by
  unfold impl_in.f
  by_cases h : a ≤ n
  · rw [if_pos h]; simp [h]
  · rw [if_neg h]; simp [h]
theorem impl_NameValid_ (s : ByteArray) (hs : s.size ≤ 9223372036854775807) : T (fun k => impl_NameValid.f k s) (fun r => r = nameB s) := by
  unfold impl_NameValid.f
  refine T.loop (fun (i : Int) k => impl_NameValid.l0 k s (s.size : Int) i) (fun i => ((s.size : Int) - i).toNat) (fun i => 0 ≤ i ∧ i ≤ s.size ∧ ∀ j : Nat, (j : Int) < i → 97 ≤ bt s j ∧ bt s j ≤ 122) _ ?_ 0 ⟨by omega, by omega, fun j hj => by omega⟩
  rintro i ⟨h0, h1, hl⟩ ih
  refine T.step (fun k => impl_NameValid.l0.eq_2 ..) ?_
  refine T.ite (fun hi => ?_) (fun hi => ?_)
  · refine T.ift h0 (T.ift hi ?_)
    have e : ((i.toNat : Nat) : Int) = i := by omega
    have hb : bt s (i.toNat : Nat) = bt s i := by rw [e]
    refine T.ite (fun hc => T.now ?_) (fun hc => T.ite (fun hd => T.now ?_) (fun hd => ?_))
    · exact (nameB_low (fun h => by have := h i.toNat (by omega); rw [hb] at this; omega)).symm
    · exact (nameB_low (fun h => by have := h i.toNat (by omega); rw [hb] at this; omega)).symm
    · rw [w64 (by omega) (by omega)]
      refine ih (i + 1) ⟨by omega, by omega, fun j hj => ?_⟩ (by omega)
      by_cases hji : (j : Int) < i
      · exact hl j hji
      · have : (j : Int) = i := by omega
        rw [this]; omega
  · rw [impl_in_]
    refine T.now ?_
    have hi : i = s.size := by omega
    subst hi
    have : lowB s = true := decide_eq_true (fun j hj => hl j (by omega))
    rw [nameB, this, Bool.true_and]
    exact decide_eq_decide.mpr (by omega)
theorem alive_ : T (fun k => laws_alive.f k) (fun r => r = true) := by
  unfold laws_alive.f
  refine T.bind (impl_NameValid_ _ (by decide)) ?_
  rintro _ rfl
  exact T.now (by decide)
/-! #### texts and lists -/
theorem tl_inj {a b : ByteArray} : a.toList = b.toList ↔ a = b := by
  rw [ByteArray.toList_eq, ByteArray.toList_eq]
  constructor
  · intro h
    cases a; cases b
    exact congrArg ByteArray.mk (Array.toList_inj.1 h)
  · rintro rfl
    rfl
theorem drop_at {α : Type} (l : List α) (z : α) (i : Int) (h0 : 0 ≤ i) (h1 : i < l.length) : l.drop i.toNat = l.getD i.toNat z :: l.drop (i + 1).toNat := by
  have h : i.toNat < l.length := by omega
  rw [List.drop_eq_getElem_cons h, List.getD_eq_getElem?_getD, List.getElem?_eq_getElem h]
  simp only [Option.getD_some]
  rw [show (i + 1).toNat = i.toNat + 1 by omega]
theorem drop_all {α : Type} (l : List α) (i : Int) (h : ¬ i < l.length) : l.drop i.toNat = [] := List.drop_of_length_le (by omega)
theorem get_mem {α : Type} (l : List α) (z : α) (i : Int) (h0 : 0 ≤ i) (h1 : i < l.length) : l.getD i.toNat z ∈ l := by
  have h : i.toNat < l.length := by omega
  rw [List.getD_eq_getElem?_getD, List.getElem?_eq_getElem h]
  exact List.getElem_mem h
/-- A loop that counts up to n. -/
theorem T.count {α : Type} (n : Nat) (g : Int → Nat → Option α) (Q : α → Prop) (fin : T (g n) Q) (step : ∀ i : Int, 0 ≤ i → i < n → T (g (i + 1)) Q → T (g i) Q) : ∀ i : Int, 0 ≤ i → i ≤ n → T (g i) Q := by
  refine fun i h0 h1 => T.loop g (fun i => (n - i).toNat) (fun i => 0 ≤ i ∧ i ≤ n) Q ?_ i ⟨h0, h1⟩
  rintro i ⟨h0, h1⟩ ih
  by_cases hi : i = n
  · rw [hi]; exact fin
  · exact step i h0 (by omega) (ih (i + 1) ⟨by omega, by omega⟩ (by omega))
/-- A loop that turns each element of a list into one of a list of the same length. -/
theorem T.turn {α β γ : Type} (za : α) (l : List α) (c : α → β) (g : List β → Int → Nat → Option γ) (Q : γ → Prop) (fin : T (g (l.map c) l.length) Q)
    (step : ∀ (out : List β) (i : Int), 0 ≤ i → i < l.length → out.length = l.length → T (g (out.set i.toNat (c (l.getD i.toNat za))) (i + 1)) Q → T (g out i) Q) (out : List β) (hl : out.length = l.length) : T (g out 0) Q := by
  refine T.loop (fun (s : List β × Int) => g s.1 s.2) (fun s => (l.length - s.2).toNat) (fun s => 0 ≤ s.2 ∧ s.2 ≤ l.length ∧ s.1.length = l.length ∧ ∀ j : Nat, (j : Int) < s.2 → s.1[j]? = (l[j]?).map c) Q ?_ (out, 0) ⟨by simp, by simp, hl, fun j hj => absurd hj (by simp)⟩
  rintro ⟨o, i⟩ ⟨h0, h1, h2, h3⟩ ih
  dsimp only at h0 h1 h2 h3 ih ⊢
  by_cases hi : i = l.length
  · have : o = l.map c := List.ext_getElem? (fun j => by
      by_cases hj : (j : Int) < i
      · rw [h3 j hj, List.getElem?_map]
      · rw [List.getElem?_eq_none (by omega), List.getElem?_eq_none (by rw [List.length_map]; omega)])
    rw [this, hi]; exact fin
  · refine step o i h0 (by omega) h2 (ih (_, i + 1) ⟨by show 0 ≤ i + 1; omega, by show i + 1 ≤ _; omega, by rw [List.length_set]; exact h2, fun j hj => ?_⟩ (by show ((l.length : Int) - (i + 1)).toNat < (l.length - i).toNat; omega))
    dsimp only at hj ⊢
    rw [List.getElem?_set]
    by_cases hji : i.toNat = j
    · rw [if_pos hji, if_pos (by omega)]
      subst hji
      rw [List.getD_eq_getElem?_getD, List.getElem?_eq_getElem (by omega : i.toNat < l.length)]
      rfl
    · rw [if_neg hji]
      exact h3 j (by omega)
/-! #### expressions -/
theorem part_lt {x y : S25} (h : y ∈ x.f3) : SizeOf.sizeOf y < SizeOf.sizeOf x := by
  cases x with
  | mk a b c l =>
    have := List.sizeOf_lt_of_mem (show y ∈ l from h)
    simp only [S25.mk.sizeOf_spec]
    omega
mutual
def cntE : S25 → Int
  | ⟨_, _, _, l⟩ => 1 + cntEs l
def cntEs : List S25 → Int
  | [] => 0
  | x :: l => cntE x + cntEs l
end
mutual
def depE : S25 → Int
  | ⟨_, _, _, l⟩ => 1 + depEs l
def depEs : List S25 → Int
  | [] => 0
  | x :: l => mx (depE x) (depEs l)
end
theorem mx_of (a b : Int) : a ≤ mx a b ∧ b ≤ mx a b ∧ (mx a b = a ∨ mx a b = b) := by unfold mx; split <;> omega
theorem cntE_eq (x : S25) : cntE x = 1 + cntEs x.f3 := by cases x; rw [cntE]
theorem depE_eq (x : S25) : depE x = 1 + depEs x.f3 := by cases x; rw [depE]
theorem cntEs_nil : cntEs [] = 0 := by rw [cntEs]
theorem cntEs_cons (x : S25) (l : List S25) : cntEs (x :: l) = cntE x + cntEs l := by rw [cntEs]
theorem depEs_nil : depEs [] = 0 := by rw [depEs]
theorem depEs_cons (x : S25) (l : List S25) : depEs (x :: l) = mx (depE x) (depEs l) := by rw [depEs]
theorem Expr_ind {P : S25 → Prop} (h : ∀ x, (∀ y ∈ x.f3, P y) → P x) : ∀ x, P x := by
  intro x
  induction hn : SizeOf.sizeOf x using Nat.strongRecOn generalizing x with
  | _ n ih => exact h x (fun y hy => ih (SizeOf.sizeOf y) (hn ▸ part_lt hy) y rfl)
theorem cntEs_ge {l : List S25} (h : ∀ y ∈ l, 1 ≤ cntE y) : (l.length : Int) ≤ cntEs l := by
  induction l with
  | nil => rw [cntEs_nil]; simp
  | cons x l ih =>
    have h1 := h x (List.mem_cons_self ..)
    have h2 := ih (fun y hy => h y (List.mem_cons_of_mem _ hy))
    rw [cntEs_cons, List.length_cons]
    omega
theorem cntE_pos : ∀ x : S25, 1 ≤ cntE x := Expr_ind (fun x ih => by
  have := cntEs_ge ih
  rw [cntE_eq]
  omega)
theorem cntEs_pos (l : List S25) : (l.length : Int) ≤ cntEs l := cntEs_ge (fun y _ => cntE_pos y)
theorem cntE_mem {l : List S25} {y : S25} (h : y ∈ l) : cntE y ≤ cntEs l := by
  induction l with
  | nil => exact absurd h (by simp)
  | cons x l ih =>
    rw [cntEs_cons]
    have h1 := cntE_pos x
    have h2 := cntEs_pos l
    rcases List.mem_cons.1 h with rfl | h
    · omega
    · have := ih h
      omega
theorem cntE_part {x y : S25} (h : y ∈ x.f3) : cntE y + 1 ≤ cntE x := by
  have := cntE_mem h
  rw [cntE_eq x]
  omega
theorem depEs_le {l : List S25} (h : ∀ y ∈ l, 1 ≤ depE y ∧ depE y ≤ cntE y) : 0 ≤ depEs l ∧ depEs l ≤ cntEs l := by
  induction l with
  | nil => rw [cntEs_nil, depEs_nil]; omega
  | cons x l ih =>
    have h1 := h x (List.mem_cons_self ..)
    have h2 := ih (fun y hy => h y (List.mem_cons_of_mem _ hy))
    rw [cntEs_cons, depEs_cons]
    unfold mx
    have h3 := cntEs_pos l
    split <;> omega
theorem depE_le : ∀ x : S25, 1 ≤ depE x ∧ depE x ≤ cntE x := Expr_ind (fun x ih => by
  have := depEs_le ih
  rw [cntE_eq, depE_eq]
  omega)
theorem cnt_drop (l : List S25) (i : Int) (h0 : 0 ≤ i) (h1 : i < l.length) : cntEs (l.drop i.toNat) = cntE (l.getD i.toNat z25) + cntEs (l.drop (i + 1).toNat) := by rw [drop_at l z25 i h0 h1, cntEs_cons]
/-- The texts in an expression are not too long. -/
inductive OkE : S25 → Prop
  | mk {x : S25} : x.f2.size ≤ 9223372036854775807 → (∀ y ∈ x.f3, OkE y) → OkE x
theorem OkE.name {x : S25} (h : OkE x) : x.f2.size ≤ 9223372036854775807 := by cases h; assumption
theorem OkE.part {x y : S25} (h : OkE x) (hy : y ∈ x.f3) : OkE y := by
  cases h with
  | mk _ h => exact h y hy
/-! #### the reader of codes -/
def Bytes (l : List Int) : Prop := l.length ≤ 2000 ∧ ∀ x ∈ l, 0 ≤ x ∧ x ≤ 255
theorem bytes_of {l : List Int} (h : ∀ x ∈ l, (Lit.int .u8 x).wf = true) (hl : l.length ≤ 2000) : Bytes l := ⟨hl, fun x hx => by
  have := h x hx
  simp [Lit.wf, IntKind.min, IntKind.max, IntKind.signed, IntKind.bits] at this
  omega⟩
theorem Bytes.at_ {l : List Int} (h : Bytes l) (i : Int) : 0 ≤ rd l i ∧ rd l i ≤ 255 := by
  unfold rd
  rw [List.getD_eq_getElem?_getD]
  cases hx : l[i.toNat]? with
  | none => simp
  | some x => exact h.2 x (List.mem_of_getElem? hx)
theorem xor_nat (a b j : Nat) (hj : j ≤ 63) (ha : a < 2 ^ j) (hb : b < 2 ^ j) : Go.bits .xor .i64 (a : Int) (b : Int) = ((a ^^^ b : Nat) : Int) := by
  have hp : 2 ^ j ≤ 2 ^ 63 := Nat.pow_le_pow_right (by decide) hj
  have hx : a ^^^ b < 2 ^ 63 := Nat.lt_of_lt_of_le (Nat.xor_lt_two_pow ha hb) hp
  have ha' : a % 2 ^ 64 = a := Nat.mod_eq_of_lt (by omega)
  have hb' : b % 2 ^ 64 = b := Nat.mod_eq_of_lt (by omega)
  simp only [Go.bits, BitVec.ofInt_natCast]
  rw [Go.IntKind.wrap_i64]
  show ((((BitVec.ofNat 64 a ^^^ BitVec.ofNat 64 b).toNat : Nat) : Int) + 9223372036854775808) % 18446744073709551616 - 9223372036854775808 = _
  rw [BitVec.toNat_xor, BitVec.toNat_ofNat, BitVec.toNat_ofNat, ha', hb']
  omega
theorem tmod_in {x n : Int} (hx : 0 ≤ x) (hn : 1 ≤ n) : 0 ≤ Int.tmod x n ∧ Int.tmod x n < n := by
  rw [Int.tmod_eq_emod_of_nonneg hx]
  exact ⟨Int.emod_nonneg _ (by omega), Int.emod_lt_of_pos _ (by omega)⟩
theorem tdiv_in {x n : Int} (hx : 0 ≤ x) (hn : 1 ≤ n) : 0 ≤ Int.tdiv x n ∧ Int.tdiv x n ≤ x := by
  rw [Int.tdiv_eq_ediv_of_nonneg hx]
  exact ⟨Int.ediv_nonneg hx (by omega), Int.ediv_le_self _ hx⟩
/-- What a draw of a number hands back: the place has gone on by one. -/
def Pick (p n : Int) (r : Int × Int) : Prop := r.2 = p + 1 ∧ 0 ≤ r.1 ∧ (1 ≤ n → r.1 < n) ∧ (n < 1 → r.1 = 0)
theorem spec_pick_ (l : List Int) (p n : Int) (hb : Bytes l) (h0 : 0 ≤ p) (h1 : p ≤ 1000000000000) : T (fun k => spec_l20Rd_pick.f k l p n) (Pick p n) := by
  unfold spec_l20Rd_pick.f
  have hp : wrap64 (p + 1) = p + 1 := w64 (by omega) (by omega)
  have hk : wrap64 (p + 1 - 1) = p := by rw [show p + 1 - 1 = p by omega]; exact w64 (by omega) (by omega)
  rw [hp]
  refine T.ite (fun hn => ?_) (fun hn => ?_)
  · refine T.step (fun k => spec_l20Rd_pick.j0.eq_2 ..) (T.ift rfl (T.now ⟨rfl, by simp, fun h => by omega, fun _ => rfl⟩))
  · refine T.step (fun k => spec_l20Rd_pick.j0.eq_2 ..) ?_
    refine T.ite (fun hz => T.now ⟨rfl, by simp, fun h => by show (0 : Int) < n; omega, fun _ => rfl⟩) (fun hz => ?_)
    have hz : (l.length : Int) ≠ 0 := by simpa using hz
    have hlen := hb.1
    rw [hk]
    have hn1 : 1 ≤ n := by omega
    refine T.ite (fun hlt => ?_) (fun hge => ?_)
    · refine T.ift h0 (T.iff_ (by omega) (T.now ?_))
      have hr := hb.at_ p
      rw [w64 (by omega) (by omega)]
      have ht := tmod_in hr.1 hn1
      exact ⟨rfl, ht.1, fun _ => ht.2, fun h => by omega⟩
    · have m1 := tmod_in h0 (show (1 : Int) ≤ l.length by omega)
      have e7 : wrap64 (p * 7) = p * 7 := w64 (by omega) (by omega)
      have e73 : wrap64 (p * 7 + 3) = p * 7 + 3 := w64 (by omega) (by omega)
      have m2 := tmod_in (show (0 : Int) ≤ p * 7 + 3 by omega) (show (1 : Int) ≤ l.length by omega)
      have q1 := tdiv_in h0 (show (1 : Int) ≤ l.length by omega)
      rw [e7, e73]
      refine T.iff_ (by omega) (T.ift m1.1 (T.ift m1.2 (T.ift m2.1 (T.ift m2.2 (T.iff_ (by omega) (T.now ?_))))))
      have r1 := hb.at_ (Int.tmod p l.length)
      have r2 := hb.at_ (Int.tmod (p * 7 + 3) l.length)
      generalize rd l (Int.tmod p l.length) = u at r1 ⊢
      generalize rd l (Int.tmod (p * 7 + 3) l.length) = v at r2 ⊢
      generalize Int.tdiv p l.length = q at q1 ⊢
      have a1 : wrap64 u = u := w64 (by omega) (by omega)
      have a2 : wrap64 v = v := w64 (by omega) (by omega)
      have a3 : wrap64 (u * 131) = u * 131 := w64 (by omega) (by omega)
      have a4 : wrap64 (v * 1117) = v * 1117 := w64 (by omega) (by omega)
      have a5 : wrap64 (u * 131 + v * 1117) = u * 131 + v * 1117 := w64 (by omega) (by omega)
      have a6 : wrap64 (p * 29) = p * 29 := w64 (by omega) (by omega)
      have a7 : wrap64 (u * 131 + v * 1117 + p * 29) = u * 131 + v * 1117 + p * 29 := w64 (by omega) (by omega)
      have a8 : wrap64 q = q := w64 (by omega) (by omega)
      have a9 : wrap64 (q * 53) = q * 53 := w64 (by omega) (by omega)
      have a10 : wrap64 (u * 131 + v * 1117 + p * 29 + q * 53) = u * 131 + v * 1117 + p * 29 + q * 53 := w64 (by omega) (by omega)
      rw [a1, a2, a3, a4, a5, a6, a7, a8, a9, a10]
      have hx0 : 0 ≤ u * 131 + v * 1117 + p * 29 + q * 53 := by omega
      have hx1 : u * 131 + v * 1117 + p * 29 + q * 53 < 2 ^ 50 := by omega
      generalize u * 131 + v * 1117 + p * 29 + q * 53 = x at hx0 hx1 ⊢
      have d := tdiv_in hx0 (show (1 : Int) ≤ 64 by omega)
      rw [show wrap64 (Int.tdiv x 64) = Int.tdiv x 64 from w64 (by omega) (by omega)]
      have hxor : 0 ≤ Go.bits .xor .i64 x (Int.tdiv x 64) := by
        generalize Int.tdiv x 64 = y at d ⊢
        obtain ⟨a, rfl⟩ := Int.eq_ofNat_of_zero_le hx0
        obtain ⟨b, rfl⟩ := Int.eq_ofNat_of_zero_le d.1
        rw [xor_nat a b 50 (by decide) (by omega) (by omega)]
        omega
      have ht := tmod_in hxor hn1
      exact ⟨rfl, ht.1, fun _ => ht.2, fun h => by omega⟩
theorem spec_open_ (l : List Int) (h : ∀ x ∈ l, (Lit.int .u8 x).wf = true) : ∃ l', spec_l20Open.f l = some (l', 0) ∧ Bytes l' := by
  unfold spec_l20Open.f
  by_cases h1 : (l.length : Int) > 2000
  · refine ⟨l.take 2000, by rw [if_pos h1, if_pos (by omega)], bytes_of (fun x hx => h x (List.mem_of_mem_take hx)) (by rw [List.length_take]; omega)⟩
  · exact ⟨l, by rw [if_neg h1], bytes_of h (by omega)⟩
def Odd1 (p : Int) (r : Bool × Int) : Prop := p ≤ r.2 ∧ r.2 ≤ p + 1
theorem spec_odd_ (l : List Int) (p n : Int) (hb : Bytes l) (h0 : 0 ≤ p) (h1 : p ≤ 1000000000000) : T (fun k => spec_l20Rd_odd.f k l p n) (Odd1 p) := by
  unfold spec_l20Rd_odd.f
  refine T.ite (fun hn => ?_) (fun _ => T.now ⟨by show p ≤ p; omega, by show p ≤ p + 1; omega⟩)
  refine T.bind (spec_pick_ l p n hb h0 h1) ?_
  rintro ⟨a, q⟩ ⟨rfl, _⟩
  exact T.now ⟨by show p ≤ p + 1; omega, by show p + 1 ≤ p + 1; omega⟩
theorem spec_name_ (l : List Int) (p n : Int) (hb : Bytes l) (h0 : 0 ≤ p) (h1 : p ≤ 900000000000) : T (fun k => spec_l20Name.f k l p n) (fun r => r.1.size ≤ 100 ∧ p ≤ r.2 ∧ r.2 ≤ p + 2) := by
  unfold spec_l20Name.f
  refine T.bind (spec_odd_ l p n hb h0 (by omega)) ?_
  rintro ⟨a, q⟩ ⟨ha, hq⟩
  dsimp only at ha hq ⊢
  refine T.ite (fun _ => ?_) (fun _ => ?_) <;>
  · refine T.bind (T.now (Q := fun x => x = _) rfl) ?_
    rintro _ rfl
    refine T.bind (spec_pick_ l q _ hb (by omega) (by omega)) ?_
    rintro ⟨i, q'⟩ ⟨rfl, hi0, hi, _⟩
    dsimp only at hi0 hi ⊢
    have hi := hi (by omega)
    refine T.ift hi0 (T.ift (by simp only [List.length_cons, List.length_nil]; omega) (T.now ⟨?_, by omega, by omega⟩))
    have : i.toNat = 0 ∨ i.toNat = 1 ∨ i.toNat = 2 ∨ i.toNat = 3 ∨ i.toNat = 4 := by omega
    rcases this with h | h | h | h | h <;> simp only [rdOf, h] <;> decide
/-! #### drawn expressions -/
/-- What a draw of an expression hands back: not more than c nodes, and the place has gone on by not more than g. -/
def DrawE (p c g : Int) (r : Int × Int × ByteArray × List S25 × Int) : Prop := OkE ⟨r.1, r.2.1, r.2.2.1, r.2.2.2.1⟩ ∧ cntE ⟨r.1, r.2.1, r.2.2.1, r.2.2.2.1⟩ ≤ c ∧ p ≤ r.2.2.2.2 ∧ r.2.2.2.2 ≤ p + g
theorem DrawE.mono {p c g c' g' : Int} {r} (h : DrawE p c g r) (hc : c ≤ c') (hg : g ≤ g') : DrawE p c' g' r := ⟨h.1, by have := h.2.1; omega, h.2.2.1, by have := h.2.2.2; omega⟩
theorem OkE.leaf {a b : Int} {s : ByteArray} (h : s.size ≤ 9223372036854775807) : OkE ⟨a, b, s, []⟩ := OkE.mk h (fun y hy => absurd hy (by simp))
theorem OkE.one {a b : Int} {s : ByteArray} {x : S25} (h : s.size ≤ 9223372036854775807) (hx : OkE x) : OkE ⟨a, b, s, [x]⟩ := OkE.mk h (fun y hy => by rw [List.mem_singleton.1 hy]; exact hx)
theorem OkE.two {a b : Int} {s : ByteArray} {x y : S25} (h : s.size ≤ 9223372036854775807) (hx : OkE x) (hy : OkE y) : OkE ⟨a, b, s, [x, y]⟩ := OkE.mk h (fun z hz => by
  rcases List.mem_cons.1 hz with rfl | hz
  · exact hx
  · rw [List.mem_singleton.1 hz]; exact hy)
theorem cnt_leaf (a b : Int) (s : ByteArray) : cntE ⟨a, b, s, []⟩ = 1 := by rw [cntE_eq, cntEs_nil]; omega
theorem cnt_one (a b : Int) (s : ByteArray) (x : S25) : cntE ⟨a, b, s, [x]⟩ = 1 + cntE x := by rw [cntE_eq, cntEs_cons, cntEs_nil]; omega
theorem cnt_two (a b : Int) (s : ByteArray) (x y : S25) : cntE ⟨a, b, s, [x, y]⟩ = 1 + cntE x + cntE y := by rw [cntE_eq, cntEs_cons, cntEs_cons, cntEs_nil]; omega
theorem DrawE.leaf {p c g : Int} {a b : Int} {s : ByteArray} {q : Int} (hs : s.size ≤ 9223372036854775807) (hc : 1 ≤ c) (h1 : p ≤ q) (h2 : q ≤ p + g) : DrawE p c g (a, b, s, [], q) := ⟨OkE.leaf hs, by rw [cnt_leaf]; exact hc, h1, h2⟩
theorem size_none : (⟨#[]⟩ : ByteArray).size ≤ 9223372036854775807 := by decide
theorem size_open : (⟨#[111, 112, 101, 110]⟩ : ByteArray).size ≤ 9223372036854775807 := by decide
theorem size_A : (⟨#[65]⟩ : ByteArray).size ≤ 9223372036854775807 := by decide
theorem size_fit {s : ByteArray} (h : s.size ≤ 100) : s.size ≤ 9223372036854775807 := by omega
theorem two_size {i : Int} {a b : ByteArray} (h0 : 0 ≤ i) (h1 : i < 2) (ha : a.size ≤ 100) (hb : b.size ≤ 100) : (rdOf ByteArray.empty [a, b] i).size ≤ 100 := by
  have : i.toNat = 0 ∨ i.toNat = 1 := by omega
  rcases this with h | h <;> simp only [rdOf, h] <;> assumption
theorem spec_thing_ (l : List Int) (hb : Bytes l) : ∀ (n : Nat) (p : Int), n ≤ 5 → 0 ≤ p → p + 100000 * n ≤ 700001000000 → T (fun k => spec_l20Thing.f k l p n) (DrawE p (n + 1) (2 * (n + 1))) := by
  intro n
  induction n with
  | zero =>
    intro p _ h0 h1
    refine T.step (fun k => spec_l20Thing.f.eq_2 ..) ?_
    refine T.bind (spec_pick_ l p 5 hb h0 (by omega)) ?_
    rintro ⟨a, q⟩ ⟨rfl, _⟩
    dsimp only
    refine T.ite (fun _ => T.now (DrawE.leaf size_none (by omega) (by omega) (by omega))) (fun _ => T.ite (fun _ => ?_) (fun _ => T.ite (fun _ => ?_) (fun _ => T.ite (fun _ => T.iff_ (by simp) ?_) (fun _ => T.now (DrawE.leaf size_none (by omega) (by omega) (by omega))))))
    · refine T.bind (spec_pick_ l _ 4 hb (by omega) (by omega)) ?_
      rintro ⟨a, q⟩ ⟨rfl, _⟩
      exact T.now (DrawE.leaf size_none (by omega) (by show p ≤ p + 1 + 1; omega) (by show p + 1 + 1 ≤ _; omega))
    · refine T.bind (T.now (Q := fun x => x = _) rfl) ?_
      rintro _ rfl
      refine T.bind (spec_pick_ l _ 2 hb (by omega) (by omega)) ?_
      rintro ⟨a, q⟩ ⟨rfl, ha0, ha1, _⟩
      dsimp only at ha0 ha1 ⊢
      have ha1 := ha1 (by omega)
      exact T.ift ha0 (T.ift (by simpa using ha1) (T.now (DrawE.leaf (by have := two_size ha0 ha1 (a := ⟨#[111, 119, 110, 101, 114]⟩) (b := ⟨#[98, 111, 115, 115]⟩) (by decide) (by decide); exact size_fit this) (by omega) (by omega) (by omega))))
    · exact T.now (DrawE.leaf size_none (by omega) (by omega) (by omega))
  | succ m ih =>
    intro p hn h0 h1
    refine T.step (fun k => spec_l20Thing.f.eq_2 ..) ?_
    refine T.bind (spec_pick_ l p 5 hb h0 (by omega)) ?_
    rintro ⟨a, q⟩ ⟨rfl, _⟩
    dsimp only
    refine T.ite (fun _ => T.now (DrawE.leaf size_none (by omega) (by omega) (by omega))) (fun _ => T.ite (fun _ => ?_) (fun _ => T.ite (fun _ => ?_) (fun _ => T.ite (fun _ => T.ift (by omega) ?_) (fun _ => T.now (DrawE.leaf size_none (by omega) (by omega) (by omega))))))
    · refine T.bind (spec_pick_ l _ 4 hb (by omega) (by omega)) ?_
      rintro ⟨a, q⟩ ⟨rfl, _⟩
      exact T.now (DrawE.leaf size_none (by omega) (by show p ≤ p + 1 + 1; omega) (by show p + 1 + 1 ≤ _; omega))
    · refine T.bind (T.now (Q := fun x => x = _) rfl) ?_
      rintro _ rfl
      refine T.bind (spec_pick_ l _ 2 hb (by omega) (by omega)) ?_
      rintro ⟨a, q⟩ ⟨rfl, ha0, ha1, _⟩
      dsimp only at ha0 ha1 ⊢
      have ha1 := ha1 (by omega)
      exact T.ift ha0 (T.ift (by simpa using ha1) (T.now (DrawE.leaf (by have := two_size ha0 ha1 (a := ⟨#[111, 119, 110, 101, 114]⟩) (b := ⟨#[98, 111, 115, 115]⟩) (by decide) (by decide); exact size_fit this) (by omega) (by omega) (by omega))))
    · refine T.bind (T.now (Q := fun x => x = _) rfl) ?_
      rintro _ rfl
      refine T.bind (spec_pick_ l _ 2 hb (by omega) (by omega)) ?_
      rintro ⟨a, q⟩ ⟨rfl, ha0, ha1, _⟩
      dsimp only at ha0 ha1 ⊢
      have ha1 := ha1 (by omega)
      refine T.ift ha0 (T.ift (by simpa using ha1) ?_)
      rw [show wrap64 (((m + 1 : Nat) : Int) - 1) = (m : Int) by rw [w64 (by omega) (by omega)]; omega]
      refine T.bind (ih (p + 1 + 1) (by omega) (by omega) (by omega)) ?_
      rintro ⟨k1, k2, k3, k4, q⟩ ⟨d1, d2, d3, d4⟩
      dsimp only at d1 d2 d3 d4 ⊢
      refine T.now ⟨OkE.one ?_ d1, ?_, ?_, ?_⟩
      · have := two_size ha0 ha1 (a := ⟨#[111, 119, 110, 101, 114]⟩) (b := ⟨#[98, 111, 115, 115]⟩) (by decide) (by decide); exact size_fit this
      · rw [cnt_one]; omega
      · show p ≤ q; omega
      · show q ≤ _; omega
theorem spec_number_ (l : List Int) (hb : Bytes l) (n : Nat) (p : Int) (hn : n ≤ 5) (h0 : 0 ≤ p) (h1 : p ≤ 700000000000) : T (fun k => spec_l20Number.f k l p n) (DrawE p (n + 2) (2 * (n + 1) + 4)) := by
  unfold spec_l20Number.f
  refine T.bind (spec_pick_ l p 4 hb h0 (by omega)) ?_
  rintro ⟨a, q⟩ ⟨rfl, _⟩
  dsimp only
  have pk : T (fun k => (spec_l20Rd_pick.f k l (p + 1) 5).bind fun bt573 => (some ((2 : Int), bt573.1, (⟨#[]⟩ : ByteArray), ([] : List (S25)), bt573.2))) (DrawE p (n + 2) (2 * (n + 1) + 4)) := by
    refine T.bind (spec_pick_ l _ 5 hb (by omega) (by omega)) ?_
    rintro ⟨a, q⟩ ⟨rfl, _⟩
    exact T.now (DrawE.leaf size_none (by omega) (by show p ≤ p + 1 + 1; omega) (by show p + 1 + 1 ≤ _; omega))
  refine T.step (fun k => spec_l20Number.j0.eq_2 ..) ?_
  refine T.ite (fun _ => T.now (DrawE.leaf size_none (by omega) (by omega) (by omega))) (fun _ => T.ite (fun _ => ?_) (fun _ => T.ite (fun _ => T.ite (fun hp => ?_) (fun _ => pk)) (fun _ => pk)))
  · refine T.bind (T.now (Q := fun x => x = _) rfl) ?_
    rintro _ rfl
    refine T.bind (spec_pick_ l _ 2 hb (by omega) (by omega)) ?_
    rintro ⟨a, q⟩ ⟨rfl, ha0, ha1, _⟩
    dsimp only at ha0 ha1 ⊢
    have ha1 := ha1 (by omega)
    exact T.ift ha0 (T.ift (by simpa using ha1) (T.now (DrawE.leaf (by have := two_size ha0 ha1 (a := ⟨#[108, 101, 118, 101, 108]⟩) (b := ⟨#[97, 103, 101]⟩) (by decide) (by decide); exact size_fit this) (by omega) (by omega) (by omega))))
  · refine T.bind (T.now (Q := fun x => x = _) rfl) ?_
    rintro _ rfl
    refine T.bind (spec_pick_ l _ 2 hb (by omega) (by omega)) ?_
    rintro ⟨a, q⟩ ⟨rfl, ha0, ha1, _⟩
    dsimp only at ha0 ha1 ⊢
    have ha1 := ha1 (by omega)
    refine T.ift ha0 (T.ift (by simpa using ha1) ?_)
    rw [show wrap64 ((n : Int) - 1) = ((n - 1 : Nat) : Int) by rw [w64 (by omega) (by omega)]; omega]
    refine T.bind (spec_thing_ l hb (n - 1) (p + 1 + 1) (by omega) (by omega) (by omega)) ?_
    rintro ⟨k1, k2, k3, k4, q⟩ ⟨d1, d2, d3, d4⟩
    dsimp only at d1 d2 d3 d4 ⊢
    refine T.now ⟨OkE.one ?_ d1, ?_, ?_, ?_⟩
    · have := two_size ha0 ha1 (a := ⟨#[108, 101, 118, 101, 108]⟩) (b := ⟨#[97, 103, 101]⟩) (by decide) (by decide); exact size_fit this
    · rw [cnt_one]; omega
    · show p ≤ q; omega
    · show q ≤ _; omega
/-- How many nodes, and how many codes, a truth of depth n takes at most. -/
def bigT : Nat → Int
  | 0 => 40
  | n + 1 => 40 + 2 * bigT n
theorem bigT_ge (n : Nat) : 40 + 5 * (n : Int) ≤ bigT n := by
  induction n with
  | zero => simp [bigT]
  | succ n ih => rw [bigT]; omega
theorem bigT_le {n : Nat} (h : n ≤ 5) : bigT n ≤ 3000 := by
  have : n = 0 ∨ n = 1 ∨ n = 2 ∨ n = 3 ∨ n = 4 ∨ n = 5 := by omega
  rcases this with h | h | h | h | h | h <;> subst h <;> decide
theorem spec_truth_ (l : List Int) (hb : Bytes l) : ∀ (n : Nat) (p : Int), n ≤ 5 → 0 ≤ p → p + 100000 * n ≤ 600001000000 → T (fun k => spec_l20Truth.f k l p n) (DrawE p (bigT n) (bigT n)) := by
  intro n
  induction n with
  | zero =>
    intro p _ h0 h1
    refine T.step (fun k => spec_l20Truth.f.eq_2 ..) (T.ift (by simp) ?_)
    refine T.bind (spec_pick_ l p 2 hb h0 (by omega)) ?_
    rintro ⟨a, q⟩ ⟨rfl, _⟩
    dsimp only
    refine T.bind (T.now (Q := fun x => x = _) rfl) ?_
    rintro _ rfl
    refine T.bind (spec_pick_ l _ 2 hb (by omega) (by omega)) ?_
    rintro ⟨b, q⟩ ⟨rfl, ha0, ha1, _⟩
    dsimp only at ha0 ha1 ⊢
    have ha1 := ha1 (by omega)
    refine T.ift ha0 (T.ift (by simpa using ha1) (T.now ?_))
    have : b.toNat = 0 ∨ b.toNat = 1 := by omega
    rcases this with h | h <;> simp only [rd_T25, h] <;> exact DrawE.leaf (by first | exact size_none | exact size_open) (by simp [bigT]) (by omega) (by simp only [bigT]; omega)
  | succ m ih =>
    intro p hn h0 h1
    have hb1 := bigT_ge m
    have hb2 := bigT_le (show m ≤ 5 by omega)
    have hb3 : bigT (m + 1) = 40 + 2 * bigT m := by rw [bigT]
    rw [hb3]
    refine T.step (fun k => spec_l20Truth.f.eq_2 ..) (T.iff_ (by omega) ?_)
    refine T.bind (spec_pick_ l p 10 hb h0 (by omega)) ?_
    rintro ⟨a, q⟩ ⟨rfl, _⟩
    dsimp only
    refine T.step (fun k => spec_l20Truth.j0.eq_2 ..) ?_
    have em : wrap64 (((m + 1 : Nat) : Int) - 1) = (m : Int) := by rw [w64 (by omega) (by omega)]; omega
    rw [em]
    refine T.ite (fun _ => ?_) (fun _ => T.ite (fun _ => ?_) (fun _ => T.ite (fun _ => ?_) (fun _ => T.ite (fun _ => ?_) (fun _ => T.ite (fun _ => ?_) (fun _ => T.ite (fun _ => ?_) (fun _ => T.ite (fun _ => ?_) (fun _ => T.ite (fun _ => ?_) (fun _ => T.ite (fun _ => ?_) (fun _ => ?_)))))))))
    · refine T.bind (spec_pick_ l _ 2 hb (by omega) (by omega)) ?_
      rintro ⟨a, q⟩ ⟨rfl, _⟩
      exact T.now (DrawE.leaf size_none (by omega) (by show p ≤ p + 1 + 1; omega) (by show p + 1 + 1 ≤ _; omega))
    · refine T.bind (spec_thing_ l hb m _ (by omega) (by omega) (by omega)) ?_
      rintro ⟨k1, k2, k3, k4, q⟩ ⟨d1, d2, d3, d4⟩
      dsimp only at d1 d2 d3 d4 ⊢
      exact T.now ⟨OkE.one size_open d1, by rw [cnt_one]; omega, by show p ≤ q; omega, by show q ≤ _; omega⟩
    · refine T.bind (spec_name_ l _ 0 hb (by omega) (by omega)) ?_
      rintro ⟨s, q⟩ ⟨hs, hq, hq2⟩
      dsimp only at hs hq hq2 ⊢
      refine T.bind (spec_thing_ l hb m _ (by omega) (by omega) (by omega)) ?_
      rintro ⟨k1, k2, k3, k4, q⟩ ⟨d1, d2, d3, d4⟩
      dsimp only at d1 d2 d3 d4 ⊢
      exact T.now ⟨OkE.one (size_fit hs) d1, by rw [cnt_one]; omega, by show p ≤ q; omega, by show q ≤ _; omega⟩
    · refine T.bind (spec_thing_ l hb m _ (by omega) (by omega) (by omega)) ?_
      rintro ⟨k1, k2, k3, k4, q⟩ ⟨d1, d2, d3, d4⟩
      dsimp only at d1 d2 d3 d4 ⊢
      refine T.bind (spec_thing_ l hb m _ (by omega) (by omega) (by omega)) ?_
      rintro ⟨j1, j2, j3, j4, r⟩ ⟨f1, f2, f3, f4⟩
      dsimp only at f1 f2 f3 f4 ⊢
      exact T.now ⟨OkE.two size_none d1 f1, by rw [cnt_two]; omega, by show p ≤ r; omega, by show r ≤ _; omega⟩
    · refine T.bind (spec_number_ l hb m _ (by omega) (by omega) (by omega)) ?_
      rintro ⟨k1, k2, k3, k4, q⟩ ⟨d1, d2, d3, d4⟩
      dsimp only at d1 d2 d3 d4 ⊢
      refine T.bind (spec_number_ l hb m _ (by omega) (by omega) (by omega)) ?_
      rintro ⟨j1, j2, j3, j4, r⟩ ⟨f1, f2, f3, f4⟩
      dsimp only at f1 f2 f3 f4 ⊢
      exact T.now ⟨OkE.two size_none d1 f1, by rw [cnt_two]; omega, by show p ≤ r; omega, by show r ≤ _; omega⟩
    · refine T.bind (spec_thing_ l hb m _ (by omega) (by omega) (by omega)) ?_
      rintro ⟨k1, k2, k3, k4, q⟩ ⟨d1, d2, d3, d4⟩
      dsimp only at d1 d2 d3 d4 ⊢
      refine T.bind (spec_thing_ l hb m _ (by omega) (by omega) (by omega)) ?_
      rintro ⟨j1, j2, j3, j4, r⟩ ⟨f1, f2, f3, f4⟩
      dsimp only at f1 f2 f3 f4 ⊢
      exact T.now ⟨OkE.two size_none d1 f1, by rw [cnt_two]; omega, by show p ≤ r; omega, by show r ≤ _; omega⟩
    · refine T.bind (ih _ (by omega) (by omega) (by omega)) ?_
      rintro ⟨k1, k2, k3, k4, q⟩ ⟨d1, d2, d3, d4⟩
      dsimp only at d1 d2 d3 d4 ⊢
      exact T.now ⟨OkE.one size_none d1, by rw [cnt_one]; omega, by show p ≤ q; omega, by show q ≤ _; omega⟩
    · refine T.bind (ih _ (by omega) (by omega) (by omega)) ?_
      rintro ⟨k1, k2, k3, k4, q⟩ ⟨d1, d2, d3, d4⟩
      dsimp only at d1 d2 d3 d4 ⊢
      refine T.bind (ih _ (by omega) (by omega) (by omega)) ?_
      rintro ⟨j1, j2, j3, j4, r⟩ ⟨f1, f2, f3, f4⟩
      dsimp only at f1 f2 f3 f4 ⊢
      exact T.now ⟨OkE.two size_none d1 f1, by rw [cnt_two]; omega, by show p ≤ r; omega, by show r ≤ _; omega⟩
    · obtain ⟨j, ej, hj⟩ : ∃ j : Nat, mn 1 (m : Int) = j ∧ j ≤ 1 := ⟨(mn 1 (m : Int)).toNat, by unfold mn; split <;> omega, by unfold mn; split <;> omega⟩
      rw [ej]
      refine T.bind (spec_thing_ l hb j _ (by omega) (by omega) (by omega)) ?_
      rintro ⟨k1, k2, k3, k4, q⟩ ⟨d1, d2, d3, d4⟩
      dsimp only at d1 d2 d3 d4 ⊢
      exact T.now ⟨OkE.two size_none (OkE.one size_open d1) (OkE.one size_open d1), by rw [cnt_two, cnt_one, cnt_one]; omega, by show p ≤ q; omega, by show q ≤ _; omega⟩
    · refine T.bind (ih _ (by omega) (by omega) (by omega)) ?_
      rintro ⟨k1, k2, k3, k4, q⟩ ⟨d1, d2, d3, d4⟩
      dsimp only at d1 d2 d3 d4 ⊢
      refine T.bind (ih _ (by omega) (by omega) (by omega)) ?_
      rintro ⟨j1, j2, j3, j4, r⟩ ⟨f1, f2, f3, f4⟩
      dsimp only at f1 f2 f3 f4 ⊢
      exact T.now ⟨OkE.two size_none d1 f1, by rw [cnt_two]; omega, by show p ≤ r; omega, by show r ≤ _; omega⟩
theorem spec_expr_ (l : List Int) (hb : Bytes l) (p n : Int) (h0 : 0 ≤ p) (h1 : p ≤ 500000000000) : T (fun k => spec_l20Expr.f k l p n) (DrawE p 4000 4000) := by
  unfold spec_l20Expr.f
  refine T.bind (spec_pick_ l p 3 hb h0 (by omega)) ?_
  rintro ⟨a, q⟩ ⟨rfl, ha0, ha1, _⟩
  dsimp only at ha0 ha1 ⊢
  have ha1 := ha1 (by omega)
  obtain ⟨j, ej, hj⟩ : ∃ j : Nat, wrap64 (1 + a) = j ∧ j ≤ 5 := ⟨(1 + a).toNat, by rw [w64 (by omega) (by omega)]; omega, by omega⟩
  have hbj := bigT_le hj
  rw [ej]
  refine T.bind (spec_truth_ l hb j _ hj (by omega) (by omega)) ?_
  rintro ⟨k1, k2, k3, k4, q⟩ ⟨d1, d2, d3, d4⟩
  dsimp only at d1 d2 d3 d4 ⊢
  refine T.bind (spec_odd_ l q n hb (by omega) (by omega)) ?_
  rintro ⟨b, q2⟩ ⟨hq1, hq2⟩
  dsimp only at hq1 hq2 ⊢
  refine T.step (fun k => spec_l20Expr.j0.eq_2 ..) ?_
  refine T.ite (fun _ => ?_) (fun _ => T.now ⟨d1, by show cntE ⟨k1, k2, k3, k4⟩ ≤ 4000; omega, by show p ≤ q2; omega, by show q2 ≤ _; omega⟩)
  refine T.bind (spec_pick_ l _ 6 hb (by omega) (by omega)) ?_
  rintro ⟨c, q3⟩ ⟨rfl, _⟩
  dsimp only
  refine T.step (fun k => spec_l20Expr.j1.eq_2 ..) ?_
  refine T.ite (fun _ => ?_) (fun _ => T.ite (fun _ => ?_) (fun _ => T.ite (fun _ => ?_) (fun _ => T.ite (fun _ => ?_) (fun _ => T.ite (fun _ => ?_) (fun _ => ?_)))))
  · refine T.bind (spec_number_ l hb 2 _ (by omega) (by omega) (by omega)) ?_
    rintro ⟨j1, j2, j3, j4, r⟩ ⟨f1, f2, f3, f4⟩
    dsimp only at f1 f2 f3 f4 ⊢
    exact T.now ⟨f1, by show cntE ⟨j1, j2, j3, j4⟩ ≤ 4000; omega, by show p ≤ r; omega, by show r ≤ _; omega⟩
  · refine T.bind (spec_thing_ l hb 1 _ (by omega) (by omega) (by omega)) ?_
    rintro ⟨j1, j2, j3, j4, r⟩ ⟨f1, f2, f3, f4⟩
    dsimp only at f1 f2 f3 f4 ⊢
    exact T.now ⟨OkE.one size_none f1, by rw [cnt_one]; omega, by show p ≤ r; omega, by show r ≤ _; omega⟩
  · refine T.bind (spec_thing_ l hb 1 _ (by omega) (by omega) (by omega)) ?_
    rintro ⟨j1, j2, j3, j4, r⟩ ⟨f1, f2, f3, f4⟩
    dsimp only at f1 f2 f3 f4 ⊢
    exact T.now ⟨OkE.two size_none f1 d1, by rw [cnt_two]; omega, by show p ≤ r; omega, by show r ≤ _; omega⟩
  · refine T.bind (T.now (Q := fun x => x = _) rfl) ?_
    rintro _ rfl
    refine T.bind (spec_pick_ l _ 2 hb (by omega) (by omega)) ?_
    rintro ⟨b, q⟩ ⟨rfl, ha0, ha1, _⟩
    dsimp only at ha0 ha1 ⊢
    have ha1 := ha1 (by omega)
    exact T.ift ha0 (T.ift (by simpa using ha1) (T.now (DrawE.leaf size_none (by omega) (by omega) (by omega))))
  · exact T.now ⟨OkE.one size_none d1, by rw [cnt_one]; omega, by show p ≤ q2 + 1; omega, by show q2 + 1 ≤ _; omega⟩
  · exact T.now ⟨OkE.one size_A d1, by rw [cnt_one]; omega, by show p ≤ q2 + 1; omega, by show q2 + 1 ≤ _; omega⟩
/-! #### good expressions -/
def partsN (c : Int) : Int := if c = 8 ∨ c = 9 ∨ c = 13 then 1 else if c = 10 ∨ c = 11 ∨ c = 12 ∨ c = 14 ∨ c = 15 then 2 else 0
def namedB (c : Int) : Bool := decide (c = 7 ∨ c = 8 ∨ c = 9)
def greatN (c : Int) : Int := if c = 1 then 1 else if c = 2 then 99 else if c = 3 then 6 else 0
def nodeB (a b : Int) (s : ByteArray) (n : Nat) : Bool :=
  decide (1 ≤ a ∧ a ≤ 15) && decide (0 ≤ b ∧ b ≤ greatN a) && decide ((n : Int) = partsN a) && (if s.toList = ([] : List UInt8) then !namedB a else (namedB a && nameB s))
mutual
def goodE : S25 → Bool
  | ⟨a, b, s, l⟩ => nodeB a b s l.length && goodEs l
def goodEs : List S25 → Bool
  | [] => true
  | x :: l => goodE x && goodEs l
end
theorem goodE_eq (x : S25) : goodE x = (nodeB x.f0 x.f1 x.f2 x.f3.length && goodEs x.f3) := by cases x; rw [goodE]
theorem goodEs_nil : goodEs [] = true := by rw [goodEs]
theorem goodEs_cons (x : S25) (l : List S25) : goodEs (x :: l) = (goodE x && goodEs l) := by rw [goodEs]
theorem goodEs_mem {l : List S25} (h : goodEs l = true) {y : S25} (hy : y ∈ l) : goodE y = true := by
  induction l with
  | nil => exact absurd hy (by simp)
  | cons x l ih =>
    rw [goodEs_cons, Bool.and_eq_true] at h
    rcases List.mem_cons.1 hy with rfl | hy
    · exact h.1
    · exact ih h.2 hy
theorem depE_mem {l : List S25} {y : S25} (h : y ∈ l) : depE y ≤ depEs l := by
  induction l with
  | nil => exact absurd h (by simp)
  | cons x l ih =>
    rw [depEs_cons]
    unfold mx
    rcases List.mem_cons.1 h with rfl | h
    · split <;> omega
    · have := ih h
      split <;> omega
theorem depEs_nonneg (l : List S25) : 0 ≤ depEs l := (depEs_le (fun y _ => depE_le y)).1
def validE (x : S25) : Bool := goodE x && decide (cntE x ≤ 40 ∧ depE x ≤ 7)
def sizeM (d : Int) (x : S25) : Int := if goodE x = true ∧ depE x ≤ d then cntE x else 0
theorem sizeM_bad {d : Int} {x : S25} (h : ¬ (goodE x = true ∧ depE x ≤ d)) : sizeM d x = 0 := if_neg h
theorem validE_part {x y : S25} (h : validE x = true) (hy : y ∈ x.f3) : validE y = true := by
  unfold validE at h ⊢
  rw [Bool.and_eq_true, decide_eq_true_eq, goodE_eq, Bool.and_eq_true] at h
  have h1 := cntE_part hy
  have h2 := depE_mem hy
  have h3 := depE_eq x
  rw [Bool.and_eq_true, decide_eq_true_eq]
  exact ⟨goodEs_mem h.1.2 hy, by omega, by omega⟩
theorem impl_partsOf_ (c : Int) : T (fun k => impl_partsOf.f k c) (fun r => r = (partsN c, namedB c)) := by
  unfold impl_partsOf.f
  have J : ∀ b : Bool, ¬ c = 7 → b = decide (c = 8 ∨ c = 9) → T (fun k => impl_partsOf.j0 k c b) (fun r => r = (partsN c, namedB c)) := by
    intro b hc hb
    have e9 : namedB c = b := by rw [hb]; unfold namedB; exact decide_eq_decide.2 (by omega)
    rw [e9]
    refine T.step (fun k => impl_partsOf.j0.eq_2 ..) ?_
    unfold partsN
    refine T.ite (fun h => T.now ?_) (fun h => ?_)
    · rw [hb] at h
      have := of_decide_eq_true h
      rw [if_pos (by omega)]
      rw [hb, decide_eq_true this]
    · rw [hb] at h
      have hn : ¬ (c = 8 ∨ c = 9) := by simpa using h
      have hb' : b = false := by rw [hb]; simpa using hn
      rw [hb']
      refine T.ite (fun h => T.now (by rw [if_pos (by omega)])) (fun h13 => ?_)
      have e1 : ¬ (c = 8 ∨ c = 9 ∨ c = 13) := by omega
      simp only [if_neg e1]
      refine T.ite (fun h => T.now (by rw [if_pos (by omega)])) (fun h10 => ?_)
      refine T.ite (fun h => T.now (by rw [if_pos (by omega)])) (fun h11 => ?_)
      refine T.ite (fun h => T.now (by rw [if_pos (by omega)])) (fun h12 => ?_)
      refine T.ite (fun h => T.now (by rw [if_pos (by omega)])) (fun h14 => ?_)
      refine T.ite (fun h => T.now (by rw [if_pos (by omega)])) (fun h15 => ?_)
      exact T.now (by rw [if_neg (by omega)])
  refine T.ite (fun h => T.now ?_) (fun h => T.ite (fun h8 => J _ h ?_) (fun h8 => J _ h ?_))
  · subst h; decide
  · subst h8; decide
  · rw [Bool.eq_iff_iff, beq_iff_eq, decide_eq_true_eq]; omega
theorem impl_greatestNumber_ (c : Int) : impl_greatestNumber.f c = some (greatN c) := by
  unfold impl_greatestNumber.f greatN
  split
  · rfl
  split
  · rfl
  split <;> rfl
theorem impl_size_ : ∀ x : S25, OkE x → cntE x ≤ 1048577 → ∀ d : Int, 0 ≤ d → d ≤ 1000 → T (fun k => impl_Expr_size.f k x.f0 x.f1 x.f2 x.f3 d) (fun r => r = sizeM d x) := Expr_ind (fun x ih hx hc d h0 h1 => by
  have hd := depE_le x
  have bad : ¬ (nodeB x.f0 x.f1 x.f2 x.f3.length = true) → 0 = sizeM d x := fun h => (sizeM_bad (fun hg => by rw [goodE_eq, Bool.and_eq_true] at hg; exact h hg.1.1)).symm
  have jbad : (0 = sizeM d x) → T (fun k => impl_Expr_size.j0 k d true x.f0 x.f1 x.f2 x.f3) (fun r => r = sizeM d x) := fun h => T.step (fun k => impl_Expr_size.j0.eq_2 ..) (T.ift rfl (T.now h))
  refine T.step (fun k => impl_Expr_size.f.eq_2 ..) ?_
  refine T.bind (impl_partsOf_ x.f0) ?_
  rintro _ rfl
  refine T.ite (fun hd0 => jbad (sizeM_bad (by omega)).symm) (fun hd0 => ?_)
  rw [impl_in_]
  refine T.bind (T.now (Q := fun x => x = _) rfl) ?_
  rintro _ rfl
  refine T.ite (fun hk => ?_) (fun hk => jbad (bad (fun h => hk (by unfold nodeB at h; simp only [Bool.and_eq_true] at h; exact h.1.1.1))))
  rw [impl_greatestNumber_]
  refine T.bind (T.now (Q := fun x => x = _) rfl) ?_
  rintro _ rfl
  rw [impl_in_]
  refine T.bind (T.now (Q := fun x => x = _) rfl) ?_
  rintro _ rfl
  refine T.ite (fun hg => ?_) (fun hg => jbad (bad (fun h => hg (by unfold nodeB at h; simp only [Bool.and_eq_true] at h; exact h.1.1.2))))
  refine T.ite (fun hl => ?_) (fun hl => jbad (bad (fun h => hl (by unfold nodeB at h; simp only [Bool.and_eq_true, decide_eq_true_eq] at h; exact h.1.2))))
  have J : ∀ b : Bool, nodeB x.f0 x.f1 x.f2 x.f3.length = !b → T (fun k => impl_Expr_size.j0 k d b x.f0 x.f1 x.f2 x.f3) (fun r => r = sizeM d x) := by
    intro b hb
    cases b with
    | true => exact jbad (bad (by rw [hb]; simp))
    | false =>
      refine T.step (fun k => impl_Expr_size.j0.eq_2 ..) (T.iff_ (by simp) ?_)
      have hn : nodeB x.f0 x.f1 x.f2 x.f3.length = true := hb
      have hlen := cntEs_pos x.f3
      have hce := cntE_eq x
      have hdep := depEs_nonneg x.f3
      have hsz : sizeM d x = if goodEs x.f3 = true ∧ depEs x.f3 ≤ d - 1 then cntE x else 0 := by
        unfold sizeM
        rw [goodE_eq, hn, Bool.true_and, depE_eq]
        by_cases hg : goodEs x.f3 = true ∧ depEs x.f3 ≤ d - 1
        · rw [if_pos hg, if_pos ⟨hg.1, by omega⟩]
        · rw [if_neg hg, if_neg (fun h => hg ⟨h.1, by omega⟩)]
      rw [hsz]
      refine T.loop (fun (s : Int × Int) k => impl_Expr_size.l0 k d s.1 x.f3 (x.f3.length : Int) s.2) (fun s => ((x.f3.length : Int) - s.2).toNat) (fun s => 0 ≤ s.2 ∧ s.2 ≤ x.f3.length ∧ 0 ≤ s.1 ∧ s.1 + cntEs (x.f3.drop s.2.toNat) = cntE x ∧ ((goodEs x.f3 = true ∧ depEs x.f3 ≤ d - 1) ↔ (goodEs (x.f3.drop s.2.toNat) = true ∧ depEs (x.f3.drop s.2.toNat) ≤ d - 1))) _ ?_ (1, 0) ⟨by simp, by simp, by simp, by show 1 + cntEs x.f3 = _; omega, Iff.rfl⟩
      rintro ⟨m, i⟩ ⟨a0, a1, am, a2, a3⟩ ih2
      dsimp only at a0 a1 am a2 a3 ih2 ⊢
      refine T.step (fun k => impl_Expr_size.l0.eq_2 ..) ?_
      refine T.ite (fun hi => T.ift a0 (T.ift hi ?_)) (fun hi => T.now ?_)
      · have hm := get_mem x.f3 z25 i a0 hi
        have hcm := cntE_mem (show rd_T25 x.f3 i ∈ x.f3 from hm)
        rw [w64 (by omega) (by omega)]
        refine T.bind (ih (rd_T25 x.f3 i) hm (hx.part hm) (by omega) (d - 1) (by omega) (by omega)) ?_
        rintro _ rfl
        rw [drop_at x.f3 z25 i a0 hi, goodEs_cons, depEs_cons, Bool.and_eq_true] at a3
        rw [drop_at x.f3 z25 i a0 hi, cntEs_cons] at a2
        have hre : x.f3.getD i.toNat z25 = rd_T25 x.f3 i := rfl
        rw [hre] at a2 a3
        have hmx := mx_of (depE (rd_T25 x.f3 i)) (depEs (x.f3.drop (i + 1).toNat))
        have hp1 := cntE_pos (rd_T25 x.f3 i)
        have hp2 := cntEs_pos (x.f3.drop (i + 1).toNat)
        by_cases hgi : goodE (rd_T25 x.f3 i) = true ∧ depE (rd_T25 x.f3 i) ≤ d - 1
        · rw [show sizeM (d - 1) (rd_T25 x.f3 i) = cntE (rd_T25 x.f3 i) from if_pos hgi]
          refine T.iff_ (by omega) ?_
          rw [w64 (by omega) (by omega), w64 (by omega) (by omega)]
          refine ih2 (m + cntE (rd_T25 x.f3 i), i + 1) ⟨by show 0 ≤ i + 1; omega, by show i + 1 ≤ _; omega, by show 0 ≤ m + _; omega, by show m + cntE (rd_T25 x.f3 i) + cntEs (x.f3.drop (i + 1).toNat) = _; omega, ?_⟩ (by show ((x.f3.length : Int) - (i + 1)).toNat < _; omega)
          show _ ↔ (goodEs (x.f3.drop (i + 1).toNat) = true ∧ depEs (x.f3.drop (i + 1).toNat) ≤ d - 1)
          rw [a3]
          constructor
          · intro h; exact ⟨h.1.2, by omega⟩
          · intro h; exact ⟨⟨hgi.1, h.1⟩, by omega⟩
        · rw [sizeM_bad hgi]
          refine T.ift rfl (T.now ?_)
          rw [if_neg (fun h => hgi ⟨(a3.1 h).1.1, by have := (a3.1 h).2; omega⟩)]
      · rw [drop_all x.f3 i hi, cntEs_nil] at a2
        rw [drop_all x.f3 i hi, goodEs_nil, depEs_nil] at a3
        rw [if_pos (a3.2 ⟨rfl, by omega⟩)]
        omega
  have hnode : nodeB x.f0 x.f1 x.f2 x.f3.length = (if x.f2.toList = ([] : List UInt8) then !namedB x.f0 else (namedB x.f0 && nameB x.f2)) := by
    unfold nodeB
    rw [hk, hg, decide_eq_true hl]
    simp
  rw [hnode] at J
  refine T.ite (fun hs => ?_) (fun hs => ?_)
  · rw [if_pos hs] at J
    refine T.ite (fun hb => J _ (by rw [show namedB x.f0 = true from hb])) (fun hb => J _ ?_)
    rw [show namedB x.f0 = false by simpa using hb]
  · rw [if_neg hs] at J
    refine T.ite (fun hb => ?_) (fun hb => J _ ?_)
    · rw [show namedB x.f0 = true from hb] at J
      refine T.bind (impl_NameValid_ x.f2 hx.name) ?_
      rintro _ rfl
      exact J _ (by simp)
    · rw [show namedB x.f0 = false by simpa using hb]; rfl)
theorem impl_ExprValid_ (x : S25) (hx : OkE x) (hc : cntE x ≤ 1048577) : T (fun k => impl_ExprValid.f k x.f0 x.f1 x.f2 x.f3) (fun r => r = validE x) := by
  unfold impl_ExprValid.f
  refine T.bind (impl_size_ x hx hc 7 (by omega) (by omega)) ?_
  rintro _ rfl
  rw [impl_in_]
  refine T.bind (T.now (Q := fun x => x = _) rfl) ?_
  rintro _ rfl
  refine T.now ?_
  have hp := cntE_pos x
  unfold validE sizeM
  by_cases h : goodE x = true ∧ depE x ≤ 7
  · rw [if_pos h, h.1, Bool.true_and]
    exact decide_eq_decide.2 (by omega)
  · rw [if_neg h, Bool.eq_iff_iff, Bool.and_eq_true, decide_eq_true_eq, decide_eq_true_eq]
    constructor
    · intro hh; omega
    · intro hh; exact absurd ⟨hh.1, hh.2.2⟩ h
theorem spec_l1In_ (n a b : Int) : spec_l1In.f n a b = some (decide (a ≤ n ∧ n ≤ b)) := by
  unfold spec_l1In.f
  by_cases h : n ≥ a
  · rw [if_pos h]; simp [show a ≤ n from h]
  · rw [if_neg h]; simp [show ¬ a ≤ n from h]
theorem spec_NameValid_ (s : ByteArray) (hs : s.size ≤ 9223372036854775807) : T (fun k => spec_NameValid.f k s) (fun r => r = nameB s) := by
  unfold spec_NameValid.f
  refine T.loop (fun (i : Int) k => spec_NameValid.l0 k s i) (fun i => ((s.size : Int) - i).toNat) (fun i => 0 ≤ i ∧ i ≤ s.size ∧ ∀ j : Nat, (j : Int) < i → 97 ≤ bt s j ∧ bt s j ≤ 122) _ ?_ 0 ⟨by omega, by omega, fun j hj => by omega⟩
  rintro i ⟨h0, h1, hl⟩ ih
  refine T.step (fun k => spec_NameValid.l0.eq_2 ..) ?_
  refine T.ite (fun hi => ?_) (fun hi => ?_)
  · refine T.ift h0 ?_
    have e : ((i.toNat : Nat) : Int) = i := by omega
    have hb : bt s (i.toNat : Nat) = bt s i := by rw [e]
    refine T.ite (fun hc => T.now ?_) (fun hc => T.ite (fun hd => T.now ?_) (fun hd => ?_))
    · exact (nameB_low (fun h => by have := h i.toNat (by omega); rw [hb] at this; omega)).symm
    · exact (nameB_low (fun h => by have := h i.toNat (by omega); rw [hb] at this; omega)).symm
    · rw [w64 (by omega) (by omega)]
      refine ih (i + 1) ⟨by omega, by omega, fun j hj => ?_⟩ (by omega)
      by_cases hji : (j : Int) < i
      · exact hl j hji
      · have : (j : Int) = i := by omega
        rw [this]; omega
  · rw [spec_l1In_]
    refine T.now ?_
    have hi : i = s.size := by omega
    subst hi
    have : lowB s = true := decide_eq_true (fun j hj => hl j (by omega))
    rw [nameB, this, Bool.true_and]
    exact decide_eq_decide.mpr (by omega)
theorem spec_l4Parts_ (c : Int) : T (fun _ => spec_l4Parts.f c) (fun r => r = if 1 ≤ c ∧ c ≤ 15 then partsN c else -1) := by
  unfold spec_l4Parts.f
  rw [spec_l1In_]
  refine T.bind (T.now (Q := fun x => x = _) rfl) ?_
  rintro _ rfl
  refine T.ite (fun h => ?_) (fun h => T.now ?_)
  · have h := of_decide_eq_true h
    refine T.bind (T.now (Q := fun x => x = _) rfl) ?_
    rintro _ rfl
    rw [w64 (by omega) (by omega)]
    refine T.ift (by omega) (T.ift (by simp only [List.length_cons, List.length_nil]; omega) (T.now ?_))
    rw [if_pos h]
    have : c = 1 ∨ c = 2 ∨ c = 3 ∨ c = 4 ∨ c = 5 ∨ c = 6 ∨ c = 7 ∨ c = 8 ∨ c = 9 ∨ c = 10 ∨ c = 11 ∨ c = 12 ∨ c = 13 ∨ c = 14 ∨ c = 15 := by omega
    rcases this with h | h | h | h | h | h | h | h | h | h | h | h | h | h | h <;> subst h <;> decide
  · rw [if_neg (fun hh => h (decide_eq_true hh))]
theorem spec_l4Good_ : ∀ x : S25, OkE x → cntE x ≤ 1048577 → T (fun k => spec_l4Good.f k x.f0 x.f1 x.f2 x.f3) (fun r => r = goodE x) := Expr_ind (fun x ih hx hc => by
  have hlen := cntEs_pos x.f3
  have hce := cntE_eq x
  rw [goodE_eq]
  have jbad : ¬ (nodeB x.f0 x.f1 x.f2 x.f3.length = true) → T (fun k => spec_l4Good.j2 k true x.f0 x.f1 x.f2 x.f3) (fun r => r = (nodeB x.f0 x.f1 x.f2 x.f3.length && goodEs x.f3)) := fun h => T.step (fun k => spec_l4Good.j2.eq_2 ..) (T.ift rfl (T.now (by rw [show nodeB x.f0 x.f1 x.f2 x.f3.length = false by simpa using h]; rfl)))
  have J2 : ∀ b : Bool, nodeB x.f0 x.f1 x.f2 x.f3.length = !b → T (fun k => spec_l4Good.j2 k b x.f0 x.f1 x.f2 x.f3) (fun r => r = (nodeB x.f0 x.f1 x.f2 x.f3.length && goodEs x.f3)) := by
    intro b hb
    cases b with
    | true => exact jbad (by rw [hb]; simp)
    | false =>
      refine T.step (fun k => spec_l4Good.j2.eq_2 ..) (T.iff_ (by simp) ?_)
      rw [hb]
      refine T.loop (fun (i : Int) k => spec_l4Good.l0 k i x.f0 x.f1 x.f2 x.f3) (fun i => ((x.f3.length : Int) - i).toNat) (fun i => 0 ≤ i ∧ i ≤ x.f3.length ∧ goodEs x.f3 = goodEs (x.f3.drop i.toNat)) _ ?_ 0 ⟨by simp, by simp, rfl⟩
      rintro i ⟨a0, a1, a2⟩ ih2
      refine T.step (fun k => spec_l4Good.l0.eq_2 ..) ?_
      refine T.ite (fun hi => T.ift a0 ?_) (fun hi => T.now ?_)
      · have hm := get_mem x.f3 z25 i a0 hi
        have hcm := cntE_mem (show rd_T25 x.f3 i ∈ x.f3 from hm)
        refine T.bind (ih (rd_T25 x.f3 i) hm (hx.part hm) (by omega)) ?_
        rintro _ rfl
        rw [drop_at x.f3 z25 i a0 hi, goodEs_cons] at a2
        have hre : x.f3.getD i.toNat z25 = rd_T25 x.f3 i := rfl
        rw [hre] at a2
        refine T.ite (fun hg => ?_) (fun hg => T.now ?_)
        · rw [w64 (by omega) (by omega)]
          exact ih2 (i + 1) ⟨by omega, by omega, by rw [a2, hg, Bool.true_and]⟩ (by omega)
        · rw [a2, show goodE (rd_T25 x.f3 i) = false by simpa using hg]; rfl
      · rw [a2, drop_all x.f3 i hi, goodEs_nil]; rfl
  have J1 : ∀ g : Int, g = greatN x.f0 → T (fun k => spec_l4Good.j1 k (namedB x.f0) g x.f0 x.f1 x.f2 x.f3) (fun r => r = (nodeB x.f0 x.f1 x.f2 x.f3.length && goodEs x.f3)) := by
    rintro _ rfl
    refine T.step (fun k => spec_l4Good.j1.eq_2 ..) ?_
    refine T.bind (spec_l4Parts_ x.f0) ?_
    rintro _ rfl
    refine T.ite (fun hl => ?_) (fun hl => jbad (fun h => hl ?_))
    · have hk : 1 ≤ x.f0 ∧ x.f0 ≤ 15 := by
        by_cases hk : 1 ≤ x.f0 ∧ x.f0 ≤ 15
        · exact hk
        · rw [if_neg hk] at hl; omega
      rw [if_pos hk] at hl
      rw [spec_l1In_]
      refine T.bind (T.now (Q := fun x => x = _) rfl) ?_
      rintro _ rfl
      refine T.ite (fun hg => ?_) (fun hg => jbad (fun h => hg (by unfold nodeB at h; simp only [Bool.and_eq_true] at h; exact h.1.1.2)))
      have hnode : nodeB x.f0 x.f1 x.f2 x.f3.length = (if x.f2.toList = ([] : List UInt8) then !namedB x.f0 else (namedB x.f0 && nameB x.f2)) := by
        unfold nodeB
        rw [hg, decide_eq_true hl, decide_eq_true hk]
        simp
      rw [hnode] at J2 ⊢
      refine T.ite (fun hs => ?_) (fun hs => ?_)
      · rw [if_pos hs] at J2 ⊢
        refine T.ite (fun hb => J2 _ (by rw [show namedB x.f0 = true from hb])) (fun hb => J2 _ ?_)
        rw [show namedB x.f0 = false by simpa using hb]
      · rw [if_neg hs] at J2 ⊢
        refine T.ite (fun hb => ?_) (fun hb => J2 _ ?_)
        · rw [show namedB x.f0 = true from hb] at J2 ⊢
          refine T.bind (spec_NameValid_ x.f2 hx.name) ?_
          rintro _ rfl
          exact J2 _ (by simp)
        · rw [show namedB x.f0 = false by simpa using hb]; rfl
    · unfold nodeB at h
      simp only [Bool.and_eq_true, decide_eq_true_eq] at h
      rw [if_pos h.1.1.1]
      exact h.1.2
  have J0 : ∀ b : Bool, b = namedB x.f0 → T (fun k => spec_l4Good.j0 k b x.f0 x.f1 x.f2 x.f3) (fun r => r = (nodeB x.f0 x.f1 x.f2 x.f3.length && goodEs x.f3)) := by
    rintro _ rfl
    refine T.step (fun k => spec_l4Good.j0.eq_2 ..) ?_
    refine T.ite (fun h => J1 _ (by rw [h]; decide)) (fun h1 => T.ite (fun h => J1 _ (by rw [h]; decide)) (fun h2 => T.ite (fun h => J1 _ (by rw [h]; decide)) (fun h3 => J1 _ ?_)))
    unfold greatN
    rw [if_neg h1, if_neg h2, if_neg h3]
  refine T.step (fun k => spec_l4Good.f.eq_2 ..) ?_
  refine T.ite (fun h => J0 _ (by rw [h]; decide)) (fun h7 => T.ite (fun h => J0 _ (by rw [h]; decide)) (fun h8 => J0 _ ?_))
  unfold namedB
  rw [Bool.eq_iff_iff, beq_iff_eq, decide_eq_true_eq]
  omega)
theorem spec_l4Size_ : ∀ x : S25, cntE x ≤ 1048577 → T (fun k => spec_l4Size.f k x.f0 x.f1 x.f2 x.f3) (fun r => r = cntE x) := Expr_ind (fun x ih hc => by
  have hlen := cntEs_pos x.f3
  have hce := cntE_eq x
  refine T.step (fun k => spec_l4Size.f.eq_2 ..) ?_
  refine T.loop (fun (s : Int × Int) k => spec_l4Size.l0 k s.1 s.2 x.f0 x.f1 x.f2 x.f3) (fun s => ((x.f3.length : Int) - s.2).toNat) (fun s => 0 ≤ s.2 ∧ s.2 ≤ x.f3.length ∧ 0 ≤ s.1 ∧ s.1 + cntEs (x.f3.drop s.2.toNat) = cntE x) _ ?_ (1, 0) ⟨by simp, by simp, by simp, by show 1 + cntEs x.f3 = _; omega⟩
  rintro ⟨m, i⟩ ⟨a0, a1, a2, a3⟩ ih2
  dsimp only at a0 a1 a2 a3 ih2 ⊢
  refine T.step (fun k => spec_l4Size.l0.eq_2 ..) ?_
  refine T.ite (fun hi => T.ift a0 ?_) (fun hi => T.now ?_)
  · have hm := get_mem x.f3 z25 i a0 hi
    have hcm := cntE_mem (show rd_T25 x.f3 i ∈ x.f3 from hm)
    rw [drop_at x.f3 z25 i a0 hi, cntEs_cons] at a3
    have hre : x.f3.getD i.toNat z25 = rd_T25 x.f3 i := rfl
    rw [hre] at a3
    refine T.bind (ih (rd_T25 x.f3 i) hm (by omega)) ?_
    rintro _ rfl
    have hp1 := cntE_pos (rd_T25 x.f3 i)
    have hp2 := cntEs_pos (x.f3.drop (i + 1).toNat)
    rw [w64 (by omega) (by omega), w64 (by omega) (by omega)]
    exact ih2 (m + cntE (rd_T25 x.f3 i), i + 1) ⟨by show 0 ≤ i + 1; omega, by show i + 1 ≤ _; omega, by show 0 ≤ m + _; omega, by show m + cntE (rd_T25 x.f3 i) + cntEs (x.f3.drop (i + 1).toNat) = _; omega⟩ (by show ((x.f3.length : Int) - (i + 1)).toNat < _; omega)
  · rw [drop_all x.f3 i hi, cntEs_nil] at a3
    omega)
theorem spec_l4Deep_ : ∀ x : S25, cntE x ≤ 1048577 → T (fun k => spec_l4Deep.f k x.f0 x.f1 x.f2 x.f3) (fun r => r = depE x) := Expr_ind (fun x ih hc => by
  have hlen := cntEs_pos x.f3
  have hce := cntE_eq x
  have hde := depE_eq x
  have hdl := depE_le x
  have hdn := depEs_nonneg x.f3
  refine T.step (fun k => spec_l4Deep.f.eq_2 ..) ?_
  refine T.loop (fun (s : Int × Int) k => spec_l4Deep.l0 k s.1 s.2 x.f0 x.f1 x.f2 x.f3) (fun s => ((x.f3.length : Int) - s.2).toNat) (fun s => 0 ≤ s.2 ∧ s.2 ≤ x.f3.length ∧ 0 ≤ s.1 ∧ mx s.1 (depEs (x.f3.drop s.2.toNat)) = depEs x.f3) _ ?_ (0, 0) ⟨by simp, by simp, by simp, by show mx 0 (depEs x.f3) = _; have := mx_of 0 (depEs x.f3); omega⟩
  rintro ⟨m, i⟩ ⟨a0, a1, a2, a3⟩ ih2
  dsimp only at a0 a1 a2 a3 ih2 ⊢
  have hdd := depEs_nonneg (x.f3.drop i.toNat)
  refine T.step (fun k => spec_l4Deep.l0.eq_2 ..) ?_
  refine T.ite (fun hi => T.ift a0 ?_) (fun hi => T.now ?_)
  · have hm := get_mem x.f3 z25 i a0 hi
    have hcm := cntE_mem (show rd_T25 x.f3 i ∈ x.f3 from hm)
    rw [drop_at x.f3 z25 i a0 hi, depEs_cons] at a3
    have hre : x.f3.getD i.toNat z25 = rd_T25 x.f3 i := rfl
    rw [hre] at a3
    refine T.bind (ih (rd_T25 x.f3 i) hm (by omega)) ?_
    rintro _ rfl
    rw [w64 (by omega) (by omega)]
    refine ih2 (mx m (depE (rd_T25 x.f3 i)), i + 1) ⟨by show 0 ≤ i + 1; omega, by show i + 1 ≤ _; omega, by show 0 ≤ mx m _; have := mx_of m (depE (rd_T25 x.f3 i)); omega, ?_⟩ (by show ((x.f3.length : Int) - (i + 1)).toNat < _; omega)
    show mx (mx m (depE (rd_T25 x.f3 i))) (depEs (x.f3.drop (i + 1).toNat)) = _
    have h1 := mx_of m (depE (rd_T25 x.f3 i))
    have h2 := mx_of (mx m (depE (rd_T25 x.f3 i))) (depEs (x.f3.drop (i + 1).toNat))
    have h3 := mx_of (depE (rd_T25 x.f3 i)) (depEs (x.f3.drop (i + 1).toNat))
    have h4 := mx_of m (mx (depE (rd_T25 x.f3 i)) (depEs (x.f3.drop (i + 1).toNat)))
    omega
  · rw [drop_all x.f3 i hi, depEs_nil] at a3
    have h1 := mx_of m 0
    have := depEs_nonneg x.f3
    rw [w64 (by omega) (by omega)]
    omega)
theorem spec_ExprValid_ (x : S25) (hx : OkE x) (hc : cntE x ≤ 1048577) : T (fun k => spec_ExprValid.f k x.f0 x.f1 x.f2 x.f3) (fun r => r = validE x) := by
  unfold spec_ExprValid.f validE
  refine T.bind (spec_l4Good_ x hx hc) ?_
  rintro _ rfl
  refine T.ite (fun h => ?_) (fun h => T.now (by rw [show goodE x = false by simpa using h]; rfl))
  rw [h, Bool.true_and]
  refine T.bind (spec_l4Size_ x hc) ?_
  rintro _ rfl
  refine T.ite (fun h40 => ?_) (fun h40 => T.now (decide_eq_false (by omega)).symm)
  refine T.bind (spec_l4Deep_ x hc) ?_
  rintro _ rfl
  exact T.now (decide_eq_decide.2 (by omega))
/-! #### the greatest thing that an expression names -/
mutual
def thgE : S25 → Int
  | ⟨k, n, _, l⟩ => thgF (if k = 3 then n else -1) l
def thgF : Int → List S25 → Int
  | s, [] => s
  | s, x :: l => thgF (mx s (thgE x)) l
end
theorem thgE_eq (x : S25) : thgE x = thgF (if x.f0 = 3 then x.f1 else -1) x.f3 := by cases x; rw [thgE]
theorem mx_swap (a b c : Int) : mx (mx a b) c = mx (mx a c) b := by unfold mx; repeat' (first | omega | split)
theorem mx_flip (a b : Int) : mx a b = mx b a := by unfold mx; repeat' (first | omega | split)
theorem thgF_more (n : Int) : ∀ (l : List S25) (s : Int), thgF (mx s n) l = mx (thgF s l) n
  | [], s => by rw [thgF, thgF]
  | x :: l, s => by rw [thgF, thgF, mx_swap, thgF_more n l]
theorem thgF_ge : ∀ (l : List S25) (s : Int), s ≤ thgF s l
  | [], s => by rw [thgF]; exact Int.le_refl _
  | x :: l, s => by
    rw [thgF]
    have := thgF_ge l (mx s (thgE x))
    have := mx_of s (thgE x)
    omega
theorem thgE_ge {x : S25} (h : goodE x = true) : -1 ≤ thgE x := by
  rw [thgE_eq]
  refine Int.le_trans ?_ (thgF_ge _ _)
  by_cases h3 : x.f0 = 3
  · rw [if_pos h3]
    rw [goodE_eq, Bool.and_eq_true] at h
    have h := h.1
    unfold nodeB at h
    simp only [Bool.and_eq_true, decide_eq_true_eq] at h
    omega
  · rw [if_neg h3]; exact Int.le_refl _
def usedM (x : S25) : Int := if validE x = true then thgE x else -1
theorem impl_each_ : ∀ x : S25, cntE x ≤ 1048577 → ∀ v : Int, -1 ≤ v → T (fun k => impl_Expr_each.f k x.f0 x.f1 x.f3 v) (fun r => r = mx v (thgE x)) := by
  refine Expr_ind (fun x ih hc v hv => ?_)
  have hlen := cntEs_pos x.f3
  have hcx := cntE_eq x
  refine T.step (fun k => impl_Expr_each.f.eq_2 ..) ?_
  refine T.bind (P := fun r => r = thgF v x.f3) ?_ ?_
  · refine T.loop (fun (s : Int × Int) k => impl_Expr_each.l0 k x.f3 s.1 s.2) (fun s => ((x.f3.length : Int) - s.1).toNat) (fun s => 0 ≤ s.1 ∧ s.1 ≤ x.f3.length ∧ -1 ≤ s.2 ∧ thgF s.2 (x.f3.drop s.1.toNat) = thgF v x.f3) _ ?_ (0, v) ⟨by show (0 : Int) ≤ 0; omega, by show (0 : Int) ≤ _; omega, hv, rfl⟩
    rintro ⟨i, u⟩ ⟨i0, i1, hu, he⟩ ihl
    dsimp only at i0 i1 hu he ihl ⊢
    refine T.step (fun k => impl_Expr_each.l0.eq_2 ..) ?_
    refine T.ite (fun hi => T.ift i0 ?_) (fun hi => T.now ?_)
    · have hm := get_mem x.f3 z25 i i0 hi
      refine T.bind (ih _ hm (by have h1 : cntE (rd_T25 x.f3 i) + 1 ≤ cntE x := cntE_part hm; have h2 : cntE (x.f3.getD i.toNat z25) + 1 ≤ cntE x := h1; omega) u hu) ?_
      rintro _ rfl
      rw [w64 (by omega) (by omega)]
      refine ihl (i + 1, mx u (thgE (x.f3.getD i.toNat z25))) ⟨by show 0 ≤ i + 1; omega, by show i + 1 ≤ _; omega, ?_, ?_⟩ (by show ((x.f3.length : Int) - (i + 1)).toNat < _; omega)
      · have := mx_of u (thgE (x.f3.getD i.toNat z25))
        show -1 ≤ mx u _
        omega
      · rw [drop_at x.f3 z25 i i0 hi, thgF] at he
        exact he
    · rw [drop_all x.f3 i hi, thgF] at he
      exact he
  · rintro _ rfl
    refine T.now ?_
    rw [thgE_eq, mx_flip, ← thgF_more]
    by_cases h3 : x.f0 = 3
    · rw [if_pos h3, if_pos h3, mx_flip, thgF_more]
      rfl
    · rw [if_neg h3, if_neg h3]
      congr 1
      unfold mx
      split <;> omega
theorem impl_ThingsUsed_ (x : S25) (hx : OkE x) (hc : cntE x ≤ 1048577) : T (fun k => impl_ThingsUsed.f k x.f0 x.f1 x.f2 x.f3) (fun r => r = usedM x) := by
  unfold impl_ThingsUsed.f usedM
  refine T.bind (impl_ExprValid_ x hx hc) ?_
  rintro _ rfl
  refine T.ite (fun h => ?_) (fun h => T.now (if_neg h).symm)
  rw [if_pos h]
  refine T.bind (impl_each_ x hc (-1) (by omega)) ?_
  rintro _ rfl
  refine T.now ?_
  have hg := thgE_ge (x := x) (by unfold validE at h; exact (Bool.and_eq_true _ _ ▸ h).1)
  unfold mx
  split <;> omega
theorem spec_l8Things_ : ∀ x : S25, cntE x ≤ 1048577 → T (fun k => spec_l8Things.f k x.f0 x.f1 x.f2 x.f3) (fun r => r = thgE x) := by
  refine Expr_ind (fun x ih hc => ?_)
  have hlen := cntEs_pos x.f3
  have hcx := cntE_eq x
  have J : ∀ u : Int, T (fun k => spec_l8Things.j0 k u x.f0 x.f1 x.f2 x.f3) (fun r => r = thgF u x.f3) := by
    intro u
    refine T.step (fun k => spec_l8Things.j0.eq_2 ..) ?_
    refine T.loop (fun (s : Int × Int) k => spec_l8Things.l0 k s.2 s.1 x.f0 x.f1 x.f2 x.f3) (fun s => ((x.f3.length : Int) - s.1).toNat) (fun s => 0 ≤ s.1 ∧ s.1 ≤ x.f3.length ∧ thgF s.2 (x.f3.drop s.1.toNat) = thgF u x.f3) _ ?_ (0, u) ⟨by show (0 : Int) ≤ 0; omega, by show (0 : Int) ≤ _; omega, rfl⟩
    rintro ⟨i, v⟩ ⟨i0, i1, he⟩ ihl
    dsimp only at i0 i1 he ihl ⊢
    refine T.step (fun k => spec_l8Things.l0.eq_2 ..) ?_
    refine T.ite (fun hi => T.ift i0 ?_) (fun hi => T.now ?_)
    · have hm := get_mem x.f3 z25 i i0 hi
      refine T.bind (ih _ hm (by have h1 : cntE (rd_T25 x.f3 i) + 1 ≤ cntE x := cntE_part hm; have h2 : cntE (x.f3.getD i.toNat z25) + 1 ≤ cntE x := h1; omega)) ?_
      rintro _ rfl
      rw [w64 (by omega) (by omega)]
      refine ihl (i + 1, mx v (thgE (x.f3.getD i.toNat z25))) ⟨by show 0 ≤ i + 1; omega, by show i + 1 ≤ _; omega, ?_⟩ (by show ((x.f3.length : Int) - (i + 1)).toNat < _; omega)
      rw [drop_at x.f3 z25 i i0 hi, thgF] at he
      exact he
    · rw [drop_all x.f3 i hi, thgF] at he
      exact he
  refine T.step (fun k => spec_l8Things.f.eq_2 ..) ?_
  rw [thgE_eq]
  refine T.ite (fun h => ?_) (fun h => ?_)
  · rw [if_pos h]; exact J _
  · rw [if_neg h]; exact J _
theorem spec_ThingsUsed_ (x : S25) (hx : OkE x) (hc : cntE x ≤ 1048577) : T (fun k => spec_ThingsUsed.f k x.f0 x.f1 x.f2 x.f3) (fun r => r = usedM x) := by
  unfold spec_ThingsUsed.f usedM
  refine T.bind (spec_ExprValid_ x hx hc) ?_
  rintro _ rfl
  refine T.ite (fun h => ?_) (fun h => T.now (if_neg h).symm)
  rw [if_pos h]
  refine T.bind (spec_l8Things_ x hc) ?_
  rintro _ rfl
  exact T.now rfl
theorem used_part {x y : S25} (h : validE x = true) (hy : y ∈ x.f3) : usedM y = thgE y := if_pos (validE_part h hy)
theorem FnThingsUsed : laws_FnThingsUsed.Pure := by
  intro l _ _ hw
  refine T.rounds ?_
  unfold laws_FnThingsUsed.f
  refine T.ite (fun _ => T.now rfl) (fun _ => ?_)
  refine T.bind (P := fun r => OkE ⟨r.1, r.2.1, r.2.2.1, r.2.2.2⟩ ∧ cntE ⟨r.1, r.2.1, r.2.2.1, r.2.2.2⟩ ≤ 4000) ?_ ?_
  · unfold spec_DrawThingsUsed.f
    obtain ⟨l', e, hb⟩ := spec_open_ l hw
    rw [e]
    refine T.bind (T.now (Q := fun x => x = _) rfl) ?_
    rintro _ rfl
    refine T.bind (spec_expr_ l' hb 0 _ (by omega) (by omega)) ?_
    rintro ⟨k1, k2, k3, k4, q⟩ ⟨d1, d2, _⟩
    exact T.now ⟨d1, d2⟩
  rintro ⟨a, b, s, ps⟩ ⟨ho, hc⟩
  dsimp only at ho hc ⊢
  refine T.bind (impl_ThingsUsed_ ⟨a, b, s, ps⟩ ho (by omega)) ?_
  rintro _ rfl
  refine T.bind (spec_ThingsUsed_ ⟨a, b, s, ps⟩ ho (by omega)) ?_
  rintro _ rfl
  have hlen := cntEs_pos ps
  have hce : cntE ⟨a, b, s, ps⟩ = 1 + cntEs ps := cntE_eq _
  refine T.ift rfl ?_
  refine T.bind (impl_ExprValid_ ⟨a, b, s, ps⟩ ho (by omega)) ?_
  rintro _ rfl
  have fin : T (fun k => (laws_alive.f k).bind fun t128 => (some t128)) (fun r => r = true) := T.bind alive_ (by rintro _ rfl; exact T.now rfl)
  have J : (usedM ⟨a, b, s, ps⟩ = -1 ∨ usedM ⟨a, b, s, ps⟩ = b) → T (fun k => laws_FnThingsUsed.j0 k (usedM ⟨a, b, s, ps⟩) true a b s ps) (fun r => r = true) := fun h =>
    T.step (fun k => laws_FnThingsUsed.j0.eq_2 ..) (T.ift rfl (T.ite (fun _ => fin) (fun hn => T.ift (h.resolve_left hn) fin)))
  refine T.ite (fun hv => ?_) (fun hv => J (.inl (if_neg hv)))
  have hu : usedM ⟨a, b, s, ps⟩ = thgE ⟨a, b, s, ps⟩ := if_pos hv
  by_cases h3 : a = 3
  · subst h3
    refine J (.inr ?_)
    have hg : nodeB 3 b s ps.length = true := by
      unfold validE at hv
      have := (Bool.and_eq_true _ _ ▸ hv).1
      rw [goodE_eq, Bool.and_eq_true] at this
      exact this.1
    unfold nodeB at hg
    simp only [Bool.and_eq_true, decide_eq_true_eq] at hg
    have h0 : ps.length = 0 := by have := hg.1.2; unfold partsN at this; simp at this; simpa using this
    rw [hu, thgE_eq]
    show thgF (if (3 : Int) = 3 then b else -1) ps = b
    rw [List.length_eq_zero_iff.1 h0, thgF, if_pos rfl]
  · rw [beq_eq_false_iff_ne.2 h3, hu]
    refine T.step (fun k => laws_FnThingsUsed.j0.eq_2 ..) (T.iff_ (by simp) ?_)
    have ht : thgE ⟨a, b, s, ps⟩ = thgF (-1) ps := by
      rw [thgE_eq]
      show thgF (if a = 3 then b else -1) ps = _
      rw [if_neg h3]
    rw [ht]
    refine T.loop (fun (t : Int × Int) k => laws_FnThingsUsed.l0 k (thgF (-1) ps) t.1 t.2 a b s ps) (fun t => ((ps.length : Int) - t.2).toNat) (fun t => 0 ≤ t.2 ∧ t.2 ≤ ps.length ∧ thgF t.1 (ps.drop t.2.toNat) = thgF (-1) ps) _ ?_ (-1, 0) ⟨by show (0 : Int) ≤ 0; omega, by show (0 : Int) ≤ _; omega, rfl⟩
    rintro ⟨m, i⟩ ⟨a0, a1, a3⟩ ih
    dsimp only at a0 a1 a3 ih ⊢
    refine T.step (fun k => laws_FnThingsUsed.l0.eq_2 ..) ?_
    refine T.ite (fun hi => T.ift a0 ?_) (fun hi => T.now ?_)
    · have hm : rd_T25 ps i ∈ ps := get_mem ps z25 i a0 hi
      have hcm := cntE_mem hm
      rw [drop_at ps z25 i a0 hi, thgF] at a3
      have hre : ps.getD i.toNat z25 = rd_T25 ps i := rfl
      rw [hre] at a3
      refine T.bind (impl_ThingsUsed_ (rd_T25 ps i) (ho.part hm) (by omega)) ?_
      rintro _ rfl
      rw [used_part hv hm, w64 (by omega) (by omega)]
      exact ih (mx m (thgE (rd_T25 ps i)), i + 1) ⟨by show 0 ≤ i + 1; omega, by show i + 1 ≤ _; omega, a3⟩ (by show ((ps.length : Int) - (i + 1)).toNat < _; omega)
    · rw [drop_all ps i hi, thgF] at a3
      rw [a3]
      simp

end Go.Proofs.Ytjpeciodihnolaa.Pure
