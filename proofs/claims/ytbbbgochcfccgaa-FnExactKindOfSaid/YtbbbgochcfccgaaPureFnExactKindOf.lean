/- The program's KindOf answers as the reference's, for all schemas and expressions, and leaves them alone.
   Conditions: none beyond the statement's own. -/
import Derived.Test.YtbbbgochcfccgaaPx1004
set_option linter.unusedVariables false
set_option linter.unusedSimpArgs false
namespace Go.Proofs.Ytbbbgochcfccgaa.Pure
open Go.RowKit Go.Proofs.Ytbbbgochcfccgaa.P Go.Proofs.YtbbbgochcfccgaaW.PrintWords Go.Proofs.YtbbbgochcfccgaaW.PrintLast

/-! #### rounds: 'T g Q': from some number of rounds on g answers, and the answer is as Q says -/
def T {α : Type} (g : Nat → Option α) (Q : α → Prop) : Prop := ∃ r, Ev g r ∧ Q r
theorem T.ev {α : Type} {g : Nat → Option α} {r : α} (h : Ev g r) : T g (fun x => x = r) := ⟨r, h, rfl⟩
theorem T.of_eq {α : Type} {g : Nat → Option α} {r : α} (h : T g (fun x => x = r)) : Ev g r := by
  obtain ⟨_, h, rfl⟩ := h
  exact h
theorem T.now {α : Type} {r : α} {Q : α → Prop} (h : Q r) : T (fun _ => some r) Q := ⟨r, Ev.now r, h⟩
theorem T.mono {α : Type} {g : Nat → Option α} {P Q : α → Prop} (h : T g P) (k : ∀ a, P a → Q a) : T g Q := by
  obtain ⟨r, h, p⟩ := h
  exact ⟨r, h, k r p⟩
theorem T.bind {α β : Type} {g : Nat → Option α} {f : Nat → α → Option β} {P : α → Prop} {Q : β → Prop} (h : T g P) (k : ∀ a, P a → T (fun n => f n a) Q) : T (fun n => (g n).bind (f n)) Q := by
  obtain ⟨a, h, p⟩ := h
  obtain ⟨r, k, q⟩ := k a p
  exact ⟨r, Ev.bind h k, q⟩
theorem T.ite {α : Type} {c : Prop} [Decidable c] {g f : Nat → Option α} {Q : α → Prop} (h : c → T g Q) (k : ¬ c → T f Q) : T (fun n => if c then g n else f n) Q := by
  by_cases hc : c
  · simpa only [if_pos hc] using h hc
  · simpa only [if_neg hc] using k hc
theorem T.ift {α : Type} {c : Prop} [Decidable c] {g f : Nat → Option α} {Q : α → Prop} (hc : c) (h : T g Q) : T (fun n => if c then g n else f n) Q := T.ite (fun _ => h) (fun n => absurd hc n)
theorem T.iff_ {α : Type} {c : Prop} [Decidable c] {g f : Nat → Option α} {Q : α → Prop} (hc : ¬ c) (h : T f Q) : T (fun n => if c then g n else f n) Q := T.ite (fun n => absurd n hc) (fun _ => h)
theorem T.step {α : Type} {g f : Nat → Option α} {Q : α → Prop} (h : ∀ k, g (k + 1) = f k) (k : T f Q) : T g Q := by
  obtain ⟨r, k, q⟩ := k
  exact ⟨r, Ev.step h k, q⟩
theorem T.rounds {g : Nat → Option Bool} (h : T g (fun x => x = true)) : ∃ k, g k = some true := (T.of_eq h).rounds
theorem T.congr {α : Type} {g f : Nat → Option α} {Q : α → Prop} (h : ∀ k, g k = f k) (k : T f Q) : T g Q := by
  obtain ⟨r, k, q⟩ := k
  exact ⟨r, Ev.congr h k, q⟩
theorem T.run {α : Type} {g : Nat → Option α} {Q : α → Prop} (h : T g Q) : ∃ r K, (∀ k, K ≤ k → g k = some r) ∧ Q r := by
  obtain ⟨r, ⟨K, h⟩, q⟩ := h
  exact ⟨r, K, h, q⟩
/-- A loop over what is left. -/
theorem T.loop {σ α : Type} (g : σ → Nat → Option α) (m : σ → Nat) (I : σ → Prop) (Q : α → Prop) (h : ∀ s, I s → (∀ s', I s' → m s' < m s → T (g s') Q) → T (g s) Q) : ∀ s, I s → T (g s) Q := by
  intro s
  induction hm : m s using Nat.strongRecOn generalizing s with
  | _ n ih =>
    intro hI
    exact h s hI (fun s' hI' hlt => ih (m s') (hm ▸ hlt) s' rfl hI')
theorem w64 {x : Int} (h : -9223372036854775808 ≤ x) (h' : x ≤ 9223372036854775807) : wrap64 x = x := by unfold wrap64; omega
theorem T.got {α β : Type} {r : α} {f : Nat → α → Option β} {Q : β → Prop} (h : T (fun n => f n r) Q) : T (fun n => (some r).bind (f n)) Q := h
/-! #### texts and lists -/
theorem tl_inj {a b : ByteArray} : a.toList = b.toList ↔ a = b := by
  rw [ByteArray.toList_eq, ByteArray.toList_eq]
  constructor
  · intro h
    cases a; cases b
    exact congrArg ByteArray.mk (Array.toList_inj.1 h)
  · rintro rfl
    rfl
theorem drop_at {α : Type} (l : List α) (z : α) (i : Int) (h0 : 0 ≤ i) (h1 : i < l.length) : l.drop i.toNat = l.getD i.toNat z :: l.drop (i + 1).toNat := by
  have h : i.toNat < l.length := by omega
  rw [List.drop_eq_getElem_cons h, List.getD_eq_getElem?_getD, List.getElem?_eq_getElem h]
  simp only [Option.getD_some]
  rw [show (i + 1).toNat = i.toNat + 1 by omega]
theorem drop_all {α : Type} (l : List α) (i : Int) (h : ¬ i < l.length) : l.drop i.toNat = [] := List.drop_of_length_le (by omega)
theorem get_mem {α : Type} (l : List α) (z : α) (i : Int) (h0 : 0 ≤ i) (h1 : i < l.length) : l.getD i.toNat z ∈ l := by
  have h : i.toNat < l.length := by omega
  rw [List.getD_eq_getElem?_getD, List.getElem?_eq_getElem h]
  exact List.getElem_mem h
/-- A loop that counts up to n. -/
theorem T.count {α : Type} (n : Nat) (g : Int → Nat → Option α) (Q : α → Prop) (fin : T (g n) Q) (step : ∀ i : Int, 0 ≤ i → i < n → T (g (i + 1)) Q → T (g i) Q) : ∀ i : Int, 0 ≤ i → i ≤ n → T (g i) Q := by
  refine fun i h0 h1 => T.loop g (fun i => (n - i).toNat) (fun i => 0 ≤ i ∧ i ≤ n) Q ?_ i ⟨h0, h1⟩
  rintro i ⟨h0, h1⟩ ih
  by_cases hi : i = n
  · rw [hi]; exact fin
  · exact step i h0 (by omega) (ih (i + 1) ⟨by omega, by omega⟩ (by omega))
/-- A loop that turns each element of a list into one of a list of the same length. -/
theorem T.turn {α β γ : Type} (za : α) (l : List α) (c : α → β) (g : List β → Int → Nat → Option γ) (Q : γ → Prop) (fin : T (g (l.map c) l.length) Q)
    (step : ∀ (out : List β) (i : Int), 0 ≤ i → i < l.length → out.length = l.length → T (g (out.set i.toNat (c (l.getD i.toNat za))) (i + 1)) Q → T (g out i) Q) (out : List β) (hl : out.length = l.length) : T (g out 0) Q := by
  refine T.loop (fun (s : List β × Int) => g s.1 s.2) (fun s => (l.length - s.2).toNat) (fun s => 0 ≤ s.2 ∧ s.2 ≤ l.length ∧ s.1.length = l.length ∧ ∀ j : Nat, (j : Int) < s.2 → s.1[j]? = (l[j]?).map c) Q ?_ (out, 0) ⟨by simp, by simp, hl, fun j hj => absurd hj (by simp)⟩
  rintro ⟨o, i⟩ ⟨h0, h1, h2, h3⟩ ih
  dsimp only at h0 h1 h2 h3 ih ⊢
  by_cases hi : i = l.length
  · have : o = l.map c := List.ext_getElem? (fun j => by
      by_cases hj : (j : Int) < i
      · rw [h3 j hj, List.getElem?_map]
      · rw [List.getElem?_eq_none (by omega), List.getElem?_eq_none (by rw [List.length_map]; omega)])
    rw [this, hi]; exact fin
  · refine step o i h0 (by omega) h2 (ih (_, i + 1) ⟨by show 0 ≤ i + 1; omega, by show i + 1 ≤ _; omega, by rw [List.length_set]; exact h2, fun j hj => ?_⟩ (by show ((l.length : Int) - (i + 1)).toNat < (l.length - i).toNat; omega))
    dsimp only at hj ⊢
    rw [List.getElem?_set]
    by_cases hji : i.toNat = j
    · rw [if_pos hji, if_pos (by omega)]
      subst hji
      rw [List.getD_eq_getElem?_getD, List.getElem?_eq_getElem (by omega : i.toNat < l.length)]
      rfl
    · rw [if_neg hji]
      exact h3 j (by omega)
/-! #### kinded names, mirrored -/
def toKinded (x : S87) : S91 := ⟨x.f0, x.f1⟩
theorem szKinded_ (x : S87) (n : Int) (h0 : 0 ≤ n) (h1 : n ≤ 1048576) (hx : Fine87 x) : ∃ r, laws_szKinded.f x.f0 x.f1 n = some r ∧ (r < 0 ∨ 0 ≤ r ∧ r ≤ n ∧ x.f0.size ≤ n) := by
  unfold laws_szKinded.f
  have hs := hx.1
  unfold maxLen at hs
  rw [w64 (by omega) (by omega)]
  by_cases h : n - (x.f0.size : Int) < 0
  · exact ⟨-1, by rw [if_pos h], .inl (by decide)⟩
  · exact ⟨_, by rw [if_neg h], .inr ⟨by omega, by omega, by omega⟩⟩
theorem szKindedS_ (l : List S87) (n : Int) (h0 : 0 ≤ n) (h1 : n ≤ 1048576) (hl : l.length ≤ maxLen ∧ ∀ y ∈ l, Fine87 y) : T (fun k => laws_szKindedS.f k l n) (fun r => r < 0 ∨ 0 ≤ r ∧ r ≤ n ∧ l.length ≤ n ∧ ∀ y ∈ l, (y.f0.size : Int) ≤ n) := by
  unfold laws_szKindedS.f
  obtain ⟨hl, hf⟩ := hl
  unfold maxLen at hl
  rw [w64 (by omega) (by omega)]
  refine T.ite (fun _ => T.now (.inl (by decide))) (fun h => ?_)
  refine T.loop (fun (s : Int × Int) k => laws_szKindedS.l0 k l s.1 s.2) (fun s => ((l.length : Int) - s.2).toNat) (fun s => 0 ≤ s.2 ∧ s.2 ≤ l.length ∧ 0 ≤ s.1 ∧ s.1 ≤ n - l.length ∧ ∀ j : Nat, (j : Int) < s.2 → ∀ y, l[j]? = some y → (y.f0.size : Int) ≤ n) _ ?_ (n - l.length, 0) ⟨by simp, by simp, by show 0 ≤ n - (l.length : Int); omega, by show n - (l.length : Int) ≤ _; omega, fun j hj => absurd hj (by simp)⟩
  rintro ⟨m, i⟩ ⟨a0, a1, a2, a3, a4⟩ ih
  dsimp only at a0 a1 a2 a3 a4 ih ⊢
  refine T.step (fun k => laws_szKindedS.l0.eq_2 ..) ?_
  refine T.ite (fun hi => T.ift a0 ?_) (fun hi => T.now (.inr ⟨a2, by omega, by omega, fun y hy => ?_⟩))
  · obtain ⟨r, e, hr⟩ := szKinded_ (l.getD i.toNat z87) m a2 (by omega) (hf _ (get_mem l _ i a0 hi))
    rw [show laws_szKinded.f (rd_T87 l i).f0 (rd_T87 l i).f1 m = some r from e]
    refine T.bind (T.now (Q := fun x => x = _) rfl) ?_
    rintro r rfl
    refine T.ite (fun _ => T.now (.inl (by decide))) (fun hn => ?_)
    rw [w64 (by omega) (by omega)]
    rcases hr with hr | ⟨r0, r1, r2⟩
    · exact absurd hr hn
    · refine ih (r, i + 1) ⟨by show 0 ≤ i + 1; omega, by show i + 1 ≤ _; omega, r0, by show r ≤ _; omega, fun j hj y hy => ?_⟩ (by show ((l.length : Int) - (i + 1)).toNat < _; omega)
      dsimp only at hj
      by_cases hji : (j : Int) < i
      · exact a4 j hji y hy
      · have : j = i.toNat := by omega
        subst this
        rw [List.getD_eq_getElem?_getD, hy, Option.getD_some] at r2
        omega
  · obtain ⟨j, hj, rfl⟩ := List.mem_iff_getElem.1 hy
    exact a4 j (by omega) _ (List.getElem?_eq_getElem hj)
theorem toKindedS_ (l : List S87) (hl : l.length ≤ 1048576) : T (fun k => laws_toKindedS.f k l) (fun r => r = l.map toKinded) := by
  unfold laws_toKindedS.f
  refine T.ift (by omega) (T.ift (by omega) ?_)
  refine T.turn z87 l toKinded (fun o i k => laws_toKindedS.l0 k l o i) _ ?_ ?_ _ (by simp)
  · refine T.step (fun k => laws_toKindedS.l0.eq_2 ..) (T.iff_ (by omega) (T.now rfl))
  · intro o i h0 h1 h2 h
    refine T.step (fun k => laws_toKindedS.l0.eq_2 ..) (T.ift h1 (T.ift h0 ?_))
    refine T.bind (T.now (Q := fun x => x = _) rfl) ?_
    rintro _ rfl
    rw [w64 (by omega) (by omega)]
    exact T.ift (by omega) h
theorem eqKindedS_ (l : List S91) (hl : l.length ≤ 1048576) : T (fun k => laws_eqKindedS.f k l l) (fun r => r = true) := by
  unfold laws_eqKindedS.f
  refine T.ift rfl ?_
  refine T.count l.length (fun i k => laws_eqKindedS.l0 k l l i) (fun r => r = true) (T.step (fun k => laws_eqKindedS.l0.eq_2 ..) (T.iff_ (by omega) (T.now rfl))) (fun i h0 h1 h => ?_) 0 (by omega) (by omega)
  refine T.step (fun k => laws_eqKindedS.l0.eq_2 ..) (T.ift h1 (T.ift h0 (T.ift h1 ?_)))
  have e : ∀ x : S91, laws_eqKinded.f x.f0 x.f1 x.f0 x.f1 = some true := fun x => by
    unfold laws_eqKinded.f
    rw [if_pos rfl, if_pos rfl]
  rw [e]
  refine T.bind (T.now (Q := fun x => x = _) rfl) ?_
  rintro _ rfl
  rw [w64 (by omega) (by omega)]
  exact T.ift rfl h
/-! #### schemas, mirrored -/
theorem szSchema_ (a b : List S87) (n : Int) (h0 : 0 ≤ n) (h1 : n ≤ 1048576) (ha : a.length ≤ maxLen ∧ ∀ y ∈ a, Fine87 y) (hb : b.length ≤ maxLen ∧ ∀ y ∈ b, Fine87 y) :
    T (fun k => laws_szSchema.f k a b n) (fun r => r < 0 ∨ (0 ≤ r ∧ r ≤ n) ∧ (a.length : Int) ≤ 1048576 ∧ (b.length : Int) ≤ 1048576 ∧ (∀ y ∈ a, (y.f0.size : Int) ≤ 1048576) ∧ (∀ y ∈ b, (y.f0.size : Int) ≤ 1048576)) := by
  unfold laws_szSchema.f
  refine T.bind (szKindedS_ a n h0 h1 ha) ?_
  intro r hr
  refine T.ite (fun _ => T.now (.inl (by decide))) (fun hn => ?_)
  obtain ⟨r0, r1, r2, r3⟩ := hr.resolve_left hn
  refine T.bind (szKindedS_ b r r0 (by omega) hb) ?_
  intro q hq
  refine T.ite (fun _ => T.now (.inl (by decide))) (fun hn => T.now (.inr ?_))
  obtain ⟨q0, q1, q2, q3⟩ := hq.resolve_left hn
  exact ⟨⟨q0, by omega⟩, by omega, by omega, fun y hy => by have := r3 y hy; omega, fun y hy => by have := q3 y hy; omega⟩
theorem toSchema_ (a b : List S87) (la : (a.length : Int) ≤ 1048576) (lb : (b.length : Int) ≤ 1048576) : T (fun k => laws_toSchema.f k a b) (fun r => r = (a.map toKinded, b.map toKinded)) := by
  unfold laws_toSchema.f
  refine T.bind (toKindedS_ a (by omega)) ?_
  rintro _ rfl
  refine T.bind (toKindedS_ b (by omega)) ?_
  rintro _ rfl
  exact T.now rfl
theorem eqSchema_ (a b : List S91) (la : a.length ≤ 1048576) (lb : b.length ≤ 1048576) : T (fun k => laws_eqSchema.f k a b a b) (fun r => r = true) := by
  unfold laws_eqSchema.f
  refine T.bind (eqKindedS_ _ la) ?_
  rintro _ rfl
  refine T.ift rfl ?_
  refine T.bind (eqKindedS_ _ lb) ?_
  rintro _ rfl
  exact T.ift rfl (T.now rfl)
theorem fitK {l : List S87} (h1 : (l.length : Int) ≤ 1048576) (h2 : ∀ y ∈ l, (y.f0.size : Int) ≤ 1048576) : (l.map toKinded).length ≤ 1048576 ∧ ∀ y ∈ l.map toKinded, y.f0.size ≤ 9223372036854775807 := by
  refine ⟨by rw [List.length_map]; omega, fun y hy => ?_⟩
  obtain ⟨x, hx, rfl⟩ := List.mem_map.1 hy
  have := h2 x hx
  show x.f0.size ≤ _
  omega
/-! #### names -/
def lowB (s : ByteArray) : Bool := decide (∀ i : Nat, i < s.size → 97 ≤ bt s i ∧ bt s i ≤ 122)
def nameB (s : ByteArray) : Bool := lowB s && decide (1 ≤ s.size ∧ s.size ≤ 8)
theorem nameB_iff (s : ByteArray) : nameB s = true ↔ (∀ i : Nat, i < s.size → 97 ≤ bt s i ∧ bt s i ≤ 122) ∧ 1 ≤ s.size ∧ s.size ≤ 8 := by simp [nameB, lowB]
theorem nameB_low {s : ByteArray} (h : ¬ ∀ i : Nat, i < s.size → 97 ≤ bt s i ∧ bt s i ≤ 122) : nameB s = false := by
  have : ¬ (nameB s = true) := fun hn => h ((nameB_iff s).1 hn).1
  simpa using this
/-! #### expressions -/
theorem part_lt {x y : S29} (h : y ∈ x.f3) : SizeOf.sizeOf y < SizeOf.sizeOf x := by
  cases x with
  | mk a b c l =>
    have := List.sizeOf_lt_of_mem (show y ∈ l from h)
    simp only [S29.mk.sizeOf_spec]
    omega
mutual
def cntE : S29 → Int
  | ⟨_, _, _, l⟩ => 1 + cntEs l
def cntEs : List S29 → Int
  | [] => 0
  | x :: l => cntE x + cntEs l
end
mutual
def depE : S29 → Int
  | ⟨_, _, _, l⟩ => 1 + depEs l
def depEs : List S29 → Int
  | [] => 0
  | x :: l => mx (depE x) (depEs l)
end
theorem mx_of (a b : Int) : a ≤ mx a b ∧ b ≤ mx a b ∧ (mx a b = a ∨ mx a b = b) := by unfold mx; split <;> omega
theorem cntE_eq (x : S29) : cntE x = 1 + cntEs x.f3 := by cases x; rw [cntE]
theorem depE_eq (x : S29) : depE x = 1 + depEs x.f3 := by cases x; rw [depE]
theorem cntEs_nil : cntEs [] = 0 := by rw [cntEs]
theorem cntEs_cons (x : S29) (l : List S29) : cntEs (x :: l) = cntE x + cntEs l := by rw [cntEs]
theorem depEs_nil : depEs [] = 0 := by rw [depEs]
theorem depEs_cons (x : S29) (l : List S29) : depEs (x :: l) = mx (depE x) (depEs l) := by rw [depEs]
theorem Expr_ind {P : S29 → Prop} (h : ∀ x, (∀ y ∈ x.f3, P y) → P x) : ∀ x, P x := by
  intro x
  induction hn : SizeOf.sizeOf x using Nat.strongRecOn generalizing x with
  | _ n ih => exact h x (fun y hy => ih (SizeOf.sizeOf y) (hn ▸ part_lt hy) y rfl)
theorem cntEs_ge {l : List S29} (h : ∀ y ∈ l, 1 ≤ cntE y) : (l.length : Int) ≤ cntEs l := by
  induction l with
  | nil => rw [cntEs_nil]; simp
  | cons x l ih =>
    have h1 := h x (List.mem_cons_self ..)
    have h2 := ih (fun y hy => h y (List.mem_cons_of_mem _ hy))
    rw [cntEs_cons, List.length_cons]
    omega
theorem cntE_pos : ∀ x : S29, 1 ≤ cntE x := Expr_ind (fun x ih => by
  have := cntEs_ge ih
  rw [cntE_eq]
  omega)
theorem cntEs_pos (l : List S29) : (l.length : Int) ≤ cntEs l := cntEs_ge (fun y _ => cntE_pos y)
theorem cntE_mem {l : List S29} {y : S29} (h : y ∈ l) : cntE y ≤ cntEs l := by
  induction l with
  | nil => exact absurd h (by simp)
  | cons x l ih =>
    rw [cntEs_cons]
    have h1 := cntE_pos x
    have h2 := cntEs_pos l
    rcases List.mem_cons.1 h with rfl | h
    · omega
    · have := ih h
      omega
theorem cntE_part {x y : S29} (h : y ∈ x.f3) : cntE y + 1 ≤ cntE x := by
  have := cntE_mem h
  rw [cntE_eq x]
  omega
theorem depEs_le {l : List S29} (h : ∀ y ∈ l, 1 ≤ depE y ∧ depE y ≤ cntE y) : 0 ≤ depEs l ∧ depEs l ≤ cntEs l := by
  induction l with
  | nil => rw [cntEs_nil, depEs_nil]; omega
  | cons x l ih =>
    have h1 := h x (List.mem_cons_self ..)
    have h2 := ih (fun y hy => h y (List.mem_cons_of_mem _ hy))
    rw [cntEs_cons, depEs_cons]
    unfold mx
    have h3 := cntEs_pos l
    split <;> omega
theorem depE_le : ∀ x : S29, 1 ≤ depE x ∧ depE x ≤ cntE x := Expr_ind (fun x ih => by
  have := depEs_le ih
  rw [cntE_eq, depE_eq]
  omega)
theorem cnt_drop (l : List S29) (i : Int) (h0 : 0 ≤ i) (h1 : i < l.length) : cntEs (l.drop i.toNat) = cntE (l.getD i.toNat z29) + cntEs (l.drop (i + 1).toNat) := by rw [drop_at l z29 i h0 h1, cntEs_cons]
/-- The texts in an expression are not too long. -/
inductive OkE : S29 → Prop
  | mk {x : S29} : x.f2.size ≤ 9223372036854775807 → (∀ y ∈ x.f3, OkE y) → OkE x
theorem OkE.name {x : S29} (h : OkE x) : x.f2.size ≤ 9223372036854775807 := by cases h; assumption
theorem OkE.part {x y : S29} (h : OkE x) (hy : y ∈ x.f3) : OkE y := by
  cases h with
  | mk _ h => exact h y hy
/-! #### expressions, mirrored -/
mutual
def toExpr : S24 → S29
  | ⟨a, b, c, l⟩ => ⟨a, b, c, toExprs l⟩
def toExprs : List S24 → List S29
  | [] => []
  | x :: l => toExpr x :: toExprs l
end
theorem toExpr_eq (x : S24) : toExpr x = ⟨x.f0, x.f1, x.f2, toExprs x.f3⟩ := by cases x; rw [toExpr]
theorem toExprs_map (l : List S24) : toExprs l = l.map toExpr := by
  induction l with
  | nil => rw [toExprs]; rfl
  | cons x l ih => rw [toExprs, ih]; rfl
theorem Lpart_lt {x y : S24} (h : y ∈ x.f3) : SizeOf.sizeOf y < SizeOf.sizeOf x := by
  cases x with
  | mk a b c l =>
    have := List.sizeOf_lt_of_mem (show y ∈ l from h)
    simp only [S24.mk.sizeOf_spec]
    omega
theorem LExpr_ind {P : S24 → Prop} (h : ∀ x, (∀ y ∈ x.f3, P y) → P x) : ∀ x, P x := by
  intro x
  induction hn : SizeOf.sizeOf x using Nat.strongRecOn generalizing x with
  | _ n ih => exact h x (fun y hy => ih (SizeOf.sizeOf y) (hn ▸ Lpart_lt hy) y rfl)
theorem FineL_name {x : S24} (h : Fine24 x) : x.f2.size ≤ 9223372036854775807 ∧ x.f3.length ≤ 9223372036854775807 := by
  cases h with
  | mk _ _ h1 h2 _ => exact ⟨h1, h2⟩
theorem FineL_part {x y : S24} (h : Fine24 x) (hy : y ∈ x.f3) : Fine24 y := by
  cases h with
  | mk _ _ _ _ h => exact h y hy
theorem toExpr_ok : ∀ x : S24, Fine24 x → OkE (toExpr x) := LExpr_ind (fun x ih hx => by
  rw [toExpr_eq]
  refine OkE.mk (FineL_name hx).1 (fun y hy => ?_)
  rw [show (S29.mk x.f0 x.f1 x.f2 (toExprs x.f3)).f3 = x.f3.map toExpr from toExprs_map _] at hy
  obtain ⟨z, hz, rfl⟩ := List.mem_map.1 hy
  exact ih z hz (FineL_part hx hz))
/-- What szExpr leaves. -/
def SzE (n c : Int) (r : Int) : Prop := r < 0 ∨ 0 ≤ r ∧ r + c ≤ n
theorem szExprS_step (l : List S24) (ih : ∀ y ∈ l, ∀ n, 0 ≤ n → n ≤ 1048576 → T (fun k => laws_szExpr.f k y.f0 y.f1 y.f2 y.f3 n) (SzE n (cntE (toExpr y) - 1))) (hl : l.length ≤ 9223372036854775807) (n : Int) (h0 : 0 ≤ n) (h1 : n ≤ 1048576) :
    T (fun k => laws_szExprS.f k l n) (SzE n (cntEs (l.map toExpr))) := by
  refine T.step (fun k => laws_szExprS.f.eq_2 ..) ?_
  rw [w64 (by omega) (by omega)]
  refine T.ite (fun _ => T.now (.inl (by decide))) (fun h => ?_)
  have hp := cntEs_pos (l.map toExpr)
  rw [List.length_map] at hp
  refine T.loop (fun (s : Int × Int) k => laws_szExprS.l0 k l s.1 s.2) (fun s => ((l.length : Int) - s.2).toNat) (fun s => 0 ≤ s.2 ∧ s.2 ≤ l.length ∧ 0 ≤ s.1 ∧ s.1 + cntEs (l.map toExpr) ≤ n + cntEs ((l.map toExpr).drop s.2.toNat) - (l.length - s.2)) _ ?_ (n - l.length, 0) ⟨by simp, by simp, by show 0 ≤ n - (l.length : Int); omega, by show n - (l.length : Int) + _ ≤ n + cntEs (l.map toExpr) - (l.length - 0); omega⟩
  rintro ⟨m, i⟩ ⟨a0, a1, a2, a3⟩ ih2
  dsimp only at a0 a1 a2 a3 ih2 ⊢
  refine T.step (fun k => laws_szExprS.l0.eq_2 ..) ?_
  refine T.ite (fun hi => T.ift a0 ?_) (fun hi => T.now (.inr ⟨a2, ?_⟩))
  · have hd := cntEs_pos ((l.map toExpr).drop i.toNat)
    have hcd := cnt_drop (l.map toExpr) i a0 (by rw [List.length_map]; exact hi)
    have hge : (l.map toExpr).getD i.toNat z29 = toExpr (l.getD i.toNat z24) := by
      rw [List.getD_eq_getElem?_getD, List.getD_eq_getElem?_getD, List.getElem?_map, List.getElem?_eq_getElem (by omega : i.toNat < l.length)]
      rfl
    rw [hge] at hcd
    have hdl : ((l.map toExpr).drop (i + 1).toNat).length = l.length - (i + 1).toNat := by rw [List.length_drop, List.length_map]
    have hcp := cntEs_pos ((l.map toExpr).drop (i + 1).toNat)
    have hm : m ≤ 1048576 := by
      have hall : cntEs ((l.map toExpr).drop i.toNat) ≤ cntEs (l.map toExpr) := by
        have : ∀ (q : List S29) (j : Nat), cntEs (q.drop j) ≤ cntEs q := by
          intro q
          induction q with
          | nil => intro j; simp
          | cons x q ih => intro j; cases j with
            | zero => simp
            | succ j => rw [List.drop_succ_cons, cntEs_cons]; have := ih j; have := cntE_pos x; omega
        exact this _ _
      omega
    refine T.bind (ih _ (get_mem l z24 i a0 hi) m a2 hm) ?_
    intro r hr
    refine T.ite (fun _ => T.now (.inl (by decide))) (fun hn => ?_)
    rw [w64 (by omega) (by omega)]
    rcases hr with hr | ⟨r0, r1⟩
    · exact absurd hr hn
    · exact ih2 (r, i + 1) ⟨by show 0 ≤ i + 1; omega, by show i + 1 ≤ _; omega, r0, by show r + _ ≤ n + cntEs ((l.map toExpr).drop (i + 1).toNat) - (l.length - (i + 1)); omega⟩ (by show ((l.length : Int) - (i + 1)).toNat < _; omega)
  · rw [List.drop_of_length_le (by rw [List.length_map]; omega), cntEs_nil] at a3
    omega
theorem szExpr_ : ∀ x : S24, Fine24 x → ∀ n, 0 ≤ n → n ≤ 1048576 → T (fun k => laws_szExpr.f k x.f0 x.f1 x.f2 x.f3 n) (SzE n (cntE (toExpr x) - 1)) := LExpr_ind (fun x ih hx n h0 h1 => by
  have hs := FineL_name hx
  refine T.step (fun k => laws_szExpr.f.eq_2 ..) ?_
  rw [w64 (by omega) (by omega)]
  refine T.ite (fun _ => T.now (.inl (by decide))) (fun h => ?_)
  refine T.bind (szExprS_step x.f3 (fun y hy => ih y hy (FineL_part hx hy)) hs.2 _ (by omega) (by omega)) ?_
  intro r hr
  refine T.ite (fun _ => T.now (.inl (by decide))) (fun hn => T.now ?_)
  rcases hr with hr | ⟨r0, r1⟩
  · exact absurd hr hn
  · refine .inr ⟨r0, ?_⟩
    rw [cntE_eq, toExpr_eq, toExprs_map]
    show r + (1 + cntEs (x.f3.map toExpr) - 1) ≤ n
    omega)
theorem toExprS_step (l : List S24) (ih : ∀ y ∈ l, T (fun k => laws_toExpr.f k y.f0 y.f1 y.f2 y.f3) (fun r => r = (y.f0, y.f1, y.f2, (toExpr y).f3))) (hl : l.length ≤ 1048576) : T (fun k => laws_toExprS.f k l) (fun r => r = toExprs l) := by
  refine T.step (fun k => laws_toExprS.f.eq_2 ..) ?_
  refine T.ift (by omega) (T.ift (by omega) ?_)
  rw [toExprs_map]
  refine T.turn z24 l toExpr (fun o i k => laws_toExprS.l0 k l o i) _ ?_ ?_ _ (by simp)
  · refine T.step (fun k => laws_toExprS.l0.eq_2 ..) (T.iff_ (by omega) (T.now rfl))
  · intro o i h0 h1 h2 h
    refine T.step (fun k => laws_toExprS.l0.eq_2 ..) (T.ift h1 (T.ift h0 ?_))
    refine T.bind (ih _ (get_mem l z24 i h0 h1)) ?_
    rintro _ rfl
    rw [w64 (by omega) (by omega)]
    refine T.ift (by omega) ?_
    have e : (S29.mk (rd_T24 l i).f0 (rd_T24 l i).f1 (rd_T24 l i).f2 (toExpr (rd_T24 l i)).f3) = toExpr (rd_T24 l i) := by
      rw [toExpr_eq]
    dsimp only
    refine T.congr (fun k => ?_) h
    rw [show l.getD i.toNat z24 = rd_T24 l i from rfl, ← e]
theorem toExpr_ : ∀ x : S24, cntE (toExpr x) ≤ 1048577 → T (fun k => laws_toExpr.f k x.f0 x.f1 x.f2 x.f3) (fun r => r = (x.f0, x.f1, x.f2, (toExpr x).f3)) := LExpr_ind (fun x ih hc => by
  have hm : ∀ y ∈ x.f3, cntE (toExpr y) + 1 ≤ cntE (toExpr x) := fun y hy => cntE_part (by rw [toExpr_eq x, toExprs_map]; exact List.mem_map_of_mem hy)
  have hl : (x.f3.length : Int) ≤ 1048576 := by
    have h1 := cntEs_pos (toExpr x).f3
    have h2 := cntE_eq (toExpr x)
    have h3 : (toExpr x).f3.length = x.f3.length := by rw [toExpr_eq, toExprs_map]; exact List.length_map ..
    omega
  refine T.step (fun k => laws_toExpr.f.eq_2 ..) ?_
  refine T.bind (toExprS_step x.f3 (fun y hy => ih y hy (by have := hm y hy; omega)) (by omega)) ?_
  rintro _ rfl
  exact T.now (by rw [toExpr_eq]))
theorem eqExpr_ : ∀ x : S29, cntE x ≤ 1048577 → T (fun k => laws_eqExpr.f k x.f0 x.f1 x.f2 x.f3 x.f0 x.f1 x.f2 x.f3) (fun r => r = true) := Expr_ind (fun x ih hc => by
  have hl := cntEs_pos x.f3
  rw [cntE_eq] at hc
  refine T.step (fun k => laws_eqExpr.f.eq_2 ..) (T.ift rfl (T.ift rfl (T.ift rfl ?_)))
  refine T.bind (P := fun r => r = true) ?_ ?_
  · refine T.step (fun k => laws_eqExprS.f.eq_2 ..) (T.ift rfl ?_)
    refine T.count x.f3.length (fun i k => laws_eqExprS.l0 k x.f3 x.f3 i) (fun r => r = true) (T.step (fun k => laws_eqExprS.l0.eq_2 ..) (T.iff_ (by omega) (T.now rfl))) (fun i h0 h1 h => ?_) 0 (by omega) (by omega)
    refine T.step (fun k => laws_eqExprS.l0.eq_2 ..) (T.ift h1 (T.ift h0 (T.ift h1 ?_)))
    have hm := get_mem x.f3 z29 i h0 h1
    refine T.bind (ih _ hm (by have := cntE_mem (show rd_T29 x.f3 i ∈ x.f3 from hm); omega)) ?_
    rintro _ rfl
    rw [w64 (by omega) (by omega)]
    exact T.ift rfl h
  · rintro _ rfl
    exact T.ift rfl (T.now rfl))
/-! #### good expressions -/
def partsN (c : Int) : Int := if c = 8 ∨ c = 9 ∨ c = 13 then 1 else if c = 10 ∨ c = 11 ∨ c = 12 ∨ c = 14 ∨ c = 15 then 2 else 0
def namedB (c : Int) : Bool := decide (c = 7 ∨ c = 8 ∨ c = 9)
def greatN (c : Int) : Int := if c = 1 then 1 else if c = 2 then 99 else if c = 3 then 6 else 0
def nodeB (a b : Int) (s : ByteArray) (n : Nat) : Bool :=
  decide (1 ≤ a ∧ a ≤ 15) && decide (0 ≤ b ∧ b ≤ greatN a) && decide ((n : Int) = partsN a) && (if s.toList = ([] : List UInt8) then !namedB a else (namedB a && nameB s))
mutual
def goodE : S29 → Bool
  | ⟨a, b, s, l⟩ => nodeB a b s l.length && goodEs l
def goodEs : List S29 → Bool
  | [] => true
  | x :: l => goodE x && goodEs l
end
theorem goodE_eq (x : S29) : goodE x = (nodeB x.f0 x.f1 x.f2 x.f3.length && goodEs x.f3) := by cases x; rw [goodE]
theorem goodEs_nil : goodEs [] = true := by rw [goodEs]
theorem goodEs_cons (x : S29) (l : List S29) : goodEs (x :: l) = (goodE x && goodEs l) := by rw [goodEs]
theorem goodEs_mem {l : List S29} (h : goodEs l = true) {y : S29} (hy : y ∈ l) : goodE y = true := by
  induction l with
  | nil => exact absurd hy (by simp)
  | cons x l ih =>
    rw [goodEs_cons, Bool.and_eq_true] at h
    rcases List.mem_cons.1 hy with rfl | hy
    · exact h.1
    · exact ih h.2 hy
theorem depE_mem {l : List S29} {y : S29} (h : y ∈ l) : depE y ≤ depEs l := by
  induction l with
  | nil => exact absurd h (by simp)
  | cons x l ih =>
    rw [depEs_cons]
    unfold mx
    rcases List.mem_cons.1 h with rfl | h
    · split <;> omega
    · have := ih h
      split <;> omega
theorem depEs_nonneg (l : List S29) : 0 ≤ depEs l := (depEs_le (fun y _ => depE_le y)).1
def validE (x : S29) : Bool := goodE x && decide (cntE x ≤ 40 ∧ depE x ≤ 7)
def sizeM (d : Int) (x : S29) : Int := if goodE x = true ∧ depE x ≤ d then cntE x else 0
theorem sizeM_bad {d : Int} {x : S29} (h : ¬ (goodE x = true ∧ depE x ≤ d)) : sizeM d x = 0 := if_neg h
theorem validE_part {x y : S29} (h : validE x = true) (hy : y ∈ x.f3) : validE y = true := by
  unfold validE at h ⊢
  rw [Bool.and_eq_true, decide_eq_true_eq, goodE_eq, Bool.and_eq_true] at h
  have h1 := cntE_part hy
  have h2 := depE_mem hy
  have h3 := depE_eq x
  rw [Bool.and_eq_true, decide_eq_true_eq]
  exact ⟨goodEs_mem h.1.2 hy, by omega, by omega⟩
theorem impl_in_ (n a b : Int) : impl_in.f n a b = some (decide (a ≤ n ∧ n ≤ b)) := by
  unfold impl_in.f
  by_cases h : a ≤ n
  · rw [if_pos h]; simp [h]
  · rw [if_neg h]; simp [h]
theorem impl_NameValid_ (s : ByteArray) (hs : s.size ≤ 9223372036854775807) : T (fun k => impl_NameValid.f k s) (fun r => r = nameB s) := by
  unfold impl_NameValid.f
  refine T.loop (fun (i : Int) k => impl_NameValid.l0 k s (s.size : Int) i) (fun i => ((s.size : Int) - i).toNat) (fun i => 0 ≤ i ∧ i ≤ s.size ∧ ∀ j : Nat, (j : Int) < i → 97 ≤ bt s j ∧ bt s j ≤ 122) _ ?_ 0 ⟨by omega, by omega, fun j hj => by omega⟩
  rintro i ⟨h0, h1, hl⟩ ih
  refine T.step (fun k => impl_NameValid.l0.eq_2 ..) ?_
  refine T.ite (fun hi => ?_) (fun hi => ?_)
  · refine T.ift h0 (T.ift hi ?_)
    have e : ((i.toNat : Nat) : Int) = i := by omega
    have hb : bt s (i.toNat : Nat) = bt s i := by rw [e]
    refine T.ite (fun hc => T.now ?_) (fun hc => T.ite (fun hd => T.now ?_) (fun hd => ?_))
    · exact (nameB_low (fun h => by have := h i.toNat (by omega); rw [hb] at this; omega)).symm
    · exact (nameB_low (fun h => by have := h i.toNat (by omega); rw [hb] at this; omega)).symm
    · rw [w64 (by omega) (by omega)]
      refine ih (i + 1) ⟨by omega, by omega, fun j hj => ?_⟩ (by omega)
      by_cases hji : (j : Int) < i
      · exact hl j hji
      · have : (j : Int) = i := by omega
        rw [this]; omega
  · rw [impl_in_]
    refine T.now ?_
    have hi : i = s.size := by omega
    subst hi
    have : lowB s = true := decide_eq_true (fun j hj => hl j (by omega))
    rw [nameB, this, Bool.true_and]
    exact decide_eq_decide.mpr (by omega)
theorem impl_partsOf_ (c : Int) : T (fun k => impl_partsOf.f k c) (fun r => r = (partsN c, namedB c)) := by
  unfold impl_partsOf.f
  have J : ∀ b : Bool, ¬ c = 7 → b = decide (c = 8 ∨ c = 9) → T (fun k => impl_partsOf.j0 k c b) (fun r => r = (partsN c, namedB c)) := by
    intro b hc hb
    have e9 : namedB c = b := by rw [hb]; unfold namedB; exact decide_eq_decide.2 (by omega)
    rw [e9]
    refine T.step (fun k => impl_partsOf.j0.eq_2 ..) ?_
    unfold partsN
    refine T.ite (fun h => T.now ?_) (fun h => ?_)
    · rw [hb] at h
      have := of_decide_eq_true h
      rw [if_pos (by omega)]
      rw [hb, decide_eq_true this]
    · rw [hb] at h
      have hn : ¬ (c = 8 ∨ c = 9) := by simpa using h
      have hb' : b = false := by rw [hb]; simpa using hn
      rw [hb']
      refine T.ite (fun h => T.now (by rw [if_pos (by omega)])) (fun h13 => ?_)
      have e1 : ¬ (c = 8 ∨ c = 9 ∨ c = 13) := by omega
      simp only [if_neg e1]
      refine T.ite (fun h => T.now (by rw [if_pos (by omega)])) (fun h10 => ?_)
      refine T.ite (fun h => T.now (by rw [if_pos (by omega)])) (fun h11 => ?_)
      refine T.ite (fun h => T.now (by rw [if_pos (by omega)])) (fun h12 => ?_)
      refine T.ite (fun h => T.now (by rw [if_pos (by omega)])) (fun h14 => ?_)
      refine T.ite (fun h => T.now (by rw [if_pos (by omega)])) (fun h15 => ?_)
      exact T.now (by rw [if_neg (by omega)])
  refine T.ite (fun h => T.now ?_) (fun h => T.ite (fun h8 => J _ h ?_) (fun h8 => J _ h ?_))
  · subst h; decide
  · subst h8; decide
  · rw [Bool.eq_iff_iff, beq_iff_eq, decide_eq_true_eq]; omega
theorem impl_greatestNumber_ (c : Int) : impl_greatestNumber.f c = some (greatN c) := by
  unfold impl_greatestNumber.f greatN
  split
  · rfl
  split
  · rfl
  split <;> rfl
theorem impl_size_ : ∀ x : S29, OkE x → cntE x ≤ 1048577 → ∀ d : Int, 0 ≤ d → d ≤ 1000 → T (fun k => impl_Expr_size.f k x.f0 x.f1 x.f2 x.f3 d) (fun r => r = sizeM d x) := Expr_ind (fun x ih hx hc d h0 h1 => by
  have hd := depE_le x
  have bad : ¬ (nodeB x.f0 x.f1 x.f2 x.f3.length = true) → 0 = sizeM d x := fun h => (sizeM_bad (fun hg => by rw [goodE_eq, Bool.and_eq_true] at hg; exact h hg.1.1)).symm
  have jbad : (0 = sizeM d x) → T (fun k => impl_Expr_size.j0 k d true x.f0 x.f1 x.f2 x.f3) (fun r => r = sizeM d x) := fun h => T.step (fun k => impl_Expr_size.j0.eq_2 ..) (T.ift rfl (T.now h))
  refine T.step (fun k => impl_Expr_size.f.eq_2 ..) ?_
  refine T.bind (impl_partsOf_ x.f0) ?_
  rintro _ rfl
  refine T.ite (fun hd0 => jbad (sizeM_bad (by omega)).symm) (fun hd0 => ?_)
  rw [impl_in_]
  refine T.bind (T.now (Q := fun x => x = _) rfl) ?_
  rintro _ rfl
  refine T.ite (fun hk => ?_) (fun hk => jbad (bad (fun h => hk (by unfold nodeB at h; simp only [Bool.and_eq_true] at h; exact h.1.1.1))))
  rw [impl_greatestNumber_]
  refine T.bind (T.now (Q := fun x => x = _) rfl) ?_
  rintro _ rfl
  rw [impl_in_]
  refine T.bind (T.now (Q := fun x => x = _) rfl) ?_
  rintro _ rfl
  refine T.ite (fun hg => ?_) (fun hg => jbad (bad (fun h => hg (by unfold nodeB at h; simp only [Bool.and_eq_true] at h; exact h.1.1.2))))
  refine T.ite (fun hl => ?_) (fun hl => jbad (bad (fun h => hl (by unfold nodeB at h; simp only [Bool.and_eq_true, decide_eq_true_eq] at h; exact h.1.2))))
  have J : ∀ b : Bool, nodeB x.f0 x.f1 x.f2 x.f3.length = !b → T (fun k => impl_Expr_size.j0 k d b x.f0 x.f1 x.f2 x.f3) (fun r => r = sizeM d x) := by
    intro b hb
    cases b with
    | true => exact jbad (bad (by rw [hb]; simp))
    | false =>
      refine T.step (fun k => impl_Expr_size.j0.eq_2 ..) (T.iff_ (by simp) ?_)
      have hn : nodeB x.f0 x.f1 x.f2 x.f3.length = true := hb
      have hlen := cntEs_pos x.f3
      have hce := cntE_eq x
      have hdep := depEs_nonneg x.f3
      have hsz : sizeM d x = if goodEs x.f3 = true ∧ depEs x.f3 ≤ d - 1 then cntE x else 0 := by
        unfold sizeM
        rw [goodE_eq, hn, Bool.true_and, depE_eq]
        by_cases hg : goodEs x.f3 = true ∧ depEs x.f3 ≤ d - 1
        · rw [if_pos hg, if_pos ⟨hg.1, by omega⟩]
        · rw [if_neg hg, if_neg (fun h => hg ⟨h.1, by omega⟩)]
      rw [hsz]
      refine T.loop (fun (s : Int × Int) k => impl_Expr_size.l0 k d s.1 x.f3 (x.f3.length : Int) s.2) (fun s => ((x.f3.length : Int) - s.2).toNat) (fun s => 0 ≤ s.2 ∧ s.2 ≤ x.f3.length ∧ 0 ≤ s.1 ∧ s.1 + cntEs (x.f3.drop s.2.toNat) = cntE x ∧ ((goodEs x.f3 = true ∧ depEs x.f3 ≤ d - 1) ↔ (goodEs (x.f3.drop s.2.toNat) = true ∧ depEs (x.f3.drop s.2.toNat) ≤ d - 1))) _ ?_ (1, 0) ⟨by simp, by simp, by simp, by show 1 + cntEs x.f3 = _; omega, Iff.rfl⟩
      rintro ⟨m, i⟩ ⟨a0, a1, am, a2, a3⟩ ih2
      dsimp only at a0 a1 am a2 a3 ih2 ⊢
      refine T.step (fun k => impl_Expr_size.l0.eq_2 ..) ?_
      refine T.ite (fun hi => T.ift a0 (T.ift hi ?_)) (fun hi => T.now ?_)
      · have hm := get_mem x.f3 z29 i a0 hi
        have hcm := cntE_mem (show rd_T29 x.f3 i ∈ x.f3 from hm)
        rw [w64 (by omega) (by omega)]
        refine T.bind (ih (rd_T29 x.f3 i) hm (hx.part hm) (by omega) (d - 1) (by omega) (by omega)) ?_
        rintro _ rfl
        rw [drop_at x.f3 z29 i a0 hi, goodEs_cons, depEs_cons, Bool.and_eq_true] at a3
        rw [drop_at x.f3 z29 i a0 hi, cntEs_cons] at a2
        have hre : x.f3.getD i.toNat z29 = rd_T29 x.f3 i := rfl
        rw [hre] at a2 a3
        have hmx := mx_of (depE (rd_T29 x.f3 i)) (depEs (x.f3.drop (i + 1).toNat))
        have hp1 := cntE_pos (rd_T29 x.f3 i)
        have hp2 := cntEs_pos (x.f3.drop (i + 1).toNat)
        by_cases hgi : goodE (rd_T29 x.f3 i) = true ∧ depE (rd_T29 x.f3 i) ≤ d - 1
        · rw [show sizeM (d - 1) (rd_T29 x.f3 i) = cntE (rd_T29 x.f3 i) from if_pos hgi]
          refine T.iff_ (by omega) ?_
          rw [w64 (by omega) (by omega), w64 (by omega) (by omega)]
          refine ih2 (m + cntE (rd_T29 x.f3 i), i + 1) ⟨by show 0 ≤ i + 1; omega, by show i + 1 ≤ _; omega, by show 0 ≤ m + _; omega, by show m + cntE (rd_T29 x.f3 i) + cntEs (x.f3.drop (i + 1).toNat) = _; omega, ?_⟩ (by show ((x.f3.length : Int) - (i + 1)).toNat < _; omega)
          show _ ↔ (goodEs (x.f3.drop (i + 1).toNat) = true ∧ depEs (x.f3.drop (i + 1).toNat) ≤ d - 1)
          rw [a3]
          constructor
          · intro h; exact ⟨h.1.2, by omega⟩
          · intro h; exact ⟨⟨hgi.1, h.1⟩, by omega⟩
        · rw [sizeM_bad hgi]
          refine T.ift rfl (T.now ?_)
          rw [if_neg (fun h => hgi ⟨(a3.1 h).1.1, by have := (a3.1 h).2; omega⟩)]
      · rw [drop_all x.f3 i hi, cntEs_nil] at a2
        rw [drop_all x.f3 i hi, goodEs_nil, depEs_nil] at a3
        rw [if_pos (a3.2 ⟨rfl, by omega⟩)]
        omega
  have hnode : nodeB x.f0 x.f1 x.f2 x.f3.length = (if x.f2.toList = ([] : List UInt8) then !namedB x.f0 else (namedB x.f0 && nameB x.f2)) := by
    unfold nodeB
    rw [hk, hg, decide_eq_true hl]
    simp
  rw [hnode] at J
  refine T.ite (fun hs => ?_) (fun hs => ?_)
  · rw [if_pos hs] at J
    refine T.ite (fun hb => J _ (by rw [show namedB x.f0 = true from hb])) (fun hb => J _ ?_)
    rw [show namedB x.f0 = false by simpa using hb]
  · rw [if_neg hs] at J
    refine T.ite (fun hb => ?_) (fun hb => J _ ?_)
    · rw [show namedB x.f0 = true from hb] at J
      refine T.bind (impl_NameValid_ x.f2 hx.name) ?_
      rintro _ rfl
      exact J _ (by simp)
    · rw [show namedB x.f0 = false by simpa using hb]; rfl)
theorem impl_ExprValid_ (x : S29) (hx : OkE x) (hc : cntE x ≤ 1048577) : T (fun k => impl_ExprValid.f k x.f0 x.f1 x.f2 x.f3) (fun r => r = validE x) := by
  unfold impl_ExprValid.f
  refine T.bind (impl_size_ x hx hc 7 (by omega) (by omega)) ?_
  rintro _ rfl
  rw [impl_in_]
  refine T.bind (T.now (Q := fun x => x = _) rfl) ?_
  rintro _ rfl
  refine T.now ?_
  have hp := cntE_pos x
  unfold validE sizeM
  by_cases h : goodE x = true ∧ depE x ≤ 7
  · rw [if_pos h, h.1, Bool.true_and]
    exact decide_eq_decide.2 (by omega)
  · rw [if_neg h, Bool.eq_iff_iff, Bool.and_eq_true, decide_eq_true_eq, decide_eq_true_eq]
    constructor
    · intro hh; omega
    · intro hh; exact absurd ⟨hh.1, hh.2.2⟩ h
theorem spec_l1In_ (n a b : Int) : spec_l1In.f n a b = some (decide (a ≤ n ∧ n ≤ b)) := by
  unfold spec_l1In.f
  by_cases h : n ≥ a
  · rw [if_pos h]; simp [show a ≤ n from h]
  · rw [if_neg h]; simp [show ¬ a ≤ n from h]
theorem spec_NameValid_ (s : ByteArray) (hs : s.size ≤ 9223372036854775807) : T (fun k => spec_NameValid.f k s) (fun r => r = nameB s) := by
  unfold spec_NameValid.f
  refine T.loop (fun (i : Int) k => spec_NameValid.l0 k s i) (fun i => ((s.size : Int) - i).toNat) (fun i => 0 ≤ i ∧ i ≤ s.size ∧ ∀ j : Nat, (j : Int) < i → 97 ≤ bt s j ∧ bt s j ≤ 122) _ ?_ 0 ⟨by omega, by omega, fun j hj => by omega⟩
  rintro i ⟨h0, h1, hl⟩ ih
  refine T.step (fun k => spec_NameValid.l0.eq_2 ..) ?_
  refine T.ite (fun hi => ?_) (fun hi => ?_)
  · refine T.ift h0 ?_
    have e : ((i.toNat : Nat) : Int) = i := by omega
    have hb : bt s (i.toNat : Nat) = bt s i := by rw [e]
    refine T.ite (fun hc => T.now ?_) (fun hc => T.ite (fun hd => T.now ?_) (fun hd => ?_))
    · exact (nameB_low (fun h => by have := h i.toNat (by omega); rw [hb] at this; omega)).symm
    · exact (nameB_low (fun h => by have := h i.toNat (by omega); rw [hb] at this; omega)).symm
    · rw [w64 (by omega) (by omega)]
      refine ih (i + 1) ⟨by omega, by omega, fun j hj => ?_⟩ (by omega)
      by_cases hji : (j : Int) < i
      · exact hl j hji
      · have : (j : Int) = i := by omega
        rw [this]; omega
  · rw [spec_l1In_]
    refine T.now ?_
    have hi : i = s.size := by omega
    subst hi
    have : lowB s = true := decide_eq_true (fun j hj => hl j (by omega))
    rw [nameB, this, Bool.true_and]
    exact decide_eq_decide.mpr (by omega)
theorem spec_l4Parts_ (c : Int) : T (fun _ => spec_l4Parts.f c) (fun r => r = if 1 ≤ c ∧ c ≤ 15 then partsN c else -1) := by
  unfold spec_l4Parts.f
  rw [spec_l1In_]
  refine T.bind (T.now (Q := fun x => x = _) rfl) ?_
  rintro _ rfl
  refine T.ite (fun h => ?_) (fun h => T.now ?_)
  · have h := of_decide_eq_true h
    refine T.bind (T.now (Q := fun x => x = _) rfl) ?_
    rintro _ rfl
    rw [w64 (by omega) (by omega)]
    refine T.ift (by omega) (T.ift (by simp only [List.length_cons, List.length_nil]; omega) (T.now ?_))
    rw [if_pos h]
    have : c = 1 ∨ c = 2 ∨ c = 3 ∨ c = 4 ∨ c = 5 ∨ c = 6 ∨ c = 7 ∨ c = 8 ∨ c = 9 ∨ c = 10 ∨ c = 11 ∨ c = 12 ∨ c = 13 ∨ c = 14 ∨ c = 15 := by omega
    rcases this with h | h | h | h | h | h | h | h | h | h | h | h | h | h | h <;> subst h <;> decide
  · rw [if_neg (fun hh => h (decide_eq_true hh))]
theorem spec_l4Good_ : ∀ x : S29, OkE x → cntE x ≤ 1048577 → T (fun k => spec_l4Good.f k x.f0 x.f1 x.f2 x.f3) (fun r => r = goodE x) := Expr_ind (fun x ih hx hc => by
  have hlen := cntEs_pos x.f3
  have hce := cntE_eq x
  rw [goodE_eq]
  have jbad : ¬ (nodeB x.f0 x.f1 x.f2 x.f3.length = true) → T (fun k => spec_l4Good.j2 k true x.f0 x.f1 x.f2 x.f3) (fun r => r = (nodeB x.f0 x.f1 x.f2 x.f3.length && goodEs x.f3)) := fun h => T.step (fun k => spec_l4Good.j2.eq_2 ..) (T.ift rfl (T.now (by rw [show nodeB x.f0 x.f1 x.f2 x.f3.length = false by simpa using h]; rfl)))
  have J2 : ∀ b : Bool, nodeB x.f0 x.f1 x.f2 x.f3.length = !b → T (fun k => spec_l4Good.j2 k b x.f0 x.f1 x.f2 x.f3) (fun r => r = (nodeB x.f0 x.f1 x.f2 x.f3.length && goodEs x.f3)) := by
    intro b hb
    cases b with
    | true => exact jbad (by rw [hb]; simp)
    | false =>
      refine T.step (fun k => spec_l4Good.j2.eq_2 ..) (T.iff_ (by simp) ?_)
      rw [hb]
      refine T.loop (fun (i : Int) k => spec_l4Good.l0 k i x.f0 x.f1 x.f2 x.f3) (fun i => ((x.f3.length : Int) - i).toNat) (fun i => 0 ≤ i ∧ i ≤ x.f3.length ∧ goodEs x.f3 = goodEs (x.f3.drop i.toNat)) _ ?_ 0 ⟨by simp, by simp, rfl⟩
      rintro i ⟨a0, a1, a2⟩ ih2
      refine T.step (fun k => spec_l4Good.l0.eq_2 ..) ?_
      refine T.ite (fun hi => T.ift a0 ?_) (fun hi => T.now ?_)
      · have hm := get_mem x.f3 z29 i a0 hi
        have hcm := cntE_mem (show rd_T29 x.f3 i ∈ x.f3 from hm)
        refine T.bind (ih (rd_T29 x.f3 i) hm (hx.part hm) (by omega)) ?_
        rintro _ rfl
        rw [drop_at x.f3 z29 i a0 hi, goodEs_cons] at a2
        have hre : x.f3.getD i.toNat z29 = rd_T29 x.f3 i := rfl
        rw [hre] at a2
        refine T.ite (fun hg => ?_) (fun hg => T.now ?_)
        · rw [w64 (by omega) (by omega)]
          exact ih2 (i + 1) ⟨by omega, by omega, by rw [a2, hg, Bool.true_and]⟩ (by omega)
        · rw [a2, show goodE (rd_T29 x.f3 i) = false by simpa using hg]; rfl
      · rw [a2, drop_all x.f3 i hi, goodEs_nil]; rfl
  have J1 : ∀ g : Int, g = greatN x.f0 → T (fun k => spec_l4Good.j1 k (namedB x.f0) g x.f0 x.f1 x.f2 x.f3) (fun r => r = (nodeB x.f0 x.f1 x.f2 x.f3.length && goodEs x.f3)) := by
    rintro _ rfl
    refine T.step (fun k => spec_l4Good.j1.eq_2 ..) ?_
    refine T.bind (spec_l4Parts_ x.f0) ?_
    rintro _ rfl
    refine T.ite (fun hl => ?_) (fun hl => jbad (fun h => hl ?_))
    · have hk : 1 ≤ x.f0 ∧ x.f0 ≤ 15 := by
        by_cases hk : 1 ≤ x.f0 ∧ x.f0 ≤ 15
        · exact hk
        · rw [if_neg hk] at hl; omega
      rw [if_pos hk] at hl
      rw [spec_l1In_]
      refine T.bind (T.now (Q := fun x => x = _) rfl) ?_
      rintro _ rfl
      refine T.ite (fun hg => ?_) (fun hg => jbad (fun h => hg (by unfold nodeB at h; simp only [Bool.and_eq_true] at h; exact h.1.1.2)))
      have hnode : nodeB x.f0 x.f1 x.f2 x.f3.length = (if x.f2.toList = ([] : List UInt8) then !namedB x.f0 else (namedB x.f0 && nameB x.f2)) := by
        unfold nodeB
        rw [hg, decide_eq_true hl, decide_eq_true hk]
        simp
      rw [hnode] at J2 ⊢
      refine T.ite (fun hs => ?_) (fun hs => ?_)
      · rw [if_pos hs] at J2 ⊢
        refine T.ite (fun hb => J2 _ (by rw [show namedB x.f0 = true from hb])) (fun hb => J2 _ ?_)
        rw [show namedB x.f0 = false by simpa using hb]
      · rw [if_neg hs] at J2 ⊢
        refine T.ite (fun hb => ?_) (fun hb => J2 _ ?_)
        · rw [show namedB x.f0 = true from hb] at J2 ⊢
          refine T.bind (spec_NameValid_ x.f2 hx.name) ?_
          rintro _ rfl
          exact J2 _ (by simp)
        · rw [show namedB x.f0 = false by simpa using hb]; rfl
    · unfold nodeB at h
      simp only [Bool.and_eq_true, decide_eq_true_eq] at h
      rw [if_pos h.1.1.1]
      exact h.1.2
  have J0 : ∀ b : Bool, b = namedB x.f0 → T (fun k => spec_l4Good.j0 k b x.f0 x.f1 x.f2 x.f3) (fun r => r = (nodeB x.f0 x.f1 x.f2 x.f3.length && goodEs x.f3)) := by
    rintro _ rfl
    refine T.step (fun k => spec_l4Good.j0.eq_2 ..) ?_
    refine T.ite (fun h => J1 _ (by rw [h]; decide)) (fun h1 => T.ite (fun h => J1 _ (by rw [h]; decide)) (fun h2 => T.ite (fun h => J1 _ (by rw [h]; decide)) (fun h3 => J1 _ ?_)))
    unfold greatN
    rw [if_neg h1, if_neg h2, if_neg h3]
  refine T.step (fun k => spec_l4Good.f.eq_2 ..) ?_
  refine T.ite (fun h => J0 _ (by rw [h]; decide)) (fun h7 => T.ite (fun h => J0 _ (by rw [h]; decide)) (fun h8 => J0 _ ?_))
  unfold namedB
  rw [Bool.eq_iff_iff, beq_iff_eq, decide_eq_true_eq]
  omega)
theorem spec_l4Size_ : ∀ x : S29, cntE x ≤ 1048577 → T (fun k => spec_l4Size.f k x.f0 x.f1 x.f2 x.f3) (fun r => r = cntE x) := Expr_ind (fun x ih hc => by
  have hlen := cntEs_pos x.f3
  have hce := cntE_eq x
  refine T.step (fun k => spec_l4Size.f.eq_2 ..) ?_
  refine T.loop (fun (s : Int × Int) k => spec_l4Size.l0 k s.1 s.2 x.f0 x.f1 x.f2 x.f3) (fun s => ((x.f3.length : Int) - s.2).toNat) (fun s => 0 ≤ s.2 ∧ s.2 ≤ x.f3.length ∧ 0 ≤ s.1 ∧ s.1 + cntEs (x.f3.drop s.2.toNat) = cntE x) _ ?_ (1, 0) ⟨by simp, by simp, by simp, by show 1 + cntEs x.f3 = _; omega⟩
  rintro ⟨m, i⟩ ⟨a0, a1, a2, a3⟩ ih2
  dsimp only at a0 a1 a2 a3 ih2 ⊢
  refine T.step (fun k => spec_l4Size.l0.eq_2 ..) ?_
  refine T.ite (fun hi => T.ift a0 ?_) (fun hi => T.now ?_)
  · have hm := get_mem x.f3 z29 i a0 hi
    have hcm := cntE_mem (show rd_T29 x.f3 i ∈ x.f3 from hm)
    rw [drop_at x.f3 z29 i a0 hi, cntEs_cons] at a3
    have hre : x.f3.getD i.toNat z29 = rd_T29 x.f3 i := rfl
    rw [hre] at a3
    refine T.bind (ih (rd_T29 x.f3 i) hm (by omega)) ?_
    rintro _ rfl
    have hp1 := cntE_pos (rd_T29 x.f3 i)
    have hp2 := cntEs_pos (x.f3.drop (i + 1).toNat)
    rw [w64 (by omega) (by omega), w64 (by omega) (by omega)]
    exact ih2 (m + cntE (rd_T29 x.f3 i), i + 1) ⟨by show 0 ≤ i + 1; omega, by show i + 1 ≤ _; omega, by show 0 ≤ m + _; omega, by show m + cntE (rd_T29 x.f3 i) + cntEs (x.f3.drop (i + 1).toNat) = _; omega⟩ (by show ((x.f3.length : Int) - (i + 1)).toNat < _; omega)
  · rw [drop_all x.f3 i hi, cntEs_nil] at a3
    omega)
theorem spec_l4Deep_ : ∀ x : S29, cntE x ≤ 1048577 → T (fun k => spec_l4Deep.f k x.f0 x.f1 x.f2 x.f3) (fun r => r = depE x) := Expr_ind (fun x ih hc => by
  have hlen := cntEs_pos x.f3
  have hce := cntE_eq x
  have hde := depE_eq x
  have hdl := depE_le x
  have hdn := depEs_nonneg x.f3
  refine T.step (fun k => spec_l4Deep.f.eq_2 ..) ?_
  refine T.loop (fun (s : Int × Int) k => spec_l4Deep.l0 k s.1 s.2 x.f0 x.f1 x.f2 x.f3) (fun s => ((x.f3.length : Int) - s.2).toNat) (fun s => 0 ≤ s.2 ∧ s.2 ≤ x.f3.length ∧ 0 ≤ s.1 ∧ mx s.1 (depEs (x.f3.drop s.2.toNat)) = depEs x.f3) _ ?_ (0, 0) ⟨by simp, by simp, by simp, by show mx 0 (depEs x.f3) = _; have := mx_of 0 (depEs x.f3); omega⟩
  rintro ⟨m, i⟩ ⟨a0, a1, a2, a3⟩ ih2
  dsimp only at a0 a1 a2 a3 ih2 ⊢
  have hdd := depEs_nonneg (x.f3.drop i.toNat)
  refine T.step (fun k => spec_l4Deep.l0.eq_2 ..) ?_
  refine T.ite (fun hi => T.ift a0 ?_) (fun hi => T.now ?_)
  · have hm := get_mem x.f3 z29 i a0 hi
    have hcm := cntE_mem (show rd_T29 x.f3 i ∈ x.f3 from hm)
    rw [drop_at x.f3 z29 i a0 hi, depEs_cons] at a3
    have hre : x.f3.getD i.toNat z29 = rd_T29 x.f3 i := rfl
    rw [hre] at a3
    refine T.bind (ih (rd_T29 x.f3 i) hm (by omega)) ?_
    rintro _ rfl
    rw [w64 (by omega) (by omega)]
    refine ih2 (mx m (depE (rd_T29 x.f3 i)), i + 1) ⟨by show 0 ≤ i + 1; omega, by show i + 1 ≤ _; omega, by show 0 ≤ mx m _; have := mx_of m (depE (rd_T29 x.f3 i)); omega, ?_⟩ (by show ((x.f3.length : Int) - (i + 1)).toNat < _; omega)
    show mx (mx m (depE (rd_T29 x.f3 i))) (depEs (x.f3.drop (i + 1).toNat)) = _
    have h1 := mx_of m (depE (rd_T29 x.f3 i))
    have h2 := mx_of (mx m (depE (rd_T29 x.f3 i))) (depEs (x.f3.drop (i + 1).toNat))
    have h3 := mx_of (depE (rd_T29 x.f3 i)) (depEs (x.f3.drop (i + 1).toNat))
    have h4 := mx_of m (mx (depE (rd_T29 x.f3 i)) (depEs (x.f3.drop (i + 1).toNat)))
    omega
  · rw [drop_all x.f3 i hi, depEs_nil] at a3
    have h1 := mx_of m 0
    have := depEs_nonneg x.f3
    rw [w64 (by omega) (by omega)]
    omega)
theorem spec_ExprValid_ (x : S29) (hx : OkE x) (hc : cntE x ≤ 1048577) : T (fun k => spec_ExprValid.f k x.f0 x.f1 x.f2 x.f3) (fun r => r = validE x) := by
  unfold spec_ExprValid.f validE
  refine T.bind (spec_l4Good_ x hx hc) ?_
  rintro _ rfl
  refine T.ite (fun h => ?_) (fun h => T.now (by rw [show goodE x = false by simpa using h]; rfl))
  rw [h, Bool.true_and]
  refine T.bind (spec_l4Size_ x hc) ?_
  rintro _ rfl
  refine T.ite (fun h40 => ?_) (fun h40 => T.now (decide_eq_false (by omega)).symm)
  refine T.bind (spec_l4Deep_ x hc) ?_
  rintro _ rfl
  exact T.now (decide_eq_decide.2 (by omega))
/-! #### lists of kinded names -/
def kindM (n : ByteArray) : List S91 → Int
  | [] => 0
  | x :: l => if x.f0.toList = n.toList then x.f1 else kindM n l
theorem kindM_zero (n : ByteArray) : ∀ l : List S91, (∀ y ∈ l, 1 ≤ y.f1) → (kindM n l = 0 ↔ ∀ y ∈ l, ¬ y.f0.toList = n.toList)
  | [], _ => by simp [kindM]
  | x :: l, h => by
    have h1 := h x (List.mem_cons_self ..)
    have ih := kindM_zero n l (fun y hy => h y (List.mem_cons_of_mem _ hy))
    rw [kindM]
    by_cases hx : x.f0.toList = n.toList
    · rw [if_pos hx]
      exact ⟨fun e => by omega, fun e => absurd hx (e x (List.mem_cons_self ..))⟩
    · rw [if_neg hx, ih]
      exact ⟨fun e y hy => by
        rcases List.mem_cons.1 hy with rfl | hy
        · exact hx
        · exact e y hy, fun e y hy => e y (List.mem_cons_of_mem _ hy)⟩
def okAt (l : List S91) (i : Int) : Prop := nameB (rd_T91 l i).f0 = true ∧ (1 ≤ (rd_T91 l i).f1 ∧ (rd_T91 l i).f1 ≤ 3) ∧ ∀ j : Int, 0 ≤ j → j < i → ¬ (rd_T91 l j).f0.toList = (rd_T91 l i).f0.toList
def NamesOk (l : List S91) : Prop := (∀ i : Int, 0 ≤ i → i < l.length → okAt l i) ∧ (l.length : Int) ≤ 6
theorem take_mem {l : List S91} {i : Int} {y : S91} (h0 : 0 ≤ i) (h1 : i ≤ l.length) (h : y ∈ l.take i.toNat) : ∃ j : Int, 0 ≤ j ∧ j < i ∧ rd_T91 l j = y := by
  obtain ⟨j, hj, rfl⟩ := List.mem_iff_getElem.1 h
  rw [List.length_take] at hj
  refine ⟨j, by omega, by omega, ?_⟩
  show l.getD (j : Int).toNat _ = _
  rw [List.getD_eq_getElem?_getD, Int.toNat_natCast, List.getElem?_eq_getElem (by omega), Option.getD_some, List.getElem_take]
theorem mem_take {l : List S91} {i j : Int} (h0 : 0 ≤ j) (h1 : j < i) (h2 : i ≤ l.length) : rd_T91 l j ∈ l.take i.toNat := by
  have hj : j.toNat < (l.take i.toNat).length := by rw [List.length_take]; omega
  have : rd_T91 l j = (l.take i.toNat)[j.toNat] := by
    show l.getD j.toNat _ = _
    rw [List.getD_eq_getElem?_getD, List.getElem?_eq_getElem (by omega), Option.getD_some, List.getElem_take]
  rw [this]
  exact List.getElem_mem hj
theorem impl_kindIn_ (l : List S91) (n : ByteArray) (hl : l.length ≤ 9223372036854775807) : T (fun k => impl_kindIn.f k l n) (fun r => r = kindM n l) := by
  unfold impl_kindIn.f
  refine T.loop (fun (i : Int) k => impl_kindIn.l0 k n l (l.length : Int) i) (fun i => ((l.length : Int) - i).toNat) (fun i => 0 ≤ i ∧ i ≤ l.length ∧ kindM n (l.drop i.toNat) = kindM n l) _ ?_ 0 ⟨by omega, by omega, rfl⟩
  rintro i ⟨h0, h1, h2⟩ ih
  refine T.step (fun k => impl_kindIn.l0.eq_2 ..) ?_
  refine T.ite (fun hi => T.ift h0 (T.ift hi ?_)) (fun hi => T.now ?_)
  · rw [drop_at l z91 i h0 hi, kindM] at h2
    refine T.ite (fun hc => T.now ?_) (fun hc => ?_)
    · rw [← h2]; exact (if_pos hc).symm
    · rw [w64 (by omega) (by omega)]
      exact ih (i + 1) ⟨by omega, by omega, by rw [← h2]; exact (if_neg hc).symm⟩ (by omega)
  · rw [← h2, drop_all l i hi]; rfl
theorem impl_names_ {Q : Bool → Prop} (x : List (List S91)) (n j : Int) (l : List S91) (hl : l.length ≤ 9223372036854775806) (hs : ∀ y ∈ l, y.f0.size ≤ 9223372036854775807) (bad : ¬ NamesOk l → Q false) (next : NamesOk l → T (fun k => impl_SchemaValid.l0 k x n (wrap64 (j + 1))) Q) :
    T (fun k => impl_SchemaValid.l1 k l x n j l (l.length : Int) 0) Q := by
  refine T.loop (fun (i : Int) k => impl_SchemaValid.l1 k l x n j l (l.length : Int) i) (fun i => ((l.length : Int) - i).toNat) (fun i => 0 ≤ i ∧ i ≤ l.length ∧ ∀ m : Int, 0 ≤ m → m < i → okAt l m) _ ?_ 0 ⟨by omega, by omega, fun m h0 h1 => by omega⟩
  rintro i ⟨h0, h1, h2⟩ ih
  refine T.step (fun k => impl_SchemaValid.l1.eq_2 ..) ?_
  refine T.ite (fun hi => T.ift h0 (T.ift hi ?_)) (fun hi => ?_)
  · have hm : rd_T91 l i ∈ l := get_mem l z91 i h0 hi
    refine T.bind (impl_NameValid_ _ (hs _ hm)) ?_
    rintro _ rfl
    refine T.ite (fun hn => ?_) (fun hn => T.now (bad (fun h => hn (h.1 i h0 hi).1)))
    rw [impl_in_]
    refine T.bind (T.now (Q := fun x => x = _) rfl) ?_
    rintro _ rfl
    refine T.ite (fun hk => ?_) (fun hk => T.now (bad (fun h => hk (decide_eq_true (h.1 i h0 hi).2.1))))
    have hk := of_decide_eq_true hk
    refine T.ift h1 ?_
    refine T.bind (impl_kindIn_ _ _ (by have := List.length_take_le i.toNat l; have := List.length_take_le' i.toNat l; omega)) ?_
    rintro _ rfl
    have hz := kindM_zero (rd_T91 l i).f0 (l.take i.toNat) (fun y hy => by
      obtain ⟨m, m0, m1, rfl⟩ := take_mem h0 h1 hy
      exact (h2 m m0 m1).2.1.1)
    refine T.ite (fun he => ?_) (fun he => T.now (bad (fun h => he (hz.2 (fun y hy => ?_)))))
    · rw [w64 (by omega) (by omega)]
      refine ih (i + 1) ⟨by omega, by omega, fun m m0 m1 => ?_⟩ (by omega)
      by_cases hmi : m < i
      · exact h2 m m0 hmi
      · obtain rfl : m = i := by omega
        exact ⟨hn, hk, fun j j0 j1 => hz.1 he _ (mem_take j0 j1 h1)⟩
    · obtain ⟨m, m0, m1, rfl⟩ := take_mem h0 h1 hy
      exact (h.1 i h0 hi).2.2 m m0 m1
  · obtain rfl : i = l.length := by omega
    exact T.ite (fun h6 => T.now (bad (fun h => by have := h.2; omega))) (fun h6 => next ⟨h2, by omega⟩)
theorem impl_SchemaValid_ (a b : List S91) (ha : a.length ≤ 9223372036854775806) (hb : b.length ≤ 9223372036854775806) (sa : ∀ y ∈ a, y.f0.size ≤ 9223372036854775807) (sb : ∀ y ∈ b, y.f0.size ≤ 9223372036854775807) :
    T (fun k => impl_SchemaValid.f k a b) (fun r => r = true ↔ NamesOk a ∧ NamesOk b) := by
  unfold impl_SchemaValid.f
  refine T.bind (T.now (Q := fun x => x = _) rfl) ?_
  rintro _ rfl
  refine T.step (fun k => impl_SchemaValid.l0.eq_2 ..) (T.ift (by simp) (T.ift (by omega) (T.ift (by simp) ?_)))
  show T (fun k => impl_SchemaValid.l1 k a [a, b] 2 0 a (a.length : Int) 0) _
  refine impl_names_ _ _ _ a ha sa (fun h => ⟨fun e => (by cases e), fun e => absurd e.1 h⟩) (fun na => ?_)
  rw [show wrap64 ((0 : Int) + 1) = 1 from w64 (by omega) (by omega)]
  refine T.step (fun k => impl_SchemaValid.l0.eq_2 ..) (T.ift (by simp) (T.ift (by omega) (T.ift (by simp) ?_)))
  show T (fun k => impl_SchemaValid.l1 k b [a, b] 2 1 b (b.length : Int) 0) _
  refine impl_names_ _ _ _ b hb sb (fun h => ⟨fun e => (by cases e), fun e => absurd e.2 h⟩) (fun nb => ?_)
  rw [show wrap64 ((1 : Int) + 1) = 2 from w64 (by omega) (by omega)]
  exact T.step (fun k => impl_SchemaValid.l0.eq_2 ..) (T.iff_ (by simp) (T.now ⟨fun _ => ⟨na, nb⟩, fun _ => rfl⟩))
theorem spec_l7Names_ (l : List S91) (hl : l.length ≤ 9223372036854775806) (hs : ∀ y ∈ l, y.f0.size ≤ 9223372036854775807) : T (fun k => spec_l7Names.f k l) (fun r => r = true ↔ NamesOk l) := by
  unfold spec_l7Names.f
  refine T.loop (fun (i : Int) k => spec_l7Names.l0 k l i) (fun i => ((l.length : Int) - i).toNat) (fun i => 0 ≤ i ∧ i ≤ l.length ∧ ∀ m : Int, 0 ≤ m → m < i → okAt l m) _ ?_ 0 ⟨by omega, by omega, fun m h0 h1 => by omega⟩
  rintro i ⟨h0, h1, h2⟩ ih
  have bad : ¬ okAt l i → i < l.length → T (fun _ => some false) (fun r => r = true ↔ NamesOk l) := fun h hi => T.now ⟨fun e => (by cases e), fun e => absurd (e.1 i h0 hi) h⟩
  refine T.step (fun k => spec_l7Names.l0.eq_2 ..) ?_
  refine T.ite (fun hi => T.ift h0 ?_) (fun hi => T.now ?_)
  · have hm : rd_T91 l i ∈ l := get_mem l z91 i h0 hi
    have J : ∀ c : Bool, (c = true → ¬ okAt l i) → (c = false → nameB (rd_T91 l i).f0 = true ∧ 1 ≤ (rd_T91 l i).f1 ∧ (rd_T91 l i).f1 ≤ 3) → T (fun k => spec_l7Names.j1 k l i c) (fun r => r = true ↔ NamesOk l) := by
      intro c c1 c2
      refine T.step (fun k => spec_l7Names.j1.eq_2 ..) ?_
      refine T.ite (fun hc => bad (c1 hc) hi) (fun hc => ?_)
      have c2 := c2 (by simpa using hc)
      refine T.loop (fun (j : Int) k => spec_l7Names.l1 k l i j) (fun j => (i - j).toNat) (fun j => 0 ≤ j ∧ j ≤ i ∧ ∀ m : Int, 0 ≤ m → m < j → ¬ (rd_T91 l m).f0.toList = (rd_T91 l i).f0.toList) _ ?_ 0 ⟨by omega, by omega, fun m h0 h1 => by omega⟩
      rintro j ⟨j0, j1, j2⟩ ihj
      refine T.step (fun k => spec_l7Names.l1.eq_2 ..) ?_
      refine T.ite (fun hj => T.ift j0 (T.ift (by omega) (T.ift h0 (T.ift hi ?_)))) (fun hj => ?_)
      · refine T.ite (fun he => bad (fun h => h.2.2 j j0 hj he) hi) (fun he => ?_)
        rw [w64 (by omega) (by omega)]
        refine ihj (j + 1) ⟨by omega, by omega, fun m m0 m1 => ?_⟩ (by omega)
        by_cases hmj : m < j
        · exact j2 m m0 hmj
        · obtain rfl : m = j := by omega
          exact he
      · rw [w64 (by omega) (by omega)]
        refine ih (i + 1) ⟨by omega, by omega, fun m m0 m1 => ?_⟩ (by omega)
        by_cases hmi : m < i
        · exact h2 m m0 hmi
        · obtain rfl : m = i := by omega
          exact ⟨c2.1, c2.2, fun q q0 q1 => j2 q q0 (by omega)⟩
    refine T.bind (spec_NameValid_ _ (hs _ hm)) ?_
    rintro _ rfl
    refine T.ite (fun hn => ?_) (fun hn => J _ (fun _ h => hn h.1) (fun h => by cases h))
    rw [spec_l1In_]
    refine T.bind (T.now (Q := fun x => x = _) rfl) ?_
    rintro _ rfl
    exact J _ (fun hc h => by rw [decide_eq_true h.2.1] at hc; cases hc) (fun hc => ⟨hn, of_decide_eq_true (by simpa using hc)⟩)
  · obtain rfl : i = l.length := by omega
    rw [decide_eq_true_eq]
    exact ⟨fun h => ⟨h2, h⟩, fun h => h.2⟩
theorem spec_SchemaValid_ (a b : List S91) (ha : a.length ≤ 9223372036854775806) (hb : b.length ≤ 9223372036854775806) (sa : ∀ y ∈ a, y.f0.size ≤ 9223372036854775807) (sb : ∀ y ∈ b, y.f0.size ≤ 9223372036854775807) :
    T (fun k => spec_SchemaValid.f k a b) (fun r => r = true ↔ NamesOk a ∧ NamesOk b) := by
  unfold spec_SchemaValid.f
  refine T.bind (spec_l7Names_ a ha sa) ?_
  intro r hr
  refine T.ite (fun h => ?_) (fun h => T.now ⟨fun e => (by cases e), fun e => absurd (hr.2 e.1) h⟩)
  refine T.bind (spec_l7Names_ b hb sb) ?_
  intro s hs
  exact T.now ⟨fun e => ⟨hr.1 h, hs.1 e⟩, fun e => hs.2 e.2⟩
theorem spec_l7Kind_ (l : List S91) (n : ByteArray) (hl : l.length ≤ 9223372036854775806) : T (fun k => spec_l7Kind.f k l n) (fun r => r = kindM n l) := by
  unfold spec_l7Kind.f
  refine T.loop (fun (i : Int) k => spec_l7Kind.l0 k l n i) (fun i => ((l.length : Int) - i).toNat) (fun i => 0 ≤ i ∧ i ≤ l.length ∧ kindM n (l.drop i.toNat) = kindM n l) _ ?_ 0 ⟨by omega, by omega, rfl⟩
  rintro i ⟨h0, h1, h2⟩ ih
  refine T.step (fun k => spec_l7Kind.l0.eq_2 ..) ?_
  refine T.ite (fun hi => T.ift h0 ?_) (fun hi => T.now ?_)
  · rw [drop_at l z91 i h0 hi, kindM] at h2
    refine T.ite (fun hc => T.now ?_) (fun hc => ?_)
    · rw [← h2]; exact (if_pos hc).symm
    · rw [w64 (by omega) (by omega)]
      exact ih (i + 1) ⟨by omega, by omega, by rw [← h2]; exact (if_neg hc).symm⟩ (by omega)
  · rw [drop_all l i hi] at h2
    exact h2
/-! #### the kind of an expression -/
def finM (st sr : List S91) (kd : Int) (nm : ByteArray) (ks : List Int) : Int :=
  if kd = 2 ∨ kd = 6 then 2 else if kd = 3 ∨ kd = 4 ∨ kd = 5 then 3 else if kd = 7 then kindM nm sr
  else if kd = 8 then (if allK 3 ks = true then kindM nm st else 0)
  else if kd = 9 ∨ kd = 12 then (if allK 3 ks = true then 1 else 0)
  else if kd = 10 then (if rd ks 0 = rd ks 1 then 1 else 0)
  else if kd = 11 then (if allK 2 ks = true then 1 else 0)
  else if kd = 13 ∨ kd = 14 ∨ kd = 15 then (if allK 1 ks = true then 1 else 0) else 1
mutual
def kndE (st sr : List S91) : S29 → Int
  | ⟨k, _, s, l⟩ => kndF st sr k s [] l
def kndF (st sr : List S91) : Int → ByteArray → List Int → List S29 → Int
  | k, s, ks, [] => finM st sr k s ks
  | k, s, ks, x :: l => if kndE st sr x = 0 then 0 else kndF st sr k s (ks ++ [kndE st sr x]) l
end
theorem kndE_eq (st sr : List S91) (x : S29) : kndE st sr x = kndF st sr x.f0 x.f2 [] x.f3 := by cases x; rw [kndE]
theorem impl_fin_ (st sr : List S91) (ht : st.length ≤ 9223372036854775806) (hr : sr.length ≤ 9223372036854775806) (kd : Int) (nm : ByteArray) (ks : List Int) (h10 : kd = 10 → 1 < (ks.length : Int)) :
    T (fun k => impl_Schema_kind.fin k st sr kd nm ks) (fun r => r = finM st sr kd nm ks) := by
  unfold impl_Schema_kind.fin finM
  refine T.ite (fun h => T.now (if_pos h).symm) (fun h => ?_)
  rw [if_neg h]
  refine T.ite (fun h => T.now (if_pos h).symm) (fun h => ?_)
  rw [if_neg h]
  refine T.ite (fun h => ?_) (fun h => ?_)
  · rw [if_pos h]; exact impl_kindIn_ sr nm (by omega)
  rw [if_neg h]
  refine T.ite (fun h => ?_) (fun h => ?_)
  · rw [if_pos h]
    refine T.ite (fun h => ?_) (fun h => T.now (if_neg h).symm)
    rw [if_pos h]; exact impl_kindIn_ st nm (by omega)
  rw [if_neg h]
  refine T.ite (fun h => T.now (if_pos h).symm) (fun h => ?_)
  rw [if_neg h]
  refine T.ite (fun h => ?_) (fun h => ?_)
  · rw [if_pos h]; exact T.ift (h10 h) (T.now rfl)
  rw [if_neg h]
  refine T.ite (fun h => T.now (if_pos h).symm) (fun h => ?_)
  rw [if_neg h]
  exact T.ite (fun h => T.now (if_pos h).symm) (fun h => T.now (if_neg h).symm)
theorem impl_kind_ (st sr : List S91) (ht : st.length ≤ 9223372036854775806) (hr : sr.length ≤ 9223372036854775806) : ∀ x : S29, cntE x ≤ 1048577 → goodE x = true → T (fun k => impl_Schema_kind.g k st sr x.f0 x.f2 x.f3) (fun r => r = kndE st sr x) := by
  refine Expr_ind (fun x ih hc hg => ?_)
  have hlen := cntEs_pos x.f3
  have hcx := cntE_eq x
  rw [goodE_eq, Bool.and_eq_true] at hg
  have hp : (x.f3.length : Int) = partsN x.f0 := by
    have := hg.1
    unfold nodeB at this
    simp only [Bool.and_eq_true, decide_eq_true_eq] at this
    exact this.1.2
  refine T.step (fun k => impl_Schema_kind.g.eq_2 ..) ?_
  refine T.loop (fun (s : Int × List Int) k => impl_Schema_kind.l0 k st sr x.f0 x.f2 x.f3 s.1 s.2) (fun s => ((x.f3.length : Int) - s.1).toNat) (fun s => 0 ≤ s.1 ∧ s.1 ≤ x.f3.length ∧ (s.2.length : Int) = s.1 ∧ kndF st sr x.f0 x.f2 s.2 (x.f3.drop s.1.toNat) = kndE st sr x) _ ?_ (0, []) ⟨by show (0 : Int) ≤ 0; omega, by show (0 : Int) ≤ _; omega, rfl, (kndE_eq st sr x).symm⟩
  rintro ⟨i, ks⟩ ⟨i0, i1, hk, he⟩ ihl
  dsimp only at i0 i1 hk he ihl ⊢
  refine T.step (fun k => impl_Schema_kind.l0.eq_2 ..) ?_
  refine T.ite (fun hi => T.ift i0 ?_) (fun hi => ?_)
  · have hm := get_mem x.f3 z29 i i0 hi
    refine T.bind (ih _ hm (by have h1 : cntE (rd_T29 x.f3 i) + 1 ≤ cntE x := cntE_part hm; have h2 : cntE (x.f3.getD i.toNat z29) + 1 ≤ cntE x := h1; omega) (goodEs_mem hg.2 hm)) ?_
    rintro _ rfl
    rw [drop_at x.f3 z29 i i0 hi, kndF] at he
    have hre : x.f3.getD i.toNat z29 = rd_T29 x.f3 i := rfl
    rw [hre] at he
    refine T.ite (fun h0 => T.now (by rw [if_pos h0] at he; exact he)) (fun h0 => T.ift (by omega) ?_)
    rw [if_neg h0] at he
    rw [w64 (by omega) (by omega)]
    exact ihl (i + 1, ks ++ [_]) ⟨by show 0 ≤ i + 1; omega, by show i + 1 ≤ _; omega, by show ((ks ++ [_]).length : Int) = i + 1; rw [List.length_append]; simp only [List.length_cons, List.length_nil]; omega, he⟩ (by show ((x.f3.length : Int) - (i + 1)).toNat < _; omega)
  · rw [drop_all x.f3 i hi, kndF] at he
    rw [← he]
    exact impl_fin_ st sr ht hr x.f0 x.f2 ks (fun h => by rw [h] at hp; unfold partsN at hp; simp at hp; omega)
theorem spec_fin_ (st sr : List S91) (ht : st.length ≤ 9223372036854775806) (hr : sr.length ≤ 9223372036854775806) (kd nb : Int) (nm : ByteArray) (l : List S29) (ks : List Int) (hp : (ks.length : Int) = partsN kd) (h1 : 1 ≤ kd ∧ kd ≤ 15) :
    T (fun k => if kd = 2 then spec_l8Kind.j1 k ks true 1 kd (kd == 2) st sr kd nb nm l else spec_l8Kind.j1 k ks true 1 kd (kd == 6) st sr kd nb nm l) (fun r => r = finM st sr kd nm ks) := by
  have K : ∀ x : List S91, x.length ≤ 9223372036854775806 → T (fun k => spec_l7Kind.f k x nm) (fun r => r = kindM nm x) := fun x hx => spec_l7Kind_ x nm hx
  have hk : kd = 1 ∨ kd = 2 ∨ kd = 3 ∨ kd = 4 ∨ kd = 5 ∨ kd = 6 ∨ kd = 7 ∨ kd = 8 ∨ kd = 9 ∨ kd = 10 ∨ kd = 11 ∨ kd = 12 ∨ kd = 13 ∨ kd = 14 ∨ kd = 15 := by omega
  rcases hk with rfl | rfl | rfl | rfl | rfl | rfl | rfl | rfl | rfl | rfl | rfl | rfl | rfl | rfl | rfl
  all_goals unfold partsN at hp
  all_goals rcases ks with _ | ⟨a, _ | ⟨b, _ | ⟨c, ks⟩⟩⟩
  all_goals try (exfalso; first | (simp at hp; done) | (simp at hp; omega))
  all_goals clear hp h1
  all_goals repeat' (first
    | refine T.ift (by decide) ?_
    | refine T.iff_ (by decide) ?_
    | refine T.ift (by simp; done) ?_
    | refine T.iff_ (by simp; done) ?_
    | refine T.step (fun k => spec_l8Kind.j1.eq_2 ..) ?_
    | refine T.step (fun k => spec_l8Kind.j2.eq_2 ..) ?_
    | refine T.step (fun k => spec_l8Kind.j3.eq_2 ..) ?_
    | exact T.now (by simp_all [finM, allK, rd])
    | (refine T.bind (K _ (by assumption)) ?_; rintro _ rfl)
    | refine T.ite (fun h => ?_) (fun h => ?_))
theorem rd_last (ks : List Int) (t i : Int) (h : (ks.length : Int) = i) : rd (ks ++ [t]) i = t := by
  show (ks ++ [t]).getD i.toNat 0 = t
  rw [List.getD_eq_getElem?_getD, show i.toNat = ks.length by omega, List.getElem?_append_right (Nat.le_refl _), Nat.sub_self]
  rfl
theorem spec_l8Kind_ (st sr : List S91) (ht : st.length ≤ 9223372036854775806) (hr : sr.length ≤ 9223372036854775806) : ∀ x : S29, cntE x ≤ 1048577 → goodE x = true → T (fun k => spec_l8Kind.f k st sr x.f0 x.f1 x.f2 x.f3) (fun r => r = kndE st sr x) := by
  refine Expr_ind (fun x ih hc hg => ?_)
  have hlen := cntEs_pos x.f3
  have hcx := cntE_eq x
  rw [goodE_eq, Bool.and_eq_true] at hg
  have hp : (x.f3.length : Int) = partsN x.f0 ∧ (1 ≤ x.f0 ∧ x.f0 ≤ 15) := by
    have := hg.1
    unfold nodeB at this
    simp only [Bool.and_eq_true, decide_eq_true_eq] at this
    exact ⟨this.1.2, this.1.1.1⟩
  refine T.step (fun k => spec_l8Kind.f.eq_2 ..) ?_
  refine T.loop (fun (s : Int × List Int) k => spec_l8Kind.l0 k s.2 s.1 st sr x.f0 x.f1 x.f2 x.f3) (fun s => ((x.f3.length : Int) - s.1).toNat) (fun s => 0 ≤ s.1 ∧ s.1 ≤ x.f3.length ∧ (s.2.length : Int) = s.1 ∧ kndF st sr x.f0 x.f2 s.2 (x.f3.drop s.1.toNat) = kndE st sr x) _ ?_ (0, []) ⟨by show (0 : Int) ≤ 0; omega, by show (0 : Int) ≤ _; omega, rfl, (kndE_eq st sr x).symm⟩
  rintro ⟨i, ks⟩ ⟨i0, i1, hk, he⟩ ihl
  dsimp only at i0 i1 hk he ihl ⊢
  refine T.step (fun k => spec_l8Kind.l0.eq_2 ..) ?_
  refine T.ite (fun hi => T.ift i0 ?_) (fun hi => ?_)
  · have hm := get_mem x.f3 z29 i i0 hi
    refine T.bind (ih _ hm (by have h1 : cntE (rd_T29 x.f3 i) + 1 ≤ cntE x := cntE_part hm; have h2 : cntE (x.f3.getD i.toNat z29) + 1 ≤ cntE x := h1; omega) (goodEs_mem hg.2 hm)) ?_
    rintro _ rfl
    rw [drop_at x.f3 z29 i i0 hi, kndF] at he
    have hre : x.f3.getD i.toNat z29 = rd_T29 x.f3 i := rfl
    rw [hre] at he
    refine T.ift (by omega) (T.got (T.ift (by rw [List.length_append]; simp only [List.length_cons, List.length_nil]; omega) ?_))
    rw [rd_last ks _ i hk]
    refine T.ite (fun h0 => T.now (by rw [if_pos h0] at he; exact he)) (fun h0 => ?_)
    rw [if_neg h0] at he
    rw [w64 (by omega) (by omega)]
    exact ihl (i + 1, ks ++ [_]) ⟨by show 0 ≤ i + 1; omega, by show i + 1 ≤ _; omega, by show ((ks ++ [_]).length : Int) = i + 1; rw [List.length_append]; simp only [List.length_cons, List.length_nil]; omega, he⟩ (by show ((x.f3.length : Int) - (i + 1)).toNat < _; omega)
  · rw [drop_all x.f3 i hi, kndF] at he
    rw [← he]
    exact spec_fin_ st sr ht hr x.f0 x.f1 x.f2 x.f3 ks (by omega) hp.2
def kofM (st sr : List S91) (x : S29) : Prop := NamesOk st ∧ NamesOk sr ∧ validE x = true
theorem FnExactKindOf : laws_FnExactKindOf.Pure := by
  intro a b a0 a1 a2 a3 hS hE
  obtain ⟨ha, hb⟩ : (a.length ≤ maxLen ∧ ∀ y ∈ a, Fine87 y) ∧ (b.length ≤ maxLen ∧ ∀ y ∈ b, Fine87 y) := hS
  refine T.rounds ?_
  unfold laws_FnExactKindOf.f
  refine T.bind (szSchema_ a b 1048576 (by omega) (by omega) ha hb) ?_
  intro p hp
  refine T.ite (fun _ => T.now rfl) (fun hn => ?_)
  obtain ⟨⟨p0, p1⟩, la, lb, sa, sb⟩ := hp.resolve_left hn
  refine T.bind (szExpr_ ⟨a0, a1, a2, a3⟩ hE p p0 (by omega)) ?_
  intro r hr
  refine T.ite (fun _ => T.now rfl) (fun hn => ?_)
  obtain ⟨r0, r1⟩ := hr.resolve_left hn
  have ca : cntE (toExpr ⟨a0, a1, a2, a3⟩) ≤ 1048577 := by omega
  have tx := toExpr_ ⟨a0, a1, a2, a3⟩ ca
  have oa := toExpr_ok _ hE
  have ea : toExpr ⟨a0, a1, a2, a3⟩ = ⟨a0, a1, a2, (toExpr ⟨a0, a1, a2, a3⟩).f3⟩ := by rw [toExpr_eq]
  rw [ea] at ca oa
  generalize (toExpr ⟨a0, a1, a2, a3⟩).f3 = xs at tx ca oa
  obtain ⟨na, ma⟩ := fitK la sa
  obtain ⟨nb, mb⟩ := fitK lb sb
  have na' : (a.map toKinded).length ≤ 9223372036854775806 := by omega
  have nb' : (b.map toKinded).length ≤ 9223372036854775806 := by omega
  have ts := toSchema_ a b la lb
  have key : ∀ (g : Nat → Option Bool) (h : Nat → Option Bool) (f : Nat → Option Int), (T g (fun r => r = true ↔ NamesOk (a.map toKinded) ∧ NamesOk (b.map toKinded))) → T h (fun r => r = validE ⟨a0, a1, a2, xs⟩) → (goodE ⟨a0, a1, a2, xs⟩ = true → T f (fun r => r = kndE (a.map toKinded) (b.map toKinded) ⟨a0, a1, a2, xs⟩)) →
      T (fun k => (g k).bind fun t => if t = true then ((h k).bind fun t => if t = true then ((f k).bind fun t => some t) else some 0) else some 0) (fun r => (NamesOk (a.map toKinded) ∧ NamesOk (b.map toKinded)) ∧ validE ⟨a0, a1, a2, xs⟩ = true ∧ r = kndE (a.map toKinded) (b.map toKinded) ⟨a0, a1, a2, xs⟩ ∨ ¬ ((NamesOk (a.map toKinded) ∧ NamesOk (b.map toKinded)) ∧ validE ⟨a0, a1, a2, xs⟩ = true) ∧ r = 0) := by
    intro g h f hg hh hf
    refine T.bind hg ?_
    intro t ht
    refine T.ite (fun h1 => ?_) (fun h1 => T.now (.inr ⟨fun e => h1 (ht.2 e.1), rfl⟩))
    refine T.bind hh ?_
    rintro _ rfl
    refine T.ite (fun h2 => ?_) (fun h2 => T.now (.inr ⟨fun e => h2 e.2, rfl⟩))
    refine T.bind (hf (by unfold validE at h2; exact (Bool.and_eq_true _ _ ▸ h2).1)) ?_
    rintro _ rfl
    exact T.now (.inl ⟨ht.1 h1, h2, rfl⟩)
  refine T.bind ts ?_
  rintro _ rfl
  refine T.bind tx ?_
  rintro _ rfl
  refine T.bind (key _ _ _ (spec_SchemaValid_ _ _ na' nb' ma mb) (spec_ExprValid_ ⟨a0, a1, a2, xs⟩ oa ca) (fun hg => spec_l8Kind_ _ _ na' nb' ⟨a0, a1, a2, xs⟩ ca hg)) ?_
  intro s hs
  refine T.bind ts ?_
  rintro _ rfl
  refine T.bind tx ?_
  rintro _ rfl
  refine T.bind (key _ _ _ (impl_SchemaValid_ _ _ na' nb' ma mb) (impl_ExprValid_ ⟨a0, a1, a2, xs⟩ oa ca) (fun hg => impl_kind_ _ _ na' nb' ⟨a0, a1, a2, xs⟩ ca hg)) ?_
  intro t ht
  refine T.ift (by
    rcases hs with ⟨h1, h2, h3⟩ | ⟨h1, h2⟩ <;> rcases ht with ⟨g1, g2, g3⟩ | ⟨g1, g2⟩
    · rw [g3, h3]
    · exact absurd ⟨h1, h2⟩ g1
    · exact absurd ⟨g1, g2⟩ h1
    · rw [g2, h2]) ?_
  refine T.bind ts ?_
  rintro _ rfl
  refine T.bind (eqSchema_ _ _ (by omega) (by omega)) ?_
  rintro _ rfl
  refine T.ift rfl ?_
  refine T.bind tx ?_
  rintro _ rfl
  refine T.bind (eqExpr_ ⟨a0, a1, a2, xs⟩ ca) ?_
  rintro _ rfl
  exact T.ift rfl (T.now rfl)

end Go.Proofs.Ytbbbgochcfccgaa.Pure
