/- The program's SchemaValid answers as the reference's, for all schemas, and leaves them alone.
   Conditions: none beyond the statement's own. -/
import Derived.Test.YtejfaenmgdkaoaaPx25
set_option linter.unusedVariables false
set_option linter.unusedSimpArgs false
namespace Go.Proofs.Ytejfaenmgdkaoaa.Pure
open Go.RowKit Go.Proofs.Ytejfaenmgdkaoaa.P Go.Proofs.YtejfaenmgdkaoaaW.PrintWords Go.Proofs.YtejfaenmgdkaoaaW.PrintLast

/-! #### rounds: 'T g Q': from some number of rounds on g answers, and the answer is as Q says -/
def T {α : Type} (g : Nat → Option α) (Q : α → Prop) : Prop := ∃ r, Ev g r ∧ Q r
theorem T.ev {α : Type} {g : Nat → Option α} {r : α} (h : Ev g r) : T g (fun x => x = r) := ⟨r, h, rfl⟩
theorem T.of_eq {α : Type} {g : Nat → Option α} {r : α} (h : T g (fun x => x = r)) : Ev g r := by
  obtain ⟨_, h, rfl⟩ := h
  exact h
theorem T.now {α : Type} {r : α} {Q : α → Prop} (h : Q r) : T (fun _ => some r) Q := ⟨r, Ev.now r, h⟩
theorem T.mono {α : Type} {g : Nat → Option α} {P Q : α → Prop} (h : T g P) (k : ∀ a, P a → Q a) : T g Q := by
  obtain ⟨r, h, p⟩ := h
  exact ⟨r, h, k r p⟩
theorem T.bind {α β : Type} {g : Nat → Option α} {f : Nat → α → Option β} {P : α → Prop} {Q : β → Prop} (h : T g P) (k : ∀ a, P a → T (fun n => f n a) Q) : T (fun n => (g n).bind (f n)) Q := by
  obtain ⟨a, h, p⟩ := h
  obtain ⟨r, k, q⟩ := k a p
  exact ⟨r, Ev.bind h k, q⟩
theorem T.ite {α : Type} {c : Prop} [Decidable c] {g f : Nat → Option α} {Q : α → Prop} (h : c → T g Q) (k : ¬ c → T f Q) : T (fun n => if c then g n else f n) Q := by
  by_cases hc : c
  · simpa only [if_pos hc] using h hc
  · simpa only [if_neg hc] using k hc
theorem T.ift {α : Type} {c : Prop} [Decidable c] {g f : Nat → Option α} {Q : α → Prop} (hc : c) (h : T g Q) : T (fun n => if c then g n else f n) Q := T.ite (fun _ => h) (fun n => absurd hc n)
theorem T.iff_ {α : Type} {c : Prop} [Decidable c] {g f : Nat → Option α} {Q : α → Prop} (hc : ¬ c) (h : T f Q) : T (fun n => if c then g n else f n) Q := T.ite (fun n => absurd n hc) (fun _ => h)
theorem T.step {α : Type} {g f : Nat → Option α} {Q : α → Prop} (h : ∀ k, g (k + 1) = f k) (k : T f Q) : T g Q := by
  obtain ⟨r, k, q⟩ := k
  exact ⟨r, Ev.step h k, q⟩
theorem T.rounds {g : Nat → Option Bool} (h : T g (fun x => x = true)) : ∃ k, g k = some true := (T.of_eq h).rounds
theorem T.congr {α : Type} {g f : Nat → Option α} {Q : α → Prop} (h : ∀ k, g k = f k) (k : T f Q) : T g Q := by
  obtain ⟨r, k, q⟩ := k
  exact ⟨r, Ev.congr h k, q⟩
theorem T.run {α : Type} {g : Nat → Option α} {Q : α → Prop} (h : T g Q) : ∃ r K, (∀ k, K ≤ k → g k = some r) ∧ Q r := by
  obtain ⟨r, ⟨K, h⟩, q⟩ := h
  exact ⟨r, K, h, q⟩
/-- A loop over what is left. -/
theorem T.loop {σ α : Type} (g : σ → Nat → Option α) (m : σ → Nat) (I : σ → Prop) (Q : α → Prop) (h : ∀ s, I s → (∀ s', I s' → m s' < m s → T (g s') Q) → T (g s) Q) : ∀ s, I s → T (g s) Q := by
  intro s
  induction hm : m s using Nat.strongRecOn generalizing s with
  | _ n ih =>
    intro hI
    exact h s hI (fun s' hI' hlt => ih (m s') (hm ▸ hlt) s' rfl hI')
theorem w64 {x : Int} (h : -9223372036854775808 ≤ x) (h' : x ≤ 9223372036854775807) : wrap64 x = x := by unfold wrap64; omega
theorem T.got {α β : Type} {r : α} {f : Nat → α → Option β} {Q : β → Prop} (h : T (fun n => f n r) Q) : T (fun n => (some r).bind (f n)) Q := h
/-! #### texts and lists -/
theorem tl_inj {a b : ByteArray} : a.toList = b.toList ↔ a = b := by
  rw [ByteArray.toList_eq, ByteArray.toList_eq]
  constructor
  · intro h
    cases a; cases b
    exact congrArg ByteArray.mk (Array.toList_inj.1 h)
  · rintro rfl
    rfl
theorem drop_at {α : Type} (l : List α) (z : α) (i : Int) (h0 : 0 ≤ i) (h1 : i < l.length) : l.drop i.toNat = l.getD i.toNat z :: l.drop (i + 1).toNat := by
  have h : i.toNat < l.length := by omega
  rw [List.drop_eq_getElem_cons h, List.getD_eq_getElem?_getD, List.getElem?_eq_getElem h]
  simp only [Option.getD_some]
  rw [show (i + 1).toNat = i.toNat + 1 by omega]
theorem drop_all {α : Type} (l : List α) (i : Int) (h : ¬ i < l.length) : l.drop i.toNat = [] := List.drop_of_length_le (by omega)
theorem get_mem {α : Type} (l : List α) (z : α) (i : Int) (h0 : 0 ≤ i) (h1 : i < l.length) : l.getD i.toNat z ∈ l := by
  have h : i.toNat < l.length := by omega
  rw [List.getD_eq_getElem?_getD, List.getElem?_eq_getElem h]
  exact List.getElem_mem h
/-- A loop that counts up to n. -/
theorem T.count {α : Type} (n : Nat) (g : Int → Nat → Option α) (Q : α → Prop) (fin : T (g n) Q) (step : ∀ i : Int, 0 ≤ i → i < n → T (g (i + 1)) Q → T (g i) Q) : ∀ i : Int, 0 ≤ i → i ≤ n → T (g i) Q := by
  refine fun i h0 h1 => T.loop g (fun i => (n - i).toNat) (fun i => 0 ≤ i ∧ i ≤ n) Q ?_ i ⟨h0, h1⟩
  rintro i ⟨h0, h1⟩ ih
  by_cases hi : i = n
  · rw [hi]; exact fin
  · exact step i h0 (by omega) (ih (i + 1) ⟨by omega, by omega⟩ (by omega))
/-- A loop that turns each element of a list into one of a list of the same length. -/
theorem T.turn {α β γ : Type} (za : α) (l : List α) (c : α → β) (g : List β → Int → Nat → Option γ) (Q : γ → Prop) (fin : T (g (l.map c) l.length) Q)
    (step : ∀ (out : List β) (i : Int), 0 ≤ i → i < l.length → out.length = l.length → T (g (out.set i.toNat (c (l.getD i.toNat za))) (i + 1)) Q → T (g out i) Q) (out : List β) (hl : out.length = l.length) : T (g out 0) Q := by
  refine T.loop (fun (s : List β × Int) => g s.1 s.2) (fun s => (l.length - s.2).toNat) (fun s => 0 ≤ s.2 ∧ s.2 ≤ l.length ∧ s.1.length = l.length ∧ ∀ j : Nat, (j : Int) < s.2 → s.1[j]? = (l[j]?).map c) Q ?_ (out, 0) ⟨by simp, by simp, hl, fun j hj => absurd hj (by simp)⟩
  rintro ⟨o, i⟩ ⟨h0, h1, h2, h3⟩ ih
  dsimp only at h0 h1 h2 h3 ih ⊢
  by_cases hi : i = l.length
  · have : o = l.map c := List.ext_getElem? (fun j => by
      by_cases hj : (j : Int) < i
      · rw [h3 j hj, List.getElem?_map]
      · rw [List.getElem?_eq_none (by omega), List.getElem?_eq_none (by rw [List.length_map]; omega)])
    rw [this, hi]; exact fin
  · refine step o i h0 (by omega) h2 (ih (_, i + 1) ⟨by show 0 ≤ i + 1; omega, by show i + 1 ≤ _; omega, by rw [List.length_set]; exact h2, fun j hj => ?_⟩ (by show ((l.length : Int) - (i + 1)).toNat < (l.length - i).toNat; omega))
    dsimp only at hj ⊢
    rw [List.getElem?_set]
    by_cases hji : i.toNat = j
    · rw [if_pos hji, if_pos (by omega)]
      subst hji
      rw [List.getD_eq_getElem?_getD, List.getElem?_eq_getElem (by omega : i.toNat < l.length)]
      rfl
    · rw [if_neg hji]
      exact h3 j (by omega)
/-! #### kinded names, mirrored -/
def toKinded (x : S107) : S83 := ⟨x.f0, x.f1⟩
theorem szKinded_ (x : S107) (n : Int) (h0 : 0 ≤ n) (h1 : n ≤ 1048576) (hx : Fine107 x) : ∃ r, laws_szKinded.f x.f0 x.f1 n = some r ∧ (r < 0 ∨ 0 ≤ r ∧ r ≤ n ∧ x.f0.size ≤ n) := by
  unfold laws_szKinded.f
  have hs := hx.1
  unfold maxLen at hs
  rw [w64 (by omega) (by omega)]
  by_cases h : n - (x.f0.size : Int) < 0
  · exact ⟨-1, by rw [if_pos h], .inl (by decide)⟩
  · exact ⟨_, by rw [if_neg h], .inr ⟨by omega, by omega, by omega⟩⟩
theorem szKindedS_ (l : List S107) (n : Int) (h0 : 0 ≤ n) (h1 : n ≤ 1048576) (hl : l.length ≤ maxLen ∧ ∀ y ∈ l, Fine107 y) : T (fun k => laws_szKindedS.f k l n) (fun r => r < 0 ∨ 0 ≤ r ∧ r ≤ n ∧ l.length ≤ n ∧ ∀ y ∈ l, (y.f0.size : Int) ≤ n) := by
  unfold laws_szKindedS.f
  obtain ⟨hl, hf⟩ := hl
  unfold maxLen at hl
  rw [w64 (by omega) (by omega)]
  refine T.ite (fun _ => T.now (.inl (by decide))) (fun h => ?_)
  refine T.loop (fun (s : Int × Int) k => laws_szKindedS.l0 k l s.1 s.2) (fun s => ((l.length : Int) - s.2).toNat) (fun s => 0 ≤ s.2 ∧ s.2 ≤ l.length ∧ 0 ≤ s.1 ∧ s.1 ≤ n - l.length ∧ ∀ j : Nat, (j : Int) < s.2 → ∀ y, l[j]? = some y → (y.f0.size : Int) ≤ n) _ ?_ (n - l.length, 0) ⟨by simp, by simp, by show 0 ≤ n - (l.length : Int); omega, by show n - (l.length : Int) ≤ _; omega, fun j hj => absurd hj (by simp)⟩
  rintro ⟨m, i⟩ ⟨a0, a1, a2, a3, a4⟩ ih
  dsimp only at a0 a1 a2 a3 a4 ih ⊢
  refine T.step (fun k => laws_szKindedS.l0.eq_2 ..) ?_
  refine T.ite (fun hi => T.ift a0 ?_) (fun hi => T.now (.inr ⟨a2, by omega, by omega, fun y hy => ?_⟩))
  · obtain ⟨r, e, hr⟩ := szKinded_ (l.getD i.toNat z107) m a2 (by omega) (hf _ (get_mem l _ i a0 hi))
    rw [show laws_szKinded.f (rd_T107 l i).f0 (rd_T107 l i).f1 m = some r from e]
    refine T.bind (T.now (Q := fun x => x = _) rfl) ?_
    rintro r rfl
    refine T.ite (fun _ => T.now (.inl (by decide))) (fun hn => ?_)
    rw [w64 (by omega) (by omega)]
    rcases hr with hr | ⟨r0, r1, r2⟩
    · exact absurd hr hn
    · refine ih (r, i + 1) ⟨by show 0 ≤ i + 1; omega, by show i + 1 ≤ _; omega, r0, by show r ≤ _; omega, fun j hj y hy => ?_⟩ (by show ((l.length : Int) - (i + 1)).toNat < _; omega)
      dsimp only at hj
      by_cases hji : (j : Int) < i
      · exact a4 j hji y hy
      · have : j = i.toNat := by omega
        subst this
        rw [List.getD_eq_getElem?_getD, hy, Option.getD_some] at r2
        omega
  · obtain ⟨j, hj, rfl⟩ := List.mem_iff_getElem.1 hy
    exact a4 j (by omega) _ (List.getElem?_eq_getElem hj)
theorem toKindedS_ (l : List S107) (hl : l.length ≤ 1048576) : T (fun k => laws_toKindedS.f k l) (fun r => r = l.map toKinded) := by
  unfold laws_toKindedS.f
  refine T.ift (by omega) (T.ift (by omega) ?_)
  refine T.turn z107 l toKinded (fun o i k => laws_toKindedS.l0 k l o i) _ ?_ ?_ _ (by simp)
  · refine T.step (fun k => laws_toKindedS.l0.eq_2 ..) (T.iff_ (by omega) (T.now rfl))
  · intro o i h0 h1 h2 h
    refine T.step (fun k => laws_toKindedS.l0.eq_2 ..) (T.ift h1 (T.ift h0 ?_))
    refine T.bind (T.now (Q := fun x => x = _) rfl) ?_
    rintro _ rfl
    rw [w64 (by omega) (by omega)]
    exact T.ift (by omega) h
theorem eqKindedS_ (l : List S83) (hl : l.length ≤ 1048576) : T (fun k => laws_eqKindedS.f k l l) (fun r => r = true) := by
  unfold laws_eqKindedS.f
  refine T.ift rfl ?_
  refine T.count l.length (fun i k => laws_eqKindedS.l0 k l l i) (fun r => r = true) (T.step (fun k => laws_eqKindedS.l0.eq_2 ..) (T.iff_ (by omega) (T.now rfl))) (fun i h0 h1 h => ?_) 0 (by omega) (by omega)
  refine T.step (fun k => laws_eqKindedS.l0.eq_2 ..) (T.ift h1 (T.ift h0 (T.ift h1 ?_)))
  have e : ∀ x : S83, laws_eqKinded.f x.f0 x.f1 x.f0 x.f1 = some true := fun x => by
    unfold laws_eqKinded.f
    rw [if_pos rfl, if_pos rfl]
  rw [e]
  refine T.bind (T.now (Q := fun x => x = _) rfl) ?_
  rintro _ rfl
  rw [w64 (by omega) (by omega)]
  exact T.ift rfl h
/-! #### names -/
def lowB (s : ByteArray) : Bool := decide (∀ i : Nat, i < s.size → 97 ≤ bt s i ∧ bt s i ≤ 122)
def nameB (s : ByteArray) : Bool := lowB s && decide (1 ≤ s.size ∧ s.size ≤ 8)
theorem nameB_iff (s : ByteArray) : nameB s = true ↔ (∀ i : Nat, i < s.size → 97 ≤ bt s i ∧ bt s i ≤ 122) ∧ 1 ≤ s.size ∧ s.size ≤ 8 := by simp [nameB, lowB]
theorem nameB_low {s : ByteArray} (h : ¬ ∀ i : Nat, i < s.size → 97 ≤ bt s i ∧ bt s i ≤ 122) : nameB s = false := by
  have : ¬ (nameB s = true) := fun hn => h ((nameB_iff s).1 hn).1
  simpa using this
/-! #### lists of kinded names -/
def kindM (n : ByteArray) : List S83 → Int
  | [] => 0
  | x :: l => if x.f0.toList = n.toList then x.f1 else kindM n l
theorem kindM_zero (n : ByteArray) : ∀ l : List S83, (∀ y ∈ l, 1 ≤ y.f1) → (kindM n l = 0 ↔ ∀ y ∈ l, ¬ y.f0.toList = n.toList)
  | [], _ => by simp [kindM]
  | x :: l, h => by
    have h1 := h x (List.mem_cons_self ..)
    have ih := kindM_zero n l (fun y hy => h y (List.mem_cons_of_mem _ hy))
    rw [kindM]
    by_cases hx : x.f0.toList = n.toList
    · rw [if_pos hx]
      exact ⟨fun e => by omega, fun e => absurd hx (e x (List.mem_cons_self ..))⟩
    · rw [if_neg hx, ih]
      exact ⟨fun e y hy => by
        rcases List.mem_cons.1 hy with rfl | hy
        · exact hx
        · exact e y hy, fun e y hy => e y (List.mem_cons_of_mem _ hy)⟩
def okAt (l : List S83) (i : Int) : Prop := nameB (rd_T83 l i).f0 = true ∧ (1 ≤ (rd_T83 l i).f1 ∧ (rd_T83 l i).f1 ≤ 3) ∧ ∀ j : Int, 0 ≤ j → j < i → ¬ (rd_T83 l j).f0.toList = (rd_T83 l i).f0.toList
def NamesOk (l : List S83) : Prop := (∀ i : Int, 0 ≤ i → i < l.length → okAt l i) ∧ (l.length : Int) ≤ 6
theorem take_mem {l : List S83} {i : Int} {y : S83} (h0 : 0 ≤ i) (h1 : i ≤ l.length) (h : y ∈ l.take i.toNat) : ∃ j : Int, 0 ≤ j ∧ j < i ∧ rd_T83 l j = y := by
  obtain ⟨j, hj, rfl⟩ := List.mem_iff_getElem.1 h
  rw [List.length_take] at hj
  refine ⟨j, by omega, by omega, ?_⟩
  show l.getD (j : Int).toNat _ = _
  rw [List.getD_eq_getElem?_getD, Int.toNat_natCast, List.getElem?_eq_getElem (by omega), Option.getD_some, List.getElem_take]
theorem mem_take {l : List S83} {i j : Int} (h0 : 0 ≤ j) (h1 : j < i) (h2 : i ≤ l.length) : rd_T83 l j ∈ l.take i.toNat := by
  have hj : j.toNat < (l.take i.toNat).length := by rw [List.length_take]; omega
  have : rd_T83 l j = (l.take i.toNat)[j.toNat] := by
    show l.getD j.toNat _ = _
    rw [List.getD_eq_getElem?_getD, List.getElem?_eq_getElem (by omega), Option.getD_some, List.getElem_take]
  rw [this]
  exact List.getElem_mem hj
theorem impl_in_ (n a b : Int) : impl_in.f n a b = some (decide (a ≤ n ∧ n ≤ b)) := by
  unfold impl_in.f
  by_cases h : a ≤ n
  · rw [if_pos h]; simp [h]
  · rw [if_neg h]; simp [h]
theorem impl_NameValid_ (s : ByteArray) (hs : s.size ≤ 9223372036854775807) : T (fun k => impl_NameValid.f k s) (fun r => r = nameB s) := by
  unfold impl_NameValid.f
  refine T.loop (fun (i : Int) k => impl_NameValid.l0 k s (s.size : Int) i) (fun i => ((s.size : Int) - i).toNat) (fun i => 0 ≤ i ∧ i ≤ s.size ∧ ∀ j : Nat, (j : Int) < i → 97 ≤ bt s j ∧ bt s j ≤ 122) _ ?_ 0 ⟨by omega, by omega, fun j hj => by omega⟩
  rintro i ⟨h0, h1, hl⟩ ih
  refine T.step (fun k => impl_NameValid.l0.eq_2 ..) ?_
  refine T.ite (fun hi => ?_) (fun hi => ?_)
  · refine T.ift h0 (T.ift hi ?_)
    have e : ((i.toNat : Nat) : Int) = i := by omega
    have hb : bt s (i.toNat : Nat) = bt s i := by rw [e]
    refine T.ite (fun hc => T.now ?_) (fun hc => T.ite (fun hd => T.now ?_) (fun hd => ?_))
    · exact (nameB_low (fun h => by have := h i.toNat (by omega); rw [hb] at this; omega)).symm
    · exact (nameB_low (fun h => by have := h i.toNat (by omega); rw [hb] at this; omega)).symm
    · rw [w64 (by omega) (by omega)]
      refine ih (i + 1) ⟨by omega, by omega, fun j hj => ?_⟩ (by omega)
      by_cases hji : (j : Int) < i
      · exact hl j hji
      · have : (j : Int) = i := by omega
        rw [this]; omega
  · rw [impl_in_]
    refine T.now ?_
    have hi : i = s.size := by omega
    subst hi
    have : lowB s = true := decide_eq_true (fun j hj => hl j (by omega))
    rw [nameB, this, Bool.true_and]
    exact decide_eq_decide.mpr (by omega)
theorem impl_kindIn_ (l : List S83) (n : ByteArray) (hl : l.length ≤ 9223372036854775807) : T (fun k => impl_kindIn.f k l n) (fun r => r = kindM n l) := by
  unfold impl_kindIn.f
  refine T.loop (fun (i : Int) k => impl_kindIn.l0 k n l (l.length : Int) i) (fun i => ((l.length : Int) - i).toNat) (fun i => 0 ≤ i ∧ i ≤ l.length ∧ kindM n (l.drop i.toNat) = kindM n l) _ ?_ 0 ⟨by omega, by omega, rfl⟩
  rintro i ⟨h0, h1, h2⟩ ih
  refine T.step (fun k => impl_kindIn.l0.eq_2 ..) ?_
  refine T.ite (fun hi => T.ift h0 (T.ift hi ?_)) (fun hi => T.now ?_)
  · rw [drop_at l z83 i h0 hi, kindM] at h2
    refine T.ite (fun hc => T.now ?_) (fun hc => ?_)
    · rw [← h2]; exact (if_pos hc).symm
    · rw [w64 (by omega) (by omega)]
      exact ih (i + 1) ⟨by omega, by omega, by rw [← h2]; exact (if_neg hc).symm⟩ (by omega)
  · rw [← h2, drop_all l i hi]; rfl
theorem impl_names_ {Q : Bool → Prop} (x : List (List S83)) (n j : Int) (l : List S83) (hl : l.length ≤ 9223372036854775806) (hs : ∀ y ∈ l, y.f0.size ≤ 9223372036854775807) (bad : ¬ NamesOk l → Q false) (next : NamesOk l → T (fun k => impl_SchemaValid.l0 k x n (wrap64 (j + 1))) Q) :
    T (fun k => impl_SchemaValid.l1 k l x n j l (l.length : Int) 0) Q := by
  refine T.loop (fun (i : Int) k => impl_SchemaValid.l1 k l x n j l (l.length : Int) i) (fun i => ((l.length : Int) - i).toNat) (fun i => 0 ≤ i ∧ i ≤ l.length ∧ ∀ m : Int, 0 ≤ m → m < i → okAt l m) _ ?_ 0 ⟨by omega, by omega, fun m h0 h1 => by omega⟩
  rintro i ⟨h0, h1, h2⟩ ih
  refine T.step (fun k => impl_SchemaValid.l1.eq_2 ..) ?_
  refine T.ite (fun hi => T.ift h0 (T.ift hi ?_)) (fun hi => ?_)
  · have hm : rd_T83 l i ∈ l := get_mem l z83 i h0 hi
    refine T.bind (impl_NameValid_ _ (hs _ hm)) ?_
    rintro _ rfl
    refine T.ite (fun hn => ?_) (fun hn => T.now (bad (fun h => hn (h.1 i h0 hi).1)))
    rw [impl_in_]
    refine T.bind (T.now (Q := fun x => x = _) rfl) ?_
    rintro _ rfl
    refine T.ite (fun hk => ?_) (fun hk => T.now (bad (fun h => hk (decide_eq_true (h.1 i h0 hi).2.1))))
    have hk := of_decide_eq_true hk
    refine T.ift h1 ?_
    refine T.bind (impl_kindIn_ _ _ (by have := List.length_take_le i.toNat l; have := List.length_take_le' i.toNat l; omega)) ?_
    rintro _ rfl
    have hz := kindM_zero (rd_T83 l i).f0 (l.take i.toNat) (fun y hy => by
      obtain ⟨m, m0, m1, rfl⟩ := take_mem h0 h1 hy
      exact (h2 m m0 m1).2.1.1)
    refine T.ite (fun he => ?_) (fun he => T.now (bad (fun h => he (hz.2 (fun y hy => ?_)))))
    · rw [w64 (by omega) (by omega)]
      refine ih (i + 1) ⟨by omega, by omega, fun m m0 m1 => ?_⟩ (by omega)
      by_cases hmi : m < i
      · exact h2 m m0 hmi
      · obtain rfl : m = i := by omega
        exact ⟨hn, hk, fun j j0 j1 => hz.1 he _ (mem_take j0 j1 h1)⟩
    · obtain ⟨m, m0, m1, rfl⟩ := take_mem h0 h1 hy
      exact (h.1 i h0 hi).2.2 m m0 m1
  · obtain rfl : i = l.length := by omega
    exact T.ite (fun h6 => T.now (bad (fun h => by have := h.2; omega))) (fun h6 => next ⟨h2, by omega⟩)
theorem impl_SchemaValid_ (a b : List S83) (ha : a.length ≤ 9223372036854775806) (hb : b.length ≤ 9223372036854775806) (sa : ∀ y ∈ a, y.f0.size ≤ 9223372036854775807) (sb : ∀ y ∈ b, y.f0.size ≤ 9223372036854775807) :
    T (fun k => impl_SchemaValid.f k a b) (fun r => r = true ↔ NamesOk a ∧ NamesOk b) := by
  unfold impl_SchemaValid.f
  refine T.bind (T.now (Q := fun x => x = _) rfl) ?_
  rintro _ rfl
  refine T.step (fun k => impl_SchemaValid.l0.eq_2 ..) (T.ift (by simp) (T.ift (by omega) (T.ift (by simp) ?_)))
  show T (fun k => impl_SchemaValid.l1 k a [a, b] 2 0 a (a.length : Int) 0) _
  refine impl_names_ _ _ _ a ha sa (fun h => ⟨fun e => (by cases e), fun e => absurd e.1 h⟩) (fun na => ?_)
  rw [show wrap64 ((0 : Int) + 1) = 1 from w64 (by omega) (by omega)]
  refine T.step (fun k => impl_SchemaValid.l0.eq_2 ..) (T.ift (by simp) (T.ift (by omega) (T.ift (by simp) ?_)))
  show T (fun k => impl_SchemaValid.l1 k b [a, b] 2 1 b (b.length : Int) 0) _
  refine impl_names_ _ _ _ b hb sb (fun h => ⟨fun e => (by cases e), fun e => absurd e.2 h⟩) (fun nb => ?_)
  rw [show wrap64 ((1 : Int) + 1) = 2 from w64 (by omega) (by omega)]
  exact T.step (fun k => impl_SchemaValid.l0.eq_2 ..) (T.iff_ (by simp) (T.now ⟨fun _ => ⟨na, nb⟩, fun _ => rfl⟩))
theorem spec_l1In_ (n a b : Int) : spec_l1In.f n a b = some (decide (a ≤ n ∧ n ≤ b)) := by
  unfold spec_l1In.f
  by_cases h : n ≥ a
  · rw [if_pos h]; simp [show a ≤ n from h]
  · rw [if_neg h]; simp [show ¬ a ≤ n from h]
theorem spec_NameValid_ (s : ByteArray) (hs : s.size ≤ 9223372036854775807) : T (fun k => spec_NameValid.f k s) (fun r => r = nameB s) := by
  unfold spec_NameValid.f
  refine T.loop (fun (i : Int) k => spec_NameValid.l0 k s i) (fun i => ((s.size : Int) - i).toNat) (fun i => 0 ≤ i ∧ i ≤ s.size ∧ ∀ j : Nat, (j : Int) < i → 97 ≤ bt s j ∧ bt s j ≤ 122) _ ?_ 0 ⟨by omega, by omega, fun j hj => by omega⟩
  rintro i ⟨h0, h1, hl⟩ ih
  refine T.step (fun k => spec_NameValid.l0.eq_2 ..) ?_
  refine T.ite (fun hi => ?_) (fun hi => ?_)
  · refine T.ift h0 ?_
    have e : ((i.toNat : Nat) : Int) = i := by omega
    have hb : bt s (i.toNat : Nat) = bt s i := by rw [e]
    refine T.ite (fun hc => T.now ?_) (fun hc => T.ite (fun hd => T.now ?_) (fun hd => ?_))
    · exact (nameB_low (fun h => by have := h i.toNat (by omega); rw [hb] at this; omega)).symm
    · exact (nameB_low (fun h => by have := h i.toNat (by omega); rw [hb] at this; omega)).symm
    · rw [w64 (by omega) (by omega)]
      refine ih (i + 1) ⟨by omega, by omega, fun j hj => ?_⟩ (by omega)
      by_cases hji : (j : Int) < i
      · exact hl j hji
      · have : (j : Int) = i := by omega
        rw [this]; omega
  · rw [spec_l1In_]
    refine T.now ?_
    have hi : i = s.size := by omega
    subst hi
    have : lowB s = true := decide_eq_true (fun j hj => hl j (by omega))
    rw [nameB, this, Bool.true_and]
    exact decide_eq_decide.mpr (by omega)
theorem spec_l7Names_ (l : List S83) (hl : l.length ≤ 9223372036854775806) (hs : ∀ y ∈ l, y.f0.size ≤ 9223372036854775807) : T (fun k => spec_l7Names.f k l) (fun r => r = true ↔ NamesOk l) := by
  unfold spec_l7Names.f
  refine T.loop (fun (i : Int) k => spec_l7Names.l0 k l i) (fun i => ((l.length : Int) - i).toNat) (fun i => 0 ≤ i ∧ i ≤ l.length ∧ ∀ m : Int, 0 ≤ m → m < i → okAt l m) _ ?_ 0 ⟨by omega, by omega, fun m h0 h1 => by omega⟩
  rintro i ⟨h0, h1, h2⟩ ih
  have bad : ¬ okAt l i → i < l.length → T (fun _ => some false) (fun r => r = true ↔ NamesOk l) := fun h hi => T.now ⟨fun e => (by cases e), fun e => absurd (e.1 i h0 hi) h⟩
  refine T.step (fun k => spec_l7Names.l0.eq_2 ..) ?_
  refine T.ite (fun hi => T.ift h0 ?_) (fun hi => T.now ?_)
  · have hm : rd_T83 l i ∈ l := get_mem l z83 i h0 hi
    have J : ∀ c : Bool, (c = true → ¬ okAt l i) → (c = false → nameB (rd_T83 l i).f0 = true ∧ 1 ≤ (rd_T83 l i).f1 ∧ (rd_T83 l i).f1 ≤ 3) → T (fun k => spec_l7Names.j1 k l i c) (fun r => r = true ↔ NamesOk l) := by
      intro c c1 c2
      refine T.step (fun k => spec_l7Names.j1.eq_2 ..) ?_
      refine T.ite (fun hc => bad (c1 hc) hi) (fun hc => ?_)
      have c2 := c2 (by simpa using hc)
      refine T.loop (fun (j : Int) k => spec_l7Names.l1 k l i j) (fun j => (i - j).toNat) (fun j => 0 ≤ j ∧ j ≤ i ∧ ∀ m : Int, 0 ≤ m → m < j → ¬ (rd_T83 l m).f0.toList = (rd_T83 l i).f0.toList) _ ?_ 0 ⟨by omega, by omega, fun m h0 h1 => by omega⟩
      rintro j ⟨j0, j1, j2⟩ ihj
      refine T.step (fun k => spec_l7Names.l1.eq_2 ..) ?_
      refine T.ite (fun hj => T.ift j0 (T.ift (by omega) (T.ift h0 (T.ift hi ?_)))) (fun hj => ?_)
      · refine T.ite (fun he => bad (fun h => h.2.2 j j0 hj he) hi) (fun he => ?_)
        rw [w64 (by omega) (by omega)]
        refine ihj (j + 1) ⟨by omega, by omega, fun m m0 m1 => ?_⟩ (by omega)
        by_cases hmj : m < j
        · exact j2 m m0 hmj
        · obtain rfl : m = j := by omega
          exact he
      · rw [w64 (by omega) (by omega)]
        refine ih (i + 1) ⟨by omega, by omega, fun m m0 m1 => ?_⟩ (by omega)
        by_cases hmi : m < i
        · exact h2 m m0 hmi
        · obtain rfl : m = i := by omega
          exact ⟨c2.1, c2.2, fun q q0 q1 => j2 q q0 (by omega)⟩
    refine T.bind (spec_NameValid_ _ (hs _ hm)) ?_
    rintro _ rfl
    refine T.ite (fun hn => ?_) (fun hn => J _ (fun _ h => hn h.1) (fun h => by cases h))
    rw [spec_l1In_]
    refine T.bind (T.now (Q := fun x => x = _) rfl) ?_
    rintro _ rfl
    exact J _ (fun hc h => by rw [decide_eq_true h.2.1] at hc; cases hc) (fun hc => ⟨hn, of_decide_eq_true (by simpa using hc)⟩)
  · obtain rfl : i = l.length := by omega
    rw [decide_eq_true_eq]
    exact ⟨fun h => ⟨h2, h⟩, fun h => h.2⟩
theorem spec_SchemaValid_ (a b : List S83) (ha : a.length ≤ 9223372036854775806) (hb : b.length ≤ 9223372036854775806) (sa : ∀ y ∈ a, y.f0.size ≤ 9223372036854775807) (sb : ∀ y ∈ b, y.f0.size ≤ 9223372036854775807) :
    T (fun k => spec_SchemaValid.f k a b) (fun r => r = true ↔ NamesOk a ∧ NamesOk b) := by
  unfold spec_SchemaValid.f
  refine T.bind (spec_l7Names_ a ha sa) ?_
  intro r hr
  refine T.ite (fun h => ?_) (fun h => T.now ⟨fun e => (by cases e), fun e => absurd (hr.2 e.1) h⟩)
  refine T.bind (spec_l7Names_ b hb sb) ?_
  intro s hs
  exact T.now ⟨fun e => ⟨hr.1 h, hs.1 e⟩, fun e => hs.2 e.2⟩
theorem FnExactSchemaValid : laws_FnExactSchemaValid.Pure := by
  intro a b hf
  obtain ⟨ha, hb⟩ : (a.length ≤ maxLen ∧ ∀ y ∈ a, Fine107 y) ∧ (b.length ≤ maxLen ∧ ∀ y ∈ b, Fine107 y) := hf
  refine T.rounds ?_
  unfold laws_FnExactSchemaValid.f laws_szSchema.f laws_toSchema.f laws_eqSchema.f
  refine T.bind (P := fun r => r < 0 ∨ (a.length : Int) ≤ 1048576 ∧ (b.length : Int) ≤ 1048576 ∧ (∀ y ∈ a, (y.f0.size : Int) ≤ 1048576) ∧ (∀ y ∈ b, (y.f0.size : Int) ≤ 1048576)) ?_ ?_
  · refine T.bind (szKindedS_ a 1048576 (by omega) (by omega) ha) ?_
    intro r hr
    refine T.ite (fun _ => T.now (.inl (by decide))) (fun hn => ?_)
    obtain ⟨r0, r1, r2, r3⟩ := hr.resolve_left hn
    refine T.bind (szKindedS_ b r r0 (by omega) hb) ?_
    intro q hq
    refine T.ite (fun _ => T.now (.inl (by decide))) (fun hn => T.now (.inr ?_))
    obtain ⟨q0, q1, q2, q3⟩ := hq.resolve_left hn
    exact ⟨r2, by omega, r3, fun y hy => by have := q3 y hy; omega⟩
  intro r hr
  refine T.ite (fun _ => T.now rfl) (fun hn => ?_)
  obtain ⟨la, lb, sa, sb⟩ := hr.resolve_left hn
  have ma : ∀ y ∈ a.map toKinded, y.f0.size ≤ 9223372036854775807 := fun y hy => by
    obtain ⟨x, hx, rfl⟩ := List.mem_map.1 hy
    have := sa x hx
    show x.f0.size ≤ _
    omega
  have mb : ∀ y ∈ b.map toKinded, y.f0.size ≤ 9223372036854775807 := fun y hy => by
    obtain ⟨x, hx, rfl⟩ := List.mem_map.1 hy
    have := sb x hx
    show x.f0.size ≤ _
    omega
  have na : (a.map toKinded).length ≤ 1048576 := by rw [List.length_map]; omega
  have nb : (b.map toKinded).length ≤ 1048576 := by rw [List.length_map]; omega
  have tos : T (fun k => (laws_toKindedS.f k a).bind fun t229 => ((laws_toKindedS.f k b).bind fun t232 => (some (t229, t232)))) (fun r => r = (a.map toKinded, b.map toKinded)) := by
    refine T.bind (toKindedS_ a (by omega)) ?_
    rintro _ rfl
    refine T.bind (toKindedS_ b (by omega)) ?_
    rintro _ rfl
    exact T.now rfl
  refine T.bind tos ?_
  rintro _ rfl
  refine T.bind (spec_SchemaValid_ (a.map toKinded) (b.map toKinded) (by omega) (by omega) ma mb) ?_
  intro s hs
  refine T.bind tos ?_
  rintro _ rfl
  refine T.bind (impl_SchemaValid_ (a.map toKinded) (b.map toKinded) (by omega) (by omega) ma mb) ?_
  intro t ht
  have hst : t = s := by rw [Bool.eq_iff_iff, ht, hs]
  refine T.iff_ (by rw [hst]; simp) ?_
  refine T.bind tos ?_
  rintro _ rfl
  refine T.bind (P := fun r => r = true) ?_ ?_
  · refine T.bind (eqKindedS_ _ na) ?_
    rintro _ rfl
    refine T.ift rfl ?_
    refine T.bind (eqKindedS_ _ nb) ?_
    rintro _ rfl
    exact T.ift rfl (T.now rfl)
  · rintro _ rfl
    exact T.ift rfl (T.now rfl)

end Go.Proofs.Ytejfaenmgdkaoaa.Pure
