/- The program's SameExpr answers as the reference's, for all pairs of expressions, and leaves them alone.
   Conditions: none beyond the statement's own. -/
import Derived.Test.YtefgbocbhohkeaaPx15
set_option linter.unusedVariables false
set_option linter.unusedSimpArgs false
namespace Go.Proofs.Ytefgbocbhohkeaa.Pure
open Go.RowKit Go.Proofs.Ytefgbocbhohkeaa.P Go.Proofs.YtefgbocbhohkeaaW.PrintWords Go.Proofs.YtefgbocbhohkeaaW.PrintLast

/-! #### rounds: 'T g Q': from some number of rounds on g answers, and the answer is as Q says -/
def T {α : Type} (g : Nat → Option α) (Q : α → Prop) : Prop := ∃ r, Ev g r ∧ Q r
theorem T.ev {α : Type} {g : Nat → Option α} {r : α} (h : Ev g r) : T g (fun x => x = r) := ⟨r, h, rfl⟩
theorem T.of_eq {α : Type} {g : Nat → Option α} {r : α} (h : T g (fun x => x = r)) : Ev g r := by
  obtain ⟨_, h, rfl⟩ := h
  exact h
theorem T.now {α : Type} {r : α} {Q : α → Prop} (h : Q r) : T (fun _ => some r) Q := ⟨r, Ev.now r, h⟩
theorem T.mono {α : Type} {g : Nat → Option α} {P Q : α → Prop} (h : T g P) (k : ∀ a, P a → Q a) : T g Q := by
  obtain ⟨r, h, p⟩ := h
  exact ⟨r, h, k r p⟩
theorem T.bind {α β : Type} {g : Nat → Option α} {f : Nat → α → Option β} {P : α → Prop} {Q : β → Prop} (h : T g P) (k : ∀ a, P a → T (fun n => f n a) Q) : T (fun n => (g n).bind (f n)) Q := by
  obtain ⟨a, h, p⟩ := h
  obtain ⟨r, k, q⟩ := k a p
  exact ⟨r, Ev.bind h k, q⟩
theorem T.ite {α : Type} {c : Prop} [Decidable c] {g f : Nat → Option α} {Q : α → Prop} (h : c → T g Q) (k : ¬ c → T f Q) : T (fun n => if c then g n else f n) Q := by
  by_cases hc : c
  · simpa only [if_pos hc] using h hc
  · simpa only [if_neg hc] using k hc
theorem T.ift {α : Type} {c : Prop} [Decidable c] {g f : Nat → Option α} {Q : α → Prop} (hc : c) (h : T g Q) : T (fun n => if c then g n else f n) Q := T.ite (fun _ => h) (fun n => absurd hc n)
theorem T.iff_ {α : Type} {c : Prop} [Decidable c] {g f : Nat → Option α} {Q : α → Prop} (hc : ¬ c) (h : T f Q) : T (fun n => if c then g n else f n) Q := T.ite (fun n => absurd n hc) (fun _ => h)
theorem T.step {α : Type} {g f : Nat → Option α} {Q : α → Prop} (h : ∀ k, g (k + 1) = f k) (k : T f Q) : T g Q := by
  obtain ⟨r, k, q⟩ := k
  exact ⟨r, Ev.step h k, q⟩
theorem T.rounds {g : Nat → Option Bool} (h : T g (fun x => x = true)) : ∃ k, g k = some true := (T.of_eq h).rounds
theorem T.congr {α : Type} {g f : Nat → Option α} {Q : α → Prop} (h : ∀ k, g k = f k) (k : T f Q) : T g Q := by
  obtain ⟨r, k, q⟩ := k
  exact ⟨r, Ev.congr h k, q⟩
theorem T.run {α : Type} {g : Nat → Option α} {Q : α → Prop} (h : T g Q) : ∃ r K, (∀ k, K ≤ k → g k = some r) ∧ Q r := by
  obtain ⟨r, ⟨K, h⟩, q⟩ := h
  exact ⟨r, K, h, q⟩
/-- A loop over what is left. -/
theorem T.loop {σ α : Type} (g : σ → Nat → Option α) (m : σ → Nat) (I : σ → Prop) (Q : α → Prop) (h : ∀ s, I s → (∀ s', I s' → m s' < m s → T (g s') Q) → T (g s) Q) : ∀ s, I s → T (g s) Q := by
  intro s
  induction hm : m s using Nat.strongRecOn generalizing s with
  | _ n ih =>
    intro hI
    exact h s hI (fun s' hI' hlt => ih (m s') (hm ▸ hlt) s' rfl hI')
theorem w64 {x : Int} (h : -9223372036854775808 ≤ x) (h' : x ≤ 9223372036854775807) : wrap64 x = x := by unfold wrap64; omega
/-! #### texts and lists -/
theorem tl_inj {a b : ByteArray} : a.toList = b.toList ↔ a = b := by
  rw [ByteArray.toList_eq, ByteArray.toList_eq]
  constructor
  · intro h
    cases a; cases b
    exact congrArg ByteArray.mk (Array.toList_inj.1 h)
  · rintro rfl
    rfl
theorem drop_at {α : Type} (l : List α) (z : α) (i : Int) (h0 : 0 ≤ i) (h1 : i < l.length) : l.drop i.toNat = l.getD i.toNat z :: l.drop (i + 1).toNat := by
  have h : i.toNat < l.length := by omega
  rw [List.drop_eq_getElem_cons h, List.getD_eq_getElem?_getD, List.getElem?_eq_getElem h]
  simp only [Option.getD_some]
  rw [show (i + 1).toNat = i.toNat + 1 by omega]
theorem drop_all {α : Type} (l : List α) (i : Int) (h : ¬ i < l.length) : l.drop i.toNat = [] := List.drop_of_length_le (by omega)
theorem get_mem {α : Type} (l : List α) (z : α) (i : Int) (h0 : 0 ≤ i) (h1 : i < l.length) : l.getD i.toNat z ∈ l := by
  have h : i.toNat < l.length := by omega
  rw [List.getD_eq_getElem?_getD, List.getElem?_eq_getElem h]
  exact List.getElem_mem h
/-- A loop that counts up to n. -/
theorem T.count {α : Type} (n : Nat) (g : Int → Nat → Option α) (Q : α → Prop) (fin : T (g n) Q) (step : ∀ i : Int, 0 ≤ i → i < n → T (g (i + 1)) Q → T (g i) Q) : ∀ i : Int, 0 ≤ i → i ≤ n → T (g i) Q := by
  refine fun i h0 h1 => T.loop g (fun i => (n - i).toNat) (fun i => 0 ≤ i ∧ i ≤ n) Q ?_ i ⟨h0, h1⟩
  rintro i ⟨h0, h1⟩ ih
  by_cases hi : i = n
  · rw [hi]; exact fin
  · exact step i h0 (by omega) (ih (i + 1) ⟨by omega, by omega⟩ (by omega))
/-- A loop that turns each element of a list into one of a list of the same length. -/
theorem T.turn {α β γ : Type} (za : α) (l : List α) (c : α → β) (g : List β → Int → Nat → Option γ) (Q : γ → Prop) (fin : T (g (l.map c) l.length) Q)
    (step : ∀ (out : List β) (i : Int), 0 ≤ i → i < l.length → out.length = l.length → T (g (out.set i.toNat (c (l.getD i.toNat za))) (i + 1)) Q → T (g out i) Q) (out : List β) (hl : out.length = l.length) : T (g out 0) Q := by
  refine T.loop (fun (s : List β × Int) => g s.1 s.2) (fun s => (l.length - s.2).toNat) (fun s => 0 ≤ s.2 ∧ s.2 ≤ l.length ∧ s.1.length = l.length ∧ ∀ j : Nat, (j : Int) < s.2 → s.1[j]? = (l[j]?).map c) Q ?_ (out, 0) ⟨by simp, by simp, hl, fun j hj => absurd hj (by simp)⟩
  rintro ⟨o, i⟩ ⟨h0, h1, h2, h3⟩ ih
  dsimp only at h0 h1 h2 h3 ih ⊢
  by_cases hi : i = l.length
  · have : o = l.map c := List.ext_getElem? (fun j => by
      by_cases hj : (j : Int) < i
      · rw [h3 j hj, List.getElem?_map]
      · rw [List.getElem?_eq_none (by omega), List.getElem?_eq_none (by rw [List.length_map]; omega)])
    rw [this, hi]; exact fin
  · refine step o i h0 (by omega) h2 (ih (_, i + 1) ⟨by show 0 ≤ i + 1; omega, by show i + 1 ≤ _; omega, by rw [List.length_set]; exact h2, fun j hj => ?_⟩ (by show ((l.length : Int) - (i + 1)).toNat < (l.length - i).toNat; omega))
    dsimp only at hj ⊢
    rw [List.getElem?_set]
    by_cases hji : i.toNat = j
    · rw [if_pos hji, if_pos (by omega)]
      subst hji
      rw [List.getD_eq_getElem?_getD, List.getElem?_eq_getElem (by omega : i.toNat < l.length)]
      rfl
    · rw [if_neg hji]
      exact h3 j (by omega)
/-! #### names -/
def lowB (s : ByteArray) : Bool := decide (∀ i : Nat, i < s.size → 97 ≤ bt s i ∧ bt s i ≤ 122)
def nameB (s : ByteArray) : Bool := lowB s && decide (1 ≤ s.size ∧ s.size ≤ 8)
theorem nameB_iff (s : ByteArray) : nameB s = true ↔ (∀ i : Nat, i < s.size → 97 ≤ bt s i ∧ bt s i ≤ 122) ∧ 1 ≤ s.size ∧ s.size ≤ 8 := by simp [nameB, lowB]
theorem nameB_low {s : ByteArray} (h : ¬ ∀ i : Nat, i < s.size → 97 ≤ bt s i ∧ bt s i ≤ 122) : nameB s = false := by
  have : ¬ (nameB s = true) := fun hn => h ((nameB_iff s).1 hn).1
  simpa using this
/-! #### expressions -/
theorem part_lt {x y : S54} (h : y ∈ x.f3) : SizeOf.sizeOf y < SizeOf.sizeOf x := by
  cases x with
  | mk a b c l =>
    have := List.sizeOf_lt_of_mem (show y ∈ l from h)
    simp only [S54.mk.sizeOf_spec]
    omega
mutual
def cntE : S54 → Int
  | ⟨_, _, _, l⟩ => 1 + cntEs l
def cntEs : List S54 → Int
  | [] => 0
  | x :: l => cntE x + cntEs l
end
mutual
def depE : S54 → Int
  | ⟨_, _, _, l⟩ => 1 + depEs l
def depEs : List S54 → Int
  | [] => 0
  | x :: l => mx (depE x) (depEs l)
end
theorem cntE_eq (x : S54) : cntE x = 1 + cntEs x.f3 := by cases x; rw [cntE]
theorem depE_eq (x : S54) : depE x = 1 + depEs x.f3 := by cases x; rw [depE]
theorem cntEs_nil : cntEs [] = 0 := by rw [cntEs]
theorem cntEs_cons (x : S54) (l : List S54) : cntEs (x :: l) = cntE x + cntEs l := by rw [cntEs]
theorem depEs_nil : depEs [] = 0 := by rw [depEs]
theorem depEs_cons (x : S54) (l : List S54) : depEs (x :: l) = mx (depE x) (depEs l) := by rw [depEs]
theorem Expr_ind {P : S54 → Prop} (h : ∀ x, (∀ y ∈ x.f3, P y) → P x) : ∀ x, P x := by
  intro x
  induction hn : SizeOf.sizeOf x using Nat.strongRecOn generalizing x with
  | _ n ih => exact h x (fun y hy => ih (SizeOf.sizeOf y) (hn ▸ part_lt hy) y rfl)
theorem cntEs_ge {l : List S54} (h : ∀ y ∈ l, 1 ≤ cntE y) : (l.length : Int) ≤ cntEs l := by
  induction l with
  | nil => rw [cntEs_nil]; simp
  | cons x l ih =>
    have h1 := h x (List.mem_cons_self ..)
    have h2 := ih (fun y hy => h y (List.mem_cons_of_mem _ hy))
    rw [cntEs_cons, List.length_cons]
    omega
theorem cntE_pos : ∀ x : S54, 1 ≤ cntE x := Expr_ind (fun x ih => by
  have := cntEs_ge ih
  rw [cntE_eq]
  omega)
theorem cntEs_pos (l : List S54) : (l.length : Int) ≤ cntEs l := cntEs_ge (fun y _ => cntE_pos y)
theorem cntE_mem {l : List S54} {y : S54} (h : y ∈ l) : cntE y ≤ cntEs l := by
  induction l with
  | nil => exact absurd h (by simp)
  | cons x l ih =>
    rw [cntEs_cons]
    have h1 := cntE_pos x
    have h2 := cntEs_pos l
    rcases List.mem_cons.1 h with rfl | h
    · omega
    · have := ih h
      omega
theorem cntE_part {x y : S54} (h : y ∈ x.f3) : cntE y + 1 ≤ cntE x := by
  have := cntE_mem h
  rw [cntE_eq x]
  omega
theorem depEs_le {l : List S54} (h : ∀ y ∈ l, 1 ≤ depE y ∧ depE y ≤ cntE y) : 0 ≤ depEs l ∧ depEs l ≤ cntEs l := by
  induction l with
  | nil => rw [cntEs_nil, depEs_nil]; omega
  | cons x l ih =>
    have h1 := h x (List.mem_cons_self ..)
    have h2 := ih (fun y hy => h y (List.mem_cons_of_mem _ hy))
    rw [cntEs_cons, depEs_cons]
    unfold mx
    have h3 := cntEs_pos l
    split <;> omega
theorem depE_le : ∀ x : S54, 1 ≤ depE x ∧ depE x ≤ cntE x := Expr_ind (fun x ih => by
  have := depEs_le ih
  rw [cntE_eq, depE_eq]
  omega)
theorem cnt_drop (l : List S54) (i : Int) (h0 : 0 ≤ i) (h1 : i < l.length) : cntEs (l.drop i.toNat) = cntE (l.getD i.toNat z54) + cntEs (l.drop (i + 1).toNat) := by rw [drop_at l z54 i h0 h1, cntEs_cons]
/-- The texts in an expression are not too long. -/
inductive OkE : S54 → Prop
  | mk {x : S54} : x.f2.size ≤ 9223372036854775807 → (∀ y ∈ x.f3, OkE y) → OkE x
theorem OkE.name {x : S54} (h : OkE x) : x.f2.size ≤ 9223372036854775807 := by cases h; assumption
theorem OkE.part {x y : S54} (h : OkE x) (hy : y ∈ x.f3) : OkE y := by
  cases h with
  | mk _ h => exact h y hy
/-! #### expressions, mirrored -/
mutual
def toExpr : S49 → S54
  | ⟨a, b, c, l⟩ => ⟨a, b, c, toExprs l⟩
def toExprs : List S49 → List S54
  | [] => []
  | x :: l => toExpr x :: toExprs l
end
theorem toExpr_eq (x : S49) : toExpr x = ⟨x.f0, x.f1, x.f2, toExprs x.f3⟩ := by cases x; rw [toExpr]
theorem toExprs_map (l : List S49) : toExprs l = l.map toExpr := by
  induction l with
  | nil => rw [toExprs]; rfl
  | cons x l ih => rw [toExprs, ih]; rfl
theorem Lpart_lt {x y : S49} (h : y ∈ x.f3) : SizeOf.sizeOf y < SizeOf.sizeOf x := by
  cases x with
  | mk a b c l =>
    have := List.sizeOf_lt_of_mem (show y ∈ l from h)
    simp only [S49.mk.sizeOf_spec]
    omega
theorem LExpr_ind {P : S49 → Prop} (h : ∀ x, (∀ y ∈ x.f3, P y) → P x) : ∀ x, P x := by
  intro x
  induction hn : SizeOf.sizeOf x using Nat.strongRecOn generalizing x with
  | _ n ih => exact h x (fun y hy => ih (SizeOf.sizeOf y) (hn ▸ Lpart_lt hy) y rfl)
theorem FineL_name {x : S49} (h : Fine49 x) : x.f2.size ≤ 9223372036854775807 ∧ x.f3.length ≤ 9223372036854775807 := by
  cases h with
  | mk _ _ h1 h2 _ => exact ⟨h1, h2⟩
theorem FineL_part {x y : S49} (h : Fine49 x) (hy : y ∈ x.f3) : Fine49 y := by
  cases h with
  | mk _ _ _ _ h => exact h y hy
theorem toExpr_ok : ∀ x : S49, Fine49 x → OkE (toExpr x) := LExpr_ind (fun x ih hx => by
  rw [toExpr_eq]
  refine OkE.mk (FineL_name hx).1 (fun y hy => ?_)
  rw [show (S54.mk x.f0 x.f1 x.f2 (toExprs x.f3)).f3 = x.f3.map toExpr from toExprs_map _] at hy
  obtain ⟨z, hz, rfl⟩ := List.mem_map.1 hy
  exact ih z hz (FineL_part hx hz))
/-- What szExpr leaves. -/
def SzE (n c : Int) (r : Int) : Prop := r < 0 ∨ 0 ≤ r ∧ r + c ≤ n
theorem szExprS_step (l : List S49) (ih : ∀ y ∈ l, ∀ n, 0 ≤ n → n ≤ 1048576 → T (fun k => laws_szExpr.f k y.f0 y.f1 y.f2 y.f3 n) (SzE n (cntE (toExpr y) - 1))) (hl : l.length ≤ 9223372036854775807) (n : Int) (h0 : 0 ≤ n) (h1 : n ≤ 1048576) :
    T (fun k => laws_szExprS.f k l n) (SzE n (cntEs (l.map toExpr))) := by
  refine T.step (fun k => laws_szExprS.f.eq_2 ..) ?_
  rw [w64 (by omega) (by omega)]
  refine T.ite (fun _ => T.now (.inl (by decide))) (fun h => ?_)
  have hp := cntEs_pos (l.map toExpr)
  rw [List.length_map] at hp
  refine T.loop (fun (s : Int × Int) k => laws_szExprS.l0 k l s.1 s.2) (fun s => ((l.length : Int) - s.2).toNat) (fun s => 0 ≤ s.2 ∧ s.2 ≤ l.length ∧ 0 ≤ s.1 ∧ s.1 + cntEs (l.map toExpr) ≤ n + cntEs ((l.map toExpr).drop s.2.toNat) - (l.length - s.2)) _ ?_ (n - l.length, 0) ⟨by simp, by simp, by show 0 ≤ n - (l.length : Int); omega, by show n - (l.length : Int) + _ ≤ n + cntEs (l.map toExpr) - (l.length - 0); omega⟩
  rintro ⟨m, i⟩ ⟨a0, a1, a2, a3⟩ ih2
  dsimp only at a0 a1 a2 a3 ih2 ⊢
  refine T.step (fun k => laws_szExprS.l0.eq_2 ..) ?_
  refine T.ite (fun hi => T.ift a0 ?_) (fun hi => T.now (.inr ⟨a2, ?_⟩))
  · have hd := cntEs_pos ((l.map toExpr).drop i.toNat)
    have hcd := cnt_drop (l.map toExpr) i a0 (by rw [List.length_map]; exact hi)
    have hge : (l.map toExpr).getD i.toNat z54 = toExpr (l.getD i.toNat z49) := by
      rw [List.getD_eq_getElem?_getD, List.getD_eq_getElem?_getD, List.getElem?_map, List.getElem?_eq_getElem (by omega : i.toNat < l.length)]
      rfl
    rw [hge] at hcd
    have hdl : ((l.map toExpr).drop (i + 1).toNat).length = l.length - (i + 1).toNat := by rw [List.length_drop, List.length_map]
    have hcp := cntEs_pos ((l.map toExpr).drop (i + 1).toNat)
    have hm : m ≤ 1048576 := by
      have hall : cntEs ((l.map toExpr).drop i.toNat) ≤ cntEs (l.map toExpr) := by
        have : ∀ (q : List S54) (j : Nat), cntEs (q.drop j) ≤ cntEs q := by
          intro q
          induction q with
          | nil => intro j; simp
          | cons x q ih => intro j; cases j with
            | zero => simp
            | succ j => rw [List.drop_succ_cons, cntEs_cons]; have := ih j; have := cntE_pos x; omega
        exact this _ _
      omega
    refine T.bind (ih _ (get_mem l z49 i a0 hi) m a2 hm) ?_
    intro r hr
    refine T.ite (fun _ => T.now (.inl (by decide))) (fun hn => ?_)
    rw [w64 (by omega) (by omega)]
    rcases hr with hr | ⟨r0, r1⟩
    · exact absurd hr hn
    · exact ih2 (r, i + 1) ⟨by show 0 ≤ i + 1; omega, by show i + 1 ≤ _; omega, r0, by show r + _ ≤ n + cntEs ((l.map toExpr).drop (i + 1).toNat) - (l.length - (i + 1)); omega⟩ (by show ((l.length : Int) - (i + 1)).toNat < _; omega)
  · rw [List.drop_of_length_le (by rw [List.length_map]; omega), cntEs_nil] at a3
    omega
theorem szExpr_ : ∀ x : S49, Fine49 x → ∀ n, 0 ≤ n → n ≤ 1048576 → T (fun k => laws_szExpr.f k x.f0 x.f1 x.f2 x.f3 n) (SzE n (cntE (toExpr x) - 1)) := LExpr_ind (fun x ih hx n h0 h1 => by
  have hs := FineL_name hx
  refine T.step (fun k => laws_szExpr.f.eq_2 ..) ?_
  rw [w64 (by omega) (by omega)]
  refine T.ite (fun _ => T.now (.inl (by decide))) (fun h => ?_)
  refine T.bind (szExprS_step x.f3 (fun y hy => ih y hy (FineL_part hx hy)) hs.2 _ (by omega) (by omega)) ?_
  intro r hr
  refine T.ite (fun _ => T.now (.inl (by decide))) (fun hn => T.now ?_)
  rcases hr with hr | ⟨r0, r1⟩
  · exact absurd hr hn
  · refine .inr ⟨r0, ?_⟩
    rw [cntE_eq, toExpr_eq, toExprs_map]
    show r + (1 + cntEs (x.f3.map toExpr) - 1) ≤ n
    omega)
theorem toExprS_step (l : List S49) (ih : ∀ y ∈ l, T (fun k => laws_toExpr.f k y.f0 y.f1 y.f2 y.f3) (fun r => r = (y.f0, y.f1, y.f2, (toExpr y).f3))) (hl : l.length ≤ 1048576) : T (fun k => laws_toExprS.f k l) (fun r => r = toExprs l) := by
  refine T.step (fun k => laws_toExprS.f.eq_2 ..) ?_
  refine T.ift (by omega) (T.ift (by omega) ?_)
  rw [toExprs_map]
  refine T.turn z49 l toExpr (fun o i k => laws_toExprS.l0 k l o i) _ ?_ ?_ _ (by simp)
  · refine T.step (fun k => laws_toExprS.l0.eq_2 ..) (T.iff_ (by omega) (T.now rfl))
  · intro o i h0 h1 h2 h
    refine T.step (fun k => laws_toExprS.l0.eq_2 ..) (T.ift h1 (T.ift h0 ?_))
    refine T.bind (ih _ (get_mem l z49 i h0 h1)) ?_
    rintro _ rfl
    rw [w64 (by omega) (by omega)]
    refine T.ift (by omega) ?_
    have e : (S54.mk (rd_T49 l i).f0 (rd_T49 l i).f1 (rd_T49 l i).f2 (toExpr (rd_T49 l i)).f3) = toExpr (rd_T49 l i) := by
      rw [toExpr_eq]
    dsimp only
    refine T.congr (fun k => ?_) h
    rw [show l.getD i.toNat z49 = rd_T49 l i from rfl, ← e]
theorem toExpr_ : ∀ x : S49, cntE (toExpr x) ≤ 1048577 → T (fun k => laws_toExpr.f k x.f0 x.f1 x.f2 x.f3) (fun r => r = (x.f0, x.f1, x.f2, (toExpr x).f3)) := LExpr_ind (fun x ih hc => by
  have hm : ∀ y ∈ x.f3, cntE (toExpr y) + 1 ≤ cntE (toExpr x) := fun y hy => cntE_part (by rw [toExpr_eq x, toExprs_map]; exact List.mem_map_of_mem hy)
  have hl : (x.f3.length : Int) ≤ 1048576 := by
    have h1 := cntEs_pos (toExpr x).f3
    have h2 := cntE_eq (toExpr x)
    have h3 : (toExpr x).f3.length = x.f3.length := by rw [toExpr_eq, toExprs_map]; exact List.length_map ..
    omega
  refine T.step (fun k => laws_toExpr.f.eq_2 ..) ?_
  refine T.bind (toExprS_step x.f3 (fun y hy => ih y hy (by have := hm y hy; omega)) (by omega)) ?_
  rintro _ rfl
  exact T.now (by rw [toExpr_eq]))
theorem eqExpr_ : ∀ x : S54, cntE x ≤ 1048577 → T (fun k => laws_eqExpr.f k x.f0 x.f1 x.f2 x.f3 x.f0 x.f1 x.f2 x.f3) (fun r => r = true) := Expr_ind (fun x ih hc => by
  have hl := cntEs_pos x.f3
  rw [cntE_eq] at hc
  refine T.step (fun k => laws_eqExpr.f.eq_2 ..) (T.ift rfl (T.ift rfl (T.ift rfl ?_)))
  refine T.bind (P := fun r => r = true) ?_ ?_
  · refine T.step (fun k => laws_eqExprS.f.eq_2 ..) (T.ift rfl ?_)
    refine T.count x.f3.length (fun i k => laws_eqExprS.l0 k x.f3 x.f3 i) (fun r => r = true) (T.step (fun k => laws_eqExprS.l0.eq_2 ..) (T.iff_ (by omega) (T.now rfl))) (fun i h0 h1 h => ?_) 0 (by omega) (by omega)
    refine T.step (fun k => laws_eqExprS.l0.eq_2 ..) (T.ift h1 (T.ift h0 (T.ift h1 ?_)))
    have hm := get_mem x.f3 z54 i h0 h1
    refine T.bind (ih _ hm (by have := cntE_mem (show rd_T54 x.f3 i ∈ x.f3 from hm); omega)) ?_
    rintro _ rfl
    rw [w64 (by omega) (by omega)]
    exact T.ift rfl h
  · rintro _ rfl
    exact T.ift rfl (T.now rfl))
theorem SExpr_ext {a b : S54} (h0 : a.f0 = b.f0) (h1 : a.f1 = b.f1) (h2 : a.f2 = b.f2) (h3 : a.f3 = b.f3) : a = b := by
  cases a; cases b
  simp_all
theorem impl_SameExpr_ : ∀ a : S54, cntE a ≤ 1048577 → ∀ b : S54, cntE b ≤ 1048577 → T (fun k => impl_SameExpr.f k a.f0 a.f1 a.f2 a.f3 b.f0 b.f1 b.f2 b.f3) (fun r => r = true ↔ a = b) := Expr_ind (fun a ih ha b hb => by
  have hla := cntEs_pos a.f3
  have hlb := cntEs_pos b.f3
  rw [cntE_eq] at ha hb
  have no : ¬ a = b → ∀ {g : Nat → Option Bool}, T g (fun r => r = false) → T g (fun r => r = true ↔ a = b) := fun h g t => t.mono (fun r hr => by subst hr; exact ⟨fun e => (by cases e), fun e => absurd e h⟩)
  have jno : T (fun k => impl_SameExpr.j0 k true a.f0 a.f1 a.f2 a.f3 b.f0 b.f1 b.f2 b.f3) (fun r => r = false) := T.step (fun k => impl_SameExpr.j0.eq_2 ..) (T.ift rfl (T.now rfl))
  refine T.step (fun k => impl_SameExpr.f.eq_2 ..) ?_
  refine T.ite (fun e0 => ?_) (fun e0 => no (fun e => e0 (by rw [e])) jno)
  refine T.ite (fun e1 => ?_) (fun e1 => no (fun e => e1 (by rw [e])) jno)
  refine T.ite (fun e2 => ?_) (fun e2 => no (fun e => e2 (by rw [e])) jno)
  refine T.step (fun k => impl_SameExpr.j0.eq_2 ..) ?_
  refine T.ite (fun e3 => no (fun e => by rw [e] at e3; simp at e3) (T.now rfl)) (fun e3 => ?_)
  have hll : a.f3.length = b.f3.length := by
    have : ¬ ((a.f3.length : Int) ≠ b.f3.length) := by simpa using e3
    omega
  have hab : (a = b ↔ a.f3.drop (0 : Int).toNat = b.f3.drop (0 : Int).toNat) := ⟨fun e => by rw [e], fun e => SExpr_ext e0 e1 (tl_inj.1 e2) e⟩
  refine T.loop (fun (i : Int) k => impl_SameExpr.l0 k a.f3 (a.f3.length : Int) i b.f0 b.f1 b.f2 b.f3) (fun i => ((a.f3.length : Int) - i).toNat) (fun i => 0 ≤ i ∧ i ≤ a.f3.length ∧ (a = b ↔ a.f3.drop i.toNat = b.f3.drop i.toNat)) _ ?_ 0 ⟨by omega, by omega, hab⟩
  rintro i ⟨h0, h1, h2⟩ ih2
  refine T.step (fun k => impl_SameExpr.l0.eq_2 ..) ?_
  refine T.ite (fun hi => T.ift h0 (T.ift hi (T.ift (by omega) ?_))) (fun hi => T.now ?_)
  · have hma := get_mem a.f3 z54 i h0 hi
    have hmb := get_mem b.f3 z54 i h0 (by omega)
    have ca := cntE_mem (show rd_T54 a.f3 i ∈ a.f3 from hma)
    have cb := cntE_mem (show rd_T54 b.f3 i ∈ b.f3 from hmb)
    refine T.bind (ih (rd_T54 a.f3 i) hma (by omega) (rd_T54 b.f3 i) (by omega)) ?_
    intro r hr
    rw [drop_at a.f3 z54 i h0 hi, drop_at b.f3 z54 i h0 (by omega)] at h2
    refine T.ite (fun hc => ?_) (fun hc => T.now ?_)
    · rw [w64 (by omega) (by omega)]
      refine ih2 (i + 1) ⟨by omega, by omega, ?_⟩ (by omega)
      rw [h2]
      have this : a.f3.getD i.toNat z54 = b.f3.getD i.toNat z54 := hr.1 hc
      constructor
      · intro e; exact (List.cons.inj e).2
      · intro e; rw [this, e]
    · constructor
      · intro e; cases e
      · intro e
        exact absurd (hr.2 (List.cons.inj (h2.1 e)).1) hc
  · rw [h2, drop_all a.f3 i hi, drop_all b.f3 i (by omega)]
    simp)
theorem spec_SameExpr_ : ∀ a : S54, cntE a ≤ 1048577 → ∀ b : S54, cntE b ≤ 1048577 → T (fun k => spec_SameExpr.f k a.f0 a.f1 a.f2 a.f3 b.f0 b.f1 b.f2 b.f3) (fun r => r = true ↔ a = b) := Expr_ind (fun a ih ha b hb => by
  have hla := cntEs_pos a.f3
  have hlb := cntEs_pos b.f3
  rw [cntE_eq] at ha hb
  have no : ¬ a = b → ∀ {g : Nat → Option Bool}, T g (fun r => r = false) → T g (fun r => r = true ↔ a = b) := fun h g t => t.mono (fun r hr => by subst hr; exact ⟨fun e => (by cases e), fun e => absurd e h⟩)
  have jno : T (fun k => spec_SameExpr.j0 k true a.f0 a.f1 a.f2 a.f3 b.f0 b.f1 b.f2 b.f3) (fun r => r = false) := T.step (fun k => spec_SameExpr.j0.eq_2 ..) (T.ift rfl (T.now rfl))
  refine T.step (fun k => spec_SameExpr.f.eq_2 ..) ?_
  refine T.ite (fun e0 => ?_) (fun e0 => no (fun e => e0 (by rw [e])) jno)
  refine T.ite (fun e1 => ?_) (fun e1 => no (fun e => e1 (by rw [e])) jno)
  refine T.ite (fun e2 => ?_) (fun e2 => no (fun e => e2 (by rw [e])) jno)
  refine T.step (fun k => spec_SameExpr.j0.eq_2 ..) ?_
  refine T.ite (fun e3 => no (fun e => by rw [e] at e3; simp at e3) (T.now rfl)) (fun e3 => ?_)
  have hll : a.f3.length = b.f3.length := by
    have : ¬ ((a.f3.length : Int) ≠ b.f3.length) := by simpa using e3
    omega
  have hab : (a = b ↔ a.f3.drop (0 : Int).toNat = b.f3.drop (0 : Int).toNat) := ⟨fun e => by rw [e], fun e => SExpr_ext e0 e1 (tl_inj.1 e2) e⟩
  refine T.loop (fun (i : Int) k => spec_SameExpr.l0 k i a.f0 a.f1 a.f2 a.f3 b.f0 b.f1 b.f2 b.f3) (fun i => ((a.f3.length : Int) - i).toNat) (fun i => 0 ≤ i ∧ i ≤ a.f3.length ∧ (a = b ↔ a.f3.drop i.toNat = b.f3.drop i.toNat)) _ ?_ 0 ⟨by omega, by omega, hab⟩
  rintro i ⟨h0, h1, h2⟩ ih2
  refine T.step (fun k => spec_SameExpr.l0.eq_2 ..) ?_
  refine T.ite (fun hi => T.ift h0 (T.ift (by omega) ?_)) (fun hi => T.now ?_)
  · have hma := get_mem a.f3 z54 i h0 hi
    have hmb := get_mem b.f3 z54 i h0 (by omega)
    have ca := cntE_mem (show rd_T54 a.f3 i ∈ a.f3 from hma)
    have cb := cntE_mem (show rd_T54 b.f3 i ∈ b.f3 from hmb)
    refine T.bind (ih (rd_T54 a.f3 i) hma (by omega) (rd_T54 b.f3 i) (by omega)) ?_
    intro r hr
    rw [drop_at a.f3 z54 i h0 hi, drop_at b.f3 z54 i h0 (by omega)] at h2
    refine T.ite (fun hc => ?_) (fun hc => T.now ?_)
    · rw [w64 (by omega) (by omega)]
      refine ih2 (i + 1) ⟨by omega, by omega, ?_⟩ (by omega)
      rw [h2]
      have this : a.f3.getD i.toNat z54 = b.f3.getD i.toNat z54 := hr.1 hc
      constructor
      · intro e; exact (List.cons.inj e).2
      · intro e; rw [this, e]
    · constructor
      · intro e; cases e
      · intro e
        exact absurd (hr.2 (List.cons.inj (h2.1 e)).1) hc
  · rw [h2, drop_all a.f3 i hi, drop_all b.f3 i (by omega)]
    simp)
theorem FnExactSameExpr : laws_FnExactSameExpr.Pure := by
  intro a0 a1 a2 a3 b0 b1 b2 b3 ha hb
  refine T.rounds ?_
  unfold laws_FnExactSameExpr.f
  refine T.bind (szExpr_ ⟨a0, a1, a2, a3⟩ ha 1048576 (by omega) (by omega)) ?_
  intro r hr
  refine T.ite (fun _ => T.now rfl) (fun hn => ?_)
  obtain ⟨r0, r1⟩ := hr.resolve_left hn
  refine T.bind (szExpr_ ⟨b0, b1, b2, b3⟩ hb r r0 (by have := cntE_pos (toExpr ⟨a0, a1, a2, a3⟩); omega)) ?_
  intro q hq
  refine T.ite (fun _ => T.now rfl) (fun hn => ?_)
  obtain ⟨q0, q1⟩ := hq.resolve_left hn
  have pa := cntE_pos (toExpr ⟨a0, a1, a2, a3⟩)
  have pb := cntE_pos (toExpr ⟨b0, b1, b2, b3⟩)
  have ca : cntE (toExpr ⟨a0, a1, a2, a3⟩) ≤ 1048577 := by omega
  have cb : cntE (toExpr ⟨b0, b1, b2, b3⟩) ≤ 1048577 := by omega
  have ta := toExpr_ ⟨a0, a1, a2, a3⟩ ca
  have tb := toExpr_ ⟨b0, b1, b2, b3⟩ cb
  have ea : toExpr ⟨a0, a1, a2, a3⟩ = ⟨a0, a1, a2, (toExpr ⟨a0, a1, a2, a3⟩).f3⟩ := by rw [toExpr_eq]
  have eb : toExpr ⟨b0, b1, b2, b3⟩ = ⟨b0, b1, b2, (toExpr ⟨b0, b1, b2, b3⟩).f3⟩ := by rw [toExpr_eq]
  rw [ea] at ca
  rw [eb] at cb
  generalize (toExpr ⟨a0, a1, a2, a3⟩).f3 = la at ta ca
  generalize (toExpr ⟨b0, b1, b2, b3⟩).f3 = lb at tb cb
  refine T.bind ta ?_
  rintro _ rfl
  refine T.bind tb ?_
  rintro _ rfl
  refine T.bind (spec_SameExpr_ ⟨a0, a1, a2, la⟩ ca ⟨b0, b1, b2, lb⟩ cb) ?_
  intro s hs
  refine T.bind ta ?_
  rintro _ rfl
  refine T.bind tb ?_
  rintro _ rfl
  refine T.bind (impl_SameExpr_ ⟨a0, a1, a2, la⟩ ca ⟨b0, b1, b2, lb⟩ cb) ?_
  intro t ht
  have hst : t = s := by rw [Bool.eq_iff_iff, ht, hs]
  refine T.iff_ (by rw [hst]; simp) ?_
  refine T.bind ta ?_
  rintro _ rfl
  refine T.bind (eqExpr_ ⟨a0, a1, a2, la⟩ ca) ?_
  rintro _ rfl
  refine T.ift rfl ?_
  refine T.bind tb ?_
  rintro _ rfl
  refine T.bind (eqExpr_ ⟨b0, b1, b2, lb⟩ cb) ?_
  rintro _ rfl
  exact T.ift rfl (T.now rfl)

end Go.Proofs.Ytefgbocbhohkeaa.Pure
