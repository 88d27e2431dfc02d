import Derived.Test.YtongmkdapcgmfaaWa
/-! Short words: what the walks of this seat's texts ask again and again, each once, its small steps as parameters that prove themselves. -/
namespace Go.Proofs.YtongmkdapcgmfaaW.PrintWords
open Go.RowKit Go.Proofs.YtongmkdapcgmfaaW.PrintLast Go.Proofs.YtongmkdapcgmfaaW.PrintMore
section
theorem okp {A B : Prop} (h : A) (g : A → B := by (try simp only [and_imp]); intros; (repeat' (first | assumption | trivial | apply And.intro))) : B := g h
theorem bw {w W0 W : World} (h0 : Below w.heap.size w W0) (h : Below w.heap.size w W0 → Below w.heap.size w W := by intro h_; repeat (first | (with_reducible first | exact h_ | apply below_alloc | apply pw_below_drewN | apply below_drew1 | refine below_set ?_ (Aside0.out (by assumption))) | exact h_)) : Below w.heap.size w W := h h0
theorem kw {w W0 W : World} {g : Nat} (h0 : KeepBut w W0 g none) (h : KeepBut w W0 g none → KeepBut w W g none := by intro h_; repeat (first | (with_reducible first | exact h_ | apply KeepBut.set_ | apply keep_drewN | apply keep_drew | apply keep_alloc | refine keep_far ?_ (Aside0.out (by assumption)) _) | exact h_)) : KeepBut w W g none := h h0
theorem bk {W0 W : World} {g : Nat} {o : Obj} (h0 : W0.heap[g]? = some o) (h : W0.heap[g]? = some o → W.heap[g]? = some o := by intro h_; (with_reducible repeat (first | refine blk_drewN ?_ _ | refine blk_drew ?_ | refine blk_alloc ?_ _)); exact h_) : W.heap[g]? = some o := h h0
end
namespace Kd
section
variable {α : Type} {d : Kd α} {e base : Nat} {ok : Nat → Prop} {W0 W : World} {v : Value} {xs : List α}
theorem xR (h0 : d.R e W0 base ok v xs) (h : d.R e W0 base ok v xs → d.R e W base ok v xs := by intro h_; (with_reducible repeat (first | apply R_alloc | apply R_drewN | apply R_drew)); exact h_) : d.R e W base ok v xs := h h0
theorem xS (h0 : Kd.S d e W0 base ok v xs) (h : Kd.S d e W0 base ok v xs → Kd.S d e W base ok v xs := by intro h_; (with_reducible repeat (first | apply S_alloc | apply S_drewN | apply S_drew)); exact h_) : Kd.S d e W base ok v xs := h h0
theorem xN (h0 : Kd.N d e W0 base ok v xs) (h : Kd.N d e W0 base ok v xs → Kd.N d e W base ok v xs := by intro h_; (with_reducible repeat (first | apply N_alloc | apply N_drewN | apply N_drew)); exact h_) : Kd.N d e W base ok v xs := h h0
theorem xV (h0 : Kd.V d e W0 base ok v xs) (h : Kd.V d e W0 base ok v xs → Kd.V d e W base ok v xs := by intro h_; (with_reducible repeat (first | apply V_alloc | apply V_drewN | apply V_drew)); exact h_) : Kd.V d e W base ok v xs := h h0
theorem xQ (h0 : d.Q e W0 base ok v xs) (h : d.Q e W0 base ok v xs → d.Q e W base ok v xs := by intro h_; (with_reducible repeat (first | apply Q_alloc | apply Q_drewN | apply Q_drew)); exact h_) : d.Q e W base ok v xs := h h0
end
end Kd
section
variable {P : Program} {ops : Array Oper} {Q : Exit → Act → World → Prop}
theorem gl {rest : List Oper} {oi : Oper} {a : Act} {w : World} (N : Option Tmp) {f : FuncId} {fn : Func} {as : Array Operand} {ts : Array TypeId} (hf : P.funcs[f]? = some fn) (args : Array Value)
    (h : Calls P f args w fun e w' => ∃ v, e = .returned v ∧ wpList P ops Q rest (a.put N v) w')
    (hd : oi.dst = N := by rfl) (hg : oi.guard = none := by rfl) (hname : (fn.name == "runtime.NumGoroutine") = false := by kernel_rfl) (hb : fn.body.isSome = true := by rfl)
    (hop : oi.op = .call { callee := .value (.func f), args := as, argTypes := ts } := by rfl)
    (hargs : as.map a.eval = args := by (try simp only [List.map_toArray, List.map_cons, List.map_nil]); first | done | rfl | (simp only [List.length_drop, List.length_take]; rfl)) : wpList P ops Q (oi :: rest) a w :=
  goesL_ N hd hg hf hname hb args hop hargs h
end
section
open Go.Proofs.YtongmkdapcgmfaaW.PrintLast
variable {P : Program} {ops : Array Oper} {Q : Exit → Act → World → Prop} {md : Region.Mode} {S : World → Prop} {ds : List Nat}
theorem pon {i : Nat} {N : Option Tmp} {oi : Oper} {v : Value} {fuel : Nat} {l : Array Bool} {a a' : Act} {w : World} (l' : Array Bool) (hc : anyB md ops l l' i = true) (h : wpAnyLast P md ops Q S ds fuel l' a' w)
    (hi : ops[i]? = some oi := by rfl) (hN : oi.dst = N := by rfl) (hw : Region.wanted oi (yielded ops a.tmps) = true := by rfl) (hy : ∀ w', (execOp a.eval oi).run P w' = .ok (.value v) w' := by intro w'; go_simp; with_reducible rfl)
    (ha : a.put N v = a' := by simp only [Act.put, List.setIfInBounds_toArray, List.set_cons_zero, List.set_cons_succ, i64_w, i32_w]; rfl) (hQ : ∀ c a w, Q (.panic c) (a.put oi.dst v) w → Q (.panic c) a w := by exact fun _ _ _ h => h) : wpAnyLast P md ops Q S ds (fuel + 1) l a w :=
  pure_ l' hi hN hc hQ (Or.inl ⟨hw, hy⟩) ha h
theorem poff {i : Nat} {N : Option Tmp} {oi : Oper} {fuel : Nat} {l : Array Bool} {a a' : Act} {w : World} (l' : Array Bool) (hc : anyB md ops l l' i = true) (h : wpAnyLast P md ops Q S ds fuel l' a' w)
    (hi : ops[i]? = some oi := by rfl) (hN : oi.dst = N := by rfl) (hw : Region.wanted oi (yielded ops a.tmps) = false := by rfl)
    (ha : a.put N undef = a' := by simp only [Act.put, List.setIfInBounds_toArray, List.set_cons_zero, List.set_cons_succ, i64_w, i32_w]; rfl) (hQ : ∀ c a w, Q (.panic c) (a.put oi.dst undef) w → Q (.panic c) a w := by exact fun _ _ _ h => h) : wpAnyLast P md ops Q S ds (fuel + 1) l a w :=
  pure_ l' hi hN hc hQ (Or.inr ⟨hw, rfl⟩) ha h
end
end Go.Proofs.YtongmkdapcgmfaaW.PrintWords
