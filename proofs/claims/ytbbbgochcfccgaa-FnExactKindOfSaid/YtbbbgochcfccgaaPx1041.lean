-- Written by a program of this session (wip/tool).
import Derived.Shelf.Abstract
import Derived.Test.YtbbbgochcfccgaaPx0
import Derived.Test.YtbbbgochcfccgaaPx1013
namespace Go.Proofs.Ytbbbgochcfccgaa.P
open Go.RowKit Go.Proofs.YtbbbgochcfccgaaW.PrintWords Go.Proofs.YtbbbgochcfccgaaW.PrintLast Go.Proofs.YtbbbgochcfccgaaW.PrintMore
attribute [local go_sem] max2_int min2_int max_two min_two max_three min_three max_four min_four   -- for this text's walks alone
set_option linter.unusedVariables false
set_option linter.unusedSimpArgs false

/-! ### impl_Schema_kind: function 41 -/
def allK (q : Int) : List Int → Bool
  | [] => true
  | x :: l => if x = q then allK q l else false
/-- What the kinds of the parts make of the whole. -/
def impl_Schema_kind.fin (k : Nat) (st sr : List (S91)) (kd : Int) (nm : ByteArray) (ks : List Int) : Option (Int) :=
  if kd = 2 ∨ kd = 6 then some 2 else if kd = 3 ∨ kd = 4 ∨ kd = 5 then some 3 else if kd = 7 then impl_kindIn.f k sr nm
  else if kd = 8 then (if allK 3 ks = true then impl_kindIn.f k st nm else some 0)
  else if kd = 9 ∨ kd = 12 then some (if allK 3 ks = true then 1 else 0)
  else if kd = 10 then (if 1 < (ks.length : Int) then some (if rd ks 0 = rd ks 1 then 1 else 0) else none)
  else if kd = 11 then some (if allK 2 ks = true then 1 else 0)
  else if kd = 13 ∨ kd = 14 ∨ kd = 15 then some (if allK 1 ks = true then 1 else 0) else some 1
mutual
def impl_Schema_kind.l0 : Nat → List (S91) → List (S91) → Int → ByteArray → List (S29) → Int → List Int → Option (Int)
 | 0, _, _, _, _, _, _, _ => none
 | k + 1, st, sr, kd, nm, l, x, ks => if x < (l.length : Int) then (if 0 ≤ x then ((impl_Schema_kind.g k st sr ((rd_T29 l x).f0) ((rd_T29 l x).f2) ((rd_T29 l x).f3)).bind fun t => (if t = 0 then (some 0) else (if ks.length < 17592186044416 then (impl_Schema_kind.l0 k st sr kd nm l (wrap64 (x + 1)) (ks ++ [t])) else (none)))) else (none)) else (impl_Schema_kind.fin k st sr kd nm ks)
def impl_Schema_kind.g : Nat → List (S91) → List (S91) → Int → ByteArray → List (S29) → Option (Int)
 | 0, _, _, _, _, _ => none
 | k + 1, st, sr, kd, nm, l => (impl_Schema_kind.l0 k st sr kd nm l 0 [])
end
def impl_Schema_kind.f (k : Nat) (l0_0 : List (S91)) (l0_1 : List (S91)) (a1_0 : Int) (a1_1 : Int) (a1_2 : ByteArray) (l1_3 : List (S29)) : Option (Int) := impl_Schema_kind.g k l0_0 l0_1 a1_0 a1_2 l1_3
theorem impl_Schema_kind.fin_mono (k : Nat) (st sr : List (S91)) (kd : Int) (nm : ByteArray) (ks : List Int) : LeO (impl_Schema_kind.fin k st sr kd nm ks) (impl_Schema_kind.fin (k + 1) st sr kd nm ks) := by
  unfold impl_Schema_kind.fin
  repeat' first
  | exact impl_kindIn.mono _ _ _
  | exact LeO.refl _
  | refine LeO.ite ?_ ?_
theorem impl_Schema_kind.mono_l : ∀ k, (∀ y0 y1 y2 y3 y4 y5 y6, LeO (impl_Schema_kind.l0 k y0 y1 y2 y3 y4 y5 y6) (impl_Schema_kind.l0 (k + 1) y0 y1 y2 y3 y4 y5 y6)) ∧ (∀ y0 y1 y2 y3 y4, LeO (impl_Schema_kind.g k y0 y1 y2 y3 y4) (impl_Schema_kind.g (k + 1) y0 y1 y2 y3 y4))
 | 0 => ⟨fun _ _ _ _ _ _ _ r h => by simp [impl_Schema_kind.l0] at h, fun _ _ _ _ _ r h => by simp [impl_Schema_kind.g] at h⟩
 | k + 1 => by
  obtain ⟨ih0, ih1⟩ := impl_Schema_kind.mono_l k
  refine ⟨?_, ?_⟩
  · intro y0 y1 y2 y3 y4 y5 y6
    unfold impl_Schema_kind.l0
    repeat' first
    | exact ih0 _ _ _ _ _ _ _
    | exact ih1 _ _ _ _ _
    | exact impl_Schema_kind.fin_mono _ _ _ _ _ _
    | exact LeO.refl _
    | refine LeO.ite ?_ ?_
    | refine LeO.bind ?_ (fun _ => ?_)
  · intro y0 y1 y2 y3 y4
    unfold impl_Schema_kind.g
    exact ih0 _ _ _ _ _ _ _
theorem impl_Schema_kind.monoG : ∀ a0 a1 a2 a3 a4 k, LeO (impl_Schema_kind.g k a0 a1 a2 a3 a4) (impl_Schema_kind.g (k + 1) a0 a1 a2 a3 a4) := fun a0 a1 a2 a3 a4 k => (impl_Schema_kind.mono_l k).2 a0 a1 a2 a3 a4
/-- The function literal. -/
theorem impl_Schema_kind.lit {w : World} {q : Int} {ks : List Int} {A : Option Addr} {c gk : Nat} (hw : w.heap[gk]? = some (.cells #[.slice A ks.length c] 89 (0, 0))) (hC : Kd.C (Kd.int .i64) w A ks.length ks) :
    Calls Try.prog 70 #[.int .i64 q, .pointer (some ⟨gk, 0, none⟩)] w fun e w' => e = .returned (.bool (allK q ks)) ∧ Below w.heap.size w w' := by
  have HC := Aside0.mk hC
  have HN := Aside0.mk hC.2.1
  have h1 : w.cell? ⟨gk, 0, none⟩ = some (.slice A ks.length c) := (blk_cell hw 0).trans rfl
  clear hw hC
  go_enter Try.func70, Try.ntmps70
  go_wp2
  go_loopg [5, 8] ks.length (fun gk _ v8 wr => ∃ (x : Int), v8 = .int .i64 x ∧ Aside0 (0 ≤ x) ∧ Aside0 ((gk : Int) + x = ks.length) ∧ Aside0 (allK q (ks.drop x.toNat) = allK q ks) ∧ Aside0 (Below w.heap.size w wr))
  case atStart => exact ⟨0, rfl, ⟨Int.le_refl _⟩, ⟨by omega⟩, ⟨rfl⟩, ⟨Below.refl _ w⟩⟩
  case round =>
    clear h1
    obtain ⟨x, rfl, H0, HQ, HA, HB⟩ := hrel
    have i0 := H0.out
    by_cases c1 : x < (ks.length : Int)
    · obtain ⟨ad, e3, hx⟩ := Kd.at_int (Kd.C_below HC.out HB.out) x i0 c1
      cases e3
      have hd : ks.drop x.toNat = rd ks x :: ks.drop (x + 1).toNat := by
        have hlt : x.toNat < ks.length := by omega
        rw [List.drop_eq_getElem_cons hlt, show (x + 1).toNat = x.toNat + 1 by omega]
        congr 1
        show _ = ks.getD x.toNat 0
        rw [List.getD_eq_getElem?_getD, List.getElem?_eq_getElem hlt, Option.getD_some]
      have hA := HA.out
      rw [hd, allK] at hA
      have hn := HN.out
      have c1b := decide_eq_true c1
      replace i0 := eq_true i0
      replace c1 := eq_true c1
      by_cases c2 : rd ks x = q
      · obtain ⟨c2b0, c2b1⟩ := eqY c2
        rw [if_pos c2] at hA
        have HA' := Aside0.mk hA
        clear hA hd c2
        go_wp2
        go_roundg (gk - 1)
        case measure => have := HQ.out; have := of_eq_true c1; omega
        case rel => exact ⟨x + 1, by rw [show wrap64 (x + 1) = x + 1 by have := H0.out; have := of_eq_true c1; unfold wrap64; omega], ⟨by have := H0.out; omega⟩, ⟨by have := HQ.out; have := of_eq_true c1; have := H0.out; omega⟩, HA', HB⟩
      · obtain ⟨c2b0, c2b1⟩ := eqN c2
        rw [if_neg c2] at hA
        have HA' := Aside0.mk hA
        clear hA hd c2
        go_wp2
        go_ret
        exact ⟨by rw [← HA'.out]; rfl, HB.out⟩
    · have hA := HA.out
      rw [List.drop_of_length_le (by omega), allK] at hA
      have HA' := Aside0.mk hA
      clear hA
      have c1b := decide_eq_false c1
      go_wp2
      go_ret
      exact ⟨by rw [← HA'.out]; rfl, HB.out⟩
set_option maxHeartbeats 4000000 in
theorem impl_Schema_kind.callsG (k : Nat) : ∀ (A0_0 : Option Addr) (c0_0 : Nat) (l0_0 : List (S91)) (A0_1 : Option Addr) (c0_1 : Nat) (l0_1 : List (S91)) (a1_0 : Int) (a1_1 : Int) (a1_2 : ByteArray) (A1_3 : Option Addr) (c1_3 : Nat) (l1_3 : List (S29)) (r : Int) (w : World) (hr0_0 : Kd.C k91 w A0_0 l0_0.length l0_0) (hc0_0 : l0_0.length ≤ c0_0) (hr0_1 : Kd.C k91 w A0_1 l0_1.length l0_1) (hc0_1 : l0_1.length ≤ c0_1) (hr1_3 : Kd.C k29 w A1_3 l1_3.length l1_3) (hc1_3 : l1_3.length ≤ c1_3) (h : impl_Schema_kind.g k l0_0 l0_1 a1_0 a1_2 l1_3 = some r),
    Calls Try.prog 41 #[.agg #[.slice A0_0 l0_0.length c0_0, .slice A0_1 l0_1.length c0_1], .agg #[.int .i64 a1_0, .int .i64 a1_1, .string a1_2, .slice A1_3 l1_3.length c1_3]] w fun e w' => e = .returned (.int .i64 r) ∧ Below w.heap.size w w' := by
  induction k using Nat.strongRecOn with
  | _ k ih =>
  intro A0 c0 st A1 c1 sr kd nb nm A c l r w h00 h01 h10 h11 h20 h21 h
  have eg : ∀ (args : Array Value) (w : World), (callFunc 70 args).run Try.prog w = .ok (.enter 70 args) w := enters_ Try.func70 (by kernel_rfl) rfl
  cases k with
  | zero => exact absurd h (by simp [impl_Schema_kind.g])
  | succ k =>
  simp only [impl_Schema_kind.g] at h
  have H := Aside0.mk h
  have HC0 := Aside0.mk h00
  have HL0 := Aside0.mk h01
  have HC1 := Aside0.mk h10
  have HL1 := Aside0.mk h11
  have HC := Aside0.mk h20
  have HL := Aside0.mk h21
  have HN := Aside0.mk h20.2.1
  have HB := Aside0.mk (Below.refl w.heap.size w)
  clear h h00 h01 h10 h11 h20 h21
  go_enter Try.func41, Try.ntmps41
  go_wp2_with (first
    | ((with_reducible refine gate_dst (N := 2) rfl ?_); refine bx 2 #[.slice A0 st.length c0, .slice A1 sr.length c1] 40 ?_; intro gs hg w1 hbox hb; have BS := Aside0.mk hbox; have GS := gwB HB hg; replace HB := bS HB hb; clear hb hbox hg)
    | ((with_reducible refine gate_dst (N := 3) rfl ?_); refine bx 3 #[.int .i64 kd, .int .i64 nb, .string nm, .slice A l.length c] 29 ?_; intro ge hg w2 hbox hb; have BE := Aside0.mk hbox; have GE := gwB HB hg; replace BS := bB BS hb; replace HB := bS HB hb; clear hb hbox hg)
    | ((with_reducible refine gate_dst (N := 5) rfl ?_); refine bx 5 #[.slice none 0 0] 89 ?_; intro gv hg w3 hbox hb; have BK := Aside0.mk hbox; have GK := gwB HB hg; have NS := nbR BS hg; have NE := nbR BE hg; replace BS := bB BS hb; replace BE := bB BE hb; replace HB := bS HB hb; clear hb hbox hg; obtain ⟨hcz_0, hcz_1, hcz_2, hcz_3⟩ := cs4 BE.out))
  clear hcz_0 hcz_1 hcz_2 hcz_3
  have NS' : Aside0 (gs ≠ gv) := ⟨fun e => NS.out e.symm⟩
  have NE' : Aside0 (ge ≠ gv) := ⟨fun e => NE.out e.symm⟩
  go_loopg [14] k (fun kq v14 w' => ∃ (x : Int) (ks : List Int) (u : Value), v14 = .int .i64 x ∧ Aside0 (impl_Schema_kind.l0 kq st sr kd nm l x ks = some r) ∧ Aside0 (kq ≤ k) ∧ Aside0 (w'.heap[gs]? = some (.cells #[.slice A0 st.length c0, .slice A1 sr.length c1] 40 (0, 0))) ∧ Aside0 (w'.heap[ge]? = some (.cells #[.int .i64 kd, .int .i64 nb, .string nm, .slice A l.length c] 29 (0, 0))) ∧ Aside0 (w'.heap[gv]? = some (.cells #[u] 89 (0, 0))) ∧ Aside0 (Kd.R (Kd.int .i64) 3 w' w.heap.size (fun _ => True) u ks) ∧ Aside0 (Below w.heap.size w w'))
  case atStart => exact ⟨0, [], .slice none 0 0, rfl, H, ⟨Nat.le_refl _⟩, BS, BE, BK, ⟨Kd.R_nil _ _ _ _ _⟩, HB⟩
  case round =>
    clear H BS BE BK HB
    obtain ⟨x, ks, u, rfl, H, HQ, BS, BE, BK, HO, HB⟩ := hrel
    cases gk with
    | zero => exact absurd H.out (by simp [impl_Schema_kind.l0])
    | succ q =>
      have h := H.out
      clear H
      simp only [impl_Schema_kind.l0] at h
      obtain ⟨Ak, ck, eu⟩ := Kd.R_slice HO.out
      subst eu
      by_cases c1 : x < (l.length : Int)
      · rw [if_pos c1] at h
        by_cases c2 : 0 ≤ x
        · rw [if_pos c2] at h
          obtain ⟨t1, h1, h2⟩ := Option.bind_eq_some_iff.mp h
          clear h
          have AT := Aside0.mk h1
          have hih := ih q (by have := HQ.out; omega)
          have HI := Aside0.mk hih
          clear ih hih h1
          obtain ⟨ad, A3, c3, e3, hx0, hx1, hx2, hx3, hl3, hi3⟩ := at_T29 HC.out x c2 c1
          cases e3
          have HC3 := Aside0.mk hi3
          have HL3 := Aside0.mk hl3
          clear hi3 hl3
          replace hx0 := (HB.out.cell (World.block_lt_of_cell? w _ hx0)).trans hx0
          replace hx1 := (HB.out.cell (World.block_lt_of_cell? w _ hx1)).trans hx1
          replace hx2 := (HB.out.cell (World.block_lt_of_cell? w _ hx2)).trans hx2
          replace hx3 := (HB.out.cell (World.block_lt_of_cell? w _ hx3)).trans hx3
          have c1b := decide_eq_true c1
          replace c1 := eq_true c1
          replace c2 := eq_true c2
          obtain ⟨hcs_0, hcs_1⟩ := cs2 BS.out
          by_cases c4 : t1 = 0
          · rw [if_pos c4] at h2
            obtain rfl := Option.some.inj h2
            obtain ⟨c4b0, c4b1⟩ := eqY c4
            clear h2
            go_wp2_with ((with_reducible refine gate_dst (N := 7) rfl ?_); (try (refine gate_guard (by rfl) ?_; dsimp only)); refine bx 7 #[.int .i64 0, .int .i64 0, .string (⟨#[]⟩ : ByteArray), .slice none 0 0] 29 ?_; intro gp hg w4 hbox hb; have BP := Aside0.mk hbox; have GP := gwB HB hg; have NB1 := nbL BS hg; have NB2 := nbL BE hg; have NB3 := nbL BK hg; replace BS := bB BS hb; replace BE := bB BE hb; replace BK := bB BK hb; replace HO := Aside0.mk (Kd.R_below (by exact Kd.xR HO.out) hb); replace HB := bS HB hb; clear hb hbox hg hcs_0 hcs_1; obtain ⟨hcz_0, hcz_1, hcz_2, hcz_3⟩ := cs4 BP.out; obtain ⟨hfz_0, hfz_1, hfz_2, hfz_3⟩ := fz4 BP.out; have hnb := NB1.out; have hnc := NB2.out; have hnd := NB3.out; obtain ⟨hcs_0, hcs_1⟩ := cs2 BS.out; have HOp := Aside0.mk (Kd.R_types HO.out BP.out (by decide)))
            refine (HI.out _ _ _ _ _ _ _ _ _ _ _ _ _ _ (Kd.C_below HC0.out (by exact bw HB.out)) HL0.out (Kd.C_below HC1.out (by exact bw HB.out)) HL1.out (Kd.C_below HC3.out (by exact bw HB.out)) HL3.out AT.out).mono ?_
            rintro e w5 ⟨rfl, hb⟩
            replace BS := Aside0.mk (blk_below (bo BS) hb)
            replace BE := Aside0.mk (blk_below (bo BE) hb)
            replace BK := Aside0.mk (blk_below (bo BK) hb)
            replace HO : Aside0 (Kd.R (Kd.int .i64) 3 w5 w.heap.size (fun _ => True) (.slice Ak ks.length ck) ks) := ⟨Kd.R_mono (ok := fun k => True ∧ k ≠ gp) (Kd.R_below (by repeat (first | exact HOp.out | refine Kd.R_far ?_ (fun k hk => hk.2) _)) hb) (fun _ _ => trivial)⟩
            replace HB := bS HB hb
            clear hb
            have hck : w5.cell? ⟨gv, 0, none⟩ = some (.slice Ak ks.length ck) := (blk_cell BK.out 0).trans rfl
            have hfk := blk_frozen BK.out 0
            go_wp2
            go_ret
            exact ⟨by first | rfl | (rw [c4]; rfl), HB.out⟩
          · rw [if_neg c4] at h2
            obtain ⟨c4b0, c4b1⟩ := eqN c4
            by_cases c5 : ks.length < 17592186044416
            · rw [if_pos c5] at h2
              have HQ2 := Aside0.mk h2
              have LM := Aside0.mk c5
              clear h2 c5
              go_wp2_with ((with_reducible refine gate_dst (N := 7) rfl ?_); (try (refine gate_guard (by rfl) ?_; dsimp only)); refine bx 7 #[.int .i64 0, .int .i64 0, .string (⟨#[]⟩ : ByteArray), .slice none 0 0] 29 ?_; intro gp hg w4 hbox hb; have BP := Aside0.mk hbox; have GP := gwB HB hg; have NB1 := nbL BS hg; have NB2 := nbL BE hg; have NB3 := nbL BK hg; replace BS := bB BS hb; replace BE := bB BE hb; replace BK := bB BK hb; replace HO := Aside0.mk (Kd.R_below (by exact Kd.xR HO.out) hb); replace HB := bS HB hb; clear hb hbox hg hcs_0 hcs_1; obtain ⟨hcz_0, hcz_1, hcz_2, hcz_3⟩ := cs4 BP.out; obtain ⟨hfz_0, hfz_1, hfz_2, hfz_3⟩ := fz4 BP.out; have hnb := NB1.out; have hnc := NB2.out; have hnd := NB3.out; obtain ⟨hcs_0, hcs_1⟩ := cs2 BS.out; have HOp := Aside0.mk (Kd.R_types HO.out BP.out (by decide)))
              refine (HI.out _ _ _ _ _ _ _ _ _ _ _ _ _ _ (Kd.C_below HC0.out (by exact bw HB.out)) HL0.out (Kd.C_below HC1.out (by exact bw HB.out)) HL1.out (Kd.C_below HC3.out (by exact bw HB.out)) HL3.out AT.out).mono ?_
              rintro e w5 ⟨rfl, hb⟩
              replace BS := Aside0.mk (blk_below (bo BS) hb)
              replace BE := Aside0.mk (blk_below (bo BE) hb)
              replace BK := Aside0.mk (blk_below (bo BK) hb)
              replace HO : Aside0 (Kd.R (Kd.int .i64) 3 w5 w.heap.size (fun _ => True) (.slice Ak ks.length ck) ks) := ⟨Kd.R_mono (ok := fun k => True ∧ k ≠ gp) (Kd.R_below (by repeat (first | exact HOp.out | refine Kd.R_far ?_ (fun k hk => hk.2) _)) hb) (fun _ _ => trivial)⟩
              replace HB := bS HB hb
              clear hb
              have hck : w5.cell? ⟨gv, 0, none⟩ = some (.slice Ak ks.length ck) := (blk_cell BK.out 0).trans rfl
              have hfk := blk_frozen BK.out 0
              go_wp2_with ((with_reducible refine gate_builtin (b := .append) (xs := #[.tmp 23, .tmp 25]) rfl ?_); at_builtin; refine Kd.R_append (Kd.int .i64) (w0 := w) w.heap.size rfl (.tmp 23) (.tmp 25) 89 3 (.int .i64 0) 8 rfl Try.underlying89 info3 rfl (by decide) (by omega) (.slice Ak ks.length ck) ks t1 [.int .i64 t1] (fun _ => True) (fun _ => False) rfl rfl ?aP (fun _ hk => hk.elim) ?aF ?aO ?aB ?aS ?aL ?_; (case aP => exact rfl); (case aB => exact (by exact bw HB.out)); (case aF => exact (fun _ _ => trivial)); (case aO => exact (by exact Kd.xR HO.out)); (case aS => exact (below_size (by exact bw HB.out))); (case aL => have := LM.out; omega); intro v6 w6 ho hb hg hat; obtain ⟨A6, c6, e6⟩ := Kd.R_slice ho; subst e6; replace BS := Aside0.mk (blk_grown BS.out hg (Kd.R_ne HO.out BS.out (by decide))); replace BE := Aside0.mk (blk_grown BE.out hg (Kd.R_ne HO.out BE.out (by decide))); replace BK := Aside0.mk (blk_grown BK.out hg (Kd.R_ne HO.out BK.out (by decide))); replace HB := Aside0.mk hb; have HO6 := Aside0.mk ho; have HO7 := Aside0.mk (Kd.R_types ho BK.out (by decide)); clear HO hg hat ho hb hck hfk; have hck : w6.cell? ⟨gv, 0, none⟩ = some (.slice Ak ks.length ck) := (blk_cell BK.out 0).trans rfl; have hfk := blk_frozen BK.out 0)
              go_roundg q
              case measure => have := HQ.out; omega
              case rel =>
                have HO8 := HO7.out
                rw [show (ks ++ [t1]).length = ks.length + 1 by simp] at HO8
                refine ⟨_, ks ++ [t1], _, rfl, HQ2, ⟨by have := HQ.out; omega⟩, ⟨bo BS⟩, ⟨bo BE⟩, ⟨bp BK⟩, ⟨?_⟩, ⟨by exact bw HB.out⟩⟩
                exact Kd.R_mono (ok := fun k => True ∧ k ≠ gv) (Kd.R_far HO8 (fun k hk => hk.2) _) (fun _ _ => trivial)
            · rw [if_neg c5] at h2
              cases h2
        · rw [if_neg c2] at h
          cases h
      · rw [if_neg c1] at h
        have c1b := decide_eq_false c1
        clear ih
        have HX := Aside0.mk (Kd.R_reads' HO.out).2.2
        obtain ⟨hcz_0, hcz_1, hcz_2, hcz_3⟩ := cs4 BE.out
        obtain ⟨hcs_0, hcs_1⟩ := cs2 BS.out
        have hck := (blk_cell BK.out 0)
        unfold impl_Schema_kind.fin at h
        by_cases k2 : kd = 2
        · subst k2
          have hr : r = 2 := by simpa using h.symm
          clear h
          subst hr
          go_wp2
          go_ret
          exact ⟨rfl, by exact bw HB.out⟩
        by_cases k6 : kd = 6
        · subst k6
          have hr : r = 2 := by simpa using h.symm
          clear h
          subst hr
          go_wp2
          go_ret
          exact ⟨rfl, by exact bw HB.out⟩
        by_cases k3 : kd = 3
        · subst k3
          have hr : r = 3 := by simpa using h.symm
          clear h
          subst hr
          go_wp2
          go_ret
          exact ⟨rfl, by exact bw HB.out⟩
        by_cases k4 : kd = 4
        · subst k4
          have hr : r = 3 := by simpa using h.symm
          clear h
          subst hr
          go_wp2
          go_ret
          exact ⟨rfl, by exact bw HB.out⟩
        by_cases k5 : kd = 5
        · subst k5
          have hr : r = 3 := by simpa using h.symm
          clear h
          subst hr
          go_wp2
          go_ret
          exact ⟨rfl, by exact bw HB.out⟩
        by_cases k7 : kd = 7
        · subst k7
          have hk : impl_kindIn.f q sr nm = some r := by simpa using h
          clear h
          have HK := Aside0.mk hk
          clear hk
          go_wp2_with (go_at_call 69; refine (impl_kindIn.calls q _ _ sr nm r _ (Kd.C_below HC1.out (by exact bw HB.out)) HL1.out HK.out).mono ?_; rintro e w7 ⟨rfl, hb⟩; replace HB := bS HB hb)
          go_ret
          exact ⟨rfl, HB.out⟩
        by_cases k8 : kd = 8
        · subst k8
          cases ha : allK 3 ks with
          | true =>
            have hk : impl_kindIn.f q st nm = some r := by simpa [ha] using h
            clear h
            have HK := Aside0.mk hk
            clear hk
            go_wp2_with (first | (go_at_fn 70; refine (impl_Schema_kind.lit (q := 3) BK.out HX.out).mono ?_; rintro e w7 ⟨rfl, hb⟩; rw [ha]; replace BS := bB BS hb; replace BE := bB BE hb; replace HB := bS HB hb; clear hb hcz_0 hcz_1 hcz_2 hcz_3 hcs_0 hcs_1 hck; obtain ⟨hcz_0, hcz_1, hcz_2, hcz_3⟩ := cs4 BE.out; obtain ⟨hcs_0, hcs_1⟩ := cs2 BS.out) | (go_at_call 69; refine (impl_kindIn.calls q _ _ st nm r _ (Kd.C_below HC0.out (by exact bw HB.out)) HL0.out HK.out).mono ?_; rintro e w7 ⟨rfl, hb⟩; replace HB := bS HB hb))
            go_ret
            exact ⟨rfl, HB.out⟩
          | false =>
            have hr : r = 0 := by simpa [ha] using h.symm
            clear h
            subst hr
            go_wp2_with (go_at_fn 70; refine (impl_Schema_kind.lit (q := 3) BK.out HX.out).mono ?_; rintro e w7 ⟨rfl, hb⟩; rw [ha]; replace BS := bB BS hb; replace BE := bB BE hb; replace HB := bS HB hb; clear hb hcz_0 hcz_1 hcz_2 hcz_3 hcs_0 hcs_1 hck; obtain ⟨hcz_0, hcz_1, hcz_2, hcz_3⟩ := cs4 BE.out; obtain ⟨hcs_0, hcs_1⟩ := cs2 BS.out)
            go_ret
            exact ⟨rfl, by exact bw HB.out⟩
        by_cases k9 : kd = 9
        · subst k9
          cases ha : allK 3 ks with
          | true =>
            have hr : r = 1 := by simpa [ha] using h.symm
            clear h
            subst hr
            go_wp2_with (go_at_fn 70; refine (impl_Schema_kind.lit (q := 3) BK.out HX.out).mono ?_; rintro e w7 ⟨rfl, hb⟩; rw [ha]; replace BS := bB BS hb; replace BE := bB BE hb; replace HB := bS HB hb; clear hb hcz_0 hcz_1 hcz_2 hcz_3 hcs_0 hcs_1 hck; obtain ⟨hcz_0, hcz_1, hcz_2, hcz_3⟩ := cs4 BE.out; obtain ⟨hcs_0, hcs_1⟩ := cs2 BS.out)
            go_ret
            exact ⟨rfl, by exact bw HB.out⟩
          | false =>
            have hr : r = 0 := by simpa [ha] using h.symm
            clear h
            subst hr
            go_wp2_with (go_at_fn 70; refine (impl_Schema_kind.lit (q := 3) BK.out HX.out).mono ?_; rintro e w7 ⟨rfl, hb⟩; rw [ha]; replace BS := bB BS hb; replace BE := bB BE hb; replace HB := bS HB hb; clear hb hcz_0 hcz_1 hcz_2 hcz_3 hcs_0 hcs_1 hck; obtain ⟨hcz_0, hcz_1, hcz_2, hcz_3⟩ := cs4 BE.out; obtain ⟨hcs_0, hcs_1⟩ := cs2 BS.out)
            go_ret
            exact ⟨rfl, by exact bw HB.out⟩
        by_cases k12 : kd = 12
        · subst k12
          cases ha : allK 3 ks with
          | true =>
            have hr : r = 1 := by simpa [ha] using h.symm
            clear h
            subst hr
            go_wp2_with (go_at_fn 70; refine (impl_Schema_kind.lit (q := 3) BK.out HX.out).mono ?_; rintro e w7 ⟨rfl, hb⟩; rw [ha]; replace BS := bB BS hb; replace BE := bB BE hb; replace HB := bS HB hb; clear hb hcz_0 hcz_1 hcz_2 hcz_3 hcs_0 hcs_1 hck; obtain ⟨hcz_0, hcz_1, hcz_2, hcz_3⟩ := cs4 BE.out; obtain ⟨hcs_0, hcs_1⟩ := cs2 BS.out)
            go_ret
            exact ⟨rfl, by exact bw HB.out⟩
          | false =>
            have hr : r = 0 := by simpa [ha] using h.symm
            clear h
            subst hr
            go_wp2_with (go_at_fn 70; refine (impl_Schema_kind.lit (q := 3) BK.out HX.out).mono ?_; rintro e w7 ⟨rfl, hb⟩; rw [ha]; replace BS := bB BS hb; replace BE := bB BE hb; replace HB := bS HB hb; clear hb hcz_0 hcz_1 hcz_2 hcz_3 hcs_0 hcs_1 hck; obtain ⟨hcz_0, hcz_1, hcz_2, hcz_3⟩ := cs4 BE.out; obtain ⟨hcs_0, hcs_1⟩ := cs2 BS.out)
            go_ret
            exact ⟨rfl, by exact bw HB.out⟩
        by_cases k10 : kd = 10
        · subst k10
          by_cases k0 : 1 < (ks.length : Int)
          · obtain ⟨ad0, e0, hx0⟩ := Kd.at_int HX.out 0 (by omega) (by omega)
            cases e0
            obtain ⟨ad1, e1, hx1⟩ := Kd.at_int HX.out 1 (by omega) (by omega)
            obtain rfl : ad0 = ad1 := (by injection e1)
            (try rw [show ((0 : Int)).toNat = 0 from rfl] at hx0)
            (try rw [Addr.add_zero'] at hx0)
            (try simp only [show ((1 : Int)).toNat = 1 from rfl, Nat.reduceEqDiff, Go.Addr.add, ↓reduceIte] at hx1)
            replace hck : wr.cell? ⟨gv, 0, none⟩ = some (.slice (some ad0) ks.length ck) := hck.trans rfl
            have q0 : (0 < ks.length) = True := eq_true (by omega)
            have q1 : (1 < ks.length) = True := eq_true (by omega)
            have q2 : ((0 : Int) < (ks.length : Int)) = True := eq_true (by omega)
            have q3 : ((1 : Int) < (ks.length : Int)) = True := eq_true k0
            by_cases k1 : rd ks 0 = rd ks 1
            · have hr : r = 1 := by simpa [k0, k1] using h.symm
              obtain ⟨k1b0, k1b1⟩ := eqY k1
              clear h k1
              subst hr
              go_wp2
              replace BK := Aside0.mk (blk_drew BK.out)
              replace HB := Aside0.mk (below_drew1 HB.out)
              refine start_ (n := 8) (S := fun w' => w'.cell? ⟨gv, 0, none⟩ = some (.slice (some ad0) ks.length ck) ∧ w'.cell? ad0 = some (.int .i64 (rd ks 0)) ∧ w'.cell? ⟨ad0.block, ad0.off + 1, none⟩ = some (.int .i64 (rd ks 1))) (ds := []) (mB 8 0) (by kernel_rfl) rfl rfl ⟨hck, hx0, hx1⟩ (fun hHeld => ?_)
              refine with_tabW (T := rtab .any (opsOf Try.f41 30)) (B := [0, 1, 3, 0, 8, 24, 63, 127]) (by rfl) (by kernel_rfl) (fun HT_ HW_ => ?_)
              refine tk 0 62 HT_.out HW_.out hHeld ?_
              refine pn 1 63 HT_.out ?_
              refine tk 2 64 HT_.out HW_.out hHeld ?_
              refine tk 3 65 HT_.out HW_.out hHeld ?_
              refine pn 4 66 HT_.out ?_
              refine tk 5 67 HT_.out HW_.out hHeld ?_
              refine pn 6 68 HT_.out ?_
              refine pn 7 10 HT_.out ?_
              refine done_ (done_of HT_.out (by kernel_rfl)) ?_
              go_wp2
              go_ret
              exact ⟨rfl, by exact bw HB.out⟩
            · have hr : r = 0 := by simpa [k0, k1] using h.symm
              obtain ⟨k1b0, k1b1⟩ := eqN k1
              clear h k1
              subst hr
              go_wp2
              replace BK := Aside0.mk (blk_drew BK.out)
              replace HB := Aside0.mk (below_drew1 HB.out)
              refine start_ (n := 8) (S := fun w' => w'.cell? ⟨gv, 0, none⟩ = some (.slice (some ad0) ks.length ck) ∧ w'.cell? ad0 = some (.int .i64 (rd ks 0)) ∧ w'.cell? ⟨ad0.block, ad0.off + 1, none⟩ = some (.int .i64 (rd ks 1))) (ds := []) (mB 8 0) (by kernel_rfl) rfl rfl ⟨hck, hx0, hx1⟩ (fun hHeld => ?_)
              refine with_tabW (T := rtab .any (opsOf Try.f41 30)) (B := [0, 1, 3, 0, 8, 24, 63, 127]) (by rfl) (by kernel_rfl) (fun HT_ HW_ => ?_)
              refine tk 0 62 HT_.out HW_.out hHeld ?_
              refine pn 1 63 HT_.out ?_
              refine tk 2 64 HT_.out HW_.out hHeld ?_
              refine tk 3 65 HT_.out HW_.out hHeld ?_
              refine pn 4 66 HT_.out ?_
              refine tk 5 67 HT_.out HW_.out hHeld ?_
              refine pn 6 68 HT_.out ?_
              refine pn 7 10 HT_.out ?_
              refine done_ (done_of HT_.out (by kernel_rfl)) ?_
              go_wp2
              go_ret
              exact ⟨rfl, by exact bw HB.out⟩
          · simp [k0] at h
        by_cases k11 : kd = 11
        · subst k11
          cases ha : allK 2 ks with
          | true =>
            have hr : r = 1 := by simpa [ha] using h.symm
            clear h
            subst hr
            go_wp2_with (go_at_fn 70; refine (impl_Schema_kind.lit (q := 2) BK.out HX.out).mono ?_; rintro e w7 ⟨rfl, hb⟩; rw [ha]; replace BS := bB BS hb; replace BE := bB BE hb; replace HB := bS HB hb; clear hb hcz_0 hcz_1 hcz_2 hcz_3 hcs_0 hcs_1 hck; obtain ⟨hcz_0, hcz_1, hcz_2, hcz_3⟩ := cs4 BE.out; obtain ⟨hcs_0, hcs_1⟩ := cs2 BS.out)
            go_ret
            exact ⟨rfl, by exact bw HB.out⟩
          | false =>
            have hr : r = 0 := by simpa [ha] using h.symm
            clear h
            subst hr
            go_wp2_with (go_at_fn 70; refine (impl_Schema_kind.lit (q := 2) BK.out HX.out).mono ?_; rintro e w7 ⟨rfl, hb⟩; rw [ha]; replace BS := bB BS hb; replace BE := bB BE hb; replace HB := bS HB hb; clear hb hcz_0 hcz_1 hcz_2 hcz_3 hcs_0 hcs_1 hck; obtain ⟨hcz_0, hcz_1, hcz_2, hcz_3⟩ := cs4 BE.out; obtain ⟨hcs_0, hcs_1⟩ := cs2 BS.out)
            go_ret
            exact ⟨rfl, by exact bw HB.out⟩
        by_cases k13 : kd = 13
        · subst k13
          cases ha : allK 1 ks with
          | true =>
            have hr : r = 1 := by simpa [ha] using h.symm
            clear h
            subst hr
            go_wp2_with (go_at_fn 70; refine (impl_Schema_kind.lit (q := 1) BK.out HX.out).mono ?_; rintro e w7 ⟨rfl, hb⟩; rw [ha]; replace BS := bB BS hb; replace BE := bB BE hb; replace HB := bS HB hb; clear hb hcz_0 hcz_1 hcz_2 hcz_3 hcs_0 hcs_1 hck; obtain ⟨hcz_0, hcz_1, hcz_2, hcz_3⟩ := cs4 BE.out; obtain ⟨hcs_0, hcs_1⟩ := cs2 BS.out)
            go_ret
            exact ⟨rfl, by exact bw HB.out⟩
          | false =>
            have hr : r = 0 := by simpa [ha] using h.symm
            clear h
            subst hr
            go_wp2_with (go_at_fn 70; refine (impl_Schema_kind.lit (q := 1) BK.out HX.out).mono ?_; rintro e w7 ⟨rfl, hb⟩; rw [ha]; replace BS := bB BS hb; replace BE := bB BE hb; replace HB := bS HB hb; clear hb hcz_0 hcz_1 hcz_2 hcz_3 hcs_0 hcs_1 hck; obtain ⟨hcz_0, hcz_1, hcz_2, hcz_3⟩ := cs4 BE.out; obtain ⟨hcs_0, hcs_1⟩ := cs2 BS.out)
            go_ret
            exact ⟨rfl, by exact bw HB.out⟩
        by_cases k14 : kd = 14
        · subst k14
          cases ha : allK 1 ks with
          | true =>
            have hr : r = 1 := by simpa [ha] using h.symm
            clear h
            subst hr
            go_wp2_with (go_at_fn 70; refine (impl_Schema_kind.lit (q := 1) BK.out HX.out).mono ?_; rintro e w7 ⟨rfl, hb⟩; rw [ha]; replace BS := bB BS hb; replace BE := bB BE hb; replace HB := bS HB hb; clear hb hcz_0 hcz_1 hcz_2 hcz_3 hcs_0 hcs_1 hck; obtain ⟨hcz_0, hcz_1, hcz_2, hcz_3⟩ := cs4 BE.out; obtain ⟨hcs_0, hcs_1⟩ := cs2 BS.out)
            go_ret
            exact ⟨rfl, by exact bw HB.out⟩
          | false =>
            have hr : r = 0 := by simpa [ha] using h.symm
            clear h
            subst hr
            go_wp2_with (go_at_fn 70; refine (impl_Schema_kind.lit (q := 1) BK.out HX.out).mono ?_; rintro e w7 ⟨rfl, hb⟩; rw [ha]; replace BS := bB BS hb; replace BE := bB BE hb; replace HB := bS HB hb; clear hb hcz_0 hcz_1 hcz_2 hcz_3 hcs_0 hcs_1 hck; obtain ⟨hcz_0, hcz_1, hcz_2, hcz_3⟩ := cs4 BE.out; obtain ⟨hcs_0, hcs_1⟩ := cs2 BS.out)
            go_ret
            exact ⟨rfl, by exact bw HB.out⟩
        by_cases k15 : kd = 15
        · subst k15
          cases ha : allK 1 ks with
          | true =>
            have hr : r = 1 := by simpa [ha] using h.symm
            clear h
            subst hr
            go_wp2_with (go_at_fn 70; refine (impl_Schema_kind.lit (q := 1) BK.out HX.out).mono ?_; rintro e w7 ⟨rfl, hb⟩; rw [ha]; replace BS := bB BS hb; replace BE := bB BE hb; replace HB := bS HB hb; clear hb hcz_0 hcz_1 hcz_2 hcz_3 hcs_0 hcs_1 hck; obtain ⟨hcz_0, hcz_1, hcz_2, hcz_3⟩ := cs4 BE.out; obtain ⟨hcs_0, hcs_1⟩ := cs2 BS.out)
            go_ret
            exact ⟨rfl, by exact bw HB.out⟩
          | false =>
            have hr : r = 0 := by simpa [ha] using h.symm
            clear h
            subst hr
            go_wp2_with (go_at_fn 70; refine (impl_Schema_kind.lit (q := 1) BK.out HX.out).mono ?_; rintro e w7 ⟨rfl, hb⟩; rw [ha]; replace BS := bB BS hb; replace BE := bB BE hb; replace HB := bS HB hb; clear hb hcz_0 hcz_1 hcz_2 hcz_3 hcs_0 hcs_1 hck; obtain ⟨hcz_0, hcz_1, hcz_2, hcz_3⟩ := cs4 BE.out; obtain ⟨hcs_0, hcs_1⟩ := cs2 BS.out)
            go_ret
            exact ⟨rfl, by exact bw HB.out⟩
        have hr : r = 1 := by simpa [k2, k6, k3, k4, k5, k7, k8, k9, k12, k10, k11, k13, k14, k15] using h.symm
        clear h
        subst hr
        obtain ⟨e2, -⟩ := eqN k2
        obtain ⟨e6, -⟩ := eqN k6
        obtain ⟨e3, -⟩ := eqN k3
        obtain ⟨e4, -⟩ := eqN k4
        obtain ⟨e5, -⟩ := eqN k5
        obtain ⟨e7, -⟩ := eqN k7
        obtain ⟨e8, -⟩ := eqN k8
        obtain ⟨e9, -⟩ := eqN k9
        obtain ⟨e12, -⟩ := eqN k12
        obtain ⟨e10, -⟩ := eqN k10
        obtain ⟨e11, -⟩ := eqN k11
        obtain ⟨e13, -⟩ := eqN k13
        obtain ⟨e14, -⟩ := eqN k14
        obtain ⟨e15, -⟩ := eqN k15
        go_wp2
        go_ret
        exact ⟨rfl, by exact bw HB.out⟩
theorem impl_Schema_kind.mono : ∀ a0 a1 a2 a3 a4 a5 k, LeO (impl_Schema_kind.f k a0 a1 a2 a3 a4 a5) (impl_Schema_kind.f (k + 1) a0 a1 a2 a3 a4 a5) := fun a0 a1 a2 a3 a4 a5 k => impl_Schema_kind.monoG a0 a1 a2 a4 a5 k
theorem impl_Schema_kind.calls (k : Nat) (A0_0 : Option Addr) (c0_0 : Nat) (l0_0 : List (S91)) (A0_1 : Option Addr) (c0_1 : Nat) (l0_1 : List (S91)) (a1_0 : Int) (a1_1 : Int) (a1_2 : ByteArray) (A1_3 : Option Addr) (c1_3 : Nat) (l1_3 : List (S29)) (r : Int) (w : World) (hr0_0 : Kd.C k91 w A0_0 l0_0.length l0_0) (hc0_0 : l0_0.length ≤ c0_0) (hr0_1 : Kd.C k91 w A0_1 l0_1.length l0_1) (hc0_1 : l0_1.length ≤ c0_1) (hr1_3 : Kd.C k29 w A1_3 l1_3.length l1_3) (hc1_3 : l1_3.length ≤ c1_3) (h : impl_Schema_kind.f k l0_0 l0_1 a1_0 a1_1 a1_2 l1_3 = some r) :
    Calls Try.prog 41 #[.agg #[.slice A0_0 l0_0.length c0_0, .slice A0_1 l0_1.length c0_1], .agg #[.int .i64 a1_0, .int .i64 a1_1, .string a1_2, .slice A1_3 l1_3.length c1_3]] w fun e w' => e = .returned (.int .i64 r) ∧ Below w.heap.size w w' :=
  impl_Schema_kind.callsG k A0_0 c0_0 l0_0 A0_1 c0_1 l0_1 a1_0 a1_1 a1_2 A1_3 c1_3 l1_3 r w hr0_0 hc0_0 hr0_1 hc0_1 hr1_3 hc1_3 h

end Go.Proofs.Ytbbbgochcfccgaa.P
