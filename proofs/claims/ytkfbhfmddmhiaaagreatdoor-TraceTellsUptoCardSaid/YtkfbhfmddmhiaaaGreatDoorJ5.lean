/- What stores leave of the judge in memory. Conditions: none beyond the judge's lying there. -/
import Derived.Test.YtkfbhfmddmhiaaaGreatDoorJJ
namespace Go.Proofs.YtkfbhfmddmhiaaaGreatDoor.TJ
open Go.RowKit Go.Proofs.YtkfbhfmddmhiaaaGreatDoorW.PrintWords Go.Proofs.YtkfbhfmddmhiaaaGreatDoor.PT Go.Proofs.YtkfbhfmddmhiaaaGreatDoor.IMaps
set_option linter.unusedVariables false

theorem PV.keep {w w' : World} {b : Nat} {o : Option Value} {l : List Int} (h : PV w b o l) (hk : ∀ k, b + 4 ≤ k → k < w.heap.size → (∀ v, o = some v → some k ≠ v.ownBlock → True) → w'.heap[k]? = w.heap[k]?) : PV w' b o l := by
  cases o with
  | none => exact h
  | some v => exact ⟨h.1, Kd.Q_mono (Kd.Q_move (Kd.Q_bound h.2) (fun k hq => hk k hq.2.1 hq.2.2.1 (fun _ _ _ => trivial))) (fun _ _ => trivial)⟩

theorem JW.head {w0 w w' : World} {b : Nat} {j : JS} (h : JW w0 w b j) (hb : ∀ k, k ≠ b + 3 → k < w.heap.size → w'.heap[k]? = w.heap[k]?) (j' : JS)
    (hc : ∃ x2 x3 x4 x5 x6, w'.heap[b + 3]? = some (.cells #[.int .i64 j'.lt, .int .i64 j'.lth, x2, x3, x4, x5, x6, .bool j'.begun, .int .i64 j'.threads, .map (some b), .int .i64 j'.over, .map (some (b + 1)), .map (some (b + 2))] 76 (0, 0)))
    (he : j'.ended = j.ended) (hp : j'.pend = j.pend) (hv : j'.vars = j.vars) : JW w0 w' b j' := by
  have hl := h.lt
  obtain ⟨_, ⟨le, e1, e2, e3⟩, ⟨lp, p1, p2, p3⟩, ⟨lv, v1, v2⟩⟩ := h
  refine ⟨hc, ⟨le, e1.of_block (hb _ (by omega) (by omega)), e2, by rw [he]; exact e3⟩, ⟨lp, p1.of_block (hb _ (by omega) (by omega)), fun n => ?_, p3⟩, ⟨lv, v1.of_block (hb _ (by omega) (by omega)), by rw [hv]; exact v2⟩⟩
  rw [hp]
  exact (p2 n).keep (fun k h1 h2 _ => hb k (by omega) h2)

theorem setCell_cells {w : World} {g : Nat} {cs : Array Value} {t : TypeId} {f : Nat × Nat} (h : w.heap[g]? = some (.cells cs t f)) (i : Nat) (v : Value) : (w.setCell ⟨g, i, none⟩ v).heap[g]? = some (.cells (cs.setIfInBounds i v) t f) := by
  simp [World.setCell, Array.getElem?_modify, h]

theorem JW.setThreads {w0 w : World} {b : Nat} {j : JS} (h : JW w0 w b j) (v : Int) : JW w0 (w.setCell ⟨b + 3, 8, none⟩ (.int .i64 v)) b { j with threads := v } := by
  obtain ⟨x2, x3, x4, x5, x6, hc⟩ := h.cells
  exact h.head (fun k hk _ => Below.heap_setCell _ _ _ _ hk) _ ⟨x2, x3, x4, x5, x6, setCell_cells hc 8 _⟩ rfl rfl rfl

theorem JW.setOver {w0 w : World} {b : Nat} {j : JS} (h : JW w0 w b j) (v : Int) : JW w0 (w.setCell ⟨b + 3, 10, none⟩ (.int .i64 v)) b { j with over := v } := by
  obtain ⟨x2, x3, x4, x5, x6, hc⟩ := h.cells
  exact h.head (fun k hk _ => Below.heap_setCell _ _ _ _ hk) _ ⟨x2, x3, x4, x5, x6, setCell_cells hc 10 _⟩ rfl rfl rfl

theorem JW.endedPut {w0 w w' : World} {b : Nat} {j : JS} (h : JW w0 w b j) (n : Int) {le : List (Int × Value)} (hle : IM w b le) (hg : w.grownBy w' (some b)) (hI : IM w' b (putL n (.bool true) le)) (hall : ∀ p ∈ le, p.2 = .bool true) (hen : ∀ n, j.ended n = (lk n le).isSome) : JW w0 w' b { j with ended := setF j.ended n true } := by
  have hl := h.lt
  obtain ⟨⟨x2, x3, x4, x5, x6, hc⟩, _, ⟨lp, p1, p2, p3⟩, ⟨lv, v1, v2⟩⟩ := h
  have hb : ∀ k, k ≠ b → k < w.heap.size → w'.heap[k]? = w.heap[k]? := fun k hk hs => hg.block k hs (fun e => hk (by injection e))
  refine ⟨⟨x2, x3, x4, x5, x6, (hb _ (by omega) (by omega)).trans hc⟩, ⟨_, hI, ?_, fun m => ?_⟩, ⟨lp, p1.of_block (hb _ (by omega) (by omega)), fun m => (p2 m).keep (fun k h1 h2 _ => hb k (by omega) h2), p3⟩, ⟨lv, v1.of_block (hb _ (by omega) (by omega)), v2⟩⟩
  · have key : ∀ l : List (Int × Value), (∀ p ∈ l, p.2 = .bool true) → ∀ p ∈ putL n (.bool true) l, p.2 = .bool true := by
      intro l
      induction l with
      | nil => intro _ p hp; simp [putL] at hp; subst hp; rfl
      | cons q r ih =>
        intro hq p hp
        simp only [putL] at hp
        split at hp
        · rcases List.mem_cons.1 hp with rfl | hp
          · rfl
          · exact hq p (.tail _ hp)
        · rcases List.mem_cons.1 hp with rfl | hp
          · exact hq _ (.head _)
          · exact ih (fun q hq' => hq q (.tail _ hq')) p hp
    exact key le hall
  · rw [lk_put]
    show setF j.ended n true m = _
    unfold setF
    by_cases hn : n = m
    · simp [hn]
    · simp [hn, hen]

theorem JW.varsPut {w0 w w' : World} {b : Nat} {j : JS} (h : JW w0 w b j) (n : Int) (x : Vl) {lv : List (Int × Value)} {v : Value} (hv : VV w0 (some v) (some x)) (hg : w.grownBy w' (some (b + 2))) (hI : IM w' (b + 2) (putL n v lv)) (hvs : ∀ n, VV w0 (lk n lv) (j.vars n)) : JW w0 w' b { j with vars := setF j.vars n (some x) } := by
  have hl := h.lt
  obtain ⟨⟨x2, x3, x4, x5, x6, hc⟩, ⟨le, e1, e2, e3⟩, ⟨lp, p1, p2, p3⟩, _⟩ := h
  have hb : ∀ k, k ≠ b + 2 → k < w.heap.size → w'.heap[k]? = w.heap[k]? := fun k hk hs => hg.block k hs (fun e => hk (by injection e))
  refine ⟨⟨x2, x3, x4, x5, x6, (hb _ (by omega) (by omega)).trans hc⟩, ⟨le, e1.of_block (hb _ (by omega) (by omega)), e2, e3⟩, ⟨lp, p1.of_block (hb _ (by omega) (by omega)), fun m => (p2 m).keep (fun k h1 h2 _ => hb k (by omega) h2), p3⟩, ⟨_, hI, fun m => ?_⟩⟩
  rw [lk_put]
  show VV w0 _ (setF j.vars n (some x) m)
  unfold setF
  by_cases hn : n = m
  · simp only [hn, if_true]; exact hv
  · simp only [hn, if_false]; exact hvs m

theorem JW.pendSet {w0 w w' : World} {b : Nat} {j : JS} (h : JW w0 w b j) (n : Int) (l1 : List Int) {lp lp' : List (Int × Value)} {o1 : Option Value} (hp2 : ∀ n, PV w b (lk n lp) (j.pend n))
    (hp3 : ∀ n m u v k, lk n lp = some u → lk m lp = some v → u.ownBlock = some k → v.ownBlock = some k → n = m)
    (hI : IM w' (b + 1) lp') (hlk : ∀ m, lk m lp' = if n = m then o1 else lk m lp) (hn : PV w' b o1 l1) (row : Option Nat)
    (hb : ∀ k, k ≠ b + 1 → some k ≠ row → k < w.heap.size → w'.heap[k]? = w.heap[k]?) (hrow : ∀ k, row = some k → b + 4 ≤ k ∧ ∀ m u, m ≠ n → lk m lp = some u → u.ownBlock ≠ some k)
    (hnew : ∀ v1 k, o1 = some v1 → v1.ownBlock = some k → ∀ m u, m ≠ n → lk m lp = some u → u.ownBlock ≠ some k) : JW w0 w' b { j with pend := setF j.pend n l1 } := by
  have hl := h.lt
  obtain ⟨⟨x2, x3, x4, x5, x6, hc⟩, ⟨le, e1, e2, e3⟩, _, ⟨lv, v1, v2⟩⟩ := h
  have hlow : ∀ k, k < b + 4 → k ≠ b + 1 → w'.heap[k]? = w.heap[k]? := fun k hk hk1 => hb k hk1 (fun e => by have := (hrow k e.symm).1; omega) (by omega)
  refine ⟨⟨x2, x3, x4, x5, x6, (hlow _ (by omega) (by omega)).trans hc⟩, ⟨le, e1.of_block (hlow _ (by omega) (by omega)), e2, e3⟩, ⟨lp', hI, fun m => ?_, ?_⟩, ⟨lv, v1.of_block (hlow _ (by omega) (by omega)), v2⟩⟩
  · rw [hlk]
    show PV w' b _ (setF j.pend n l1 m)
    unfold setF
    by_cases hm : n = m
    · simp only [hm, if_true] at hn ⊢; exact hn
    · simp only [hm, if_false]
      have hq := hp2 m
      cases hk : lk m lp with
      | none => rw [hk] at hq; exact hq
      | some u =>
        rw [hk] at hq
        refine ⟨hq.1, ?_⟩
        have q2 : (Kd.int .i64).Q 3 w (b + 4) (fun k => u.ownBlock = some k) u (j.pend m) := by
          obtain ⟨_, inner, ho, hr⟩ := hq.2
          refine ⟨fun k hk => hk, inner, ho, hr.imp_ (fun p cs hp => ?_)⟩
          obtain ⟨x, rfl⟩ : ∃ x, cs = [x] := by
            have := (Kd.int IntKind.i64).K_len ((Kd.int IntKind.i64).K_of_M hp)
            match cs, this with
            | [x], _ => exact ⟨x, rfl⟩
          exact hp
        refine Kd.Q_mono (Kd.Q_move (Kd.Q_bound q2) (fun k hq => hb k (by have := hq.2.1; omega) (fun e => ?_) hq.2.2.1)) (fun _ _ => trivial)
        exact (hrow k e.symm).2 m u (fun e => hm e.symm) hk hq.1
  · intro n' m' u v k h1 h2 h3 h4
    rw [hlk] at h1 h2
    by_cases hn' : n = n'
    · by_cases hm' : n = m'
      · rw [← hn', ← hm']
      · simp only [hn', if_true] at h1
        simp only [hm', if_false] at h2
        exact absurd h4 (hnew u k h1 h3 m' v (fun e => hm' e.symm) h2)
    · simp only [hn', if_false] at h1
      by_cases hm' : n = m'
      · simp only [hm', if_true] at h2
        exact absurd h3 (hnew v k h2 h4 n' u (fun e => hn' e.symm) h1)
      · simp only [hm', if_false] at h2
        exact hp3 n' m' u v k h1 h2 h3 h4

def set8 (w : World) (g : Nat) (a0 a1 a2 a3 a4 a5 a6 a7 : Value) : World :=
  (((((((w.setCell ⟨g, 0, none⟩ a0).setCell ⟨g, 1, none⟩ a1).setCell ⟨g, 2, none⟩ a2).setCell ⟨g, 3, none⟩ a3).setCell ⟨g, 4, none⟩ a4).setCell ⟨g, 5, none⟩ a5).setCell ⟨g, 6, none⟩ a6).setCell ⟨g, 7, none⟩ a7

theorem JW.setLast {w0 w : World} {b : Nat} {j : JS} (h : JW w0 w b j) (a0 a1 : Int) (a2 a3 a4 a5 a6 : Value) : JW w0 (set8 w (b + 3) (.int .i64 a0) (.int .i64 a1) a2 a3 a4 a5 a6 (.bool true)) b { j with lt := a0, lth := a1, begun := true } := by
  obtain ⟨x2, x3, x4, x5, x6, hc⟩ := h.cells
  refine h.head (fun k hk _ => ?_) _ ⟨a2, a3, a4, a5, a6, ?_⟩ rfl rfl rfl
  · unfold set8
    iterate 8 rw [Below.heap_setCell _ _ _ _ hk]
  · have q0 := setCell_cells hc 0 (.int .i64 a0)
    have q1 := setCell_cells q0 1 (.int .i64 a1)
    have q2 := setCell_cells q1 2 a2
    have q3 := setCell_cells q2 3 a3
    have q4 := setCell_cells q3 4 a4
    have q5 := setCell_cells q4 5 a5
    have q6 := setCell_cells q5 6 a6
    have q7 := setCell_cells q6 7 (.bool true)
    unfold set8
    rw [q7]
    simp only [List.setIfInBounds_toArray, List.set_cons_succ, List.set_cons_zero]

theorem set8_below {B : Nat} {a w : World} (h : Below B a w) {g : Nat} (hg : B ≤ g) (a0 a1 a2 a3 a4 a5 a6 a7 : Value) : Below B a (set8 w g a0 a1 a2 a3 a4 a5 a6 a7) :=
  (((((((h.setCell hg _).setCell hg _).setCell hg _).setCell hg _).setCell hg _).setCell hg _).setCell hg _).setCell hg _

theorem int_row : (Tryz.prog.info? 3).map (fun i => (i.zero, i.size, i.bytes)) = some (some (.int .i64 0), 1, 8) := by kernel_rfl

theorem lookup_pend {w : World} {b : Nat} {lp : List (Int × Value)} (p1 : IM w (b + 1) lp) (n : Int) {w1 : World} (hb : Below w.heap.size w w1) :
    (Instr.lookup 73 (.map (some (b + 1))) (.int .i64 n) false).run Tryz.prog w1 = .ok ((lk n lp).getD (.slice none 0 0)) w1 := by
  have := run_lookup (p1.below hb) Tryz.underlying73 Tryz.underlying3 (zeroInts w1) n false
  rw [this]; rfl

theorem killFacts {w0 W : World} {b : Nat} {j : JS} (h : JW w0 W b j) (n m : Int) (hlen : (j.pend n).length ≤ 1000000) (g : Nat) (evs : Array Value) (hg : W.heap[g]? = some (.cells evs 44 (0, 0))) :
    ∃ v, (∀ W1, Below W.heap.size W W1 → (Instr.lookup 73 (.map (some (b + 1))) (.int .i64 n) false).run Tryz.prog W1 = .ok v W1) ∧
      ∃ v1 w1 w2, (Builtin.append_ #[29, 29] 29 #[v, .slice (some ⟨W.heap.size, 0, none⟩) 1 1]).run Tryz.prog (W.alloc (.cells #[.int .i64 m] 3)) = .ok v1 w1 ∧
        (Instr.mapUpdate 73 (.map (some (b + 1))) (.int .i64 n) v1).run Tryz.prog w1 = .ok () w2 ∧ JW w0 w2 b { j with pend := setF j.pend n (j.pend n ++ [m]) } ∧ Below b W w2 ∧ w2.heap[g]? = W.heap[g]? ∧ w1.heap[g]? = W.heap[g]? ∧ w1.heap[b + 3]? = W.heap[b + 3]? ∧
        (Instr.lookup 73 (.map (some (b + 1))) (.int .i64 n) false).run Tryz.prog w1 = .ok v w1 := by
  have hl := h.lt
  obtain ⟨lp, p1, p2, p3⟩ := h.pend
  have hgl : g < W.heap.size := (Array.getElem?_eq_some_iff.1 hg).1
  have hq : (Kd.int .i64).Q 3 W (b + 4) (fun _ => True) ((lk n lp).getD (.slice none 0 0)) (j.pend n) := by
    have := p2 n
    cases hk : lk n lp with
    | none => rw [hk] at this; rw [show j.pend n = [] from this]; exact Kd.Q_nil _ _ _ _ _
    | some v => rw [hk] at this; exact this.2
  refine ⟨_, fun W1 hb1 => lookup_pend p1 n hb1, ?_⟩
  obtain ⟨v1, w1, hrun, hq1, hB, hgr, hat⟩ := Kd.Q_run (P := Tryz.prog) (Kd.int .i64) (w0 := W) (W := W) (b + 4) 29 29 3 (.int .i64 0) 8 Tryz.underlying29 int_row rfl (by decide) (by decide) ((lk n lp).getD (.slice none 0 0)) (j.pend n) m [.int .i64 m] (fun _ => True) (fun k => some k ≠ ((lk n lp).getD (.slice none 0 0)).ownBlock)
    rfl (fun k hk => ⟨trivial, hk⟩) (fun _ _ => trivial) hq (Below.refl _ _) (by omega) (by omega)
  have hvb := Kd.Q_base hq
  have hvg : some g ≠ ((lk n lp).getD (.slice none 0 0)).ownBlock := Kd.Q_ne hq hg (by decide)
  have low : ∀ k, k < b + 4 → w1.heap[k]? = W.heap[k]? := fun k hk => hgr.block k (by omega) (fun e => by have := hvb k e.symm; omega)
  have I1 : IM w1 (b + 1) lp := p1.of_block (low _ (by omega))
  obtain ⟨w2, hup, hI, hg2, _⟩ := run_mapUpdate (P := Tryz.prog) I1 Tryz.underlying73 Tryz.underlying3 n v1
  have hs1 := hgr.size
  have keep : ∀ k, k ≠ b + 1 → some k ≠ ((lk n lp).getD (.slice none 0 0)).ownBlock → k < W.heap.size → w2.heap[k]? = W.heap[k]? := fun k h1 h2 h3 =>
    (hg2.block k (by omega) (fun e => h1 (by injection e))).trans (hgr.block k h3 h2)
  refine ⟨v1, w1, w2, hrun, hup, ?_, ?_, keep g (fun e => ?_) hvg hgl, hgr.block g hgl hvg, low _ (by omega), ?_⟩
  · refine JW.pendSet (o1 := some v1) h n _ p2 p3 hI (fun m' => by rw [lk_put]) ⟨by simp, ?_⟩ ((lk n lp).getD (.slice none 0 0)).ownBlock keep (fun k hk => ⟨hvb k hk, ?_⟩) ?_
    · exact Kd.Q_mono (Kd.Q_move (Kd.Q_bound hq1) (fun k hk => hg2.block k hk.2.2.1 (fun e => by injection e with e; have := hk.2.1; omega))) (fun _ _ => trivial)
    · intro m' u hm hu hk'
      cases hkn : lk n lp with
      | none => rw [hkn] at hk; simp [Value.ownBlock] at hk
      | some v => rw [hkn] at hk; exact hm (p3 m' n u v k hu hkn hk' hk)
    · intro v' k hv' hk m' u hm hu hk'
      injection hv' with hv'
      subst hv'
      rcases hat with hat | ⟨b', hb', hle⟩
      · rw [hat] at hk
        cases hkn : lk n lp with
        | none => rw [hkn] at hk; simp [Value.ownBlock] at hk
        | some v => rw [hkn] at hk; exact hm (p3 m' n u v k hu hkn hk' hk)
      · rw [hb'] at hk
        injection hk with hk
        have hq' := p2 m'
        rw [hu] at hq'
        have := Kd.Q_lt hq'.2 k hk'
        omega
  · exact (hB.mono (by omega)).grown hg2 (by omega) (fun k hk => by injection hk with hk; omega)
  · obtain ⟨es, ck, hp, _⟩ := p1
    rw [← e, hg] at hp
    cases hp
  · have := run_lookup (P := Tryz.prog) I1 Tryz.underlying73 Tryz.underlying3 (zeroInts w1) n false
    rw [this]; rfl

theorem hitFacts {w0 W : World} {b : Nat} {j : JS} (h : JW w0 W b j) (n : Int) (hne : j.pend n ≠ []) :
    ∃ A A1 c, (∀ W1, Below W.heap.size W W1 → (Instr.lookup 73 (.map (some (b + 1))) (.int .i64 n) false).run Tryz.prog W1 = .ok (.slice A (j.pend n).length c) W1) ∧
      (∀ W1, (Instr.slice 29 (.slice A (j.pend n).length c) (some (.int .i64 1)) none none).run Tryz.prog W1 = .ok (.slice A1 ((j.pend n).length - 1) (c - 1)) W1) ∧
      ((j.pend n).length - 1 = 0 → ∀ W1, Below W.heap.size W W1 → ∃ w2, (Builtin.delete_ #[73, 3] 0 #[.map (some (b + 1)), .int .i64 n]).run Tryz.prog W1 = .ok (.tuple #[]) w2 ∧ JW w0 w2 b { j with pend := setF j.pend n (j.pend n).tail } ∧ W1.grownBy w2 (some (b + 1))) ∧
      ((j.pend n).length - 1 ≠ 0 → ∀ W1, Below W.heap.size W W1 → ∃ w2, (Instr.mapUpdate 73 (.map (some (b + 1))) (.int .i64 n) (.slice A1 ((j.pend n).length - 1) (c - 1))).run Tryz.prog W1 = .ok () w2 ∧ JW w0 w2 b { j with pend := setF j.pend n (j.pend n).tail } ∧ W1.grownBy w2 (some (b + 1))) := by
  have hl := h.lt
  obtain ⟨lp, p1, p2, p3⟩ := h.pend
  have hq := p2 n
  cases hk : lk n lp with
  | none => rw [hk] at hq; exact absurd hq hne
  | some v =>
    rw [hk] at hq
    obtain ⟨A, c, rfl, hlc⟩ := Kd.Q_slice hq.2
    have hpos : 1 ≤ (j.pend n).length := by cases hp : j.pend n with | nil => exact absurd hp hne | cons _ _ => simp
    have hd := Kd.Q_drop (k := 1) hq.2 hpos
    obtain ⟨i0, hi, hzz⟩ := Option.map_eq_some_iff.1 int_row
    simp only [Prod.mk.injEq] at hzz
    have hcut := cut_from (P := Tryz.prog) 29 3 .i64 Tryz.underlying29 hi 1 hzz.2.1 A (j.pend n).length c 1 (by omega) (by omega)
    refine ⟨A, if c = 1 then A else A.map (·.add 1), c, fun W1 hb1 => ?_, fun W1 => ?_, fun hz W1 hb1 => ?_, fun hz W1 hb1 => ?_⟩
    · have := lookup_pend p1 n hb1
      rw [this, hk]; rfl
    · have := hcut W1
      simpa using this
    · obtain ⟨w2, hrun, hI, hg, _⟩ := run_delete (P := Tryz.prog) (p1.below hb1) Tryz.underlying73 Tryz.underlying3 n 0
      refine ⟨w2, hrun, ?_, hg⟩
      have ht : (j.pend n).tail = [] := by apply List.eq_nil_of_length_eq_zero; simp; omega
      have p2' : ∀ n, PV W1 b (lk n lp) (j.pend n) := fun n => (p2 n).keep (fun k _ hk _ => hb1.block k hk)
      refine JW.pendSet (o1 := none) (h.below hb1) n _ p2' p3 hI (fun m => by rw [lk_del _ _ _ p1.keys]) (by rw [ht]; rfl) none (fun k h1 _ h3 => hg.block k h3 (fun e => h1 (by injection e))) (fun k hk => by cases hk) (fun v k hv => by cases hv)
    · obtain ⟨w2, hrun, hI, hg, _⟩ := run_mapUpdate (P := Tryz.prog) (p1.below hb1) Tryz.underlying73 Tryz.underlying3 n (.slice (if c = 1 then A else A.map (·.add 1)) ((j.pend n).length - 1) (c - 1))
      refine ⟨w2, hrun, ?_, hg⟩
      have p2' : ∀ n, PV W1 b (lk n lp) (j.pend n) := fun n => (p2 n).keep (fun k _ hk _ => hb1.block k hk)
      have hd' : (Kd.int .i64).Q 3 W (b + 4) (fun _ => True) (.slice (if c = 1 then A else A.map (·.add 1)) ((j.pend n).length - 1) (c - 1)) (j.pend n).tail := by
        have := hd
        rw [show (1 * (Kd.int IntKind.i64).sz) = 1 from rfl, List.drop_one] at this
        exact this
      have hown : (Value.slice (if c = 1 then A else A.map (·.add 1)) ((j.pend n).length - 1) (c - 1)).ownBlock = (Value.slice A (j.pend n).length c).ownBlock := by
        split
        · cases A <;> rfl
        · cases A with
          | none => rfl
          | some a => simp [Value.ownBlock]; unfold Addr.add; split <;> rfl
      refine JW.pendSet (o1 := some (.slice (if c = 1 then A else A.map (·.add 1)) ((j.pend n).length - 1) (c - 1))) (h.below hb1) n _ p2' p3 hI (fun m => by rw [lk_put]) ⟨fun e => hz (by have := congrArg List.length e; simpa using this), ?_⟩ none (fun k h1 _ h3 => hg.block k h3 (fun e => h1 (by injection e))) (fun k hk => by cases hk) ?_
      · exact Kd.Q_mono (Kd.Q_move (Kd.Q_bound (Kd.Q_below hd' hb1)) (fun k hk => hg.block k hk.2.2.1 (fun e => by injection e with e; have := hk.2.1; omega))) (fun _ _ => trivial)
      · intro v' k hv' hk1 m u hm hu hk'
        injection hv' with hv'
        subst hv'
        rw [hown] at hk1
        exact hm (p3 m n u _ k hu hk hk' hk1)
end Go.Proofs.YtkfbhfmddmhiaaaGreatDoor.TJ
