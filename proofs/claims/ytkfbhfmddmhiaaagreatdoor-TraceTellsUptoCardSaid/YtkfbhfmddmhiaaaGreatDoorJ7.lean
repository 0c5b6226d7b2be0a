/- The judgement of a trace: the Go functions judged and Breaks answer as the plain function runJ. Conditions: the trace lies in memory and has at most a million events, each of at most a million accesses. -/
import Derived.Test.YtkfbhfmddmhiaaaGreatDoorJJ
import Derived.Test.YtkfbhfmddmhiaaaGreatDoorJ6
namespace Go.Proofs.YtkfbhfmddmhiaaaGreatDoor.TJ
open Go.RowKit Go.Proofs.YtkfbhfmddmhiaaaGreatDoorW.PrintWords Go.Proofs.YtkfbhfmddmhiaaaGreatDoor.PT Go.Proofs.YtkfbhfmddmhiaaaGreatDoor.IMaps
set_option linter.unusedVariables false

def judge0 (w : World) : World :=
  (((w.alloc (.map #[] 0)).alloc (.map #[] 0)).alloc (.map #[] 0)).alloc (.cells #[.int .i64 0, .int .i64 0, .int .i64 0, .int .i64 0, .int .i64 0, .slice none 0 0, .slice none 0 0, .bool false, .int .i64 1, .map (some w.heap.size), .int .i64 0, .map (some (w.heap.size + 1)), .map (some (w.heap.size + 2))] 76)

theorem judge0_JW (w : World) : JW w (judge0 w) w.heap.size js0 := by
  have a1 := IM.made w
  have a2 := IM.made (w.alloc (.map #[] 0))
  have a3 := IM.made ((w.alloc (.map #[] 0)).alloc (.map #[] 0))
  simp only [World.size_alloc] at a2 a3
  refine ⟨⟨.int .i64 0, .int .i64 0, .int .i64 0, .slice none 0 0, .slice none 0 0, ?_⟩, ⟨[], ((a1.alloc _).alloc _).alloc _, by simp, fun _ => rfl⟩, ⟨[], (a2.alloc _).alloc _, fun _ => rfl, fun _ _ _ _ _ h => by cases h⟩, ⟨[], a3.alloc _, fun _ => trivial⟩⟩
  have := (MapKept.heap_alloc (((w.alloc (.map #[] 0)).alloc (.map #[] 0)).alloc (.map #[] 0)) (.cells #[.int .i64 0, .int .i64 0, .int .i64 0, .int .i64 0, .int .i64 0, .slice none 0 0, .slice none 0 0, .bool false, .int .i64 1, .map (some w.heap.size), .int .i64 0, .map (some (w.heap.size + 1)), .map (some (w.heap.size + 2))] 76)).1
  simp only [World.size_alloc] at this
  exact this

theorem judge0_below (w : World) : Below w.heap.size w (judge0 w) := below_alloc (below_alloc (below_alloc (below_alloc (Below.refl _ _) _) _) _) _

theorem newJudge_calls (w : World) : Calls Tryz.prog 53 #[] w fun e w' => e = .returned (.pointer (some ⟨w.heap.size + 3, 0, none⟩)) ∧ judge0 w = w' := by
  have hmm := @run_makeMap Tryz.prog
  go_enter Tryz.func53, Tryz.ntmps53
  go_wp2
  go_ret
  exact ⟨rfl, rfl⟩

def ruleCells (p : Value) : Array Value := #[.func (.func 72) #[p] #[], .func (.func 73) #[p] #[], .func (.func 74) #[p] #[], .func (.func 75) #[p] #[], .func (.func 76) #[p] #[], .func (.func 77) #[p] #[]]

theorem rules_calls (w : World) (p : Value) : Calls Tryz.prog 54 #[p] w fun e w' => e = .returned (.slice (some ⟨w.heap.size, 0, none⟩) 6 6) ∧ w.alloc (.cells (ruleCells p) 93) = w' := by
  go_enter Tryz.func54, Tryz.ntmps54
  go_wp2
  go_ret
  exact ⟨rfl, rfl⟩

def ruleB (j : JS) (x : Ev) : Nat → Bool
  | 0 => turnsB j x
  | 1 => numbersB j x
  | 2 => endsB j x
  | 3 => hitsB j x
  | 4 => fieldsB x
  | _ => commitsB j x

def okTo (j : JS) (x : Ev) (k : Nat) : Prop := ∀ m, m < k → ruleB j x m = true

theorem bad_of {j : JS} {x : Ev} {k : Nat} (h : okTo j x k) (hk : k < 6) (hb : ruleB j x k = false) : badJ j x = some (k + 1) := by
  have g0 := h 0
  have g1 := h 1
  have g2 := h 2
  have g3 := h 3
  have g4 := h 4
  simp only [ruleB] at g0 g1 g2 g3 g4
  unfold badJ
  match k, hk with
  | 0, _ => simp only [ruleB] at hb; simp [hb]
  | 1, _ => simp only [ruleB] at hb; simp [hb, g0 (by omega)]
  | 2, _ => simp only [ruleB] at hb; simp [hb, g0 (by omega), g1 (by omega)]
  | 3, _ => simp only [ruleB] at hb; simp [hb, g0 (by omega), g1 (by omega), g2 (by omega)]
  | 4, _ => simp only [ruleB] at hb; simp [hb, g0 (by omega), g1 (by omega), g2 (by omega), g3 (by omega)]
  | 5, _ => simp only [ruleB] at hb; simp [hb, g0 (by omega), g1 (by omega), g2 (by omega), g3 (by omega), g4 (by omega)]

theorem good_of {j : JS} {x : Ev} (h : okTo j x 6) : badJ j x = none := by
  have g0 := h 0 (by omega)
  have g1 := h 1 (by omega)
  have g2 := h 2 (by omega)
  have g3 := h 3 (by omega)
  have g4 := h 4 (by omega)
  have g5 := h 5 (by omega)
  simp only [ruleB] at g0 g1 g2 g3 g4 g5
  unfold badJ
  simp [g0, g1, g2, g3, g4, g5]

theorem okTo_succ {j : JS} {x : Ev} {k : Nat} (h : okTo j x k) (hb : ruleB j x k = true) : okTo j x (k + 1) := fun m hm => by
  rcases Nat.lt_or_ge m k with h1 | h1
  · exact h m h1
  · have : m = k := by omega
    rw [this]; exact hb

theorem rule_calls {w0 w : World} {b : Nat} {j : JS} (h : JW w0 w b j) (h0 : Below w0.heap.size w0 w) (x : Ev) (A5 A6 : Option Addr) (c5 c6 : Nat) (g5 : x.f5.length ≤ c5) (C5 : kAc.C w A5 x.f5.length x.f5) (g6 : x.f6.length ≤ c6) (C6 : kAc.C w A6 x.f6.length x.f6) (b5 : x.f5.length ≤ 1000000) (b6 : x.f6.length ≤ 1000000) (k : Nat) (hk : k < 6) (f : Nat)
    (hf : f = match k with | 0 => 72 | 1 => 73 | 2 => 74 | 3 => 75 | 4 => 76 | _ => 77) :
    Calls Tryz.prog f #[.pointer (some ⟨b + 3, 0, none⟩), .agg #[.int .i64 x.f0, .int .i64 x.f1, .int .i64 x.f2, .int .i64 x.f3, .int .i64 x.f4, .slice A5 x.f5.length c5, .slice A6 x.f6.length c6]] w fun e w' => e = .returned (.bool (ruleB j x k)) ∧ Below w.heap.size w w' := by
  match k, hk with
  | 0, _ => subst hf; exact turns_calls h x A5 A6 c5 c6
  | 1, _ => subst hf; exact numbers_calls h x A5 A6 c5 c6
  | 2, _ => subst hf; exact ends_calls h x A5 A6 c5 c6
  | 3, _ => subst hf; exact hits_calls h x A5 A6 c5 c6
  | 4, _ => subst hf; exact fields_calls w _ x A5 A6 c5 c6 g5 C5 g6 C6 b5 b6
  | 5, _ => subst hf; exact commits_calls h h0 x A5 A6 c5 c6 g5 C5

structure Bnd (j : JS) (i : Nat) : Prop where
  threads : 1 ≤ j.threads ∧ j.threads ≤ 1 + i
  pend : ∀ n, (j.pend n).length ≤ i

theorem bnd0 : Bnd js0 0 := ⟨by simp [js0], by simp [js0]⟩

theorem bnd_learn {j : JS} {i : Nat} (h : Bnd j i) (x : Ev) : Bnd (learnJ j x) (i + 1) := by
  obtain ⟨⟨h1, h2⟩, h3⟩ := h
  unfold learnJ
  dsimp only
  split
  · exact ⟨⟨by show 1 ≤ j.threads + 1; omega, by show j.threads + 1 ≤ 1 + ((i + 1 : Nat) : Int); omega⟩, fun n => by have := h3 n; show (j.pend n).length ≤ i + 1; omega⟩
  · split
    · refine ⟨⟨h1, by show j.threads ≤ 1 + ((i + 1 : Nat) : Int); omega⟩, fun n => ?_⟩
      show (setF j.pend x.f3 (j.pend x.f3 ++ [x.f4]) n).length ≤ i + 1
      unfold setF
      split
      · have := h3 x.f3; simp; omega
      · have := h3 n; omega
    · split
      · refine ⟨⟨h1, by show j.threads ≤ 1 + ((i + 1 : Nat) : Int); omega⟩, fun n => ?_⟩
        show (setF j.pend x.f1 (j.pend x.f1).tail n).length ≤ i + 1
        unfold setF
        split
        · have := h3 x.f1; simp; omega
        · have := h3 n; omega
      · split
        · exact ⟨⟨h1, by show j.threads ≤ 1 + ((i + 1 : Nat) : Int); omega⟩, fun n => by have := h3 n; show (j.pend n).length ≤ i + 1; omega⟩
        · exact ⟨⟨h1, by show j.threads ≤ 1 + ((i + 1 : Nat) : Int); omega⟩, fun n => by have := h3 n; show (j.pend n).length ≤ i + 1; omega⟩

theorem hit_of {j : JS} {x : Ev} (h : okTo j x 6) : x.f2 = 5 → j.pend x.f1 ≠ [] := by
  intro h5 he
  have := h 3 (by omega)
  simp only [ruleB, hitsB, he, h5] at this
  simp at this

def JudgedPost (w : World) (l : List Ev) (e : Ending) (w' : World) : Prop :=
  Below w.heap.size w w' ∧ match runJ js0 0 l with
    | some p => e = .returned (.tuple #[.pointer (some ⟨w.heap.size + 3, 0, none⟩), .int .i64 (p.1 : Int), .int .i64 (p.2 : Int), .bool true])
    | none => e = .returned (.tuple #[.pointer (some ⟨w.heap.size + 3, 0, none⟩), .int .i64 0, .int .i64 0, .bool false]) ∧ JW w w' w.heap.size (l.foldl learnJ js0)

structure At (w wr : World) (l : List Ev) (i : Nat) (j : JS) : Prop where
  jw : JW w wr w.heap.size j
  below : Below w.heap.size w wr
  run : runJ j i (l.drop i) = runJ js0 0 l
  fold : (l.drop i).foldl learnJ j = l.foldl learnJ js0
  bnd : Bnd j i

theorem runJ_step {j : JS} {i : Nat} (l : List Ev) (h : i < l.length) : runJ j i (l.drop i) = (match badJ j (rd_T44 l (i : Int)) with | some k => some (i, k) | none => runJ (learnJ j (rd_T44 l (i : Int))) (i + 1) (l.drop (i + 1))) ∧ (l.drop i).foldl learnJ j = (l.drop (i + 1)).foldl learnJ (learnJ j (rd_T44 l (i : Int))) := by
  have e2 : rd_T44 l (i : Int) = l[i] := by simp [rd_T44, List.getD_eq_getElem?_getD, List.getElem?_eq_getElem h]
  rw [e2, List.drop_eq_getElem_cons h]
  exact ⟨rfl, rfl⟩

structure In (w wr : World) (l : List Ev) (i : Nat) (j : JS) (g r : Nat) (cs : Array Value) : Prop where
  at_ : At w wr l i j
  box : wr.heap[g]? = some (.cells cs 44 (0, 0))
  list : wr.heap[r]? = some (.cells (ruleCells (.pointer (some ⟨w.heap.size + 3, 0, none⟩))) 93 (0, 0))

theorem At.step {w wr w1 : World} {l : List Ev} {i : Nat} {j : JS} (h : At w wr l i j) (hb : Below wr.heap.size wr w1) : At w w1 l i j :=
  ⟨h.jw.below hb, below_step h.below hb, h.run, h.fold, h.bnd⟩

theorem In.step {w wr w1 : World} {l : List Ev} {i : Nat} {j : JS} {g r : Nat} {cs : Array Value} (h : In w wr l i j g r cs) (hb : Below wr.heap.size wr w1) : In w w1 l i j g r cs :=
  ⟨h.at_.step hb, (hb.block _ (Array.getElem?_eq_some_iff.1 h.box).1).trans h.box, (hb.block _ (Array.getElem?_eq_some_iff.1 h.list).1).trans h.list⟩

def Small (l : List Ev) : Prop := l.length ≤ 1000000 ∧ ∀ x ∈ l, x.f5.length ≤ 1000000 ∧ x.f6.length ≤ 1000000

set_option maxRecDepth 100000 in
set_option maxHeartbeats 4000000 in
theorem judged_calls (l : List Ev) (hsm : Small l) (w : World) (A : Option Addr) (c : Nat) (hc : l.length ≤ c) (C1 : kEv.C w A l.length l) :
    Calls Tryz.prog 37 #[.slice A l.length c] w (JudgedPost w l) := by
  have hl := hsm.1
  have HS := Lib.hid hsm.2
  have K1 := Aside0.mk C1
  clear hsm C1
  go_enter Tryz.func37, Tryz.ntmps37
  go_wp2_with fail
  refine (newJudge_calls w).mono ?_
  rintro e w' ⟨rfl, hw'⟩
  have HA : Aside0 (At w w' l 0 js0) := by subst hw'; exact ⟨⟨judge0_JW w, judge0_below w, rfl, rfl, bnd0⟩⟩
  clear hw'
  go_wp2
  go_loopw [14] (fun v wr => ∃ i : Nat, i ≤ l.length ∧ v = .int .i64 i ∧ ∃ j, Aside0 (At w wr l i j)) (fun v _ => l.length - (intOf v).toNat)
  case atStart => exact ⟨0, by omega, rfl, js0, HA⟩
  case round =>
    obtain ⟨i, hi, rfl, j, HJ⟩ := hrel
    clear HA
    by_cases hlt : i < l.length
    · obtain ⟨ad, A5, c5, A6, c6, e3, hx0, hx1, hx2, hx3, hx4, hx5, hx6, g5, C5, g6, C6⟩ := at_T44 K1.out (i : Int) (by omega) (by omega)
      have hmem : rd_T44 l (i : Int) ∈ l := by
        have e2 : rd_T44 l (i : Int) = l[i] := by simp [rd_T44, List.getD_eq_getElem?_getD, List.getElem?_eq_getElem hlt]
        rw [e2]; exact List.getElem_mem _
      have hb56 := HS.out _ hmem
      have HR := Lib.hid (runJ_step (j := j) l hlt)
      generalize hX : rd_T44 l (i : Int) = x at *
      clear hX hmem
      cases e3
      simp only [Int.toNat_natCast] at hx0 hx1 hx2 hx3 hx4 hx5 hx6
      have HBw := HJ.out.below
      replace hx0 := (HBw.cell (World.block_lt_of_cell? w _ hx0)).trans hx0
      replace hx1 := (HBw.cell (World.block_lt_of_cell? w _ hx1)).trans hx1
      replace hx2 := (HBw.cell (World.block_lt_of_cell? w _ hx2)).trans hx2
      replace hx3 := (HBw.cell (World.block_lt_of_cell? w _ hx3)).trans hx3
      replace hx4 := (HBw.cell (World.block_lt_of_cell? w _ hx4)).trans hx4
      replace hx5 := (HBw.cell (World.block_lt_of_cell? w _ hx5)).trans hx5
      replace hx6 := (HBw.cell (World.block_lt_of_cell? w _ hx6)).trans hx6
      have KC := Lib.hid (And.intro (And.intro g5 C5) (And.intro g6 C6))
      have KB := Lib.hid hb56
      clear HBw g5 C5 g6 C6 hb56
      go_wp2_with fail
      refine (rules_calls _ _).mono ?_
      rintro e w2 ⟨rfl, hw2⟩
      have HI : Aside0 (In w w2 l i j wr.heap.size (wr.heap.size + 1) #[.int .i64 x.f0, .int .i64 x.f1, .int .i64 x.f2, .int .i64 x.f3, .int .i64 x.f4, .slice A5 x.f5.length c5, .slice A6 x.f6.length c6]) := by
        subst hw2
        refine ⟨⟨HJ.out.step (below_alloc (below_alloc (Below.refl _ _) _) _), (Below.heap_alloc _ _ _ (by simp)).trans (MapKept.heap_alloc wr _).1, ?_⟩⟩
        have := (MapKept.heap_alloc (wr.alloc (.cells #[.int .i64 x.f0, .int .i64 x.f1, .int .i64 x.f2, .int .i64 x.f3, .int .i64 x.f4, .slice A5 x.f5.length c5, .slice A6 x.f6.length c6] 44)) (.cells (ruleCells (.pointer (some ⟨w.heap.size + 3, 0, none⟩))) 93)).1
        simp only [World.size_alloc] at this
        exact this
      clear hw2 HJ hx0 hx1 hx2 hx3 hx4 hx5 hx6
      obtain ⟨wo, rfl⟩ : ∃ wo : World, wo = wr := ⟨_, rfl⟩
      go_wp2
      go_loopw [22] (fun v wr => ∃ k : Nat, k ≤ 6 ∧ v = .int .i64 k ∧ Aside0 (okTo j x k) ∧ Aside0 (In w wr l i j wo.heap.size (wo.heap.size + 1) #[.int .i64 x.f0, .int .i64 x.f1, .int .i64 x.f2, .int .i64 x.f3, .int .i64 x.f4, .slice A5 x.f5.length c5, .slice A6 x.f6.length c6])) (fun v _ => 6 - (intOf v).toNat)
      case atStart => exact ⟨0, by omega, rfl, ⟨fun m hm => absurd hm (by omega)⟩, HI⟩
      case round =>
        clear HI
        obtain ⟨k, hk, rfl, HO, HI⟩ := hrel
        by_cases hk6 : k < 6
        · have hcells := HI.out.list
          have hev := HI.out.box
          have e0 := cellH hev (i := 0) rfl
          have e1 := cellH hev (i := 1) rfl
          have e2 := cellH hev (i := 2) rfl
          have e3 := cellH hev (i := 3) rfl
          have e4 := cellH hev (i := 4) rfl
          have e5 := cellH hev (i := 5) rfl
          have e6 := cellH hev (i := 6) rfl
          have hC := KC.out
          have hB := KB.out
          have HRule := Lib.hid (fun f hf => rule_calls HI.out.at_.jw HI.out.at_.below x A5 A6 c5 c6 hC.1.1 (Kd.C_below hC.1.2 HI.out.at_.below) hC.2.1 (Kd.C_below hC.2.2 HI.out.at_.below) hB.1 hB.2 k hk6 f hf)
          clear hev hC hB
          have hkk : k = 0 ∨ k = 1 ∨ k = 2 ∨ k = 3 ∨ k = 4 ∨ k = 5 := by omega
          rcases hkk with rfl | rfl | rfl | rfl | rfl | rfl
          · have hcell : wr.cell? ⟨wo.heap.size + 1, 0, none⟩ = some (.func (.func 72) #[.pointer (some ⟨w.heap.size + 3, 0, none⟩)] #[]) := cellH hcells rfl
            clear hcells
            go_wp2_with fail
            refine (HRule.out _ rfl).mono ?_
            rintro e w3 ⟨rfl, hb3⟩
            have HI3 := Aside0.mk (HI.out.step hb3)
            clear hb3
            cases hr : ruleB j x 0
            · have HF := Lib.hid (bad_of HO.out (by omega) hr)
              clear hr
              go_wp2
              refine bodyPost_ret (v := .tuple #[.pointer (some ⟨w.heap.size + 3, 0, none⟩), .int .i64 (i : Int), .int .i64 (1 : Int), .bool true]) (by simp [results, Tryz.results37, go_sem]) rfl ?_
              refine ⟨HI3.out.at_.below, ?_⟩
              rw [← HI3.out.at_.run, HR.out.1, HF.out]
              rfl
            · have HO3 := Aside0.mk (okTo_succ HO.out hr)
              clear hr
              go_wp2
              go_roundw
              case rel => exact ⟨1, by omega, by go_num, HO3, HI3⟩
              case measure => simp [intOf]
          · have hcell : wr.cell? ⟨wo.heap.size + 1, 1, none⟩ = some (.func (.func 73) #[.pointer (some ⟨w.heap.size + 3, 0, none⟩)] #[]) := cellH hcells rfl
            clear hcells
            go_wp2_with fail
            refine (HRule.out _ rfl).mono ?_
            rintro e w3 ⟨rfl, hb3⟩
            have HI3 := Aside0.mk (HI.out.step hb3)
            clear hb3
            cases hr : ruleB j x 1
            · have HF := Lib.hid (bad_of HO.out (by omega) hr)
              clear hr
              go_wp2
              refine bodyPost_ret (v := .tuple #[.pointer (some ⟨w.heap.size + 3, 0, none⟩), .int .i64 (i : Int), .int .i64 (2 : Int), .bool true]) (by simp [results, Tryz.results37, go_sem]) rfl ?_
              refine ⟨HI3.out.at_.below, ?_⟩
              rw [← HI3.out.at_.run, HR.out.1, HF.out]
              rfl
            · have HO3 := Aside0.mk (okTo_succ HO.out hr)
              clear hr
              go_wp2
              go_roundw
              case rel => exact ⟨2, by omega, by go_num, HO3, HI3⟩
              case measure => simp [intOf]
          · have hcell : wr.cell? ⟨wo.heap.size + 1, 2, none⟩ = some (.func (.func 74) #[.pointer (some ⟨w.heap.size + 3, 0, none⟩)] #[]) := cellH hcells rfl
            clear hcells
            go_wp2_with fail
            refine (HRule.out _ rfl).mono ?_
            rintro e w3 ⟨rfl, hb3⟩
            have HI3 := Aside0.mk (HI.out.step hb3)
            clear hb3
            cases hr : ruleB j x 2
            · have HF := Lib.hid (bad_of HO.out (by omega) hr)
              clear hr
              go_wp2
              refine bodyPost_ret (v := .tuple #[.pointer (some ⟨w.heap.size + 3, 0, none⟩), .int .i64 (i : Int), .int .i64 (3 : Int), .bool true]) (by simp [results, Tryz.results37, go_sem]) rfl ?_
              refine ⟨HI3.out.at_.below, ?_⟩
              rw [← HI3.out.at_.run, HR.out.1, HF.out]
              rfl
            · have HO3 := Aside0.mk (okTo_succ HO.out hr)
              clear hr
              go_wp2
              go_roundw
              case rel => exact ⟨3, by omega, by go_num, HO3, HI3⟩
              case measure => simp [intOf]
          · have hcell : wr.cell? ⟨wo.heap.size + 1, 3, none⟩ = some (.func (.func 75) #[.pointer (some ⟨w.heap.size + 3, 0, none⟩)] #[]) := cellH hcells rfl
            clear hcells
            go_wp2_with fail
            refine (HRule.out _ rfl).mono ?_
            rintro e w3 ⟨rfl, hb3⟩
            have HI3 := Aside0.mk (HI.out.step hb3)
            clear hb3
            cases hr : ruleB j x 3
            · have HF := Lib.hid (bad_of HO.out (by omega) hr)
              clear hr
              go_wp2
              refine bodyPost_ret (v := .tuple #[.pointer (some ⟨w.heap.size + 3, 0, none⟩), .int .i64 (i : Int), .int .i64 (4 : Int), .bool true]) (by simp [results, Tryz.results37, go_sem]) rfl ?_
              refine ⟨HI3.out.at_.below, ?_⟩
              rw [← HI3.out.at_.run, HR.out.1, HF.out]
              rfl
            · have HO3 := Aside0.mk (okTo_succ HO.out hr)
              clear hr
              go_wp2
              go_roundw
              case rel => exact ⟨4, by omega, by go_num, HO3, HI3⟩
              case measure => simp [intOf]
          · have hcell : wr.cell? ⟨wo.heap.size + 1, 4, none⟩ = some (.func (.func 76) #[.pointer (some ⟨w.heap.size + 3, 0, none⟩)] #[]) := cellH hcells rfl
            clear hcells
            go_wp2_with fail
            refine (HRule.out _ rfl).mono ?_
            rintro e w3 ⟨rfl, hb3⟩
            have HI3 := Aside0.mk (HI.out.step hb3)
            clear hb3
            cases hr : ruleB j x 4
            · have HF := Lib.hid (bad_of HO.out (by omega) hr)
              clear hr
              go_wp2
              refine bodyPost_ret (v := .tuple #[.pointer (some ⟨w.heap.size + 3, 0, none⟩), .int .i64 (i : Int), .int .i64 (5 : Int), .bool true]) (by simp [results, Tryz.results37, go_sem]) rfl ?_
              refine ⟨HI3.out.at_.below, ?_⟩
              rw [← HI3.out.at_.run, HR.out.1, HF.out]
              rfl
            · have HO3 := Aside0.mk (okTo_succ HO.out hr)
              clear hr
              go_wp2
              go_roundw
              case rel => exact ⟨5, by omega, by go_num, HO3, HI3⟩
              case measure => simp [intOf]
          · have hcell : wr.cell? ⟨wo.heap.size + 1, 5, none⟩ = some (.func (.func 77) #[.pointer (some ⟨w.heap.size + 3, 0, none⟩)] #[]) := cellH hcells rfl
            clear hcells
            go_wp2_with fail
            refine (HRule.out _ rfl).mono ?_
            rintro e w3 ⟨rfl, hb3⟩
            have HI3 := Aside0.mk (HI.out.step hb3)
            clear hb3
            cases hr : ruleB j x 5
            · have HF := Lib.hid (bad_of HO.out (by omega) hr)
              clear hr
              go_wp2
              refine bodyPost_ret (v := .tuple #[.pointer (some ⟨w.heap.size + 3, 0, none⟩), .int .i64 (i : Int), .int .i64 (6 : Int), .bool true]) (by simp [results, Tryz.results37, go_sem]) rfl ?_
              refine ⟨HI3.out.at_.below, ?_⟩
              rw [← HI3.out.at_.run, HR.out.1, HF.out]
              rfl
            · have HO3 := Aside0.mk (okTo_succ HO.out hr)
              clear hr
              go_wp2
              go_roundw
              case rel => exact ⟨6, by omega, by go_num, HO3, HI3⟩
              case measure => simp [intOf]
        · have hk7 : k = 6 := by omega
          subst hk7
          have HF := Lib.hid (good_of HO.out)
          have hev := HI.out.box
          have e0 := cellH hev (i := 0) rfl
          have e1 := cellH hev (i := 1) rfl
          have e2 := cellH hev (i := 2) rfl
          have e3 := cellH hev (i := 3) rfl
          have e4 := cellH hev (i := 4) rfl
          have e5 := cellH hev (i := 5) rfl
          have e6 := cellH hev (i := 6) rfl
          have hC := KC.out
          have hLearn := Lib.hid (learn_walk w wr w.heap.size j x A5 A6 c5 c6 HI.out.at_.jw HI.out.at_.below (Nat.le_refl _) hC.2.1 hC.2.2 (hit_of HO.out) (by have := HI.out.at_.bnd.threads; omega) (fun n => by have := HI.out.at_.bnd.pend n; omega))
          clear hC hev
          go_wp2_with fail
          refine hLearn.out.mono ?_
          rintro e w4 ⟨rfl, hJ4, hB4⟩
          have HN : Aside0 (At w w4 l (i + 1) (learnJ j x)) := by
            refine ⟨⟨hJ4, ?_, ?_, ?_, bnd_learn HI.out.at_.bnd x⟩⟩
            · exact HI.out.at_.below.trans hB4
            · rw [← HI.out.at_.run, HR.out.1, HF.out]
            · rw [← HI.out.at_.fold, HR.out.2]
          clear hJ4 hB4
          go_wp2
          go_roundw
          case rel => exact ⟨i + 1, by omega, by go_num, learnJ j x, HN⟩
          case measure => simp [intOf]; omega
    · have hje : i = l.length := by omega
      subst hje
      go_wp2
      refine bodyPost_ret (v := .tuple #[.pointer (some ⟨w.heap.size + 3, 0, none⟩), .int .i64 0, .int .i64 0, .bool false]) (by simp [results, Tryz.results37, go_sem]) rfl ?_
      refine ⟨HJ.out.below, ?_⟩
      have h1 := HJ.out.run
      have h2 := HJ.out.fold
      rw [List.drop_length] at h1 h2
      rw [← h1]
      refine ⟨rfl, ?_⟩
      rw [← h2]
      exact HJ.out.jw

def breaksV (o : Option (Nat × Nat)) : Value := match o with
  | some p => .tuple #[.int .i64 (p.1 : Int), .int .i64 (p.2 : Int), .bool true]
  | none => .tuple #[.int .i64 0, .int .i64 0, .bool false]

theorem breaks_calls (l : List Ev) (hsm : Small l) (w : World) (A : Option Addr) (c : Nat) (hc : l.length ≤ c) (C1 : kEv.C w A l.length l) :
    Calls Tryz.prog 17 #[.slice A l.length c] w fun e w' => e = .returned (breaksV (runJ js0 0 l)) ∧ Below w.heap.size w w' := by
  have HJ := Lib.hid (judged_calls l hsm w A c hc C1)
  clear hsm C1 hc
  go_enter Tryz.func17, Tryz.ntmps17
  go_wp2_with fail
  refine HJ.out.mono ?_
  intro e w1 hp
  obtain ⟨hB, hm⟩ := hp
  have HB := Aside0.mk hB
  clear hB
  cases hr : runJ js0 0 l with
  | none =>
    rw [hr] at hm
    obtain ⟨rfl, _⟩ := hm
    have HR := Lib.hid hr
    clear hr
    go_wp2
    refine bodyPost_ret (v := .tuple #[.int .i64 0, .int .i64 0, .bool false]) (by simp [results, Tryz.results17, go_sem]) rfl ?_
    exact ⟨by rw [HR.out]; rfl, HB.out⟩
  | some p =>
    rw [hr] at hm
    obtain ⟨i, k⟩ := p
    dsimp only at hm
    subst hm
    have HR := Lib.hid hr
    clear hr
    go_wp2
    refine bodyPost_ret (v := .tuple #[.int .i64 (i : Int), .int .i64 (k : Int), .bool true]) (by simp [results, Tryz.results17, go_sem]) rfl ?_
    exact ⟨by rw [HR.out]; rfl, HB.out⟩
end Go.Proofs.YtkfbhfmddmhiaaaGreatDoor.TJ
