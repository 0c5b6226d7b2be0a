/- The judge learns an event: the Go method leaves the judge as the plain function says. Conditions: the judge lies in memory as JW says; an event that hits has something to hit by; numbers are small. -/
import Derived.Test.YtkfbhfmddmhiaaaGreatDoorJ5
import Derived.BigRegion
import Derived.Deep.DeepCutAuto
import Derived.Deep.CutBlock
namespace Go.Proofs.YtkfbhfmddmhiaaaGreatDoor.TJ
open Go.RowKit Go.Proofs.YtkfbhfmddmhiaaaGreatDoorW.PrintWords Go.Proofs.YtkfbhfmddmhiaaaGreatDoorW.PrintLast Go.Proofs.YtkfbhfmddmhiaaaGreatDoor.PT Go.Proofs.YtkfbhfmddmhiaaaGreatDoor.IMaps
set_option linter.unusedVariables false
set_option linter.unusedSimpArgs false

def learn1 (j : JS) (x : Ev) : JS :=
  if x.f2 = 3 then { j with threads := j.threads + 1 }
  else if x.f2 = 4 then { j with pend := setF j.pend x.f3 (j.pend x.f3 ++ [x.f4]) }
  else if x.f2 = 5 then { j with pend := setF j.pend x.f1 (j.pend x.f1).tail }
  else if x.f2 = 10 ∨ x.f2 = 11 ∨ x.f2 = 12 then { j with ended := setF j.ended x.f1 true, over := if x.f1 = 0 then x.f0 else j.over }
  else j

def varsF (f : Int → Option Vl) (l : List Ac) : Int → Option Vl := l.foldl (fun f a => setF f a.f0 (some a.f1)) f

theorem learn_eq (j : JS) (x : Ev) : learnJ j x = { learn1 j x with vars := varsF (learn1 j x).vars x.f6, lt := x.f0, lth := x.f1, begun := true } := rfl

def Mid (w0 w wx : World) (b g : Nat) (j : JS) (cs : Array Value) : Prop :=
  JW w0 wx b j ∧ Below b w wx ∧ wx.heap[g]? = some (.cells cs 44 (0, 0)) ∧ g < wx.heap.size

theorem append_exec {P : Program} {o : Oper} {ev : Operand → Value} {s x : Operand} {t ty : TypeId} {v u v1 : Value} {w w1 : World} (hop : o.op = .call { callee := .builtin .append, args := #[s, x], argTypes := #[t, t] }) (hty : o.type = ty) (hs : ev s = v) (hx : ev x = u)
    (hrun : (Builtin.append_ #[t, t] ty #[v, u]).run P w = .ok v1 w1) : (execOp ev o).run P w = .ok (.value v1) w1 := by
  subst hty
  unfold execOp
  simp only [hop, resolve, invoke, builtin, Sem.run_bind, Sem.run_pure, Result.andThen_ok, List.map_toArray, List.map_cons, List.map_nil, hs, hx, hrun]

theorem midAt {w0 w : World} {b : Nat} {j : JS} (h : JW w0 w b j) (cs : Array Value) : Mid w0 w (w.alloc (.cells cs 44)) b w.heap.size j cs :=
  ⟨h.alloc _, (Below.refl _ _).alloc (by have := h.lt; omega) _, (MapKept.heap_alloc w _).1, by simp⟩

theorem midNone {w0 w : World} {b : Nat} {j : JS} (h : JW w0 w b j) (x : Ev) (A5 A6 : Option Addr) (c5 c6 : Nat) (q3 : ¬ x.f2 = 3) (q4 : ¬ x.f2 = 4) (q5 : ¬ x.f2 = 5) (qe : ¬ (x.f2 = 10 ∨ x.f2 = 11 ∨ x.f2 = 12)) :
    Mid w0 w (w.alloc (.cells #[.int .i64 x.f0, .int .i64 x.f1, .int .i64 x.f2, .int .i64 x.f3, .int .i64 x.f4, .slice A5 x.f5.length c5, .slice A6 x.f6.length c6] 44)) b w.heap.size (learn1 j x) #[.int .i64 x.f0, .int .i64 x.f1, .int .i64 x.f2, .int .i64 x.f3, .int .i64 x.f4, .slice A5 x.f5.length c5, .slice A6 x.f6.length c6] := by
  have e : learn1 j x = j := by unfold learn1; rw [if_neg q3, if_neg q4, if_neg q5, if_neg qe]
  rw [e]
  exact midAt h _

theorem midThreads {w0 w : World} {b : Nat} {j : JS} (h : JW w0 w b j) (x : Ev) (A5 A6 : Option Addr) (c5 c6 : Nat) (q3 : x.f2 = 3) :
    Mid w0 w ((w.alloc (.cells #[.int .i64 x.f0, .int .i64 x.f1, .int .i64 x.f2, .int .i64 x.f3, .int .i64 x.f4, .slice A5 x.f5.length c5, .slice A6 x.f6.length c6] 44)).setCell ⟨b + 3, 8, none⟩ (.int .i64 (j.threads + 1))) b w.heap.size (learn1 j x) #[.int .i64 x.f0, .int .i64 x.f1, .int .i64 x.f2, .int .i64 x.f3, .int .i64 x.f4, .slice A5 x.f5.length c5, .slice A6 x.f6.length c6] := by
  have e : learn1 j x = { j with threads := j.threads + 1 } := by unfold learn1; rw [if_pos q3]
  have hl := h.lt
  obtain ⟨m1, m2, m3, m4⟩ := midAt h #[.int .i64 x.f0, .int .i64 x.f1, .int .i64 x.f2, .int .i64 x.f3, .int .i64 x.f4, .slice A5 x.f5.length c5, .slice A6 x.f6.length c6]
  rw [e]
  exact ⟨m1.setThreads _, m2.setCell (by show b ≤ b + 3; omega) _, (Below.heap_setCell _ _ _ _ (by show w.heap.size ≠ b + 3; omega)).trans m3, by simp [World.setCell]⟩

theorem midKill {w0 w : World} {b : Nat} {j : JS} (h : JW w0 w b j) (x : Ev) (A5 A6 : Option Addr) (c5 c6 : Nat) (q3 : ¬ x.f2 = 3) (q4 : x.f2 = 4) (hp : (j.pend x.f3).length ≤ 1000000) :
    ∃ v, (∀ W1, Below (w.alloc (.cells #[.int .i64 x.f0, .int .i64 x.f1, .int .i64 x.f2, .int .i64 x.f3, .int .i64 x.f4, .slice A5 x.f5.length c5, .slice A6 x.f6.length c6] 44)).heap.size (w.alloc (.cells #[.int .i64 x.f0, .int .i64 x.f1, .int .i64 x.f2, .int .i64 x.f3, .int .i64 x.f4, .slice A5 x.f5.length c5, .slice A6 x.f6.length c6] 44)) W1 → (Instr.lookup 73 (.map (some (b + 1))) (.int .i64 x.f3) false).run Tryz.prog W1 = .ok v W1) ∧
      ∃ v1 w1 w2, (Builtin.append_ #[29, 29] 29 #[v, .slice (some ⟨w.heap.size + 1, 0, none⟩) 1 1]).run Tryz.prog ((w.alloc (.cells #[.int .i64 x.f0, .int .i64 x.f1, .int .i64 x.f2, .int .i64 x.f3, .int .i64 x.f4, .slice A5 x.f5.length c5, .slice A6 x.f6.length c6] 44)).alloc (.cells #[.int .i64 x.f4] 3)).drew = .ok v1 w1 ∧
        (Instr.mapUpdate 73 (.map (some (b + 1))) (.int .i64 x.f3) v1).run Tryz.prog w1 = .ok () w2 ∧ Mid w0 w w2 b w.heap.size (learn1 j x) #[.int .i64 x.f0, .int .i64 x.f1, .int .i64 x.f2, .int .i64 x.f3, .int .i64 x.f4, .slice A5 x.f5.length c5, .slice A6 x.f6.length c6] ∧
        (∃ x2 x3 x4 x5 x6, w1.heap[b + 3]? = some (.cells #[.int .i64 j.lt, .int .i64 j.lth, x2, x3, x4, x5, x6, .bool j.begun, .int .i64 j.threads, .map (some b), .int .i64 j.over, .map (some (b + 1)), .map (some (b + 2))] 76 (0, 0))) ∧
        w1.heap[w.heap.size]? = some (.cells #[.int .i64 x.f0, .int .i64 x.f1, .int .i64 x.f2, .int .i64 x.f3, .int .i64 x.f4, .slice A5 x.f5.length c5, .slice A6 x.f6.length c6] 44 (0, 0)) ∧
        (Instr.lookup 73 (.map (some (b + 1))) (.int .i64 x.f3) false).run Tryz.prog w1 = .ok v w1 := by
  have e : learn1 j x = { j with pend := setF j.pend x.f3 (j.pend x.f3 ++ [x.f4]) } := by unfold learn1; rw [if_neg q3, if_pos q4]
  have hl := h.lt
  obtain ⟨m1, m2, m3, m4⟩ := midAt h #[.int .i64 x.f0, .int .i64 x.f1, .int .i64 x.f2, .int .i64 x.f3, .int .i64 x.f4, .slice A5 x.f5.length c5, .slice A6 x.f6.length c6]
  have m1' : JW w0 (w.alloc (.cells #[.int .i64 x.f0, .int .i64 x.f1, .int .i64 x.f2, .int .i64 x.f3, .int .i64 x.f4, .slice A5 x.f5.length c5, .slice A6 x.f6.length c6] 44)).drew b j := m1.below (below_drew (Below.refl _ _))
  obtain ⟨v, hlk, v1, w1, w2, hap, hup, hJ, hB, k1, k2, k3, k4⟩ := killFacts m1' x.f3 x.f4 hp w.heap.size _ m3
  obtain ⟨x2, x3, x4, x5, x6, hc⟩ := m1'.cells
  rw [e]
  refine ⟨v, fun W1 hb1 => hlk W1 ⟨hb1.os, hb1.tape, hb1.output, hb1.size, hb1.block⟩, v1, w1, w2, ?_, hup, ⟨hJ, (below_drew m2).trans hB, k1.trans m3, ?_⟩, ⟨x2, x3, x4, x5, x6, k3.trans hc⟩, k2.trans m3, k4⟩
  · have := hap
    simp only [World.size_alloc, World.drew] at this
    exact this
  · have := hB.size
    exact Nat.lt_of_lt_of_le m4 this

theorem midHit {w0 w : World} {b : Nat} {j : JS} (h : JW w0 w b j) (x : Ev) (A5 A6 : Option Addr) (c5 c6 : Nat) (q3 : ¬ x.f2 = 3) (q4 : ¬ x.f2 = 4) (q5 : x.f2 = 5) (hne : j.pend x.f1 ≠ []) :
    ∃ A A1 len c, (∀ W1, Below (w.alloc (.cells #[.int .i64 x.f0, .int .i64 x.f1, .int .i64 x.f2, .int .i64 x.f3, .int .i64 x.f4, .slice A5 x.f5.length c5, .slice A6 x.f6.length c6] 44)).heap.size (w.alloc (.cells #[.int .i64 x.f0, .int .i64 x.f1, .int .i64 x.f2, .int .i64 x.f3, .int .i64 x.f4, .slice A5 x.f5.length c5, .slice A6 x.f6.length c6] 44)) W1 → (Instr.lookup 73 (.map (some (b + 1))) (.int .i64 x.f1) false).run Tryz.prog W1 = .ok (.slice A len c) W1) ∧
      (∀ W1, (Instr.slice 29 (.slice A len c) (some (.int .i64 1)) none none).run Tryz.prog W1 = .ok (.slice A1 (len - 1) (c - 1)) W1) ∧
      (len - 1 = 0 → ∃ w2, (Builtin.delete_ #[73, 3] 0 #[.map (some (b + 1)), .int .i64 x.f1]).run Tryz.prog (w.alloc (.cells #[.int .i64 x.f0, .int .i64 x.f1, .int .i64 x.f2, .int .i64 x.f3, .int .i64 x.f4, .slice A5 x.f5.length c5, .slice A6 x.f6.length c6] 44)).drew.drew = .ok (.tuple #[]) w2 ∧ Mid w0 w w2 b w.heap.size (learn1 j x) #[.int .i64 x.f0, .int .i64 x.f1, .int .i64 x.f2, .int .i64 x.f3, .int .i64 x.f4, .slice A5 x.f5.length c5, .slice A6 x.f6.length c6]) ∧
      (len - 1 ≠ 0 → ∃ w2, (Instr.mapUpdate 73 (.map (some (b + 1))) (.int .i64 x.f1) (.slice A1 (len - 1) (c - 1))).run Tryz.prog (w.alloc (.cells #[.int .i64 x.f0, .int .i64 x.f1, .int .i64 x.f2, .int .i64 x.f3, .int .i64 x.f4, .slice A5 x.f5.length c5, .slice A6 x.f6.length c6] 44)).drew.drew = .ok () w2 ∧ Mid w0 w w2 b w.heap.size (learn1 j x) #[.int .i64 x.f0, .int .i64 x.f1, .int .i64 x.f2, .int .i64 x.f3, .int .i64 x.f4, .slice A5 x.f5.length c5, .slice A6 x.f6.length c6]) := by
  have e : learn1 j x = { j with pend := setF j.pend x.f1 (j.pend x.f1).tail } := by unfold learn1; rw [if_neg q3, if_neg q4, if_pos q5]
  have hl := h.lt
  obtain ⟨m1, m2, m3, m4⟩ := midAt h #[.int .i64 x.f0, .int .i64 x.f1, .int .i64 x.f2, .int .i64 x.f3, .int .i64 x.f4, .slice A5 x.f5.length c5, .slice A6 x.f6.length c6]
  obtain ⟨A, A1, c, hlk, hsl, hz, hnz⟩ := hitFacts m1 x.f1 hne
  have hbb : Below (w.alloc (.cells #[.int .i64 x.f0, .int .i64 x.f1, .int .i64 x.f2, .int .i64 x.f3, .int .i64 x.f4, .slice A5 x.f5.length c5, .slice A6 x.f6.length c6] 44)).heap.size (w.alloc (.cells #[.int .i64 x.f0, .int .i64 x.f1, .int .i64 x.f2, .int .i64 x.f3, .int .i64 x.f4, .slice A5 x.f5.length c5, .slice A6 x.f6.length c6] 44)) (w.alloc (.cells #[.int .i64 x.f0, .int .i64 x.f1, .int .i64 x.f2, .int .i64 x.f3, .int .i64 x.f4, .slice A5 x.f5.length c5, .slice A6 x.f6.length c6] 44)).drew.drew := below_drew (below_drew (Below.refl _ _))
  have fin : ∀ w2, JW w0 w2 b { j with pend := setF j.pend x.f1 (j.pend x.f1).tail } → (w.alloc (.cells #[.int .i64 x.f0, .int .i64 x.f1, .int .i64 x.f2, .int .i64 x.f3, .int .i64 x.f4, .slice A5 x.f5.length c5, .slice A6 x.f6.length c6] 44)).drew.drew.grownBy w2 (some (b + 1)) → Mid w0 w w2 b w.heap.size (learn1 j x) #[.int .i64 x.f0, .int .i64 x.f1, .int .i64 x.f2, .int .i64 x.f3, .int .i64 x.f4, .slice A5 x.f5.length c5, .slice A6 x.f6.length c6] := by
    intro w2 hJ hg
    rw [e]
    refine ⟨hJ, (below_drew (below_drew m2)).grown hg (by show b ≤ (w.alloc _).heap.size; simp; omega) (fun k hk => by injection hk with hk; omega), ?_, ?_⟩
    · exact (hg.block w.heap.size m4 (fun e => by injection e with e; omega)).trans m3
    · exact Nat.lt_of_lt_of_le m4 hg.size
  refine ⟨A, A1, (j.pend x.f1).length, c, hlk, hsl, fun h0 => ?_, fun h0 => ?_⟩
  · obtain ⟨w2, hrun, hJ, hg⟩ := hz h0 _ hbb
    exact ⟨w2, hrun, fin w2 hJ hg⟩
  · obtain ⟨w2, hrun, hJ, hg⟩ := hnz h0 _ hbb
    exact ⟨w2, hrun, fin w2 hJ hg⟩

theorem midEnd {w0 w : World} {b : Nat} {j : JS} (h : JW w0 w b j) (x : Ev) (A5 A6 : Option Addr) (c5 c6 : Nat) (q3 : ¬ x.f2 = 3) (q4 : ¬ x.f2 = 4) (q5 : ¬ x.f2 = 5) (qe : x.f2 = 10 ∨ x.f2 = 11 ∨ x.f2 = 12) :
    ∃ w2, (Instr.mapUpdate 72 (.map (some b)) (.int .i64 x.f1) (.bool true)).run Tryz.prog (w.alloc (.cells #[.int .i64 x.f0, .int .i64 x.f1, .int .i64 x.f2, .int .i64 x.f3, .int .i64 x.f4, .slice A5 x.f5.length c5, .slice A6 x.f6.length c6] 44)).drew = .ok () w2 ∧
      w2.cell? ⟨w.heap.size, 0, none⟩ = some (.int .i64 x.f0) ∧ w2.cell? ⟨w.heap.size, 1, none⟩ = some (.int .i64 x.f1) ∧ w2.cell? ⟨b + 3, 10, none⟩ = some (.int .i64 j.over) ∧ w2.frozen? ⟨b + 3, 10, none⟩ = false ∧
      (x.f1 = 0 → Mid w0 w (w2.setCell ⟨b + 3, 10, none⟩ (.int .i64 x.f0)) b w.heap.size (learn1 j x) #[.int .i64 x.f0, .int .i64 x.f1, .int .i64 x.f2, .int .i64 x.f3, .int .i64 x.f4, .slice A5 x.f5.length c5, .slice A6 x.f6.length c6]) ∧ (x.f1 ≠ 0 → Mid w0 w w2 b w.heap.size (learn1 j x) #[.int .i64 x.f0, .int .i64 x.f1, .int .i64 x.f2, .int .i64 x.f3, .int .i64 x.f4, .slice A5 x.f5.length c5, .slice A6 x.f6.length c6]) := by
  have e : learn1 j x = { j with ended := setF j.ended x.f1 true, over := if x.f1 = 0 then x.f0 else j.over } := by unfold learn1; rw [if_neg q3, if_neg q4, if_neg q5, if_pos qe]
  have hl := h.lt
  obtain ⟨m1, m2, m3, m4⟩ := midAt h #[.int .i64 x.f0, .int .i64 x.f1, .int .i64 x.f2, .int .i64 x.f3, .int .i64 x.f4, .slice A5 x.f5.length c5, .slice A6 x.f6.length c6]
  have m1' : JW w0 (w.alloc (.cells #[.int .i64 x.f0, .int .i64 x.f1, .int .i64 x.f2, .int .i64 x.f3, .int .i64 x.f4, .slice A5 x.f5.length c5, .slice A6 x.f6.length c6] 44)).drew b j := m1.below (below_drew (Below.refl _ _))
  obtain ⟨le, e1, e2, e3⟩ := m1'.ended
  obtain ⟨w2, hrun, hI, hg, _⟩ := run_mapUpdate (P := Tryz.prog) e1 Tryz.underlying72 Tryz.underlying3 x.f1 (.bool true)
  have hJ := m1'.endedPut x.f1 e1 hg hI e2 e3
  have k1 : w2.heap[w.heap.size]? = some (.cells #[.int .i64 x.f0, .int .i64 x.f1, .int .i64 x.f2, .int .i64 x.f3, .int .i64 x.f4, .slice A5 x.f5.length c5, .slice A6 x.f6.length c6] 44 (0, 0)) := (hg.block w.heap.size m4 (fun e => by injection e with e; omega)).trans m3
  have hB : Below b w w2 := (below_drew m2).grown hg (by show b ≤ (w.alloc _).heap.size; simp; omega) (fun k hk => by injection hk with hk; omega)
  obtain ⟨x2, x3, x4, x5, x6, hc⟩ := hJ.cells
  refine ⟨w2, hrun, cellH k1 rfl, cellH k1 rfl, cellH hc rfl, by simp [World.frozen?, hc], fun hz => ?_, fun hz => ?_⟩
  · rw [e, if_pos hz]
    exact ⟨hJ.setOver _, hB.setCell (by show b ≤ b + 3; omega) _, (Below.heap_setCell _ _ _ _ (by show w.heap.size ≠ b + 3; omega)).trans k1, by have := hg.size; have h2 := Nat.lt_of_lt_of_le m4 this; simpa [World.setCell] using h2⟩
  · rw [e, if_neg hz]
    exact ⟨hJ, hB, k1, Nat.lt_of_lt_of_le m4 hg.size⟩

set_option maxRecDepth 100000 in
set_option maxHeartbeats 4000000 in
theorem learn_walk (w0 w : World) (b : Nat) (j : JS) (x : Ev) (A5 A6 : Option Addr) (c5 c6 : Nat) (h : JW w0 w b j) (h0 : Below w0.heap.size w0 w) (hb : w0.heap.size ≤ b)
    (g6 : x.f6.length ≤ c6) (C6 : kAc.C w0 A6 x.f6.length x.f6) (hhit : x.f2 = 5 → j.pend x.f1 ≠ []) (ht : 0 ≤ j.threads ∧ j.threads ≤ 1000000) (hp : ∀ n, (j.pend n).length ≤ 1000000) :
    Calls Tryz.prog 55 #[.pointer (some ⟨b + 3, 0, none⟩), .agg #[.int .i64 x.f0, .int .i64 x.f1, .int .i64 x.f2, .int .i64 x.f3, .int .i64 x.f4, .slice A5 x.f5.length c5, .slice A6 x.f6.length c6]] w fun e w' => e = .returned (.tuple #[]) ∧ JW w0 w' b (learnJ j x) ∧ Below b w w' := by
  have H := Aside0.mk h
  clear h
  go_enter Tryz.func55, Tryz.ntmps55
  go_upto_block 0 with fail
  go_cut [4] (fun _ wx => Aside0 (Mid w0 w wx b w.heap.size (learn1 j x) #[.int .i64 x.f0, .int .i64 x.f1, .int .i64 x.f2, .int .i64 x.f3, .int .i64 x.f4, .slice A5 x.f5.length c5, .slice A6 x.f6.length c6]))
  case first =>
    have hl := H.out.lt
    obtain ⟨x2, x3, x4, x5, x6, hc0⟩ := H.out.cells
    have dA8 := cellA hc0 (i := 8) rfl
    have dA9 := cellA hc0 (i := 9) rfl
    have dA10 := cellA hc0 (i := 10) rfl
    have dA11 := cellA hc0 (i := 11) rfl
    have fz : ∀ o i, (w.alloc o).frozen? ⟨b + 3, i, none⟩ = false := fun o i => by simp [World.frozen?, (Below.heap_alloc w o (b + 3) hl).trans hc0]
    clear hc0 hl
    have HP := Lib.hid (And.intro hhit hp)
    have HT := Lib.hid ht
    clear hhit hp C6 g6 ht
    rcases Classical.em (x.f2 = 3) with q3 | q3
    · have t3 : (x.f2 == 3) = true := beq_iff_eq.2 q3
      have HM := Aside0.mk (midThreads H.out x A5 A6 c5 c6 q3)
      have hw : IntKind.i64.wrap (j.threads + 1) = j.threads + 1 := IntWalk.i64_in _ (by have := HT.out; omega)
      clear q3
      go_wp2
      go_meet
      exact HM
    have t3 : (x.f2 == 3) = false := beq_eq_false_iff_ne.2 q3
    rcases Classical.em (x.f2 = 4) with q4 | q4
    · have t4 : (x.f2 == 4) = true := beq_iff_eq.2 q4
      obtain ⟨v, hlk, v1, w1, w2, hap, hup, HM, k1, k2, hlk3⟩ := midKill H.out x A5 A6 c5 c6 q3 q4 (HP.out.2 _)
      have HM' := Aside0.mk HM
      obtain ⟨y2, y3, y4, y5, y6, k1⟩ := k1
      have hev : (w.alloc (.cells #[.int .i64 x.f0, .int .i64 x.f1, .int .i64 x.f2, .int .i64 x.f3, .int .i64 x.f4, .slice A5 x.f5.length c5, .slice A6 x.f6.length c6] 44)).heap[w.heap.size]? = some (.cells #[.int .i64 x.f0, .int .i64 x.f1, .int .i64 x.f2, .int .i64 x.f3, .int .i64 x.f4, .slice A5 x.f5.length c5, .slice A6 x.f6.length c6] 44 (0, 0)) := (MapKept.heap_alloc w _).1
      have hlk1 := hlk (w.alloc (.cells #[.int .i64 x.f0, .int .i64 x.f1, .int .i64 x.f2, .int .i64 x.f3, .int .i64 x.f4, .slice A5 x.f5.length c5, .slice A6 x.f6.length c6] 44)).drew (below_drew (Below.refl _ _))
      have hlk2 := hlk ((w.alloc (.cells #[.int .i64 x.f0, .int .i64 x.f1, .int .i64 x.f2, .int .i64 x.f3, .int .i64 x.f4, .slice A5 x.f5.length c5, .slice A6 x.f6.length c6] 44)).alloc (.cells #[.int .i64 x.f4] 3)).drew (below_drew (below_alloc (Below.refl _ _) _))
      have s11a : (w.alloc (.cells #[.int .i64 x.f0, .int .i64 x.f1, .int .i64 x.f2, .int .i64 x.f3, .int .i64 x.f4, .slice A5 x.f5.length c5, .slice A6 x.f6.length c6] 44)).drew.cell? ⟨b + 3, 11, none⟩ = some (.map (some (b + 1))) := dA11 _
      have s3a : (w.alloc (.cells #[.int .i64 x.f0, .int .i64 x.f1, .int .i64 x.f2, .int .i64 x.f3, .int .i64 x.f4, .slice A5 x.f5.length c5, .slice A6 x.f6.length c6] 44)).drew.cell? ⟨w.heap.size, 3, none⟩ = some (.int .i64 x.f3) := cellH hev rfl
      have s4a : (w.alloc (.cells #[.int .i64 x.f0, .int .i64 x.f1, .int .i64 x.f2, .int .i64 x.f3, .int .i64 x.f4, .slice A5 x.f5.length c5, .slice A6 x.f6.length c6] 44)).drew.cell? ⟨w.heap.size, 4, none⟩ = some (.int .i64 x.f4) := cellH hev rfl
      have s11b : ((w.alloc (.cells #[.int .i64 x.f0, .int .i64 x.f1, .int .i64 x.f2, .int .i64 x.f3, .int .i64 x.f4, .slice A5 x.f5.length c5, .slice A6 x.f6.length c6] 44)).alloc (.cells #[.int .i64 x.f4] 3)).drew.cell? ⟨b + 3, 11, none⟩ = some (.map (some (b + 1))) := pw_cell_below (below_alloc (Below.refl _ _) _) (dA11 (.cells #[.int .i64 x.f0, .int .i64 x.f1, .int .i64 x.f2, .int .i64 x.f3, .int .i64 x.f4, .slice A5 x.f5.length c5, .slice A6 x.f6.length c6] 44))
      have s3b : ((w.alloc (.cells #[.int .i64 x.f0, .int .i64 x.f1, .int .i64 x.f2, .int .i64 x.f3, .int .i64 x.f4, .slice A5 x.f5.length c5, .slice A6 x.f6.length c6] 44)).alloc (.cells #[.int .i64 x.f4] 3)).drew.cell? ⟨w.heap.size, 3, none⟩ = some (.int .i64 x.f3) := cellA hev rfl _
      have s4b : ((w.alloc (.cells #[.int .i64 x.f0, .int .i64 x.f1, .int .i64 x.f2, .int .i64 x.f3, .int .i64 x.f4, .slice A5 x.f5.length c5, .slice A6 x.f6.length c6] 44)).alloc (.cells #[.int .i64 x.f4] 3)).drew.cell? ⟨w.heap.size, 4, none⟩ = some (.int .i64 x.f4) := cellA hev rfl _
      have s11c := cellH k1 (i := 11) rfl
      have s3c := cellH k2 (i := 3) rfl
      have s4c := cellH k2 (i := 4) rfl
      clear q3 q4 hlk HM k1 k2 hev
      go_wp2
      refine start_ (n := 18) (S := fun w' => w'.cell? ⟨b + 3, 11, none⟩ = some (.map (some (b + 1))) ∧ w'.cell? ⟨w.heap.size, 3, none⟩ = some (.int .i64 x.f3) ∧ w'.cell? ⟨w.heap.size, 4, none⟩ = some (.int .i64 x.f4) ∧ (Instr.lookup 73 (.map (some (b + 1))) (.int .i64 x.f3) false).run Tryz.prog w' = .ok v w') (ds := [17]) #[false, false, false, false, false, false, false, false, false, false, false, false, false, false, false, false, false, false] (by kernel_rfl) rfl rfl ⟨s11a, s3a, s4a, hlk1⟩ (fun hHeld => ?_)
      refine pure_ (i := 0) (N := some 20) (v := ?_) (a' := ?_) #[true, false, false, false, false, false, false, false, false, false, false, false, false, false, false, false, false, false] rfl rfl (by kernel_rfl) (fun _ _ _ h => h) (Or.inl ⟨by rfl, ?_⟩) ?_ ?_
      rotate_left
      · intro w'
        go_simp
        with_reducible rfl
      rotate_left
      · simp only [Act.put, List.setIfInBounds_toArray, List.set_cons_zero, List.set_cons_succ, i64_w, i32_w]
        rfl
      refine pure_ (i := 1) (N := some 21) (v := ?_) (a' := ?_) #[true, true, false, false, false, false, false, false, false, false, false, false, false, false, false, false, false, false] rfl rfl (by kernel_rfl) (fun _ _ _ h => h) (Or.inl ⟨by rfl, ?_⟩) ?_ ?_
      rotate_left
      · intro w'
        go_simp
        with_reducible rfl
      rotate_left
      · simp only [Act.put, List.setIfInBounds_toArray, List.set_cons_zero, List.set_cons_succ, i64_w, i32_w]
        rfl
      refine pure_ (i := 2) (N := some 22) (v := ?_) (a' := ?_) #[true, true, true, false, false, false, false, false, false, false, false, false, false, false, false, false, false, false] rfl rfl (by kernel_rfl) (fun _ _ _ h => h) (Or.inl ⟨by rfl, ?_⟩) ?_ ?_
      rotate_left
      · intro w'
        go_simp
        with_reducible rfl
      rotate_left
      · simp only [Act.put, List.setIfInBounds_toArray, List.set_cons_zero, List.set_cons_succ, i64_w, i32_w]
        rfl
      refine pure_ (i := 4) (N := some 24) (v := ?_) (a' := ?_) #[true, true, true, false, true, false, false, false, false, false, false, false, false, false, false, false, false, false] rfl rfl (by kernel_rfl) (fun _ _ _ h => h) (Or.inl ⟨by rfl, ?_⟩) ?_ ?_
      rotate_left
      · intro w'
        go_simp
        with_reducible rfl
      rotate_left
      · simp only [Act.put, List.setIfInBounds_toArray, List.set_cons_zero, List.set_cons_succ, i64_w, i32_w]
        rfl
      refine pure_ (i := 6) (N := some 26) (v := ?_) (a' := ?_) #[true, true, true, false, true, false, true, false, false, false, false, false, false, false, false, false, false, false] rfl rfl (by kernel_rfl) (fun _ _ _ h => h) (Or.inl ⟨by rfl, ?_⟩) ?_ ?_
      rotate_left
      · intro w'
        go_simp
        with_reducible rfl
      rotate_left
      · simp only [Act.put, List.setIfInBounds_toArray, List.set_cons_zero, List.set_cons_succ, i64_w, i32_w]
        rfl
      refine pure_ (i := 7) (N := some 27) (v := ?_) (a' := ?_) #[true, true, true, false, true, false, true, true, false, false, false, false, false, false, false, false, false, false] rfl rfl (by kernel_rfl) (fun _ _ _ h => h) (Or.inl ⟨by rfl, ?_⟩) ?_ ?_
      rotate_left
      · intro w'
        go_simp
        with_reducible rfl
      rotate_left
      · simp only [Act.put, List.setIfInBounds_toArray, List.set_cons_zero, List.set_cons_succ, i64_w, i32_w]
        rfl
      refine pure_ (i := 8) (N := some 28) (v := ?_) (a' := ?_) #[true, true, true, false, true, false, true, true, true, false, false, false, false, false, false, false, false, false] rfl rfl (by kernel_rfl) (fun _ _ _ h => h) (Or.inl ⟨by rfl, ?_⟩) ?_ ?_
      rotate_left
      · intro w'
        go_simp
        with_reducible rfl
      rotate_left
      · simp only [Act.put, List.setIfInBounds_toArray, List.set_cons_zero, List.set_cons_succ, i64_w, i32_w]
        rfl
      refine pure_ (i := 10) (N := some 30) (v := ?_) (a' := ?_) #[true, true, true, false, true, false, true, true, true, false, true, false, false, false, false, false, false, false] rfl rfl (by kernel_rfl) (fun _ _ _ h => h) (Or.inl ⟨by rfl, ?_⟩) ?_ ?_
      rotate_left
      · intro w'
        go_simp
        with_reducible rfl
      rotate_left
      · simp only [Act.put, List.setIfInBounds_toArray, List.set_cons_zero, List.set_cons_succ, i64_w, i32_w]
        rfl
      refine pure_ (i := 13) (N := some 33) (v := ?_) (a' := ?_) #[true, true, true, false, true, false, true, true, true, false, true, false, false, true, false, false, false, false] rfl rfl (by kernel_rfl) (fun _ _ _ h => h) (Or.inl ⟨by rfl, ?_⟩) ?_ ?_
      rotate_left
      · intro w'
        go_simp
        with_reducible rfl
      rotate_left
      · simp only [Act.put, List.setIfInBounds_toArray, List.set_cons_zero, List.set_cons_succ, i64_w, i32_w]
        rfl
      refine take_ (i := 3) (N := some 23) (v := ?_) (a' := ?_) #[true, true, true, true, true, false, true, true, true, false, true, false, false, true, false, false, false, false] rfl rfl (by kernel_rfl) (fun _ _ _ h => h) (Or.inl ⟨by rfl, ?_⟩) hHeld ?_ ?_
      rotate_left
      · rintro w' ⟨s0, s1, s2, s3⟩
        go_simp
        with_reducible rfl
      rotate_left
      · simp only [Act.put, List.setIfInBounds_toArray, List.set_cons_zero, List.set_cons_succ, i64_w, i32_w]
        rfl
      refine take_ (i := 5) (N := some 25) (v := ?_) (a' := ?_) #[true, true, true, true, true, true, true, true, true, false, true, false, false, true, false, false, false, false] rfl rfl (by kernel_rfl) (fun _ _ _ h => h) (Or.inl ⟨by rfl, ?_⟩) hHeld ?_ ?_
      rotate_left
      · rintro w' ⟨s0, s1, s2, s3⟩
        go_simp
        with_reducible rfl
      rotate_left
      · simp only [Act.put, List.setIfInBounds_toArray, List.set_cons_zero, List.set_cons_succ, i64_w, i32_w]
        rfl
      refine take_ (i := 9) (N := some 29) (v := ?_) (a' := ?_) #[true, true, true, true, true, true, true, true, true, true, true, false, false, true, false, false, false, false] rfl rfl (by kernel_rfl) (fun _ _ _ h => h) (Or.inl ⟨by rfl, ?_⟩) hHeld ?_ ?_
      rotate_left
      · rintro w' ⟨s0, s1, s2, s3⟩
        go_simp
        with_reducible rfl
      rotate_left
      · simp only [Act.put, List.setIfInBounds_toArray, List.set_cons_zero, List.set_cons_succ, i64_w, i32_w]
        rfl
      refine take_ (i := 11) (N := some 31) (v := ?_) (a' := ?_) #[true, true, true, true, true, true, true, true, true, true, true, true, false, true, false, false, false, false] rfl rfl (by kernel_rfl) (fun _ _ _ h => h) (Or.inl ⟨by rfl, ?_⟩) hHeld ?_ ?_
      rotate_left
      · rintro w' ⟨s0, s1, s2, s3⟩
        go_simp
        with_reducible rfl
      rotate_left
      · simp only [Act.put, List.setIfInBounds_toArray, List.set_cons_zero, List.set_cons_succ, i64_w, i32_w]
        rfl
      refine take_ (i := 12) (N := some 32) (v := ?_) (a' := ?_) #[true, true, true, true, true, true, true, true, true, true, true, true, true, true, false, false, false, false] rfl rfl (by kernel_rfl) (fun _ _ _ h => h) (Or.inl ⟨by rfl, ?_⟩) hHeld ?_ ?_
      rotate_left
      · rintro w' ⟨s0, s1, s2, s3⟩
        go_simp
        with_reducible rfl
      rotate_left
      · simp only [Act.put, List.setIfInBounds_toArray, List.set_cons_zero, List.set_cons_succ, i64_w, i32_w]
        rfl
      refine take_ (i := 14) (N := some 34) (v := ?_) (a' := ?_) #[true, true, true, true, true, true, true, true, true, true, true, true, true, true, true, false, false, false] rfl rfl (by kernel_rfl) (fun _ _ _ h => h) (Or.inl ⟨by rfl, ?_⟩) hHeld ?_ ?_
      rotate_left
      · rintro w' ⟨s0, s1, s2, s3⟩
        go_simp
        with_reducible rfl
      rotate_left
      · simp only [Act.put, List.setIfInBounds_toArray, List.set_cons_zero, List.set_cons_succ, i64_w, i32_w]
        rfl
      refine one_ (i := 15) (N := some 35) #[true, true, true, true, true, true, true, true, true, true, true, true, true, true, true, true, false, false] rfl rfl (by kernel_rfl) (by decide) (fun K hK => ?_)
      refine value_ (w1 := ?_) (v := ?_) (by rfl) rfl ?_ ?_
      rotate_left 2
      · go_simp
        constructor
        · rfl
        · rfl
      refine hK.out _ _ ⟨s11b, s3b, s4b, hlk2⟩ (fun hHeld => ?_)
      clear hK K
      refine norm_ (a' := ?_) ?_ ?_
      rotate_left
      · show Act.put _ (some 35) _ = _
        simp only [Act.put, List.setIfInBounds_toArray, List.set_cons_zero, List.set_cons_succ, i64_w, i32_w]
        rfl
      refine one_ (i := 16) (N := some 36) #[true, true, true, true, true, true, true, true, true, true, true, true, true, true, true, true, true, false] rfl rfl (by kernel_rfl) (by decide) (fun K hK => ?_)
      refine value_ (w1 := w1) (v := v1) (by rfl) rfl (append_exec rfl rfl rfl rfl hap) ?_
      refine hK.out _ _ ⟨s11c, s3c, s4c, hlk3⟩ (fun hHeld => ?_)
      clear hK K
      refine norm_ (a' := ?_) ?_ ?_
      rotate_left
      · show Act.put _ (some 36) _ = _
        simp only [Act.put, List.setIfInBounds_toArray, List.set_cons_zero, List.set_cons_succ, i64_w, i32_w]
        rfl
      refine last_ (i := 17) (N := none) #[true, true, true, true, true, true, true, true, true, true, true, true, true, true, true, true, true, true] rfl rfl (by kernel_rfl) (by decide) (fun K hK => ?_)
      refine skip_ (w1 := w2) (by rfl) rfl ?_ ?_
      · go_simp
      refine hK.out _ _ ?_
      clear hK K
      refine done_ (by kernel_rfl) ?_

      go_wp2
      go_meet
      exact HM'
    have t4 : (x.f2 == 4) = false := beq_eq_false_iff_ne.2 q4
    rcases Classical.em (x.f2 = 5) with q5 | q5
    · have t5 : (x.f2 == 5) = true := beq_iff_eq.2 q5
      obtain ⟨A, A1, len, c, hlk, hsl, hz, hnz⟩ := midHit H.out x A5 A6 c5 c6 q3 q4 q5 (HP.out.1 q5)
      have hlk1 := hlk (w.alloc (.cells #[.int .i64 x.f0, .int .i64 x.f1, .int .i64 x.f2, .int .i64 x.f3, .int .i64 x.f4, .slice A5 x.f5.length c5, .slice A6 x.f6.length c6] 44)).drew (below_drew (Below.refl _ _))
      clear hlk
      rcases Classical.em (len - 1 = 0) with hl0 | hl0
      · obtain ⟨w2, hrun, HM⟩ := hz hl0
        have HM' := Aside0.mk HM
        have t6 : ((len - 1 : Nat) == 0) = true := beq_iff_eq.2 hl0
        have t7 : (((len - 1 : Nat) : Int) == 0) = true := beq_iff_eq.2 (by omega)
        clear q3 q4 q5 HM hz hnz hl0
        go_wp2
        go_region
        go_wp2
        go_region
        go_wp2
        go_meet
        exact HM'
      · obtain ⟨w2, hrun, HM⟩ := hnz hl0
        have HM' := Aside0.mk HM
        have t6 : ((len - 1 : Nat) == 0) = false := beq_eq_false_iff_ne.2 hl0
        have t7 : (((len - 1 : Nat) : Int) == 0) = false := beq_eq_false_iff_ne.2 (by omega)
        clear q3 q4 q5 HM hz hnz hl0
        go_wp2
        go_region
        go_wp2
        go_region
        go_wp2
        go_meet
        exact HM'
    have t5 : (x.f2 == 5) = false := beq_eq_false_iff_ne.2 q5
    rcases Classical.em (x.f2 = 10 ∨ x.f2 = 11 ∨ x.f2 = 12) with qe | qe
    · obtain ⟨w2, hrun, e0, e1, e10, f10, HM1, HM2⟩ := midEnd H.out x A5 A6 c5 c6 q3 q4 q5 qe
      have N1 := Lib.hid HM1
      have N2 := Lib.hid HM2
      clear HM1 HM2 q3 q4 q5
      rcases Classical.em (x.f1 = 0) with z0 | z0
      · have z1 : (x.f1 == 0) = true := beq_iff_eq.2 z0
        have HM' := Aside0.mk (N1.out z0)
        clear z0
        have hkinds : (x.f2 == 10) = true ∨ ((x.f2 == 10) = false ∧ (x.f2 == 11) = true) ∨ ((x.f2 == 10) = false ∧ (x.f2 == 11) = false ∧ (x.f2 == 12) = true) := by rcases qe with qe | qe | qe <;> rw [qe] <;> decide
        clear qe
        rcases hkinds with ta | ⟨ta, tb⟩ | ⟨ta, tb, tc⟩
        all_goals
          go_wp2
          go_region
          go_wp2
          go_meet
          exact HM'
      · have z1 : (x.f1 == 0) = false := beq_eq_false_iff_ne.2 z0
        have HM' := Aside0.mk (N2.out z0)
        clear z0
        have hkinds : (x.f2 == 10) = true ∨ ((x.f2 == 10) = false ∧ (x.f2 == 11) = true) ∨ ((x.f2 == 10) = false ∧ (x.f2 == 11) = false ∧ (x.f2 == 12) = true) := by rcases qe with qe | qe | qe <;> rw [qe] <;> decide
        clear qe
        rcases hkinds with ta | ⟨ta, tb⟩ | ⟨ta, tb, tc⟩
        all_goals
          go_wp2
          go_region
          go_wp2
          go_meet
          exact HM'
    · have ta : (x.f2 == 10) = false := beq_eq_false_iff_ne.2 (fun e => qe (.inl e))
      have tb : (x.f2 == 11) = false := beq_eq_false_iff_ne.2 (fun e => qe (.inr (.inl e)))
      have tc : (x.f2 == 12) = false := beq_eq_false_iff_ne.2 (fun e => qe (.inr (.inr e)))
      have HM := Aside0.mk (midNone H.out x A5 A6 c5 c6 q3 q4 q5 qe)
      clear q3 q4 q5 qe
      go_wp2
      go_meet
      exact HM
  case rest =>
    obtain ⟨m1, m2, m3, m4⟩ := hcut.out
    have M := hcut
    clear hcut
    have e0 := cellH m3 (i := 0) rfl
    have e1 := cellH m3 (i := 1) rfl
    have e2 := cellH m3 (i := 2) rfl
    have e3 := cellH m3 (i := 3) rfl
    have e4 := cellH m3 (i := 4) rfl
    have e5 := cellH m3 (i := 5) rfl
    have e6 := cellH m3 (i := 6) rfl
    clear m1 m2 m3 m4
    have K6 := Aside0.mk C6
    have hm : x.f6.length ≤ 9223372036854775807 := C6.2.1
    clear C6
    have HP := Lib.hid (And.intro hhit hp)
    clear hhit hp
    go_wp2
    clear e0 e1 e2 e3 e4 e5 e6
    go_loopw [84] (fun i wr => ∃ n : Nat, n ≤ x.f6.length ∧ i = .int .i64 n ∧ Aside0 (Mid w0 w wr b w.heap.size { learn1 j x with vars := varsF (learn1 j x).vars (x.f6.take n) } #[.int .i64 x.f0, .int .i64 x.f1, .int .i64 x.f2, .int .i64 x.f3, .int .i64 x.f4, .slice A5 x.f5.length c5, .slice A6 x.f6.length c6])) (fun i _ => x.f6.length - (intOf i).toNat)
    case atStart => exact ⟨0, by omega, rfl, M⟩
    case round =>
      clear M
      obtain ⟨n, hn, rfl, M⟩ := hrel
      by_cases hlt : n < x.f6.length
      · obtain ⟨m1, m2, m3, m4⟩ := M.out
        have m5 : Below w0.heap.size w0 wr := h0.trans (m2.mono hb)
        obtain ⟨ad, A3, c3, e3, hx0, hx1, hx2, hx3, hx4, hxl, hxC⟩ := at_T51 K6.out (n : Int) (by omega) (by omega)
        cases e3
        simp only [Int.toNat_natCast] at hx0 hx1 hx2 hx3 hx4
        replace hx0 := (m5.cell (World.block_lt_of_cell? w0 _ hx0)).trans hx0
        replace hx1 := (m5.cell (World.block_lt_of_cell? w0 _ hx1)).trans hx1
        replace hx2 := (m5.cell (World.block_lt_of_cell? w0 _ hx2)).trans hx2
        replace hx3 := (m5.cell (World.block_lt_of_cell? w0 _ hx3)).trans hx3
        replace hx4 := (m5.cell (World.block_lt_of_cell? w0 _ hx4)).trans hx4
        have e2 : rd_T51 x.f6 (n : Int) = x.f6[n] := by simp [rd_T51, List.getD_eq_getElem?_getD, List.getElem?_eq_getElem hlt]
        have hs : varsF (learn1 j x).vars (x.f6.take (n + 1)) = setF (varsF (learn1 j x).vars (x.f6.take n)) (rd_T51 x.f6 (n : Int)).f0 (some (rd_T51 x.f6 (n : Int)).f1) := by
          rw [e2, List.take_succ_eq_append_getElem hlt]
          unfold varsF
          rw [List.foldl_append]
          rfl
        have HS := Aside0.mk hs
        clear hs e2
        generalize hX : rd_T51 x.f6 (n : Int) = X at *
        clear hX
        have hJ := m1
        obtain ⟨_, _, _, _, _, hc⟩ := m1.cells
        have d12 := cellA hc (i := 12) rfl
        obtain ⟨lv, v1, v2⟩ := m1.vars
        obtain ⟨w2, hrun, hI, hg, _⟩ := run_mapUpdate (IM.drew (v1.alloc (.cells #[.int .i64 X.f0, .int .i64 X.f1.f0, .int .i64 X.f1.f1, .string X.f1.f2, .slice A3 X.f1.f3.length c3] 51))) Tryz.underlying74 Tryz.underlying3 X.f0 (.agg #[.int .i64 X.f1.f0, .int .i64 X.f1.f1, .string X.f1.f2, .slice A3 X.f1.f3.length c3])
        have hN := JW.varsPut (((hJ.alloc (.cells #[.int .i64 X.f0, .int .i64 X.f1.f0, .int .i64 X.f1.f1, .string X.f1.f2, .slice A3 X.f1.f3.length c3] 51)).below (below_drew (Below.refl _ _)))) X.f0 X.f1 ⟨A3, c3, rfl, hxl, hxC⟩ hg hI v2
        have HN := Aside0.mk (show Mid w0 w w2 b w.heap.size { learn1 j x with vars := varsF (learn1 j x).vars (x.f6.take (n + 1)) } #[.int .i64 x.f0, .int .i64 x.f1, .int .i64 x.f2, .int .i64 x.f3, .int .i64 x.f4, .slice A5 x.f5.length c5, .slice (some ad) x.f6.length c6] from by
          refine ⟨by rw [HS.out]; exact hN, ?_, ?_, ?_⟩
          · have b1 := (below_drew ((m2.alloc (by have := hJ.lt; omega) (.cells #[.int .i64 X.f0, .int .i64 X.f1.f0, .int .i64 X.f1.f1, .string X.f1.f2, .slice A3 X.f1.f3.length c3] 51))))
            exact b1.grown hg (by have := hJ.lt; simp; omega) (fun k hk => by injection hk with hk; omega)
          · have hgw : w.heap.size ≠ b + 2 := by
              intro e
              obtain ⟨es, ck, hv1, _⟩ := v1
              rw [← e, m3] at hv1
              cases hv1
            rw [hg.block w.heap.size (by simp; omega) (fun e => hgw (by injection e))]
            show ((wr.alloc _).heap[w.heap.size]?) = _
            rw [Below.heap_alloc _ _ _ m4]
            exact m3
          · have := hg.size
            simp at this
            omega)
        clear hN hJ m1 m2 m3 m4 m5 hI hg v1 v2 hc M
        go_wp2
        go_region
        go_wp2
        go_roundw
        case rel => exact ⟨n + 1, by omega, by go_num, HN⟩
        case measure => simp [intOf]; omega
      · have hne : n = x.f6.length := by omega
        subst hne
        obtain ⟨m1, m2, m3, m4⟩ := M.out
        have e0 := cellH m3 (i := 0) rfl
        have e1 := cellH m3 (i := 1) rfl
        have e2 := cellH m3 (i := 2) rfl
        have e3 := cellH m3 (i := 3) rfl
        have e4 := cellH m3 (i := 4) rfl
        have e5 := cellH m3 (i := 5) rfl
        have e6 := cellH m3 (i := 6) rfl
        obtain ⟨x2, x3, x4, x5, x6, hc⟩ := m1.cells
        have d0 := cellH hc (i := 0) rfl
        have d1 := cellH hc (i := 1) rfl
        have d2 := cellH hc (i := 2) rfl
        have d3 := cellH hc (i := 3) rfl
        have d4 := cellH hc (i := 4) rfl
        have d5 := cellH hc (i := 5) rfl
        have d6 := cellH hc (i := 6) rfl
        have d7 := cellH hc (i := 7) rfl
        have fz : ∀ i, wr.frozen? ⟨b + 3, i, none⟩ = false := fun i => by simp [World.frozen?, hc]
        clear m1 m2 m3 m4 hc
        go_wp2
        go_end0
        obtain ⟨m1, m2, m3, m4⟩ := M.out
        refine ⟨rfl, ?_, ?_⟩
        · have := m1.setLast x.f0 x.f1 (.int .i64 x.f2) (.int .i64 x.f3) (.int .i64 x.f4) (.slice A5 x.f5.length c5) (.slice A6 x.f6.length c6)
          rw [learn_eq]
          rw [List.take_of_length_le (Nat.le_refl _)] at this
          exact this
        · exact set8_below (m2.mono (Nat.le_refl _)) (Nat.le_add_right _ _) _ _ _ _ _ _ _ _
end Go.Proofs.YtkfbhfmddmhiaaaGreatDoor.TJ
