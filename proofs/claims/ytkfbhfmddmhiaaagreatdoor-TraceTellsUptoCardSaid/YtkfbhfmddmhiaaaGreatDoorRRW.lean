/- The reference's rules of a trace: the Go function rule answers, for each rule and event, as the plain function. Conditions: the trace lies in memory and is not too large. The reference's rules 2 to 6 of a trace, and where a rule is broken first. Conditions: the trace lies in memory and is not too large. -/
import Derived.Test.YtkfbhfmddmhiaaaGreatDoorPN
import Derived.BigQuiet
namespace Go.Proofs.YtkfbhfmddmhiaaaGreatDoor.TJ
open Go.RowKit Go.Proofs.YtkfbhfmddmhiaaaGreatDoorW.PrintWords Go.Proofs.YtkfbhfmddmhiaaaGreatDoorW.PrintLast Go.Proofs.YtkfbhfmddmhiaaaGreatDoor.PT Go.Proofs.YtkfbhfmddmhiaaaGreatDoor.IMaps
set_option linter.unusedVariables false
set_option linter.unusedSimpArgs false

structure EvC (w : World) (a : Addr) (x : Ev) (A5 : Option Addr) (c5 : Nat) (A6 : Option Addr) (c6 : Nat) : Prop where
  c0 : w.cell? a = some (.int .i64 x.f0)
  c1 : w.cell? ⟨a.block, a.off + 1, none⟩ = some (.int .i64 x.f1)
  c2 : w.cell? ⟨a.block, a.off + 2, none⟩ = some (.int .i64 x.f2)
  c3 : w.cell? ⟨a.block, a.off + 3, none⟩ = some (.int .i64 x.f3)
  c4 : w.cell? ⟨a.block, a.off + 4, none⟩ = some (.int .i64 x.f4)
  c5 : w.cell? ⟨a.block, a.off + 5, none⟩ = some (.slice A5 x.f5.length c5)
  c6 : w.cell? ⟨a.block, a.off + 6, none⟩ = some (.slice A6 x.f6.length c6)
theorem evC_get {w : World} {A : Option Addr} {n : Nat} {l : List Ev} (h : kEv.C w A n l) (i : Nat) (hi : i < l.length) (hn : n = l.length) :
    ∃ ad A5 c5 A6 c6, A = some ad ∧ EvC w (ad.add (i * 7)) l[i] A5 c5 A6 c6 ∧ l[i].f5.length ≤ c5 ∧ kAc.C w A5 l[i].f5.length l[i].f5 ∧ l[i].f6.length ≤ c6 ∧ kAc.C w A6 l[i].f6.length l[i].f6 := by
  obtain ⟨ad, A5, c5, A6, c6, e3, hx0, hx1, hx2, hx3, hx4, hx5, hx6, g5, C5, g6, C6⟩ := at_T44 h (i : Int) (by omega) (by omega)
  rw [rdE2 l i hi, Int.toNat_natCast] at *
  exact ⟨ad, A5, c5, A6, c6, e3, ⟨hx0, hx1, hx2, hx3, hx4, hx5, hx6⟩, g5, C5, g6, C6⟩
theorem EvC.below {w w' : World} {a : Addr} {x : Ev} {A5 : Option Addr} {c5 : Nat} {A6 : Option Addr} {c6 : Nat} (h : EvC w a x A5 c5 A6 c6) (hb : Below w.heap.size w w') : EvC w' a x A5 c5 A6 c6 :=
  ⟨pw_cell_below hb h.c0, pw_cell_below hb h.c1, pw_cell_below hb h.c2, pw_cell_below hb h.c3, pw_cell_below hb h.c4, pw_cell_below hb h.c5, pw_cell_below hb h.c6⟩

set_option maxRecDepth 100000 in
set_option maxHeartbeats 4000000 in
theorem rule1_walk (w : World) (ad : Addr) (n c i : Nat) (x y : Ev) (A5 A6 B5 B6 : Option Addr) (c5 c6 d5 d6 : Nat) (r : Bool) (hi : i < n) (hn : n ≤ 4000000)
    (hX : EvC w (ad.add (i * 7)) x A5 c5 A6 c6) (hY : 0 < i → EvC w (ad.add ((i - 1) * 7)) y B5 d5 B6 d6)
    (hr : Hid ((decide (1 ≤ x.f0) && decide (x.f0 ≤ 6000) && (((i : Int) == 0) || decide (y.f0 < x.f0) || (x.f0 == y.f0 && x.f1 == y.f1))) = r)) :
    Calls Tryz.prog 38 #[.slice (some ad) n c, .int .i64 i, .int .i64 1] w fun e w' => e = .returned (.bool r) ∧ Below w.heap.size w w' := by
  obtain ⟨h0, h1, h2, h3, h4, h5, h6⟩ := hX
  have paths : decide (1 ≤ x.f0) = false ∨ (decide (1 ≤ x.f0) = true ∧ decide (x.f0 ≤ 6000) = false) ∨ (decide (1 ≤ x.f0) = true ∧ decide (x.f0 ≤ 6000) = true ∧ ((i : Int) == 0) = true) ∨ (decide (1 ≤ x.f0) = true ∧ decide (x.f0 ≤ 6000) = true ∧ ((i : Int) == 0) = false ∧ decide (y.f0 < x.f0) = true) ∨
      (decide (1 ≤ x.f0) = true ∧ decide (x.f0 ≤ 6000) = true ∧ ((i : Int) == 0) = false ∧ decide (y.f0 < x.f0) = false ∧ (x.f0 == y.f0) = false) ∨ (decide (1 ≤ x.f0) = true ∧ decide (x.f0 ≤ 6000) = true ∧ ((i : Int) == 0) = false ∧ decide (y.f0 < x.f0) = false ∧ (x.f0 == y.f0) = true ∧ (x.f1 == y.f1) = false) ∨
      (decide (1 ≤ x.f0) = true ∧ decide (x.f0 ≤ 6000) = true ∧ ((i : Int) == 0) = false ∧ decide (y.f0 < x.f0) = false ∧ (x.f0 == y.f0) = true ∧ (x.f1 == y.f1) = true) := by
    cases decide (1 ≤ x.f0) <;> cases decide (x.f0 ≤ 6000) <;> cases ((i : Int) == 0) <;> cases decide (y.f0 < x.f0) <;> cases (x.f0 == y.f0) <;> cases (x.f1 == y.f1) <;> simp
  have fin : ∀ (e : Ending) (w' : World) (b : Bool), e = .returned (.bool b) → b = (decide (1 ≤ x.f0) && decide (x.f0 ≤ 6000) && (((i : Int) == 0) || decide (y.f0 < x.f0) || (x.f0 == y.f0 && x.f1 == y.f1))) → e = .returned (.bool r) := fun e w' b h1 h2 => by rw [h1, h2, hr.out]
  have FIN := Lib.hid fin
  clear fin
  rcases paths with d1 | ⟨d1, d2⟩ | ⟨d1, d2, d0⟩ | ⟨d1, d2, d0, d3⟩ | ⟨d1, d2, d0, d3, d4⟩ | ⟨d1, d2, d0, d3, d4, d5⟩ | ⟨d1, d2, d0, d3, d4, d5⟩
  · clear hY
    go_enter Tryz.func38, Tryz.ntmps38
    go_wp2
    go_quiet (fail)
    go_wp2
    go_ret
    exact ⟨FIN.out _ w _ rfl (by simp [*]), pw_below_drewN (below_alloc (Below.refl _ _) _) _⟩
  · clear hY
    go_enter Tryz.func38, Tryz.ntmps38
    go_wp2
    go_quiet (fail)
    go_wp2
    go_ret
    exact ⟨FIN.out _ w _ rfl (by simp [*]), pw_below_drewN (below_alloc (Below.refl _ _) _) _⟩
  · clear hY
    go_enter Tryz.func38, Tryz.ntmps38
    go_wp2
    go_quiet (fail)
    go_wp2
    go_ret
    exact ⟨FIN.out _ w _ rfl (by simp [*]), pw_below_drewN (below_alloc (Below.refl _ _) _) _⟩
  all_goals
    have hi0 : 0 < i := by
      rcases Nat.eq_zero_or_pos i with h | h
      · rw [h] at d0; simp at d0
      · exact h
    obtain ⟨y0, y1, y2, y3, y4, y5, y6⟩ := hY hi0
    clear hY y2 y3 y4 y5 y6
    have g0 := fun o => pw_cell_below (below_alloc (Below.refl w.heap.size w) o) y0
    have g1 := fun o => pw_cell_below (below_alloc (Below.refl w.heap.size w) o) y1
    clear y0 y1
    have hi1 : i - 1 < n := by omega
    go_enter Tryz.func38, Tryz.ntmps38
    go_wp2
    go_quiet (fail)
    go_wp2
    go_ret
    exact ⟨FIN.out _ w _ rfl (by simp [*]), pw_below_drewN (below_alloc (Below.refl _ _) _) _⟩
end Go.Proofs.YtkfbhfmddmhiaaaGreatDoor.TJ
namespace Go.Proofs.YtkfbhfmddmhiaaaGreatDoor.TJ
open Go.RowKit Go.Proofs.YtkfbhfmddmhiaaaGreatDoorW.PrintWords Go.Proofs.YtkfbhfmddmhiaaaGreatDoorW.PrintLast Go.Proofs.YtkfbhfmddmhiaaaGreatDoor.PT Go.Proofs.YtkfbhfmddmhiaaaGreatDoor.IMaps
set_option linter.unusedVariables false
set_option linter.unusedSimpArgs false

abbrev evO (x : Ev) (A5 : Option Addr) (c5 : Nat) (A6 : Option Addr) (c6 : Nat) : Obj := .cells #[.int .i64 x.f0, .int .i64 x.f1, .int .i64 x.f2, .int .i64 x.f3, .int .i64 x.f4, .slice A5 x.f5.length c5, .slice A6 x.f6.length c6] 44
theorem box_cells (w : World) (x : Ev) (A5 : Option Addr) (c5 : Nat) (A6 : Option Addr) (c6 : Nat) : EvC (w.alloc (evO x A5 c5 A6 c6)) ⟨w.heap.size, 0, none⟩ x A5 c5 A6 c6 := by
  have hx := (MapKept.heap_alloc w (evO x A5 c5 A6 c6)).1
  exact ⟨cellH hx (i := 0) rfl, cellH hx (i := 1) rfl, cellH hx (i := 2) rfl, cellH hx (i := 3) rfl, cellH hx (i := 4) rfl, cellH hx (i := 5) rfl, cellH hx (i := 6) rfl⟩

set_option maxRecDepth 100000 in
set_option maxHeartbeats 4000000 in
theorem rule2_walk (w : World) (ad : Addr) (n c i k : Nat) (x : Ev) (A5 A6 : Option Addr) (c5 c6 : Nat) (r : Bool) (hi : i < n) (hn : n ≤ 4000000) (hkn : k ≤ 4000000)
    (hX : EvC w (ad.add (i * 7)) x A5 c5 A6 c6) (HM : Hid (∀ W, Below w.heap.size w W → Calls Tryz.prog 56 #[.slice (some ad) n c, .int .i64 i] W fun e w' => e = .returned (.int .i64 k) ∧ Below W.heap.size W w'))
    (hr : Hid ((decide (0 ≤ x.f1) && decide (x.f1 ≤ (k : Int)) && (x.f2 != 3 || x.f3 == (k : Int) + 1)) = r)) :
    Calls Tryz.prog 38 #[.slice (some ad) n c, .int .i64 i, .int .i64 2] w fun e w' => e = .returned (.bool r) ∧ Below w.heap.size w w' := by
  obtain ⟨h0, h1, h2, h3, h4, h5, h6⟩ := hX
  have HBX := Aside0.mk (box_cells w x A5 c5 A6 c6)
  have paths : decide (0 ≤ x.f1) = false ∨ (decide (0 ≤ x.f1) = true ∧ decide (x.f1 ≤ (k : Int)) = false) ∨ (decide (0 ≤ x.f1) = true ∧ decide (x.f1 ≤ (k : Int)) = true ∧ (x.f2 != 3) = true) ∨ (decide (0 ≤ x.f1) = true ∧ decide (x.f1 ≤ (k : Int)) = true ∧ (x.f2 != 3) = false ∧ (x.f3 == (k : Int) + 1) = true) ∨ (decide (0 ≤ x.f1) = true ∧ decide (x.f1 ≤ (k : Int)) = true ∧ (x.f2 != 3) = false ∧ (x.f3 == (k : Int) + 1) = false) := by
    cases decide (0 ≤ x.f1) <;> cases decide (x.f1 ≤ (k : Int)) <;> cases (x.f2 != 3) <;> cases (x.f3 == (k : Int) + 1) <;> simp
  have fin : ∀ (e : Ending) (b : Bool), e = .returned (.bool b) → b = (decide (0 ≤ x.f1) && decide (x.f1 ≤ (k : Int)) && (x.f2 != 3 || x.f3 == (k : Int) + 1)) → e = .returned (.bool r) := fun e b h1 h2 => by rw [h1, h2, hr.out]
  have FIN := Lib.hid fin
  clear fin
  rcases paths with d1 | ⟨d1, d2⟩ | ⟨d1, d2, d3⟩ | ⟨d1, d2, d3, d4⟩ | ⟨d1, d2, d3, d4⟩
  all_goals
    go_enter Tryz.func38, Tryz.ntmps38
    go_wp2_with fail
    refine (HM.out _ (below_alloc (Below.refl _ _) _)).mono ?_
    rintro e w2 ⟨rfl, hb2⟩
    obtain ⟨g0, g1, g2, g3, g4, g5, g6⟩ := HBX.out.below hb2
    have HB := Aside0.mk (below_step (below_alloc (Below.refl w.heap.size w) _) hb2)
    clear hb2
    go_wp2
    go_ret
    exact ⟨FIN.out _ _ rfl (by simp [*]), HB.out⟩

def dueB : Option Int → Int → Bool
  | some a, n => a == n
  | none, _ => false
set_option maxRecDepth 100000 in
set_option maxHeartbeats 4000000 in
theorem rule4_walk (w : World) (ad : Addr) (n c i : Nat) (d : Option Int) (x : Ev) (A5 A6 : Option Addr) (c5 c6 : Nat) (r : Bool) (hi : i < n) (hn : n ≤ 4000000)
    (hX : EvC w (ad.add (i * 7)) x A5 c5 A6 c6) (HM : Hid (∀ W, Below w.heap.size w W → Calls Tryz.prog 58 #[.slice (some ad) n c, .int .i64 i, .int .i64 x.f1] W fun e w' => e = .returned (.tuple #[.int .i64 (dueR d).1, .bool (dueR d).2]) ∧ Below W.heap.size W w'))
    (hr : Hid ((x.f2 != 5 || dueB d x.f3) = r)) :
    Calls Tryz.prog 38 #[.slice (some ad) n c, .int .i64 i, .int .i64 4] w fun e w' => e = .returned (.bool r) ∧ Below w.heap.size w w' := by
  obtain ⟨h0, h1, h2, h3, h4, h5, h6⟩ := hX
  have HBX := Aside0.mk (box_cells w x A5 c5 A6 c6)
  cases d with
  | none =>
    simp only [dueR] at HM
    cases d1 : (x.f2 != 5)
    all_goals
      have HR := Lib.hid (show r = (x.f2 != 5) by rw [← hr.out]; simp [dueB])
      go_enter Tryz.func38, Tryz.ntmps38
      go_wp2_with fail
      refine (HM.out _ (below_alloc (Below.refl _ _) _)).mono ?_
      rintro e w2 ⟨rfl, hb2⟩
      obtain ⟨g0, g1, g2, g3, g4, g5, g6⟩ := HBX.out.below hb2
      have HB := Aside0.mk (below_step (below_alloc (Below.refl w.heap.size w) _) hb2)
      clear hb2
      go_wp2
      go_ret
      exact ⟨by rw [HR.out, d1]; rfl, HB.out⟩
  | some a =>
    simp only [dueR] at HM
    cases d1 : (x.f2 != 5) <;> cases d2 : (a == x.f3)
    all_goals
      have HR := Lib.hid (show r = ((x.f2 != 5) || (a == x.f3)) by rw [← hr.out]; rfl)
      go_enter Tryz.func38, Tryz.ntmps38
      go_wp2_with fail
      refine (HM.out _ (below_alloc (Below.refl _ _) _)).mono ?_
      rintro e w2 ⟨rfl, hb2⟩
      obtain ⟨g0, g1, g2, g3, g4, g5, g6⟩ := HBX.out.below hb2
      have HB := Aside0.mk (below_step (below_alloc (Below.refl w.heap.size w) _) hb2)
      clear hb2
      go_wp2
      go_ret
      exact ⟨by rw [HR.out, d1, d2]; rfl, HB.out⟩
end Go.Proofs.YtkfbhfmddmhiaaaGreatDoor.TJ
