/- The judge's rules 1 to 4: each Go method answers as the plain function. Conditions: the judge lies in memory as JW says. -/
import Derived.Test.YtkfbhfmddmhiaaaDoorJ0
import Derived.BigQuiet
import Derived.Lib.Hide
namespace Go.Proofs.YtkfbhfmddmhiaaaDoor.TJ
open Go.RowKit Go.Proofs.YtkfbhfmddmhiaaaDoorW.PrintWords Go.Proofs.YtkfbhfmddmhiaaaDoor.PT Go.Proofs.YtkfbhfmddmhiaaaDoor.IMaps
set_option linter.unusedVariables false

theorem bDrew (w : World) (o : Obj) (n : Nat) : Below w.heap.size w ((w.alloc o).drewN n) := pw_below_drewN (below_alloc (Below.refl _ _) o) n

theorem turns_walk (w : World) (g : Nat) (T th k n m lt lth : Int) (bg r : Bool) (A5 A6 : Option Addr) (l5 c5 l6 c6 : Nat)
    (h0 : ∀ o, (w.alloc o).cell? ⟨g, 0, none⟩ = some (.int .i64 lt)) (h1 : ∀ o, (w.alloc o).cell? ⟨g, 1, none⟩ = some (.int .i64 lth)) (h7 : ∀ o, (w.alloc o).cell? ⟨g, 7, none⟩ = some (.bool bg))
    (hr : Hid ((decide (1 ≤ T) && decide (T ≤ 6000) && (!bg || decide (lt < T) || (T == lt && th == lth))) = r)) :
    Calls Tryd.prog 43 #[.pointer (some ⟨g, 0, none⟩), .agg #[.int .i64 T, .int .i64 th, .int .i64 k, .int .i64 n, .int .i64 m, .slice A5 l5 c5, .slice A6 l6 c6]] w fun e w' => e = .returned (.bool r) ∧ Below w.heap.size w w' := by
  have paths : decide (1 ≤ T) = false ∨ (decide (1 ≤ T) = true ∧ decide (T ≤ 6000) = false) ∨ (decide (1 ≤ T) = true ∧ decide (T ≤ 6000) = true ∧ bg = false) ∨ (decide (1 ≤ T) = true ∧ decide (T ≤ 6000) = true ∧ bg = true ∧ decide (lt < T) = true) ∨
      (decide (1 ≤ T) = true ∧ decide (T ≤ 6000) = true ∧ bg = true ∧ decide (lt < T) = false ∧ (T == lt) = false) ∨ (decide (1 ≤ T) = true ∧ decide (T ≤ 6000) = true ∧ bg = true ∧ decide (lt < T) = false ∧ (T == lt) = true ∧ (th == lth) = false) ∨
      (decide (1 ≤ T) = true ∧ decide (T ≤ 6000) = true ∧ bg = true ∧ decide (lt < T) = false ∧ (T == lt) = true ∧ (th == lth) = true) := by
    cases decide (1 ≤ T) <;> cases decide (T ≤ 6000) <;> cases bg <;> cases decide (lt < T) <;> cases (T == lt) <;> cases (th == lth) <;> simp
  rcases paths with d1 | ⟨d1, d2⟩ | ⟨d1, d2, rfl⟩ | ⟨d1, d2, rfl, d3⟩ | ⟨d1, d2, rfl, d3, d4⟩ | ⟨d1, d2, rfl, d3, d4, d5⟩ | ⟨d1, d2, rfl, d3, d4, d5⟩
  all_goals
    go_enter Tryd.func43, Tryd.ntmps43
    go_wp2
    go_quiet (fail)
    go_wp2
    go_ret
    exact ⟨by rw [← hr.out]; simp [*], bDrew _ _ _⟩

theorem turns_calls {w0 w : World} {b : Nat} {j : JS} (h : JW w0 w b j) (x : Ev) (A5 A6 : Option Addr) (c5 c6 : Nat) :
    Calls Tryd.prog 43 #[.pointer (some ⟨b + 3, 0, none⟩), .agg #[.int .i64 x.f0, .int .i64 x.f1, .int .i64 x.f2, .int .i64 x.f3, .int .i64 x.f4, .slice A5 x.f5.length c5, .slice A6 x.f6.length c6]] w fun e w' => e = .returned (.bool (turnsB j x)) ∧ Below w.heap.size w w' := by
  obtain ⟨_, _, _, _, _, hc⟩ := h.cells
  exact turns_walk w (b + 3) _ _ _ _ _ _ _ _ _ _ _ _ _ _ _ (cellA hc rfl) (cellA hc rfl) (cellA hc rfl) (Lib.hid rfl)

theorem numbers_walk (w : World) (g : Nat) (T th k n m thr : Int) (r : Bool) (A5 A6 : Option Addr) (l5 c5 l6 c6 : Nat)
    (h0 : ∀ o, (w.alloc o).cell? ⟨g, 8, none⟩ = some (.int .i64 thr))
    (hr : Hid ((decide (0 ≤ th) && decide (th < thr) && (k != 3 || n == thr)) = r)) :
    Calls Tryd.prog 44 #[.pointer (some ⟨g, 0, none⟩), .agg #[.int .i64 T, .int .i64 th, .int .i64 k, .int .i64 n, .int .i64 m, .slice A5 l5 c5, .slice A6 l6 c6]] w fun e w' => e = .returned (.bool r) ∧ Below w.heap.size w w' := by
  have paths : decide (0 ≤ th) = false ∨ (decide (0 ≤ th) = true ∧ decide (th < thr) = false) ∨ (decide (0 ≤ th) = true ∧ decide (th < thr) = true ∧ (k != 3) = true) ∨ (decide (0 ≤ th) = true ∧ decide (th < thr) = true ∧ (k != 3) = false ∧ (n == thr) = true) ∨ (decide (0 ≤ th) = true ∧ decide (th < thr) = true ∧ (k != 3) = false ∧ (n == thr) = false) := by
    cases decide (0 ≤ th) <;> cases decide (th < thr) <;> cases (k != 3) <;> cases (n == thr) <;> simp
  rcases paths with d1 | ⟨d1, d2⟩ | ⟨d1, d2, d3⟩ | ⟨d1, d2, d3, d4⟩ | ⟨d1, d2, d3, d4⟩
  all_goals
    go_enter Tryd.func44, Tryd.ntmps44
    go_wp2
    go_quiet (fail)
    go_wp2
    go_ret
    exact ⟨by rw [← hr.out]; simp [*], bDrew _ _ _⟩

theorem numbers_calls {w0 w : World} {b : Nat} {j : JS} (h : JW w0 w b j) (x : Ev) (A5 A6 : Option Addr) (c5 c6 : Nat) :
    Calls Tryd.prog 44 #[.pointer (some ⟨b + 3, 0, none⟩), .agg #[.int .i64 x.f0, .int .i64 x.f1, .int .i64 x.f2, .int .i64 x.f3, .int .i64 x.f4, .slice A5 x.f5.length c5, .slice A6 x.f6.length c6]] w fun e w' => e = .returned (.bool (numbersB j x)) ∧ Below w.heap.size w w' := by
  obtain ⟨_, _, _, _, _, hc⟩ := h.cells
  exact numbers_walk w (b + 3) _ _ _ _ _ _ _ _ _ _ _ _ _ (cellA hc rfl) (Lib.hid rfl)

theorem ends_walk (w : World) (g b : Nat) (T th k n m ov : Int) (en r : Bool) (A5 A6 : Option Addr) (l5 c5 l6 c6 : Nat)
    (h9 : ∀ o, (w.alloc o).cell? ⟨g, 9, none⟩ = some (.map (some b))) (h10 : ∀ o, (w.alloc o).cell? ⟨g, 10, none⟩ = some (.int .i64 ov))
    (hl : ∀ o q, (Instr.lookup 53 (.map (some b)) (.int .i64 th) false).run Tryd.prog ((w.alloc o).drewN q) = .ok (.bool en) ((w.alloc o).drewN q))
    (hr : Hid ((!en && (ov == 0 || decide (T ≤ ov))) = r)) :
    Calls Tryd.prog 45 #[.pointer (some ⟨g, 0, none⟩), .agg #[.int .i64 T, .int .i64 th, .int .i64 k, .int .i64 n, .int .i64 m, .slice A5 l5 c5, .slice A6 l6 c6]] w fun e w' => e = .returned (.bool r) ∧ Below w.heap.size w w' := by
  have paths : en = true ∨ (en = false ∧ (ov == 0) = true) ∨ (en = false ∧ (ov == 0) = false ∧ decide (T ≤ ov) = true) ∨ (en = false ∧ (ov == 0) = false ∧ decide (T ≤ ov) = false) := by
    cases en <;> cases (ov == 0) <;> cases decide (T ≤ ov) <;> simp
  rcases paths with rfl | ⟨rfl, d2⟩ | ⟨rfl, d2, d3⟩ | ⟨rfl, d2, d3⟩
  all_goals
    go_enter Tryd.func45, Tryd.ntmps45
    go_wp2
    go_quiet (fail)
    go_wp2
    go_ret
    exact ⟨by rw [← hr.out]; simp [*], bDrew _ _ _⟩

theorem ends_calls {w0 w : World} {b : Nat} {j : JS} (h : JW w0 w b j) (x : Ev) (A5 A6 : Option Addr) (c5 c6 : Nat) :
    Calls Tryd.prog 45 #[.pointer (some ⟨b + 3, 0, none⟩), .agg #[.int .i64 x.f0, .int .i64 x.f1, .int .i64 x.f2, .int .i64 x.f3, .int .i64 x.f4, .slice A5 x.f5.length c5, .slice A6 x.f6.length c6]] w fun e w' => e = .returned (.bool (endsB j x)) ∧ Below w.heap.size w w' := by
  obtain ⟨_, _, _, _, _, hc⟩ := h.cells
  exact ends_walk w (b + 3) b _ _ _ _ _ _ _ _ _ _ _ _ _ _ (cellA hc rfl) (cellA hc rfl) (fun o q => ((h.alloc o).drewN q).ended_run _) (Lib.hid rfl)

theorem hits_walk (w : World) (g b : Nat) (T th k n m hd : Int) (r : Bool) (A5 A6 A : Option Addr) (l5 c5 l6 c6 len cap : Nat)
    (h11 : ∀ o, (w.alloc o).cell? ⟨g, 11, none⟩ = some (.map (some b)))
    (hl : ∀ o q, (Instr.lookup 54 (.map (some b)) (.int .i64 th) false).run Tryd.prog ((w.alloc o).drewN q) = .ok (.slice A len cap) ((w.alloc o).drewN q))
    (hA : 0 < len → ∃ ad, A = some ad ∧ ∀ o, (w.alloc o).cell? ad = some (.int .i64 hd))
    (hr : Hid ((k != 5 || (decide (0 < len) && hd == n)) = r)) :
    Calls Tryd.prog 46 #[.pointer (some ⟨g, 0, none⟩), .agg #[.int .i64 T, .int .i64 th, .int .i64 k, .int .i64 n, .int .i64 m, .slice A5 l5 c5, .slice A6 l6 c6]] w fun e w' => e = .returned (.bool r) ∧ Below w.heap.size w w' := by
  have paths : (k != 5) = true ∨ ((k != 5) = false ∧ decide (0 < len) = false) ∨ ((k != 5) = false ∧ decide (0 < len) = true ∧ (hd == n) = true) ∨ ((k != 5) = false ∧ decide (0 < len) = true ∧ (hd == n) = false) := by
    cases (k != 5) <;> cases decide (0 < len) <;> cases (hd == n) <;> simp
  rcases paths with d1 | ⟨d1, d2⟩ | ⟨d1, d2, d3⟩ | ⟨d1, d2, d3⟩
  · go_enter Tryd.func46, Tryd.ntmps46
    go_wp2
    go_quiet (fail)
    go_wp2
    go_quiet (fail)
    go_wp2
    go_ret
    exact ⟨by rw [← hr.out]; simp [*], pw_below_drewN (bDrew _ _ _) _⟩
  · go_enter Tryd.func46, Tryd.ntmps46
    go_wp2
    go_quiet (fail)
    go_wp2
    go_quiet (fail)
    go_wp2
    go_ret
    exact ⟨by rw [← hr.out]; simp [*], pw_below_drewN (bDrew _ _ _) _⟩
  all_goals
    obtain ⟨ad, rfl, hc⟩ := hA (of_decide_eq_true d2)
    clear hA
    have hz : 0 < len := of_decide_eq_true d2
    go_enter Tryd.func46, Tryd.ntmps46
    go_wp2
    go_quiet (fail)
    go_wp2
    go_quiet (fail)
    go_wp2
    go_ret
    exact ⟨by rw [← hr.out]; simp [*], pw_below_drewN (bDrew _ _ _) _⟩

theorem hits_calls {w0 w : World} {b : Nat} {j : JS} (h : JW w0 w b j) (x : Ev) (A5 A6 : Option Addr) (c5 c6 : Nat) :
    Calls Tryd.prog 46 #[.pointer (some ⟨b + 3, 0, none⟩), .agg #[.int .i64 x.f0, .int .i64 x.f1, .int .i64 x.f2, .int .i64 x.f3, .int .i64 x.f4, .slice A5 x.f5.length c5, .slice A6 x.f6.length c6]] w fun e w' => e = .returned (.bool (hitsB j x)) ∧ Below w.heap.size w w' := by
  obtain ⟨_, _, _, _, _, hc⟩ := h.cells
  obtain ⟨lp, p1, p2, _⟩ := h.pend
  have hp := p2 x.f1
  cases hk : lk x.f1 lp with
  | none =>
    rw [hk] at hp
    have hp : j.pend x.f1 = [] := hp
    refine hits_walk w (b + 3) (b + 1) _ _ _ _ _ 0 _ _ _ none _ _ _ _ 0 0 (cellA hc rfl) (fun o q => ?_) (fun hz => absurd hz (by omega)) (Lib.hid ?_)
    · have := run_lookup ((p1.alloc o).drewN q) Tryd.underlying54 Tryd.underlying3 (zeroInts _) x.f1 false
      rw [this, hk]; rfl
    · unfold hitsB; rw [hp]; simp
  | some v =>
    rw [hk] at hp
    obtain ⟨A, c, rfl, hl, hC⟩ := Kd.Q_reads hp.2
    cases hl0 : j.pend x.f1 with
    | nil => exact absurd hl0 hp.1
    | cons y r =>
    rw [hl0] at hC
    obtain ⟨ad, he, hcell⟩ := Kd.at_int hC 0 (by omega) (by simp)
    refine hits_walk w (b + 3) (b + 1) _ _ _ _ _ y _ _ _ A _ _ _ _ (j.pend x.f1).length c (cellA hc rfl) (fun o q => ?_) (fun _ => ⟨ad, he, fun o => ?_⟩) (Lib.hid ?_)
    · have := run_lookup ((p1.alloc o).drewN q) Tryd.underlying54 Tryd.underlying3 (zeroInts _) x.f1 false
      rw [this, hk]; rfl
    · have h2 : w.cell? ad = some (.int .i64 y) := by simpa [rd, Addr.add] using hcell
      exact pw_cell_below (below_alloc (Below.refl _ _) o) h2
    · unfold hitsB; rw [hl0]; simp

end Go.Proofs.YtkfbhfmddmhiaaaDoor.TJ
