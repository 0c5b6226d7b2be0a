/- The judge's rules 1 to 4: each Go method answers as the plain function. Conditions: the judge lies in memory as JW says. The judge's rule 5: the Go method answers as the plain function. Conditions: the accesses lie in memory; no list is longer than a million. The comparison of two shown values, and of two lists of them. Conditions: the values lie in memory. The judge's rule 6: the Go method answers as the plain function. Conditions: the judge lies in memory as JW says. -/
import Derived.Test.YtkfbhfmddmhiaaaGreatDoorJ0
import Derived.BigQuiet
import Derived.Lib.Hide
import Derived.Deep.DeepCutAuto
import Derived.Deep.CutBlock
import Derived.IntWalk
import Derived.Deep.RegionHeld3
import Derived.BigRegion
namespace Go.Proofs.YtkfbhfmddmhiaaaGreatDoor.TJ
open Go.RowKit Go.Proofs.YtkfbhfmddmhiaaaGreatDoorW.PrintWords Go.Proofs.YtkfbhfmddmhiaaaGreatDoor.PT Go.Proofs.YtkfbhfmddmhiaaaGreatDoor.IMaps
set_option linter.unusedVariables false

theorem bDrew (w : World) (o : Obj) (n : Nat) : Below w.heap.size w ((w.alloc o).drewN n) := pw_below_drewN (below_alloc (Below.refl _ _) o) n

theorem turns_walk (w : World) (g : Nat) (T th k n m lt lth : Int) (bg r : Bool) (A5 A6 : Option Addr) (l5 c5 l6 c6 : Nat)
    (h0 : ∀ o, (w.alloc o).cell? ⟨g, 0, none⟩ = some (.int .i64 lt)) (h1 : ∀ o, (w.alloc o).cell? ⟨g, 1, none⟩ = some (.int .i64 lth)) (h7 : ∀ o, (w.alloc o).cell? ⟨g, 7, none⟩ = some (.bool bg))
    (hr : Hid ((decide (1 ≤ T) && decide (T ≤ 6000) && (!bg || decide (lt < T) || (T == lt && th == lth))) = r)) :
    Calls Tryz.prog 72 #[.pointer (some ⟨g, 0, none⟩), .agg #[.int .i64 T, .int .i64 th, .int .i64 k, .int .i64 n, .int .i64 m, .slice A5 l5 c5, .slice A6 l6 c6]] w fun e w' => e = .returned (.bool r) ∧ Below w.heap.size w w' := by
  have paths : decide (1 ≤ T) = false ∨ (decide (1 ≤ T) = true ∧ decide (T ≤ 6000) = false) ∨ (decide (1 ≤ T) = true ∧ decide (T ≤ 6000) = true ∧ bg = false) ∨ (decide (1 ≤ T) = true ∧ decide (T ≤ 6000) = true ∧ bg = true ∧ decide (lt < T) = true) ∨
      (decide (1 ≤ T) = true ∧ decide (T ≤ 6000) = true ∧ bg = true ∧ decide (lt < T) = false ∧ (T == lt) = false) ∨ (decide (1 ≤ T) = true ∧ decide (T ≤ 6000) = true ∧ bg = true ∧ decide (lt < T) = false ∧ (T == lt) = true ∧ (th == lth) = false) ∨
      (decide (1 ≤ T) = true ∧ decide (T ≤ 6000) = true ∧ bg = true ∧ decide (lt < T) = false ∧ (T == lt) = true ∧ (th == lth) = true) := by
    cases decide (1 ≤ T) <;> cases decide (T ≤ 6000) <;> cases bg <;> cases decide (lt < T) <;> cases (T == lt) <;> cases (th == lth) <;> simp
  rcases paths with d1 | ⟨d1, d2⟩ | ⟨d1, d2, rfl⟩ | ⟨d1, d2, rfl, d3⟩ | ⟨d1, d2, rfl, d3, d4⟩ | ⟨d1, d2, rfl, d3, d4, d5⟩ | ⟨d1, d2, rfl, d3, d4, d5⟩
  all_goals
    go_enter Tryz.func72, Tryz.ntmps72
    go_wp2
    go_quiet (fail)
    go_wp2
    go_ret
    exact ⟨by rw [← hr.out]; simp [*], bDrew _ _ _⟩

theorem turns_calls {w0 w : World} {b : Nat} {j : JS} (h : JW w0 w b j) (x : Ev) (A5 A6 : Option Addr) (c5 c6 : Nat) :
    Calls Tryz.prog 72 #[.pointer (some ⟨b + 3, 0, none⟩), .agg #[.int .i64 x.f0, .int .i64 x.f1, .int .i64 x.f2, .int .i64 x.f3, .int .i64 x.f4, .slice A5 x.f5.length c5, .slice A6 x.f6.length c6]] w fun e w' => e = .returned (.bool (turnsB j x)) ∧ Below w.heap.size w w' := by
  obtain ⟨_, _, _, _, _, hc⟩ := h.cells
  exact turns_walk w (b + 3) _ _ _ _ _ _ _ _ _ _ _ _ _ _ _ (cellA hc rfl) (cellA hc rfl) (cellA hc rfl) (Lib.hid rfl)

theorem numbers_walk (w : World) (g : Nat) (T th k n m thr : Int) (r : Bool) (A5 A6 : Option Addr) (l5 c5 l6 c6 : Nat)
    (h0 : ∀ o, (w.alloc o).cell? ⟨g, 8, none⟩ = some (.int .i64 thr))
    (hr : Hid ((decide (0 ≤ th) && decide (th < thr) && (k != 3 || n == thr)) = r)) :
    Calls Tryz.prog 73 #[.pointer (some ⟨g, 0, none⟩), .agg #[.int .i64 T, .int .i64 th, .int .i64 k, .int .i64 n, .int .i64 m, .slice A5 l5 c5, .slice A6 l6 c6]] w fun e w' => e = .returned (.bool r) ∧ Below w.heap.size w w' := by
  have paths : decide (0 ≤ th) = false ∨ (decide (0 ≤ th) = true ∧ decide (th < thr) = false) ∨ (decide (0 ≤ th) = true ∧ decide (th < thr) = true ∧ (k != 3) = true) ∨ (decide (0 ≤ th) = true ∧ decide (th < thr) = true ∧ (k != 3) = false ∧ (n == thr) = true) ∨ (decide (0 ≤ th) = true ∧ decide (th < thr) = true ∧ (k != 3) = false ∧ (n == thr) = false) := by
    cases decide (0 ≤ th) <;> cases decide (th < thr) <;> cases (k != 3) <;> cases (n == thr) <;> simp
  rcases paths with d1 | ⟨d1, d2⟩ | ⟨d1, d2, d3⟩ | ⟨d1, d2, d3, d4⟩ | ⟨d1, d2, d3, d4⟩
  all_goals
    go_enter Tryz.func73, Tryz.ntmps73
    go_wp2
    go_quiet (fail)
    go_wp2
    go_ret
    exact ⟨by rw [← hr.out]; simp [*], bDrew _ _ _⟩

theorem numbers_calls {w0 w : World} {b : Nat} {j : JS} (h : JW w0 w b j) (x : Ev) (A5 A6 : Option Addr) (c5 c6 : Nat) :
    Calls Tryz.prog 73 #[.pointer (some ⟨b + 3, 0, none⟩), .agg #[.int .i64 x.f0, .int .i64 x.f1, .int .i64 x.f2, .int .i64 x.f3, .int .i64 x.f4, .slice A5 x.f5.length c5, .slice A6 x.f6.length c6]] w fun e w' => e = .returned (.bool (numbersB j x)) ∧ Below w.heap.size w w' := by
  obtain ⟨_, _, _, _, _, hc⟩ := h.cells
  exact numbers_walk w (b + 3) _ _ _ _ _ _ _ _ _ _ _ _ _ (cellA hc rfl) (Lib.hid rfl)

theorem ends_walk (w : World) (g b : Nat) (T th k n m ov : Int) (en r : Bool) (A5 A6 : Option Addr) (l5 c5 l6 c6 : Nat)
    (h9 : ∀ o, (w.alloc o).cell? ⟨g, 9, none⟩ = some (.map (some b))) (h10 : ∀ o, (w.alloc o).cell? ⟨g, 10, none⟩ = some (.int .i64 ov))
    (hl : ∀ o q, (Instr.lookup 72 (.map (some b)) (.int .i64 th) false).run Tryz.prog ((w.alloc o).drewN q) = .ok (.bool en) ((w.alloc o).drewN q))
    (hr : Hid ((!en && (ov == 0 || decide (T ≤ ov))) = r)) :
    Calls Tryz.prog 74 #[.pointer (some ⟨g, 0, none⟩), .agg #[.int .i64 T, .int .i64 th, .int .i64 k, .int .i64 n, .int .i64 m, .slice A5 l5 c5, .slice A6 l6 c6]] w fun e w' => e = .returned (.bool r) ∧ Below w.heap.size w w' := by
  have paths : en = true ∨ (en = false ∧ (ov == 0) = true) ∨ (en = false ∧ (ov == 0) = false ∧ decide (T ≤ ov) = true) ∨ (en = false ∧ (ov == 0) = false ∧ decide (T ≤ ov) = false) := by
    cases en <;> cases (ov == 0) <;> cases decide (T ≤ ov) <;> simp
  rcases paths with rfl | ⟨rfl, d2⟩ | ⟨rfl, d2, d3⟩ | ⟨rfl, d2, d3⟩
  all_goals
    go_enter Tryz.func74, Tryz.ntmps74
    go_wp2
    go_quiet (fail)
    go_wp2
    go_ret
    exact ⟨by rw [← hr.out]; simp [*], bDrew _ _ _⟩

theorem ends_calls {w0 w : World} {b : Nat} {j : JS} (h : JW w0 w b j) (x : Ev) (A5 A6 : Option Addr) (c5 c6 : Nat) :
    Calls Tryz.prog 74 #[.pointer (some ⟨b + 3, 0, none⟩), .agg #[.int .i64 x.f0, .int .i64 x.f1, .int .i64 x.f2, .int .i64 x.f3, .int .i64 x.f4, .slice A5 x.f5.length c5, .slice A6 x.f6.length c6]] w fun e w' => e = .returned (.bool (endsB j x)) ∧ Below w.heap.size w w' := by
  obtain ⟨_, _, _, _, _, hc⟩ := h.cells
  exact ends_walk w (b + 3) b _ _ _ _ _ _ _ _ _ _ _ _ _ _ (cellA hc rfl) (cellA hc rfl) (fun o q => ((h.alloc o).drewN q).ended_run _) (Lib.hid rfl)

theorem hits_walk (w : World) (g b : Nat) (T th k n m hd : Int) (r : Bool) (A5 A6 A : Option Addr) (l5 c5 l6 c6 len cap : Nat)
    (h11 : ∀ o, (w.alloc o).cell? ⟨g, 11, none⟩ = some (.map (some b)))
    (hl : ∀ o q, (Instr.lookup 73 (.map (some b)) (.int .i64 th) false).run Tryz.prog ((w.alloc o).drewN q) = .ok (.slice A len cap) ((w.alloc o).drewN q))
    (hA : 0 < len → ∃ ad, A = some ad ∧ ∀ o, (w.alloc o).cell? ad = some (.int .i64 hd))
    (hr : Hid ((k != 5 || (decide (0 < len) && hd == n)) = r)) :
    Calls Tryz.prog 75 #[.pointer (some ⟨g, 0, none⟩), .agg #[.int .i64 T, .int .i64 th, .int .i64 k, .int .i64 n, .int .i64 m, .slice A5 l5 c5, .slice A6 l6 c6]] w fun e w' => e = .returned (.bool r) ∧ Below w.heap.size w w' := by
  have paths : (k != 5) = true ∨ ((k != 5) = false ∧ decide (0 < len) = false) ∨ ((k != 5) = false ∧ decide (0 < len) = true ∧ (hd == n) = true) ∨ ((k != 5) = false ∧ decide (0 < len) = true ∧ (hd == n) = false) := by
    cases (k != 5) <;> cases decide (0 < len) <;> cases (hd == n) <;> simp
  rcases paths with d1 | ⟨d1, d2⟩ | ⟨d1, d2, d3⟩ | ⟨d1, d2, d3⟩
  · go_enter Tryz.func75, Tryz.ntmps75
    go_wp2
    go_quiet (fail)
    go_wp2
    go_quiet (fail)
    go_wp2
    go_ret
    exact ⟨by rw [← hr.out]; simp [*], pw_below_drewN (bDrew _ _ _) _⟩
  · go_enter Tryz.func75, Tryz.ntmps75
    go_wp2
    go_quiet (fail)
    go_wp2
    go_quiet (fail)
    go_wp2
    go_ret
    exact ⟨by rw [← hr.out]; simp [*], pw_below_drewN (bDrew _ _ _) _⟩
  all_goals
    obtain ⟨ad, rfl, hc⟩ := hA (of_decide_eq_true d2)
    clear hA
    have hz : 0 < len := of_decide_eq_true d2
    go_enter Tryz.func75, Tryz.ntmps75
    go_wp2
    go_quiet (fail)
    go_wp2
    go_quiet (fail)
    go_wp2
    go_ret
    exact ⟨by rw [← hr.out]; simp [*], pw_below_drewN (bDrew _ _ _) _⟩

theorem hits_calls {w0 w : World} {b : Nat} {j : JS} (h : JW w0 w b j) (x : Ev) (A5 A6 : Option Addr) (c5 c6 : Nat) :
    Calls Tryz.prog 75 #[.pointer (some ⟨b + 3, 0, none⟩), .agg #[.int .i64 x.f0, .int .i64 x.f1, .int .i64 x.f2, .int .i64 x.f3, .int .i64 x.f4, .slice A5 x.f5.length c5, .slice A6 x.f6.length c6]] w fun e w' => e = .returned (.bool (hitsB j x)) ∧ Below w.heap.size w w' := by
  obtain ⟨_, _, _, _, _, hc⟩ := h.cells
  obtain ⟨lp, p1, p2, _⟩ := h.pend
  have hp := p2 x.f1
  cases hk : lk x.f1 lp with
  | none =>
    rw [hk] at hp
    have hp : j.pend x.f1 = [] := hp
    refine hits_walk w (b + 3) (b + 1) _ _ _ _ _ 0 _ _ _ none _ _ _ _ 0 0 (cellA hc rfl) (fun o q => ?_) (fun hz => absurd hz (by omega)) (Lib.hid ?_)
    · have := run_lookup ((p1.alloc o).drewN q) Tryz.underlying73 Tryz.underlying3 (zeroInts _) x.f1 false
      rw [this, hk]; rfl
    · unfold hitsB; rw [hp]; simp
  | some v =>
    rw [hk] at hp
    obtain ⟨A, c, rfl, hl, hC⟩ := Kd.Q_reads hp.2
    cases hl0 : j.pend x.f1 with
    | nil => exact absurd hl0 hp.1
    | cons y r =>
    rw [hl0] at hC
    obtain ⟨ad, he, hcell⟩ := Kd.at_int hC 0 (by omega) (by simp)
    refine hits_walk w (b + 3) (b + 1) _ _ _ _ _ y _ _ _ A _ _ _ _ (j.pend x.f1).length c (cellA hc rfl) (fun o q => ?_) (fun _ => ⟨ad, he, fun o => ?_⟩) (Lib.hid ?_)
    · have := run_lookup ((p1.alloc o).drewN q) Tryz.underlying73 Tryz.underlying3 (zeroInts _) x.f1 false
      rw [this, hk]; rfl
    · have h2 : w.cell? ad = some (.int .i64 y) := by simpa [rd, Addr.add] using hcell
      exact pw_cell_below (below_alloc (Below.refl _ _) o) h2
    · unfold hitsB; rw [hl0]; simp

end Go.Proofs.YtkfbhfmddmhiaaaGreatDoor.TJ
namespace Go.Proofs.YtkfbhfmddmhiaaaGreatDoor.TJ
open Go.RowKit Go.Proofs.YtkfbhfmddmhiaaaGreatDoorW.PrintWords Go.Proofs.YtkfbhfmddmhiaaaGreatDoor.PT Go.Proofs.YtkfbhfmddmhiaaaGreatDoor.IMaps
set_option linter.unusedVariables false

theorem ascP_step (l : List Ac) (j : Nat) (h : j < l.length) (p : Option Int) : ascP p (l.drop j) = (decide (0 ≤ (rd_T51 l (j : Int)).f0) && decide ((rd_T51 l (j : Int)).f0 < 64) && (match p with | none => true | some q => decide (q < (rd_T51 l (j : Int)).f0)) && ascP (some (rd_T51 l (j : Int)).f0) (l.drop (j + 1))) := by
  have e2 : rd_T51 l (j : Int) = l[j] := by simp [rd_T51, List.getD_eq_getElem?_getD, List.getElem?_eq_getElem h]
  rw [e2, List.drop_eq_getElem_cons h]
  rfl

def prevA (l : List Ac) (j : Nat) : Option Int := if j = 0 then none else some (rd_T51 l ((j : Int) - 1)).f0

set_option maxHeartbeats 1000000 in
theorem asc_calls (A : Option Addr) (c : Nat) (l : List Ac) (w : World) (hr : kAc.C w A l.length l) (hc : l.length ≤ c) (hl : l.length ≤ 1000000) :
    Calls Tryz.prog 97 #[.slice A l.length c] w fun e w' => e = .returned (.bool (ascB l)) ∧ Below w.heap.size w w' := by
  have HR := Aside0.mk hr
  clear hr
  go_enter Tryz.func97, Tryz.ntmps97
  go_wp2
  go_loopw [7] (fun i wr => ∃ j : Nat, j ≤ l.length ∧ i = .int .i64 j ∧ Aside0 (ascP (prevA l j) (l.drop j) = ascB l) ∧ Aside0 (Below w.heap.size w wr)) (fun i _ => l.length - (intOf i).toNat)
  case atStart => exact ⟨0, by omega, rfl, ⟨rfl⟩, ⟨Below.refl _ _⟩⟩
  case round =>
    obtain ⟨j, hj, rfl, HA, HB⟩ := hrel
    by_cases hlt : j < l.length
    · obtain ⟨ad, A4, c4, e4, hx0, hx1, hx2, hx3, hx4, _, _⟩ := at_T51 HR.out (j : Int) (by omega) (by omega)
      cases e4
      replace hx0 := (HB.out.cell (World.block_lt_of_cell? w _ hx0)).trans hx0
      replace hx1 := (HB.out.cell (World.block_lt_of_cell? w _ hx1)).trans hx1
      replace hx2 := (HB.out.cell (World.block_lt_of_cell? w _ hx2)).trans hx2
      replace hx3 := (HB.out.cell (World.block_lt_of_cell? w _ hx3)).trans hx3
      replace hx4 := (HB.out.cell (World.block_lt_of_cell? w _ hx4)).trans hx4
      simp only [Int.toNat_natCast] at hx0 hx1 hx2 hx3 hx4
      have HS := Aside0.mk (ascP_step l j hlt (prevA l j))
      have hnx : prevA l (j + 1) = some (rd_T51 l (j : Int)).f0 := by unfold prevA; rw [if_neg (by omega)]; congr 3; omega
      generalize hF : (rd_T51 l (j : Int)).f0 = F at *
      rcases Classical.em (F < 0) with q1 | q1
      · have d1 : decide (F < 0) = true := decide_eq_true q1
        have hres : ascB l = false := by rw [← HA.out, HS.out]; simp [show ¬ 0 ≤ F by omega]
        have HR1 := Aside0.mk hres
        clear hres q1 hF hnx
        go_wp2
        go_quiet (fail)
        go_wp2
        go_ret
        exact ⟨by rw [HR1.out]; rfl, pw_below_drewN (below_alloc HB.out _) _⟩
      rcases Classical.em (64 ≤ F) with q2 | q2
      · have d1 : decide (F < 0) = false := decide_eq_false q1
        have d2 : decide (64 ≤ F) = true := decide_eq_true q2
        have hres : ascB l = false := by rw [← HA.out, HS.out]; simp [show ¬ F < 64 by omega]
        have HR1 := Aside0.mk hres
        clear hres q1 q2 hF hnx
        go_wp2
        go_quiet (fail)
        go_wp2
        go_ret
        exact ⟨by rw [HR1.out]; rfl, pw_below_drewN (below_alloc HB.out _) _⟩
      have d1 : decide (F < 0) = false := decide_eq_false q1
      have d2 : decide (64 ≤ F) = false := decide_eq_false q2
      rcases Nat.eq_zero_or_pos j with hj0 | hj0
      · have hp0 : prevA l j = none := by unfold prevA; rw [if_pos hj0]
        have d3 : decide (0 < j) = false := decide_eq_false (by omega)
        have hres : ascP (prevA l (j + 1)) (l.drop (j + 1)) = ascB l := by rw [hnx, ← HA.out, HS.out, hp0]; simp [show 0 ≤ F by omega, show F < 64 by omega]
        have HR1 := Aside0.mk hres
        clear hres q1 q2 hF hnx hp0 hj0
        go_wp2
        go_quiet (fail)
        go_wp2
        go_roundw
        case rel => exact ⟨j + 1, by omega, by go_num, HR1, ⟨pw_below_drewN (below_alloc HB.out _) _⟩⟩
        case measure => simp [intOf]; omega
      · obtain ⟨ad', A4', c4', e4', hy0, _, _, _, _, _, _⟩ := at_T51 HR.out ((j : Int) - 1) (by omega) (by omega)
        cases e4'
        replace hy0 := (HB.out.cell (World.block_lt_of_cell? w _ hy0)).trans hy0
        have hpv : prevA l j = some (rd_T51 l ((j : Int) - 1)).f0 := by unfold prevA; rw [if_neg (by omega)]
        generalize hG : (rd_T51 l ((j : Int) - 1)).f0 = G at *
        have hy := fun o => pw_cell_below (below_alloc (Below.refl wr.heap.size wr) o) hy0
        have d3 : decide (0 < j) = true := decide_eq_true (by omega)
        have i1 : (j : Int) - 1 < (l.length : Int) := by omega
        have i0 : 0 ≤ (j : Int) - 1 := by omega
        have i2 : 1 ≤ (j : Int) := by omega
        have i3 : 1 ≤ j := by omega
        have i4 : IntKind.i64.wrap ((j : Int) - 1) = (j : Int) - 1 := IntWalk.i64_in _ (by omega)
        have i5 : ((j : Int) - 1).toNat = j - 1 := by omega
        rw [i5] at hy
        clear hy0
        rcases Classical.em (F ≤ G) with q3 | q3
        · have d4 : decide (F ≤ G) = true := decide_eq_true q3
          have hres : ascB l = false := by rw [← HA.out, HS.out, hpv]; simp [show ¬ G < F by omega]
          have HR1 := Aside0.mk hres
          clear hres q1 q2 q3 hF hG hnx hpv
          go_wp2
          go_quiet (fail)
          go_wp2
          go_ret
          exact ⟨by rw [HR1.out]; rfl, pw_below_drewN (below_alloc HB.out _) _⟩
        · have d4 : decide (F ≤ G) = false := decide_eq_false q3
          have hres : ascP (prevA l (j + 1)) (l.drop (j + 1)) = ascB l := by rw [hnx, ← HA.out, HS.out, hpv]; simp [show 0 ≤ F by omega, show F < 64 by omega, show G < F by omega]
          have HR1 := Aside0.mk hres
          clear hres q1 q2 q3 hF hG hnx hpv
          go_wp2
          go_quiet (fail)
          go_wp2
          go_roundw
          case rel => exact ⟨j + 1, by omega, by go_num, HR1, ⟨pw_below_drewN (below_alloc HB.out _) _⟩⟩
          case measure => simp [intOf]; omega
    · have hje : j = l.length := by omega
      subst hje
      have hres : ascB l = true := by rw [← HA.out, List.drop_length]; rfl
      have HR1 := Aside0.mk hres
      clear hres
      go_wp2
      go_ret
      exact ⟨by rw [HR1.out]; rfl, HB.out⟩

theorem cellNew (w : World) (cs : Array Value) (t : TypeId) (q i : Nat) (v : Value) (h : cs[i]? = some v) : ((w.alloc (.cells cs t)).drewN q).cell? ⟨w.heap.size, i, none⟩ = some v := by
  have h1 : (w.alloc (.cells cs t)).heap[w.heap.size]? = some (.cells cs t (0, 0)) := (MapKept.heap_alloc w _).1
  have h2 := cellH h1 h
  simpa using h2

set_option maxHeartbeats 4000000 in
theorem fields_walk (w : World) (p : Value) (T th k n m : Int) (r a5 a6 : Bool) (A5 A6 : Option Addr) (n5 c5 n6 c6 : Nat) (b5 : n5 ≤ 1000000) (b6 : n6 ≤ 1000000)
    (C5 : ∀ W, Below w.heap.size w W → Calls Tryz.prog 97 #[.slice A5 n5 c5] W fun e w' => e = .returned (.bool a5) ∧ Below W.heap.size W w')
    (C6 : ∀ W, Below w.heap.size w W → Calls Tryz.prog 97 #[.slice A6 n6 c6] W fun e w' => e = .returned (.bool a6) ∧ Below W.heap.size W w')
    (hr : Hid ((decide (1 ≤ k) && decide (k ≤ 12) && (hasN k || n == 0) && (k == 4 || m == 0) && (k == 7 || ((n5 : Int) + (n6 : Int) == 0)) && a5 && a6) = r)) :
    Calls Tryz.prog 76 #[p, .agg #[.int .i64 T, .int .i64 th, .int .i64 k, .int .i64 n, .int .i64 m, .slice A5 n5 c5, .slice A6 n6 c6]] w fun e w' => e = .returned (.bool r) ∧ Below w.heap.size w w' := by
  have K5 := Lib.hid C5
  have K6 := Lib.hid C6
  clear C5 C6
  rcases Classical.em (k < 1 ∨ 12 < k) with hk | hk
  · have hres : r = false := by rw [← hr.out]; rcases hk with hk | hk <;> simp [show ¬ (1 ≤ k ∧ k ≤ 12) by omega] <;> intros <;> omega
    subst hres
    rcases hk with hk | hk
    · have d1 : decide (k < 1) = true := decide_eq_true hk
      clear hk
      go_enter Tryz.func76, Tryz.ntmps76
      go_wp2
      go_ret
      exact ⟨rfl, below_alloc (Below.refl _ _) _⟩
    · have d1 : decide (k < 1) = false := decide_eq_false (by omega)
      have d2 : decide (12 < k) = true := decide_eq_true hk
      clear hk
      go_enter Tryz.func76, Tryz.ntmps76
      go_wp2
      go_ret
      exact ⟨rfl, below_alloc (Below.refl _ _) _⟩
  · have d1 : decide (k < 1) = false := decide_eq_false (by omega)
    have d2 : decide (12 < k) = false := decide_eq_false (by omega)
    have d0 := Aside0.mk hk
    clear hk
    go_enter Tryz.func76, Tryz.ntmps76
    go_wp2
    go_quiet (fail)
    go_upto_block 0 with fail
    go_cut [5, 6, 7] (fun s5 s6 s7 wx => ∃ q, s5 = .bool (hasN k) ∧ s6 = .bool (k == 4) ∧ s7 = .bool (k == 7) ∧ wx = (w.alloc (.cells #[.int .i64 T, .int .i64 th, .int .i64 k, .int .i64 n, .int .i64 m, .slice A5 n5 c5, .slice A6 n6 c6] 44)).drewN q)
    case first =>
      go_wp2
      all_goals (go_meet; exact ⟨nq, by simp [hasN, *], rfl, rfl, rfl⟩)
    case rest =>
      obtain ⟨q, rfl, rfl, rfl, rfl⟩ := hcut
      have hk1 : decide (1 ≤ k) = true := decide_eq_true (by have := d0.out; omega)
      have hk2 : decide (k ≤ 12) = true := decide_eq_true (by have := d0.out; omega)
      have hr1 : ((hasN k || n == 0) && (k == 4 || m == 0) && (k == 7 || ((n5 : Int) + (n6 : Int) == 0)) && a5 && a6) = r := by rw [← hr.out, hk1, hk2]; simp
      have HR := Lib.hid hr1
      clear hr hr1 hk1 hk2
      generalize hasN k = N at *
      generalize (k == 4) = k4 at *
      generalize (k == 7) = k7 at *
      go_wp2_with fail
      all_goals
        first
        | (go_ret
           exact ⟨by rw [← HR.out]; simp [*], bDrew _ _ _⟩)
        | (refine (K5.out _ (bDrew _ _ _)).mono ?_
           rintro e w1 ⟨rfl, hb1⟩
           have HB1 := Aside0.mk (below_step (bDrew _ _ _) hb1)
           have f6 : w1.cell? ⟨w.heap.size, 6, none⟩ = some (.slice A6 n6 c6) := (hb1.cell (p := ⟨w.heap.size, 6, none⟩) (by simp)).trans (cellNew _ _ _ _ _ _ rfl)
           clear hb1
           cases a5
           · go_wp2_with fail
             go_ret
             exact ⟨by rw [← HR.out]; simp [*], HB1.out⟩
           · go_wp2_with fail
             refine (K6.out _ HB1.out).mono ?_
             rintro e w2 ⟨rfl, hb2⟩
             have HB2 := Aside0.mk (below_step HB1.out hb2)
             clear hb2
             go_wp2_with fail
             go_ret
             exact ⟨by rw [← HR.out]; simp [*], HB2.out⟩)

theorem fields_calls (w : World) (p : Value) (x : Ev) (A5 A6 : Option Addr) (c5 c6 : Nat) (g5 : x.f5.length ≤ c5) (C5 : kAc.C w A5 x.f5.length x.f5) (g6 : x.f6.length ≤ c6) (C6 : kAc.C w A6 x.f6.length x.f6) (b5 : x.f5.length ≤ 1000000) (b6 : x.f6.length ≤ 1000000) :
    Calls Tryz.prog 76 #[p, .agg #[.int .i64 x.f0, .int .i64 x.f1, .int .i64 x.f2, .int .i64 x.f3, .int .i64 x.f4, .slice A5 x.f5.length c5, .slice A6 x.f6.length c6]] w fun e w' => e = .returned (.bool (fieldsB x)) ∧ Below w.heap.size w w' := by
  refine fields_walk w p _ _ _ _ _ _ (ascB x.f5) (ascB x.f6) A5 A6 _ _ _ _ b5 b6 (fun W hb => asc_calls A5 c5 x.f5 W (Kd.C_below C5 hb) g5 b5) (fun W hb => asc_calls A6 c6 x.f6 W (Kd.C_below C6 hb) g6 b6) (Lib.hid ?_)
  have e : ((x.f5.length : Int) + (x.f6.length : Int) == 0) = (x.f5.isEmpty && x.f6.isEmpty) := by
    cases x.f5 <;> cases x.f6 <;> simp <;> omega
  unfold fieldsB
  rw [e]
end Go.Proofs.YtkfbhfmddmhiaaaGreatDoor.TJ
namespace Go.Proofs.YtkfbhfmddmhiaaaGreatDoor.TJ
open Go.RowKit Go.Proofs.YtkfbhfmddmhiaaaGreatDoorW.PrintWords Go.Proofs.YtkfbhfmddmhiaaaGreatDoor.PT Go.Proofs.YtkfbhfmddmhiaaaGreatDoor.IMaps
set_option linter.unusedVariables false

theorem agreeVs_step (l1 l2 : List Vl) (j : Nat) (h1 : j < l1.length) (h2 : j < l2.length) : agreeVs (l1.drop j) (l2.drop j) = (agreeV (rd_T49 l1 (j : Int)) (rd_T49 l2 (j : Int)) && agreeVs (l1.drop (j + 1)) (l2.drop (j + 1))) := by
  have e1 : rd_T49 l1 (j : Int) = l1[j] := by simp [rd_T49, List.getD_eq_getElem?_getD, List.getElem?_eq_getElem h1]
  have e2 : rd_T49 l2 (j : Int) = l2[j] := by simp [rd_T49, List.getD_eq_getElem?_getD, List.getElem?_eq_getElem h2]
  rw [e1, e2, List.drop_eq_getElem_cons h1, List.drop_eq_getElem_cons h2]
  rfl

theorem agreeVs_len : ∀ (l1 l2 : List Vl), l1.length ≠ l2.length → agreeVs l1 l2 = false
  | [], [], h => absurd rfl h
  | [], _ :: _, _ => rfl
  | _ :: _, [], _ => rfl
  | _ :: r, _ :: q, h => by simp only [agreeVs]; rw [agreeVs_len r q (fun e => h (by simp [e]))]; simp

def AgreeAt (x y : Vl) : Prop := ∀ (w : World) (A B : Option Addr) (c d : Nat), x.f3.length ≤ c → y.f3.length ≤ d → kVl.C w A x.f3.length x.f3 → kVl.C w B y.f3.length y.f3 →
  Calls Tryz.prog 100 #[.agg #[.int .i64 x.f0, .int .i64 x.f1, .string x.f2, .slice A x.f3.length c], .agg #[.int .i64 y.f0, .int .i64 y.f1, .string y.f2, .slice B y.f3.length d]] w fun e w' => e = .returned (.bool (agreeV x y)) ∧ Below w.heap.size w w'

theorem C_max {d : Kd Vl} {w : World} {A : Option Addr} {n : Nat} {xs : List Vl} (h : d.C w A n xs) : n ≤ 9223372036854775807 := h.2.1

set_option maxHeartbeats 2000000 in
theorem equalVals_agree (l1 l2 : List Vl) (HF : ∀ j : Nat, j < l1.length → j < l2.length → AgreeAt (rd_T49 l1 (j : Int)) (rd_T49 l2 (j : Int)))
    (w : World) (A B : Option Addr) (c d : Nat) (hc : l1.length ≤ c) (hd : l2.length ≤ d) (C1 : kVl.C w A l1.length l1) (C2 : kVl.C w B l2.length l2) :
    Calls Tryz.prog 106 #[.slice A l1.length c, .slice B l2.length d, .func (.func 100) #[] #[]] w fun e w' => e = .returned (.bool (agreeVs l1 l2)) ∧ Below w.heap.size w w' := by
  have HF' := Lib.hid HF
  have hm := C_max C1
  have K1 := Aside0.mk C1
  have K2 := Aside0.mk C2
  clear HF C1 C2
  rcases Classical.em (l1.length = l2.length) with hlen | hlen
  · have d1 : ((l1.length : Int) != (l2.length : Int)) = false := by rw [bne_eq_false_iff_eq]; omega
    have HL := Lib.hid hlen
    clear hlen
    go_enter Tryz.func106, Tryz.ntmps106
    go_wp2
    go_loopw [17] (fun i wr => ∃ j : Nat, j ≤ l1.length ∧ i = .int .i64 j ∧ Aside0 (agreeVs (l1.drop j) (l2.drop j) = agreeVs l1 l2) ∧ Aside0 (Below w.heap.size w wr)) (fun i _ => l1.length - (intOf i).toNat)
    case atStart => exact ⟨0, by omega, rfl, ⟨rfl⟩, ⟨Below.refl _ _⟩⟩
    case round =>
      obtain ⟨j, hj, rfl, HA, HB⟩ := hrel
      by_cases hlt : j < l1.length
      · have hlt2 : j < l2.length := by have := HL.out; omega
        obtain ⟨ad, A3, c3, e3, hx0, hx1, hx2, hx3, hxl, hxC⟩ := at_T49 K1.out (j : Int) (by omega) (by omega)
        obtain ⟨bd, B3, d3, f3, hy0, hy1, hy2, hy3, hyl, hyC⟩ := at_T49 K2.out (j : Int) (by omega) (by omega)
        cases e3
        cases f3
        simp only [Int.toNat_natCast] at hx0 hx1 hx2 hx3 hy0 hy1 hy2 hy3
        replace hx0 := (HB.out.cell (World.block_lt_of_cell? w _ hx0)).trans hx0
        replace hx1 := (HB.out.cell (World.block_lt_of_cell? w _ hx1)).trans hx1
        replace hx2 := (HB.out.cell (World.block_lt_of_cell? w _ hx2)).trans hx2
        replace hx3 := (HB.out.cell (World.block_lt_of_cell? w _ hx3)).trans hx3
        replace hy0 := (HB.out.cell (World.block_lt_of_cell? w _ hy0)).trans hy0
        replace hy1 := (HB.out.cell (World.block_lt_of_cell? w _ hy1)).trans hy1
        replace hy2 := (HB.out.cell (World.block_lt_of_cell? w _ hy2)).trans hy2
        replace hy3 := (HB.out.cell (World.block_lt_of_cell? w _ hy3)).trans hy3
        have hy0' := fun o => pw_cell_below (below_alloc (Below.refl wr.heap.size wr) o) hy0
        have hy1' := fun o => pw_cell_below (below_alloc (Below.refl wr.heap.size wr) o) hy1
        have hy2' := fun o => pw_cell_below (below_alloc (Below.refl wr.heap.size wr) o) hy2
        have hy3' := fun o => pw_cell_below (below_alloc (Below.refl wr.heap.size wr) o) hy3
        clear hy0 hy1 hy2 hy3
        have HS := Aside0.mk (agreeVs_step l1 l2 j hlt hlt2)
        have HE := Lib.hid (HF'.out j hlt hlt2)
        generalize hX : rd_T49 l1 (j : Int) = X at *
        generalize hY : rd_T49 l2 (j : Int) = Y at *
        clear hX hY
        go_wp2_with fail
        refine (HE.out _ A3 B3 c3 d3 hxl hyl (Kd.C_below (Kd.C_below hxC HB.out) (below_alloc (below_alloc (Below.refl _ _) _) _)) (Kd.C_below (Kd.C_below hyC HB.out) (below_alloc (below_alloc (Below.refl _ _) _) _))).mono ?_
        rintro e w1 ⟨rfl, hb1⟩
        have HB1 := Aside0.mk (below_step (below_alloc (below_alloc HB.out _) _) hb1)
        clear hb1
        cases hr : agreeV X Y
        · have HR1 := Aside0.mk (show agreeVs l1 l2 = false by rw [← HA.out, HS.out, hr]; rfl)
          clear hr
          go_wp2
          go_ret
          exact ⟨by rw [HR1.out]; rfl, HB1.out⟩
        · have HR1 := Aside0.mk (show agreeVs (l1.drop (j + 1)) (l2.drop (j + 1)) = agreeVs l1 l2 by rw [← HA.out, HS.out, hr]; simp)
          clear hr
          go_wp2
          go_roundw
          case rel => exact ⟨j + 1, by omega, by go_num, HR1, HB1⟩
          case measure => simp [intOf]; omega
      · have HR1 := Aside0.mk (show agreeVs l1 l2 = true by rw [← HA.out, List.drop_eq_nil_of_le (by omega), List.drop_eq_nil_of_le (by have := HL.out; omega)]; rfl)
        have hje : j = l1.length := by omega
        subst hje
        go_wp2
        go_ret
        exact ⟨by rw [HR1.out]; rfl, HB.out⟩
  · have d1 : ((l1.length : Int) != (l2.length : Int)) = true := by rw [bne_iff_ne]; omega
    have HL := Aside0.mk (agreeVs_len l1 l2 hlen)
    have d2 : (l1.length != l2.length) = true := by rw [bne_iff_ne]; exact hlen
    clear hlen
    go_enter Tryz.func106, Tryz.ntmps106
    go_wp2
    go_ret
    exact ⟨by rw [HL.out]; rfl, Below.refl _ _⟩

theorem agreeV_eq (x y : Vl) : agreeV x y = (x.f0 == 6 || (y.f0 == 6 || (x.f0 == y.f0 && (x.f1 == y.f1 && (x.f2.toList == y.f2.toList && agreeVs x.f3 y.f3))))) := by
  cases x; rfl

theorem vdepths_mem : ∀ (l : List Vl) (j : Nat), j < l.length → vdepth (rd_T49 l (j : Int)) ≤ vdepths l
  | [], j, h => by simp at h
  | v :: r, 0, _ => by simp only [vdepths]; exact Nat.le_max_left _ _
  | v :: r, j + 1, h => by
    have h2 := vdepths_mem r j (by simpa using h)
    have e : rd_T49 (v :: r) ((j + 1 : Nat) : Int) = rd_T49 r (j : Int) := by simp [rd_T49]
    rw [e]
    simp only [vdepths]
    exact Nat.le_trans h2 (Nat.le_max_right _ _)

theorem vdepth_eq (x : Vl) : vdepth x = vdepths x.f3 + 1 := by cases x; rfl

set_option maxHeartbeats 2000000 in
theorem agree_calls : ∀ (n : Nat) (x y : Vl), vdepth x ≤ n → AgreeAt x y := by
  intro n
  induction n with
  | zero => intro x y h; rw [vdepth_eq] at h; omega
  | succ n ih =>
    intro x y h w A B c d hc hd C1 C2
    rw [vdepth_eq] at h
    have HE := fun W (hb : Below w.heap.size w W) => equalVals_agree x.f3 y.f3 (fun j h1 h2 => ih _ _ (Nat.le_trans (vdepths_mem _ j h1) (by omega))) W A B c d hc hd (Kd.C_below C1 hb) (Kd.C_below C2 hb)
    have HE' := Lib.hid HE
    have HV := Lib.hid (agreeV_eq x y)
    clear HE ih h C1 C2 hc hd
    obtain ⟨xk, xn, xs, xl⟩ := x
    obtain ⟨yk, yn, ys, yl⟩ := y
    have hB : Aside0 (∀ o p, Below w.heap.size w ((w.alloc o).alloc p)) := ⟨fun o p => below_alloc (below_alloc (Below.refl _ _) _) _⟩
    generalize hr : agreeV ⟨xk, xn, xs, xl⟩ ⟨yk, yn, ys, yl⟩ = r at *
    clear hr
    generalize ha : agreeVs xl yl = a at *
    clear ha
    have paths : (xk == 6) = true ∨ ((xk == 6) = false ∧ (yk == 6) = true) ∨ ((xk == 6) = false ∧ (yk == 6) = false ∧ (xk == yk) = false) ∨ ((xk == 6) = false ∧ (yk == 6) = false ∧ (xk == yk) = true ∧ (xn == yn) = false) ∨ ((xk == 6) = false ∧ (yk == 6) = false ∧ (xk == yk) = true ∧ (xn == yn) = true ∧ (xs.toList == ys.toList) = false) ∨ ((xk == 6) = false ∧ (yk == 6) = false ∧ (xk == yk) = true ∧ (xn == yn) = true ∧ (xs.toList == ys.toList) = true) := by
      cases (xk == 6) <;> cases (yk == 6) <;> cases (xk == yk) <;> cases (xn == yn) <;> cases (xs.toList == ys.toList) <;> simp
    rcases paths with d1 | ⟨d1, d2⟩ | ⟨d1, d2, d3⟩ | ⟨d1, d2, d3, d4⟩ | ⟨d1, d2, d3, d4, d5⟩ | ⟨d1, d2, d3, d4, d5⟩
    all_goals
      go_enter Tryz.func100, Tryz.ntmps100
      go_wp2_with fail
      first
      | (go_ret
         exact ⟨by rw [HV.out]; simp [*], hB.out _ _⟩)
      | (refine (HE'.out _ (hB.out _ _)).mono ?_
         rintro e w1 ⟨rfl, hb1⟩
         have HB1 := Aside0.mk (below_step (hB.out _ _) hb1)
         clear hb1
         go_wp2_with fail
         go_ret
         exact ⟨by rw [HV.out]; simp [*], HB1.out⟩)
end Go.Proofs.YtkfbhfmddmhiaaaGreatDoor.TJ
namespace Go.Proofs.YtkfbhfmddmhiaaaGreatDoor.TJ
open Go.RowKit Go.Proofs.YtkfbhfmddmhiaaaGreatDoorW.PrintWords Go.Proofs.YtkfbhfmddmhiaaaGreatDoor.PT Go.Proofs.YtkfbhfmddmhiaaaGreatDoor.IMaps
set_option linter.unusedVariables false

set_option maxHeartbeats 2000000 in
theorem clash_none (w : World) (b pb : Nat) (tv : Int) (k n : Int) (s : ByteArray) (A : Option Addr) (l c : Nat)
    (hp : w.cell? ⟨pb, 0, none⟩ = some (.pointer (some ⟨b + 3, 0, none⟩))) (h12 : w.cell? ⟨b + 3, 12, none⟩ = some (.map (some (b + 2))))
    (hl : ∀ w1, Below w.heap.size w w1 → (Instr.lookup 74 (.map (some (b + 2))) (.int .i64 tv) true).run Tryz.prog w1 = .ok (.tuple #[.agg #[.int .i64 0, .int .i64 0, .string ⟨#[]⟩, .slice none 0 0], .bool false]) w1) :
    Calls Tryz.prog 99 #[.agg #[.int .i64 tv, .int .i64 k, .int .i64 n, .string s, .slice A l c], .pointer (some ⟨pb, 0, none⟩)] w fun e w' => e = .returned (.bool false) ∧ Below w.heap.size w w' := by
  have hlA := fun o => hl (w.alloc o).drew (below_drew (below_alloc (Below.refl _ _) o))
  have hlB := fun o p => hl ((w.alloc o).alloc p).drew (below_drew (below_alloc (below_alloc (Below.refl _ _) o) p))
  have hpB := fun o p => pw_cell_below (below_alloc (below_alloc (Below.refl w.heap.size w) o) p) hp
  have h12B := fun o p => pw_cell_below (below_alloc (below_alloc (Below.refl w.heap.size w) o) p) h12
  have hpA := fun o => pw_cell_below (below_alloc (Below.refl w.heap.size w) o) hp
  have h12A := fun o => pw_cell_below (below_alloc (Below.refl w.heap.size w) o) h12
  clear hl hp h12
  go_enter Tryz.func99, Tryz.ntmps99
  go_wp2
  go_region
  go_wp2
  go_ret
  exact ⟨rfl, below_drew (below_alloc (below_alloc (Below.refl _ _) _) _)⟩

set_option maxHeartbeats 2000000 in
theorem clash_some (w : World) (b pb : Nat) (tv : Int) (k n : Int) (s : ByteArray) (A B : Option Addr) (l c l2 c2 : Nat) (k2 n2 : Int) (s2 : ByteArray) (r : Bool)
    (hp : w.cell? ⟨pb, 0, none⟩ = some (.pointer (some ⟨b + 3, 0, none⟩))) (h12 : w.cell? ⟨b + 3, 12, none⟩ = some (.map (some (b + 2))))
    (hl : ∀ w1, Below w.heap.size w w1 → (Instr.lookup 74 (.map (some (b + 2))) (.int .i64 tv) true).run Tryz.prog w1 = .ok (.tuple #[.agg #[.int .i64 k2, .int .i64 n2, .string s2, .slice B l2 c2], .bool true]) w1)
    (HA : ∀ w1, Below w.heap.size w w1 → Calls Tryz.prog 100 #[.agg #[.int .i64 k2, .int .i64 n2, .string s2, .slice B l2 c2], .agg #[.int .i64 k, .int .i64 n, .string s, .slice A l c]] w1 fun e w' => e = .returned (.bool r) ∧ Below w1.heap.size w1 w') :
    Calls Tryz.prog 99 #[.agg #[.int .i64 tv, .int .i64 k, .int .i64 n, .string s, .slice A l c], .pointer (some ⟨pb, 0, none⟩)] w fun e w' => e = .returned (.bool !r) ∧ Below w.heap.size w w' := by
  have hlA := fun o => hl (w.alloc o).drew (below_drew (below_alloc (Below.refl _ _) o))
  have hlB := fun o p => hl ((w.alloc o).alloc p).drew (below_drew (below_alloc (below_alloc (Below.refl _ _) o) p))
  have hpB := fun o p => pw_cell_below (below_alloc (below_alloc (Below.refl w.heap.size w) o) p) hp
  have h12B := fun o p => pw_cell_below (below_alloc (below_alloc (Below.refl w.heap.size w) o) p) h12
  have hpA := fun o => pw_cell_below (below_alloc (Below.refl w.heap.size w) o) hp
  have h12A := fun o => pw_cell_below (below_alloc (Below.refl w.heap.size w) o) h12
  have HA' := Lib.hid HA
  clear hl hp h12 HA
  go_enter Tryz.func99, Tryz.ntmps99
  go_wp2
  go_region
  go_wp2_with fail
  refine (HA'.out _ (below_drew (below_alloc (below_alloc (Below.refl _ _) _) _))).mono ?_
  rintro e w1 ⟨rfl, hb1⟩
  have HB1 := Aside0.mk (below_step (below_drew (below_alloc (below_alloc (Below.refl _ _) _) _)) hb1)
  clear hb1
  go_wp2_with fail
  go_ret
  exact ⟨rfl, HB1.out⟩

theorem clash_calls {w0 w : World} {b : Nat} {j : JS} (h : JW w0 w b j) (h0 : Below w0.heap.size w0 w) (pb : Nat) (hp : w.cell? ⟨pb, 0, none⟩ = some (.pointer (some ⟨b + 3, 0, none⟩))) (a : Ac) (A : Option Addr) (c : Nat) (hc : a.f1.f3.length ≤ c) (hC : kVl.C w A a.f1.f3.length a.f1.f3) :
    Calls Tryz.prog 99 #[.agg #[.int .i64 a.f0, .int .i64 a.f1.f0, .int .i64 a.f1.f1, .string a.f1.f2, .slice A a.f1.f3.length c], .pointer (some ⟨pb, 0, none⟩)] w fun e w' => e = .returned (.bool (clashB j a)) ∧ Below w.heap.size w w' := by
  obtain ⟨_, _, _, _, _, hcells⟩ := h.cells
  obtain ⟨lv, v1, v2⟩ := h.vars
  have hv := v2 a.f0
  cases hk : lk a.f0 lv with
  | none =>
    rw [hk] at hv
    cases hj : j.vars a.f0 with
    | some y => rw [hj] at hv; exact hv.elim
    | none =>
      have e : clashB j a = false := by unfold clashB; rw [hj]
      rw [e]
      refine clash_none w b pb _ _ _ _ _ _ _ hp (cellH hcells rfl) (fun w1 hb1 => ?_)
      have := run_lookup (v1.below hb1) Tryz.underlying74 Tryz.underlying3 (zeroVal w1) a.f0 true
      rw [this, hk]; rfl
  | some v =>
    rw [hk] at hv
    cases hj : j.vars a.f0 with
    | none => rw [hj] at hv; exact hv.elim
    | some y =>
      rw [hj] at hv
      obtain ⟨B, d, rfl, hd, hD⟩ := hv
      have e : clashB j a = !agreeV y a.f1 := by unfold clashB; rw [hj]
      rw [e]
      refine clash_some w b pb _ _ _ _ _ B _ _ y.f3.length d y.f0 y.f1 y.f2 (agreeV y a.f1) hp (cellH hcells rfl) (fun w1 hb1 => ?_) (fun w1 hb1 => ?_)
      · have := run_lookup (v1.below hb1) Tryz.underlying74 Tryz.underlying3 (zeroVal w1) a.f0 true
        rw [this, hk]; rfl
      · exact agree_calls _ y a.f1 (Nat.le_refl _) w1 B A d c hd hc (Kd.C_below hD (below_step h0 hb1)) (Kd.C_below hC hb1)

set_option maxHeartbeats 2000000 in
theorem indexClash (f : Ac → Bool) (fnv : Value) (l : List Ac) (w : World) (A : Option Addr) (c : Nat) (hc : l.length ≤ c) (C1 : kAc.C w A l.length l) (pb : Nat) (hfn : fnv = .func (.func 99) #[] #[.pointer (some ⟨pb, 0, none⟩)])
    (HF : ∀ (w1 : World) (a : Ac) (A1 : Option Addr) (c1 : Nat), Below w.heap.size w w1 → a.f1.f3.length ≤ c1 → kVl.C w1 A1 a.f1.f3.length a.f1.f3 →
      Calls Tryz.prog 99 #[.agg #[.int .i64 a.f0, .int .i64 a.f1.f0, .int .i64 a.f1.f1, .string a.f1.f2, .slice A1 a.f1.f3.length c1], .pointer (some ⟨pb, 0, none⟩)] w1 fun e w' => e = .returned (.bool (f a)) ∧ Below w1.heap.size w1 w') :
    Calls Tryz.prog 116 #[.slice A l.length c, fnv] w fun e w' => (∃ r : Int, e = .returned (.int .i64 r) ∧ (decide (0 ≤ r)) = l.any f) ∧ Below w.heap.size w w' := by
  subst hfn
  have HF' := Lib.hid HF
  have K1 := Aside0.mk C1
  have hm : l.length ≤ 9223372036854775807 := C1.2.1
  clear HF C1
  go_enter Tryz.func116, Tryz.ntmps116
  go_wp2
  go_loopw [8] (fun i wr => ∃ j : Nat, j ≤ l.length ∧ i = .int .i64 j ∧ Aside0 ((l.drop j).any f = l.any f) ∧ Aside0 (Below w.heap.size w wr)) (fun i _ => l.length - (intOf i).toNat)
  case atStart => exact ⟨0, by omega, rfl, ⟨rfl⟩, ⟨Below.refl _ _⟩⟩
  case round =>
    obtain ⟨j, hj, rfl, HA, HB⟩ := hrel
    by_cases hlt : j < l.length
    · obtain ⟨ad, A3, c3, e3, hx0, hx1, hx2, hx3, hx4, hxl, hxC⟩ := at_T51 K1.out (j : Int) (by omega) (by omega)
      cases e3
      simp only [Int.toNat_natCast] at hx0 hx1 hx2 hx3 hx4
      replace hx0 := (HB.out.cell (World.block_lt_of_cell? w _ hx0)).trans hx0
      replace hx1 := (HB.out.cell (World.block_lt_of_cell? w _ hx1)).trans hx1
      replace hx2 := (HB.out.cell (World.block_lt_of_cell? w _ hx2)).trans hx2
      replace hx3 := (HB.out.cell (World.block_lt_of_cell? w _ hx3)).trans hx3
      replace hx4 := (HB.out.cell (World.block_lt_of_cell? w _ hx4)).trans hx4
      have hs : (l.drop j).any f = (f (rd_T51 l (j : Int)) || (l.drop (j + 1)).any f) := by
        have e2 : rd_T51 l (j : Int) = l[j] := by simp [rd_T51, List.getD_eq_getElem?_getD, List.getElem?_eq_getElem hlt]
        rw [e2, List.drop_eq_getElem_cons hlt]
        rfl
      have HS := Aside0.mk hs
      clear hs
      generalize hX : rd_T51 l (j : Int) = X at *
      clear hX
      go_wp2_with fail
      refine (HF'.out _ X A3 c3 HB.out hxl (Kd.C_below hxC HB.out)).mono ?_
      rintro e w1 ⟨rfl, hb1⟩
      have HB1 := Aside0.mk (below_step HB.out hb1)
      clear hb1
      cases hr : f X
      · have HR1 := Aside0.mk (show (l.drop (j + 1)).any f = l.any f by rw [← HA.out, HS.out, hr]; rfl)
        clear hr
        go_wp2
        go_roundw
        case rel => exact ⟨j + 1, by omega, by go_num, HR1, HB1⟩
        case measure => simp [intOf]; omega
      · have HR1 := Aside0.mk (show l.any f = true by rw [← HA.out, HS.out, hr]; rfl)
        clear hr
        go_wp2
        go_ret
        exact ⟨⟨(j : Int), rfl, by rw [HR1.out]; exact decide_eq_true (by omega)⟩, HB1.out⟩
    · have HR1 := Aside0.mk (show l.any f = false by rw [← HA.out, List.drop_eq_nil_of_le (by omega)]; rfl)
      have hje : j = l.length := by omega
      subst hje
      go_wp2
      go_ret
      exact ⟨⟨-1, rfl, by rw [HR1.out]; rfl⟩, HB.out⟩

theorem containsClash (f : Ac → Bool) (fnv : Value) (l : List Ac) (w : World) (A : Option Addr) (c : Nat) (hc : l.length ≤ c) (C1 : kAc.C w A l.length l) (pb : Nat) (hfn : fnv = .func (.func 99) #[] #[.pointer (some ⟨pb, 0, none⟩)])
    (HF : ∀ (w1 : World) (a : Ac) (A1 : Option Addr) (c1 : Nat), Below w.heap.size w w1 → a.f1.f3.length ≤ c1 → kVl.C w1 A1 a.f1.f3.length a.f1.f3 →
      Calls Tryz.prog 99 #[.agg #[.int .i64 a.f0, .int .i64 a.f1.f0, .int .i64 a.f1.f1, .string a.f1.f2, .slice A1 a.f1.f3.length c1], .pointer (some ⟨pb, 0, none⟩)] w1 fun e w' => e = .returned (.bool (f a)) ∧ Below w1.heap.size w1 w') :
    Calls Tryz.prog 98 #[.slice A l.length c, fnv] w fun e w' => e = .returned (.bool (l.any f)) ∧ Below w.heap.size w w' := by
  have HI := Lib.hid (indexClash f fnv l w A c hc C1 pb hfn HF)
  clear HF C1 hfn hc
  go_enter Tryz.func98, Tryz.ntmps98
  go_wp2_with fail
  refine HI.out.mono ?_
  rintro e w1 ⟨⟨r, rfl, hr⟩, hb1⟩
  have HR := Lib.hid hr
  have HB := Aside0.mk hb1
  clear hr hb1
  go_wp2
  go_ret
  exact ⟨by rw [← HR.out]; rfl, HB.out⟩

theorem commits_calls {w0 w : World} {b : Nat} {j : JS} (h : JW w0 w b j) (h0 : Below w0.heap.size w0 w) (x : Ev) (A5 A6 : Option Addr) (c5 c6 : Nat) (g5 : x.f5.length ≤ c5) (C5 : kAc.C w A5 x.f5.length x.f5) :
    Calls Tryz.prog 77 #[.pointer (some ⟨b + 3, 0, none⟩), .agg #[.int .i64 x.f0, .int .i64 x.f1, .int .i64 x.f2, .int .i64 x.f3, .int .i64 x.f4, .slice A5 x.f5.length c5, .slice A6 x.f6.length c6]] w fun e w' => e = .returned (.bool (commitsB j x)) ∧ Below w.heap.size w w' := by
  have HC : ∀ o p, Calls Tryz.prog 98 #[.slice A5 x.f5.length c5, .func (.func 99) #[] #[.pointer (some ⟨w.heap.size, 0, none⟩)]] ((w.alloc (.cells #[.pointer (some ⟨b + 3, 0, none⟩)] o)).alloc p) fun e w' => e = .returned (.bool (x.f5.any (clashB j))) ∧ Below ((w.alloc (.cells #[.pointer (some ⟨b + 3, 0, none⟩)] o)).alloc p).heap.size ((w.alloc (.cells #[.pointer (some ⟨b + 3, 0, none⟩)] o)).alloc p) w' := by
    intro o p
    have hb : Below w.heap.size w ((w.alloc (.cells #[.pointer (some ⟨b + 3, 0, none⟩)] o)).alloc p) := below_alloc (below_alloc (Below.refl _ _) _) _
    refine containsClash (clashB j) _ x.f5 _ A5 c5 g5 (Kd.C_below C5 hb) w.heap.size rfl ?_
    intro w1 a A1 c1 hb1 ha hA1
    refine clash_calls (h.below (below_step hb hb1)) (below_step h0 (below_step hb hb1)) w.heap.size ?_ a A1 c1 ha hA1
    have h1 : (w.alloc (.cells #[.pointer (some ⟨b + 3, 0, none⟩)] o)).heap[w.heap.size]? = some (.cells #[.pointer (some ⟨b + 3, 0, none⟩)] o (0, 0)) := (MapKept.heap_alloc w _).1
    exact pw_cell_below hb1 (cellA h1 rfl p)
  have HC' := Lib.hid HC
  have hR := Lib.hid (show commitsB j x = !(x.f5.any (clashB j)) from rfl)
  clear HC h h0 C5 g5
  generalize x.f5.any (clashB j) = a at *
  generalize hr : commitsB j x = r at *
  clear hr
  go_enter Tryz.func77, Tryz.ntmps77
  go_wp2_with fail
  refine (HC'.out _ _).mono ?_
  rintro e w1 ⟨rfl, hb1⟩
  have HB1 := Aside0.mk (below_step (below_alloc (below_alloc (Below.refl _ _) _) _) hb1)
  clear hb1
  go_wp2
  go_ret
  exact ⟨by rw [hR.out]; rfl, HB1.out⟩
end Go.Proofs.YtkfbhfmddmhiaaaGreatDoor.TJ
