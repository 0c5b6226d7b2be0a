/- The judge's rule 5: the Go method answers as the plain function. Conditions: the accesses lie in memory; no list is longer than a million. -/
import Derived.Test.YtkfbhfmddmhiaaaDoorJ1
import Derived.Deep.DeepCutAuto
import Derived.Deep.CutBlock
import Derived.IntWalk
namespace Go.Proofs.YtkfbhfmddmhiaaaDoor.TJ
open Go.RowKit Go.Proofs.YtkfbhfmddmhiaaaDoorW.PrintWords Go.Proofs.YtkfbhfmddmhiaaaDoor.PT Go.Proofs.YtkfbhfmddmhiaaaDoor.IMaps
set_option linter.unusedVariables false

theorem wrap_small {i : Int} (h0 : -1000000000000 ≤ i) (h : i ≤ 1000000000000) : wrap64 i = i := by unfold wrap64; omega

theorem ascP_step (l : List Ac) (j : Nat) (h : j < l.length) (p : Option Int) : ascP p (l.drop j) = (decide (0 ≤ (rd_T38 l (j : Int)).f0) && decide ((rd_T38 l (j : Int)).f0 < 64) && (match p with | none => true | some q => decide (q < (rd_T38 l (j : Int)).f0)) && ascP (some (rd_T38 l (j : Int)).f0) (l.drop (j + 1))) := by
  have e2 : rd_T38 l (j : Int) = l[j] := by simp [rd_T38, List.getD_eq_getElem?_getD, List.getElem?_eq_getElem h]
  rw [e2, List.drop_eq_getElem_cons h]
  rfl

def prevA (l : List Ac) (j : Nat) : Option Int := if j = 0 then none else some (rd_T38 l ((j : Int) - 1)).f0

set_option maxHeartbeats 1000000 in
theorem asc_calls (A : Option Addr) (c : Nat) (l : List Ac) (w : World) (hr : kAc.C w A l.length l) (hc : l.length ≤ c) (hl : l.length ≤ 1000000) :
    Calls Tryd.prog 65 #[.slice A l.length c] w fun e w' => e = .returned (.bool (ascB l)) ∧ Below w.heap.size w w' := by
  have HR := Aside0.mk hr
  clear hr
  go_enter Tryd.func65, Tryd.ntmps65
  go_wp2
  go_loopw [7] (fun i wr => ∃ j : Nat, j ≤ l.length ∧ i = .int .i64 j ∧ Aside0 (ascP (prevA l j) (l.drop j) = ascB l) ∧ Aside0 (Below w.heap.size w wr)) (fun i _ => l.length - (intOf i).toNat)
  case atStart => exact ⟨0, by omega, rfl, ⟨rfl⟩, ⟨Below.refl _ _⟩⟩
  case round =>
    obtain ⟨j, hj, rfl, HA, HB⟩ := hrel
    by_cases hlt : j < l.length
    · obtain ⟨ad, A4, c4, e4, hx0, hx1, hx2, hx3, hx4, _, _⟩ := at_T38 HR.out (j : Int) (by omega) (by omega)
      cases e4
      replace hx0 := (HB.out.cell (World.block_lt_of_cell? w _ hx0)).trans hx0
      replace hx1 := (HB.out.cell (World.block_lt_of_cell? w _ hx1)).trans hx1
      replace hx2 := (HB.out.cell (World.block_lt_of_cell? w _ hx2)).trans hx2
      replace hx3 := (HB.out.cell (World.block_lt_of_cell? w _ hx3)).trans hx3
      replace hx4 := (HB.out.cell (World.block_lt_of_cell? w _ hx4)).trans hx4
      simp only [Int.toNat_natCast] at hx0 hx1 hx2 hx3 hx4
      have HS := Aside0.mk (ascP_step l j hlt (prevA l j))
      have hnx : prevA l (j + 1) = some (rd_T38 l (j : Int)).f0 := by unfold prevA; rw [if_neg (by omega)]; congr 3; omega
      generalize hF : (rd_T38 l (j : Int)).f0 = F at *
      rcases Classical.em (F < 0) with q1 | q1
      · have d1 : decide (F < 0) = true := decide_eq_true q1
        have hres : ascB l = false := by rw [← HA.out, HS.out]; simp [show ¬ 0 ≤ F by omega]
        have HR1 := Aside0.mk hres
        clear hres q1 hF hnx
        go_wp2
        go_quiet (fail)
        go_wp2
        go_ret
        exact ⟨by rw [HR1.out]; rfl, pw_below_drewN (below_alloc HB.out _) _⟩
      rcases Classical.em (64 ≤ F) with q2 | q2
      · have d1 : decide (F < 0) = false := decide_eq_false q1
        have d2 : decide (64 ≤ F) = true := decide_eq_true q2
        have hres : ascB l = false := by rw [← HA.out, HS.out]; simp [show ¬ F < 64 by omega]
        have HR1 := Aside0.mk hres
        clear hres q1 q2 hF hnx
        go_wp2
        go_quiet (fail)
        go_wp2
        go_ret
        exact ⟨by rw [HR1.out]; rfl, pw_below_drewN (below_alloc HB.out _) _⟩
      have d1 : decide (F < 0) = false := decide_eq_false q1
      have d2 : decide (64 ≤ F) = false := decide_eq_false q2
      rcases Nat.eq_zero_or_pos j with hj0 | hj0
      · have hp0 : prevA l j = none := by unfold prevA; rw [if_pos hj0]
        have d3 : decide (0 < j) = false := decide_eq_false (by omega)
        have hres : ascP (prevA l (j + 1)) (l.drop (j + 1)) = ascB l := by rw [hnx, ← HA.out, HS.out, hp0]; simp [show 0 ≤ F by omega, show F < 64 by omega]
        have HR1 := Aside0.mk hres
        clear hres q1 q2 hF hnx hp0 hj0
        go_wp2
        go_quiet (fail)
        go_wp2
        go_roundw
        case rel => exact ⟨j + 1, by omega, by go_num, HR1, ⟨pw_below_drewN (below_alloc HB.out _) _⟩⟩
        case measure => simp [intOf]; omega
      · obtain ⟨ad', A4', c4', e4', hy0, _, _, _, _, _, _⟩ := at_T38 HR.out ((j : Int) - 1) (by omega) (by omega)
        cases e4'
        replace hy0 := (HB.out.cell (World.block_lt_of_cell? w _ hy0)).trans hy0
        have hpv : prevA l j = some (rd_T38 l ((j : Int) - 1)).f0 := by unfold prevA; rw [if_neg (by omega)]
        generalize hG : (rd_T38 l ((j : Int) - 1)).f0 = G at *
        have hy := fun o => pw_cell_below (below_alloc (Below.refl wr.heap.size wr) o) hy0
        have d3 : decide (0 < j) = true := decide_eq_true (by omega)
        have i1 : (j : Int) - 1 < (l.length : Int) := by omega
        have i0 : 0 ≤ (j : Int) - 1 := by omega
        have i2 : 1 ≤ (j : Int) := by omega
        have i3 : 1 ≤ j := by omega
        have i4 : IntKind.i64.wrap ((j : Int) - 1) = (j : Int) - 1 := IntWalk.i64_in _ (by omega)
        have i5 : ((j : Int) - 1).toNat = j - 1 := by omega
        rw [i5] at hy
        clear hy0
        rcases Classical.em (F ≤ G) with q3 | q3
        · have d4 : decide (F ≤ G) = true := decide_eq_true q3
          have hres : ascB l = false := by rw [← HA.out, HS.out, hpv]; simp [show ¬ G < F by omega]
          have HR1 := Aside0.mk hres
          clear hres q1 q2 q3 hF hG hnx hpv
          go_wp2
          go_quiet (fail)
          go_wp2
          go_ret
          exact ⟨by rw [HR1.out]; rfl, pw_below_drewN (below_alloc HB.out _) _⟩
        · have d4 : decide (F ≤ G) = false := decide_eq_false q3
          have hres : ascP (prevA l (j + 1)) (l.drop (j + 1)) = ascB l := by rw [hnx, ← HA.out, HS.out, hpv]; simp [show 0 ≤ F by omega, show F < 64 by omega, show G < F by omega]
          have HR1 := Aside0.mk hres
          clear hres q1 q2 q3 hF hG hnx hpv
          go_wp2
          go_quiet (fail)
          go_wp2
          go_roundw
          case rel => exact ⟨j + 1, by omega, by go_num, HR1, ⟨pw_below_drewN (below_alloc HB.out _) _⟩⟩
          case measure => simp [intOf]; omega
    · have hje : j = l.length := by omega
      subst hje
      have hres : ascB l = true := by rw [← HA.out, List.drop_length]; rfl
      have HR1 := Aside0.mk hres
      clear hres
      go_wp2
      go_ret
      exact ⟨by rw [HR1.out]; rfl, HB.out⟩

theorem cellNew (w : World) (cs : Array Value) (t : TypeId) (q i : Nat) (v : Value) (h : cs[i]? = some v) : ((w.alloc (.cells cs t)).drewN q).cell? ⟨w.heap.size, i, none⟩ = some v := by
  have h1 : (w.alloc (.cells cs t)).heap[w.heap.size]? = some (.cells cs t (0, 0)) := (MapKept.heap_alloc w _).1
  have h2 := cellH h1 h
  simpa using h2

set_option maxHeartbeats 4000000 in
theorem fields_walk (w : World) (p : Value) (T th k n m : Int) (r a5 a6 : Bool) (A5 A6 : Option Addr) (n5 c5 n6 c6 : Nat) (b5 : n5 ≤ 1000000) (b6 : n6 ≤ 1000000)
    (C5 : ∀ W, Below w.heap.size w W → Calls Tryd.prog 65 #[.slice A5 n5 c5] W fun e w' => e = .returned (.bool a5) ∧ Below W.heap.size W w')
    (C6 : ∀ W, Below w.heap.size w W → Calls Tryd.prog 65 #[.slice A6 n6 c6] W fun e w' => e = .returned (.bool a6) ∧ Below W.heap.size W w')
    (hr : Hid ((decide (1 ≤ k) && decide (k ≤ 12) && (hasN k || n == 0) && (k == 4 || m == 0) && (k == 7 || ((n5 : Int) + (n6 : Int) == 0)) && a5 && a6) = r)) :
    Calls Tryd.prog 47 #[p, .agg #[.int .i64 T, .int .i64 th, .int .i64 k, .int .i64 n, .int .i64 m, .slice A5 n5 c5, .slice A6 n6 c6]] w fun e w' => e = .returned (.bool r) ∧ Below w.heap.size w w' := by
  have K5 := Lib.hid C5
  have K6 := Lib.hid C6
  clear C5 C6
  rcases Classical.em (k < 1 ∨ 12 < k) with hk | hk
  · have hres : r = false := by rw [← hr.out]; rcases hk with hk | hk <;> simp [show ¬ (1 ≤ k ∧ k ≤ 12) by omega] <;> intros <;> omega
    subst hres
    rcases hk with hk | hk
    · have d1 : decide (k < 1) = true := decide_eq_true hk
      clear hk
      go_enter Tryd.func47, Tryd.ntmps47
      go_wp2
      go_ret
      exact ⟨rfl, below_alloc (Below.refl _ _) _⟩
    · have d1 : decide (k < 1) = false := decide_eq_false (by omega)
      have d2 : decide (12 < k) = true := decide_eq_true hk
      clear hk
      go_enter Tryd.func47, Tryd.ntmps47
      go_wp2
      go_ret
      exact ⟨rfl, below_alloc (Below.refl _ _) _⟩
  · have d1 : decide (k < 1) = false := decide_eq_false (by omega)
    have d2 : decide (12 < k) = false := decide_eq_false (by omega)
    have d0 := Aside0.mk hk
    clear hk
    go_enter Tryd.func47, Tryd.ntmps47
    go_wp2
    go_quiet (fail)
    go_upto_block 0 with fail
    go_cut [5, 6, 7] (fun s5 s6 s7 wx => ∃ q, s5 = .bool (hasN k) ∧ s6 = .bool (k == 4) ∧ s7 = .bool (k == 7) ∧ wx = (w.alloc (.cells #[.int .i64 T, .int .i64 th, .int .i64 k, .int .i64 n, .int .i64 m, .slice A5 n5 c5, .slice A6 n6 c6] 32)).drewN q)
    case first =>
      go_wp2
      all_goals (go_meet; exact ⟨nq, by simp [hasN, *], rfl, rfl, rfl⟩)
    case rest =>
      obtain ⟨q, rfl, rfl, rfl, rfl⟩ := hcut
      have hk1 : decide (1 ≤ k) = true := decide_eq_true (by have := d0.out; omega)
      have hk2 : decide (k ≤ 12) = true := decide_eq_true (by have := d0.out; omega)
      have hr1 : ((hasN k || n == 0) && (k == 4 || m == 0) && (k == 7 || ((n5 : Int) + (n6 : Int) == 0)) && a5 && a6) = r := by rw [← hr.out, hk1, hk2]; simp
      have HR := Lib.hid hr1
      clear hr hr1 hk1 hk2
      generalize hasN k = N at *
      generalize (k == 4) = k4 at *
      generalize (k == 7) = k7 at *
      go_wp2_with fail
      all_goals
        first
        | (go_ret
           exact ⟨by rw [← HR.out]; simp [*], bDrew _ _ _⟩)
        | (refine (K5.out _ (bDrew _ _ _)).mono ?_
           rintro e w1 ⟨rfl, hb1⟩
           have HB1 := Aside0.mk (below_step (bDrew _ _ _) hb1)
           have f6 : w1.cell? ⟨w.heap.size, 6, none⟩ = some (.slice A6 n6 c6) := (hb1.cell (p := ⟨w.heap.size, 6, none⟩) (by simp)).trans (cellNew _ _ _ _ _ _ rfl)
           clear hb1
           cases a5
           · go_wp2_with fail
             go_ret
             exact ⟨by rw [← HR.out]; simp [*], HB1.out⟩
           · go_wp2_with fail
             refine (K6.out _ HB1.out).mono ?_
             rintro e w2 ⟨rfl, hb2⟩
             have HB2 := Aside0.mk (below_step HB1.out hb2)
             clear hb2
             go_wp2_with fail
             go_ret
             exact ⟨by rw [← HR.out]; simp [*], HB2.out⟩)

theorem fields_calls (w : World) (p : Value) (x : Ev) (A5 A6 : Option Addr) (c5 c6 : Nat) (g5 : x.f5.length ≤ c5) (C5 : kAc.C w A5 x.f5.length x.f5) (g6 : x.f6.length ≤ c6) (C6 : kAc.C w A6 x.f6.length x.f6) (b5 : x.f5.length ≤ 1000000) (b6 : x.f6.length ≤ 1000000) :
    Calls Tryd.prog 47 #[p, .agg #[.int .i64 x.f0, .int .i64 x.f1, .int .i64 x.f2, .int .i64 x.f3, .int .i64 x.f4, .slice A5 x.f5.length c5, .slice A6 x.f6.length c6]] w fun e w' => e = .returned (.bool (fieldsB x)) ∧ Below w.heap.size w w' := by
  refine fields_walk w p _ _ _ _ _ _ (ascB x.f5) (ascB x.f6) A5 A6 _ _ _ _ b5 b6 (fun W hb => asc_calls A5 c5 x.f5 W (Kd.C_below C5 hb) g5 b5) (fun W hb => asc_calls A6 c6 x.f6 W (Kd.C_below C6 hb) g6 b6) (Lib.hid ?_)
  have e : ((x.f5.length : Int) + (x.f6.length : Int) == 0) = (x.f5.isEmpty && x.f6.isEmpty) := by
    cases x.f5 <;> cases x.f6 <;> simp <;> omega
  unfold fieldsB
  rw [e]
end Go.Proofs.YtkfbhfmddmhiaaaDoor.TJ
