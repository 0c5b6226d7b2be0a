/- The equality of two traces: the Go function trace.Same answers as a plain function. Conditions: the traces lie in memory. -/
import Derived.Test.YtkfbhfmddmhiaaaDoorE2
namespace Go.Proofs.YtkfbhfmddmhiaaaDoor.TJ
open Go.RowKit Go.Proofs.YtkfbhfmddmhiaaaDoorW.PrintWords Go.Proofs.YtkfbhfmddmhiaaaDoor.PT Go.Proofs.YtkfbhfmddmhiaaaDoor.IMaps
set_option linter.unusedVariables false

theorem rdE (l : List Ev) (j : Nat) (h : j < l.length) : rd_T32 l (j : Int) = l[j] := by simp [rd_T32, List.getD_eq_getElem?_getD, List.getElem?_eq_getElem h]
theorem eqLE_step (l1 l2 : List Ev) (j : Nat) (h1 : j < l1.length) (h2 : j < l2.length) : eqL sameE (l1.drop j) (l2.drop j) = (sameE (rd_T32 l1 (j : Int)) (rd_T32 l2 (j : Int)) && eqL sameE (l1.drop (j + 1)) (l2.drop (j + 1))) := by
  rw [rdE l1 j h1, rdE l2 j h2]
  exact eqL_step sameE l1 l2 j h1 h2

set_option maxHeartbeats 4000000 in
theorem equalEvs (l1 l2 : List Ev) (w : World) (A B : Option Addr) (c d : Nat) (hc : l1.length ≤ c) (hd : l2.length ≤ d) (C1 : kEv.C w A l1.length l1) (C2 : kEv.C w B l2.length l2) :
    Calls Tryd.prog 17 #[.slice A l1.length c, .slice B l2.length d, .func (.func 18) #[] #[]] w fun e w' => e = .returned (.bool (eqL sameE l1 l2)) ∧ Below w.heap.size w w' := by
  have hm := C1.2.1
  have K1 := Aside0.mk C1
  have K2 := Aside0.mk C2
  clear C1 C2
  rcases Classical.em (l1.length = l2.length) with hlen | hlen
  · have d1 : ((l1.length : Int) != (l2.length : Int)) = false := by rw [bne_eq_false_iff_eq]; omega
    have HL := Lib.hid hlen
    clear hlen
    go_enter Tryd.func17, Tryd.ntmps17
    go_wp2
    go_loopw [17] (fun i wr => ∃ j : Nat, j ≤ l1.length ∧ i = .int .i64 j ∧ Aside0 (eqL sameE (l1.drop j) (l2.drop j) = eqL sameE l1 l2) ∧ Aside0 (Below w.heap.size w wr)) (fun i _ => l1.length - (intOf i).toNat)
    case atStart => exact ⟨0, by omega, rfl, ⟨rfl⟩, ⟨Below.refl _ _⟩⟩
    case round =>
      obtain ⟨j, hj, rfl, HA, HB⟩ := hrel
      by_cases hlt : j < l1.length
      · have hlt2 : j < l2.length := by have := HL.out; omega
        obtain ⟨ad, A5, c5, A6, c6, e3, hx0, hx1, hx2, hx3, hx4, hx5, hx6, g5, C5, g6, C6⟩ := at_T32 K1.out (j : Int) (by omega) (by omega)
        obtain ⟨bd, B5, d5, B6, d6, f3, hy0, hy1, hy2, hy3, hy4, hy5, hy6, k5, D5, k6, D6⟩ := at_T32 K2.out (j : Int) (by omega) (by omega)
        cases e3
        cases f3
        simp only [Int.toNat_natCast] at hx0 hx1 hx2 hx3 hx4 hx5 hx6 hy0 hy1 hy2 hy3 hy4 hy5 hy6
        replace hx0 := (HB.out.cell (World.block_lt_of_cell? w _ hx0)).trans hx0
        replace hx1 := (HB.out.cell (World.block_lt_of_cell? w _ hx1)).trans hx1
        replace hx2 := (HB.out.cell (World.block_lt_of_cell? w _ hx2)).trans hx2
        replace hx3 := (HB.out.cell (World.block_lt_of_cell? w _ hx3)).trans hx3
        replace hx4 := (HB.out.cell (World.block_lt_of_cell? w _ hx4)).trans hx4
        replace hx5 := (HB.out.cell (World.block_lt_of_cell? w _ hx5)).trans hx5
        replace hx6 := (HB.out.cell (World.block_lt_of_cell? w _ hx6)).trans hx6
        replace hy0 := (HB.out.cell (World.block_lt_of_cell? w _ hy0)).trans hy0
        replace hy1 := (HB.out.cell (World.block_lt_of_cell? w _ hy1)).trans hy1
        replace hy2 := (HB.out.cell (World.block_lt_of_cell? w _ hy2)).trans hy2
        replace hy3 := (HB.out.cell (World.block_lt_of_cell? w _ hy3)).trans hy3
        replace hy4 := (HB.out.cell (World.block_lt_of_cell? w _ hy4)).trans hy4
        replace hy5 := (HB.out.cell (World.block_lt_of_cell? w _ hy5)).trans hy5
        replace hy6 := (HB.out.cell (World.block_lt_of_cell? w _ hy6)).trans hy6
        have hy0' := fun o => pw_cell_below (below_alloc (Below.refl wr.heap.size wr) o) hy0
        have hy1' := fun o => pw_cell_below (below_alloc (Below.refl wr.heap.size wr) o) hy1
        have hy2' := fun o => pw_cell_below (below_alloc (Below.refl wr.heap.size wr) o) hy2
        have hy3' := fun o => pw_cell_below (below_alloc (Below.refl wr.heap.size wr) o) hy3
        have hy4' := fun o => pw_cell_below (below_alloc (Below.refl wr.heap.size wr) o) hy4
        have hy5' := fun o => pw_cell_below (below_alloc (Below.refl wr.heap.size wr) o) hy5
        have hy6' := fun o => pw_cell_below (below_alloc (Below.refl wr.heap.size wr) o) hy6
        clear hy0 hy1 hy2 hy3 hy4 hy5 hy6
        have HS := Aside0.mk (eqLE_step l1 l2 j hlt hlt2)
        generalize hX : rd_T32 l1 (j : Int) = X at *
        generalize hY : rd_T32 l2 (j : Int) = Y at *
        clear hX hY
        have HC := Lib.hid (And.intro g5 (And.intro C5 (And.intro g6 (And.intro C6 (And.intro k5 (And.intro D5 (And.intro k6 D6)))))))
        clear g5 C5 g6 C6 k5 D5 k6 D6
        have hup : ∀ (n : Nat) (A : Option Addr) (xs : List Ac) (o p : Obj), kAc.C w A n xs → kAc.C ((wr.alloc o).alloc p) A n xs := fun _ _ _ o p h => Kd.C_below (Kd.C_below h HB.out) (below_alloc (below_alloc (Below.refl _ _) _) _)
        have HU := Lib.hid hup
        clear hup
        go_wp2_with fail
        refine (sameEvent_calls X Y _ A5 A6 B5 B6 c5 c6 d5 d6 HC.out.1 (HU.out _ _ _ _ _ HC.out.2.1) HC.out.2.2.1 (HU.out _ _ _ _ _ HC.out.2.2.2.1) HC.out.2.2.2.2.1 (HU.out _ _ _ _ _ HC.out.2.2.2.2.2.1) HC.out.2.2.2.2.2.2.1 (HU.out _ _ _ _ _ HC.out.2.2.2.2.2.2.2)).mono ?_
        rintro e w1 ⟨rfl, hb1⟩
        have HB1 := Aside0.mk (below_step (below_alloc (below_alloc HB.out _) _) hb1)
        clear hb1
        cases hr : sameE X Y
        · have HR1 := Aside0.mk (show eqL sameE l1 l2 = false by rw [← HA.out, HS.out, hr]; rfl)
          clear hr
          go_wp2
          go_ret
          exact ⟨by rw [HR1.out]; rfl, HB1.out⟩
        · have HR1 := Aside0.mk (show eqL sameE (l1.drop (j + 1)) (l2.drop (j + 1)) = eqL sameE l1 l2 by rw [← HA.out, HS.out, hr]; simp)
          clear hr
          go_wp2
          go_roundw
          case rel => exact ⟨j + 1, by omega, by go_num, HR1, HB1⟩
          case measure => simp [intOf]; omega
      · have HR1 := Aside0.mk (show eqL sameE l1 l2 = true by rw [← HA.out, List.drop_eq_nil_of_le (by omega), List.drop_eq_nil_of_le (by have := HL.out; omega)]; rfl)
        have hje : j = l1.length := by omega
        subst hje
        go_wp2
        go_ret
        exact ⟨by rw [HR1.out]; rfl, HB.out⟩
  · have d1 : ((l1.length : Int) != (l2.length : Int)) = true := by rw [bne_iff_ne]; omega
    have HL := Aside0.mk (eqL_len sameE l1 l2 hlen)
    have d2 : (l1.length != l2.length) = true := by rw [bne_iff_ne]; exact hlen
    clear hlen
    go_enter Tryd.func17, Tryd.ntmps17
    go_wp2
    go_ret
    exact ⟨by rw [HL.out]; rfl, Below.refl _ _⟩

theorem trSame_calls (l1 l2 : List Ev) (w : World) (A B : Option Addr) (c d : Nat) (hc : l1.length ≤ c) (hd : l2.length ≤ d) (C1 : kEv.C w A l1.length l1) (C2 : kEv.C w B l2.length l2) :
    Calls Tryd.prog 9 #[.slice A l1.length c, .slice B l2.length d] w fun e w' => e = .returned (.bool (eqL sameE l1 l2)) ∧ Below w.heap.size w w' := by
  have HE := Lib.hid (equalEvs l1 l2 w A B c d hc hd C1 C2)
  clear hc hd C1 C2
  go_enter Tryd.func9, Tryd.ntmps9
  go_wp2_with fail
  refine HE.out.mono ?_
  rintro e w1 ⟨rfl, hb1⟩
  have HB := Aside0.mk hb1
  clear hb1
  go_wp2
  go_ret
  exact ⟨rfl, HB.out⟩
end Go.Proofs.YtkfbhfmddmhiaaaDoor.TJ
