/- The equality of two shown values, of two accesses, and of two lists of them. Conditions: the values lie in memory. -/
import Derived.Test.YtkfbhfmddmhiaaaDoorJ3
namespace Go.Proofs.YtkfbhfmddmhiaaaDoor.TJ
open Go.RowKit Go.Proofs.YtkfbhfmddmhiaaaDoorW.PrintWords Go.Proofs.YtkfbhfmddmhiaaaDoor.PT Go.Proofs.YtkfbhfmddmhiaaaDoor.IMaps
set_option linter.unusedVariables false

-- two shown values are equal
mutual
def sameV : Vl → Vl → Bool
  | ⟨k, n, s, l⟩, b => k == b.f0 && (n == b.f1 && (s.toList == b.f2.toList && sameVs l b.f3))
def sameVs : List Vl → List Vl → Bool
  | [], [] => true
  | x :: r, y :: q => sameV x y && sameVs r q
  | _, _ => false
end

theorem sameVs_step (l1 l2 : List Vl) (j : Nat) (h1 : j < l1.length) (h2 : j < l2.length) : sameVs (l1.drop j) (l2.drop j) = (sameV (rd_T36 l1 (j : Int)) (rd_T36 l2 (j : Int)) && sameVs (l1.drop (j + 1)) (l2.drop (j + 1))) := by
  have e1 : rd_T36 l1 (j : Int) = l1[j] := by simp [rd_T36, List.getD_eq_getElem?_getD, List.getElem?_eq_getElem h1]
  have e2 : rd_T36 l2 (j : Int) = l2[j] := by simp [rd_T36, List.getD_eq_getElem?_getD, List.getElem?_eq_getElem h2]
  rw [e1, e2, List.drop_eq_getElem_cons h1, List.drop_eq_getElem_cons h2]
  rfl

theorem sameVs_len : ∀ (l1 l2 : List Vl), l1.length ≠ l2.length → sameVs l1 l2 = false
  | [], [], h => absurd rfl h
  | [], _ :: _, _ => rfl
  | _ :: _, [], _ => rfl
  | _ :: r, _ :: q, h => by simp only [sameVs]; rw [sameVs_len r q (fun e => h (by simp [e]))]; simp

/-- What a call of Same does at two values. -/
def SameAt (x y : Vl) : Prop := ∀ (w : World) (A B : Option Addr) (c d : Nat), x.f3.length ≤ c → y.f3.length ≤ d → kVl.C w A x.f3.length x.f3 → kVl.C w B y.f3.length y.f3 →
  Calls Tryd.prog 49 #[.agg #[.int .i64 x.f0, .int .i64 x.f1, .string x.f2, .slice A x.f3.length c], .agg #[.int .i64 y.f0, .int .i64 y.f1, .string y.f2, .slice B y.f3.length d]] w fun e w' => e = .returned (.bool (sameV x y)) ∧ Below w.heap.size w w'

set_option maxHeartbeats 2000000 in
theorem equalVals_same (l1 l2 : List Vl) (HF : ∀ j : Nat, j < l1.length → j < l2.length → SameAt (rd_T36 l1 (j : Int)) (rd_T36 l2 (j : Int)))
    (w : World) (A B : Option Addr) (c d : Nat) (hc : l1.length ≤ c) (hd : l2.length ≤ d) (C1 : kVl.C w A l1.length l1) (C2 : kVl.C w B l2.length l2) :
    Calls Tryd.prog 69 #[.slice A l1.length c, .slice B l2.length d, .func (.func 49) #[] #[]] w fun e w' => e = .returned (.bool (sameVs l1 l2)) ∧ Below w.heap.size w w' := by
  have HF' := Lib.hid HF
  have hm := C_max C1
  have K1 := Aside0.mk C1
  have K2 := Aside0.mk C2
  clear HF C1 C2
  rcases Classical.em (l1.length = l2.length) with hlen | hlen
  · have d1 : ((l1.length : Int) != (l2.length : Int)) = false := by rw [bne_eq_false_iff_eq]; omega
    have HL := Lib.hid hlen
    clear hlen
    go_enter Tryd.func69, Tryd.ntmps69
    go_wp2
    go_loopw [17] (fun i wr => ∃ j : Nat, j ≤ l1.length ∧ i = .int .i64 j ∧ Aside0 (sameVs (l1.drop j) (l2.drop j) = sameVs l1 l2) ∧ Aside0 (Below w.heap.size w wr)) (fun i _ => l1.length - (intOf i).toNat)
    case atStart => exact ⟨0, by omega, rfl, ⟨rfl⟩, ⟨Below.refl _ _⟩⟩
    case round =>
      obtain ⟨j, hj, rfl, HA, HB⟩ := hrel
      by_cases hlt : j < l1.length
      · have hlt2 : j < l2.length := by have := HL.out; omega
        obtain ⟨ad, A3, c3, e3, hx0, hx1, hx2, hx3, hxl, hxC⟩ := at_T36 K1.out (j : Int) (by omega) (by omega)
        obtain ⟨bd, B3, d3, f3, hy0, hy1, hy2, hy3, hyl, hyC⟩ := at_T36 K2.out (j : Int) (by omega) (by omega)
        cases e3
        cases f3
        simp only [Int.toNat_natCast] at hx0 hx1 hx2 hx3 hy0 hy1 hy2 hy3
        replace hx0 := (HB.out.cell (World.block_lt_of_cell? w _ hx0)).trans hx0
        replace hx1 := (HB.out.cell (World.block_lt_of_cell? w _ hx1)).trans hx1
        replace hx2 := (HB.out.cell (World.block_lt_of_cell? w _ hx2)).trans hx2
        replace hx3 := (HB.out.cell (World.block_lt_of_cell? w _ hx3)).trans hx3
        replace hy0 := (HB.out.cell (World.block_lt_of_cell? w _ hy0)).trans hy0
        replace hy1 := (HB.out.cell (World.block_lt_of_cell? w _ hy1)).trans hy1
        replace hy2 := (HB.out.cell (World.block_lt_of_cell? w _ hy2)).trans hy2
        replace hy3 := (HB.out.cell (World.block_lt_of_cell? w _ hy3)).trans hy3
        have hy0' := fun o => pw_cell_below (below_alloc (Below.refl wr.heap.size wr) o) hy0
        have hy1' := fun o => pw_cell_below (below_alloc (Below.refl wr.heap.size wr) o) hy1
        have hy2' := fun o => pw_cell_below (below_alloc (Below.refl wr.heap.size wr) o) hy2
        have hy3' := fun o => pw_cell_below (below_alloc (Below.refl wr.heap.size wr) o) hy3
        clear hy0 hy1 hy2 hy3
        have HS := Aside0.mk (sameVs_step l1 l2 j hlt hlt2)
        have HE := Lib.hid (HF'.out j hlt hlt2)
        generalize hX : rd_T36 l1 (j : Int) = X at *
        generalize hY : rd_T36 l2 (j : Int) = Y at *
        clear hX hY
        go_wp2_with fail
        refine (HE.out _ A3 B3 c3 d3 hxl hyl (Kd.C_below (Kd.C_below hxC HB.out) (below_alloc (below_alloc (Below.refl _ _) _) _)) (Kd.C_below (Kd.C_below hyC HB.out) (below_alloc (below_alloc (Below.refl _ _) _) _))).mono ?_
        rintro e w1 ⟨rfl, hb1⟩
        have HB1 := Aside0.mk (below_step (below_alloc (below_alloc HB.out _) _) hb1)
        clear hb1
        cases hr : sameV X Y
        · have HR1 := Aside0.mk (show sameVs l1 l2 = false by rw [← HA.out, HS.out, hr]; rfl)
          clear hr
          go_wp2
          go_ret
          exact ⟨by rw [HR1.out]; rfl, HB1.out⟩
        · have HR1 := Aside0.mk (show sameVs (l1.drop (j + 1)) (l2.drop (j + 1)) = sameVs l1 l2 by rw [← HA.out, HS.out, hr]; simp)
          clear hr
          go_wp2
          go_roundw
          case rel => exact ⟨j + 1, by omega, by go_num, HR1, HB1⟩
          case measure => simp [intOf]; omega
      · have HR1 := Aside0.mk (show sameVs l1 l2 = true by rw [← HA.out, List.drop_eq_nil_of_le (by omega), List.drop_eq_nil_of_le (by have := HL.out; omega)]; rfl)
        have hje : j = l1.length := by omega
        subst hje
        go_wp2
        go_ret
        exact ⟨by rw [HR1.out]; rfl, HB.out⟩
  · have d1 : ((l1.length : Int) != (l2.length : Int)) = true := by rw [bne_iff_ne]; omega
    have HL := Aside0.mk (sameVs_len l1 l2 hlen)
    have d2 : (l1.length != l2.length) = true := by rw [bne_iff_ne]; exact hlen
    clear hlen
    go_enter Tryd.func69, Tryd.ntmps69
    go_wp2
    go_ret
    exact ⟨by rw [HL.out]; rfl, Below.refl _ _⟩

theorem sameV_eq (x y : Vl) : sameV x y = (x.f0 == y.f0 && (x.f1 == y.f1 && (x.f2.toList == y.f2.toList && sameVs x.f3 y.f3))) := by
  cases x; rfl

set_option maxHeartbeats 2000000 in
theorem same_calls : ∀ (n : Nat) (x y : Vl), vdepth x ≤ n → SameAt x y := by
  intro n
  induction n with
  | zero => intro x y h; rw [vdepth_eq] at h; omega
  | succ n ih =>
    intro x y h w A B c d hc hd C1 C2
    rw [vdepth_eq] at h
    have HE := fun W (hb : Below w.heap.size w W) => equalVals_same x.f3 y.f3 (fun j h1 h2 => ih _ _ (Nat.le_trans (vdepths_mem _ j h1) (by omega))) W A B c d hc hd (Kd.C_below C1 hb) (Kd.C_below C2 hb)
    have HE' := Lib.hid HE
    have HV := Lib.hid (sameV_eq x y)
    clear HE ih h C1 C2 hc hd
    obtain ⟨xk, xn, xs, xl⟩ := x
    obtain ⟨yk, yn, ys, yl⟩ := y
    have hB : Aside0 (∀ o p, Below w.heap.size w ((w.alloc o).alloc p)) := ⟨fun o p => below_alloc (below_alloc (Below.refl _ _) _) _⟩
    generalize hr : sameV ⟨xk, xn, xs, xl⟩ ⟨yk, yn, ys, yl⟩ = r at *
    clear hr
    generalize ha : sameVs xl yl = a at *
    clear ha
    have paths : (xk == yk) = false ∨ ((xk == yk) = true ∧ (xn == yn) = false) ∨ ((xk == yk) = true ∧ (xn == yn) = true ∧ (xs.toList == ys.toList) = false) ∨ ((xk == yk) = true ∧ (xn == yn) = true ∧ (xs.toList == ys.toList) = true) := by
      cases (xk == yk) <;> cases (xn == yn) <;> cases (xs.toList == ys.toList) <;> simp
    rcases paths with d3 | ⟨d3, d4⟩ | ⟨d3, d4, d5⟩ | ⟨d3, d4, d5⟩
    all_goals
      go_enter Tryd.func49, Tryd.ntmps49
      go_wp2_with fail
      first
      | (go_ret
         exact ⟨by rw [HV.out]; simp [*], hB.out _ _⟩)
      | (refine (HE'.out _ (hB.out _ _)).mono ?_
         rintro e w1 ⟨rfl, hb1⟩
         have HB1 := Aside0.mk (below_step (hB.out _ _) hb1)
         clear hb1
         go_wp2_with fail
         go_ret
         exact ⟨by rw [HV.out]; simp [*], HB1.out⟩)

/-! ### accesses -/
def sameA (x y : Ac) : Bool := x.f0 == y.f0 && sameV x.f1 y.f1
def eqL {α : Type} (f : α → α → Bool) : List α → List α → Bool
  | [], [] => true
  | x :: r, y :: q => f x y && eqL f r q
  | _, _ => false

theorem eqL_len {α : Type} (f : α → α → Bool) : ∀ (l1 l2 : List α), l1.length ≠ l2.length → eqL f l1 l2 = false
  | [], [], h => absurd rfl h
  | [], _ :: _, _ => rfl
  | _ :: _, [], _ => rfl
  | _ :: r, _ :: q, h => by simp only [eqL]; rw [eqL_len f r q (fun e => h (by simp [e]))]; simp

theorem eqL_step {α : Type} (f : α → α → Bool) (l1 l2 : List α) (j : Nat) (h1 : j < l1.length) (h2 : j < l2.length) : eqL f (l1.drop j) (l2.drop j) = (f l1[j] l2[j] && eqL f (l1.drop (j + 1)) (l2.drop (j + 1))) := by
  rw [List.drop_eq_getElem_cons h1, List.drop_eq_getElem_cons h2]
  rfl

/-- What a call of sameAccess does at two accesses. -/
def SameAcAt (x y : Ac) : Prop := ∀ (w : World) (A B : Option Addr) (c d : Nat), x.f1.f3.length ≤ c → y.f1.f3.length ≤ d → kVl.C w A x.f1.f3.length x.f1.f3 → kVl.C w B y.f1.f3.length y.f1.f3 →
  Calls Tryd.prog 34 #[.agg #[.int .i64 x.f0, .int .i64 x.f1.f0, .int .i64 x.f1.f1, .string x.f1.f2, .slice A x.f1.f3.length c], .agg #[.int .i64 y.f0, .int .i64 y.f1.f0, .int .i64 y.f1.f1, .string y.f1.f2, .slice B y.f1.f3.length d]] w fun e w' => e = .returned (.bool (sameA x y)) ∧ Below w.heap.size w w'

set_option maxHeartbeats 2000000 in
theorem sameAccess_calls (x y : Ac) : SameAcAt x y := by
  intro w A B c d hc hd C1 C2
  have HE := fun W (hb : Below w.heap.size w W) => same_calls _ x.f1 y.f1 (Nat.le_refl _) W A B c d hc hd (Kd.C_below C1 hb) (Kd.C_below C2 hb)
  have HE' := Lib.hid HE
  have HV := Lib.hid (show sameA x y = (x.f0 == y.f0 && sameV x.f1 y.f1) from rfl)
  clear HE C1 C2 hc hd
  obtain ⟨xt, xk, xn, xs, xl⟩ := x
  obtain ⟨yt, yk, yn, ys, yl⟩ := y
  dsimp only at *
  have hB : Aside0 (∀ o p, Below w.heap.size w ((w.alloc o).alloc p)) := ⟨fun o p => below_alloc (below_alloc (Below.refl _ _) _) _⟩
  generalize hr : sameA ⟨xt, ⟨xk, xn, xs, xl⟩⟩ ⟨yt, ⟨yk, yn, ys, yl⟩⟩ = r at *
  clear hr
  generalize ha : sameV ⟨xk, xn, xs, xl⟩ ⟨yk, yn, ys, yl⟩ = a at *
  clear ha
  have paths : (xt == yt) = false ∨ (xt == yt) = true := by
    cases (xt == yt) <;> simp
  rcases paths with d3 | d3
  all_goals
    go_enter Tryd.func34, Tryd.ntmps34
    go_wp2_with fail
    first
    | (go_ret
       exact ⟨by rw [HV.out]; simp [*], hB.out _ _⟩)
    | (refine (HE'.out _ (hB.out _ _)).mono ?_
       rintro e w1 ⟨rfl, hb1⟩
       have HB1 := Aside0.mk (below_step (hB.out _ _) hb1)
       clear hb1
       go_wp2_with fail
       go_ret
       exact ⟨by rw [HV.out]; simp [*], HB1.out⟩)

theorem rdA (l : List Ac) (j : Nat) (h : j < l.length) : rd_T38 l (j : Int) = l[j] := by simp [rd_T38, List.getD_eq_getElem?_getD, List.getElem?_eq_getElem h]
theorem eqLA_step (l1 l2 : List Ac) (j : Nat) (h1 : j < l1.length) (h2 : j < l2.length) : eqL sameA (l1.drop j) (l2.drop j) = (sameA (rd_T38 l1 (j : Int)) (rd_T38 l2 (j : Int)) && eqL sameA (l1.drop (j + 1)) (l2.drop (j + 1))) := by
  rw [rdA l1 j h1, rdA l2 j h2]
  exact eqL_step sameA l1 l2 j h1 h2

set_option maxHeartbeats 2000000 in
theorem equalAcs (l1 l2 : List Ac) (HF : ∀ j : Nat, j < l1.length → j < l2.length → SameAcAt (rd_T38 l1 (j : Int)) (rd_T38 l2 (j : Int)))
    (w : World) (A B : Option Addr) (c d : Nat) (hc : l1.length ≤ c) (hd : l2.length ≤ d) (C1 : kAc.C w A l1.length l1) (C2 : kAc.C w B l2.length l2) :
    Calls Tryd.prog 33 #[.slice A l1.length c, .slice B l2.length d, .func (.func 34) #[] #[]] w fun e w' => e = .returned (.bool (eqL sameA l1 l2)) ∧ Below w.heap.size w w' := by
  have HF' := Lib.hid HF
  have hm := C1.2.1
  have K1 := Aside0.mk C1
  have K2 := Aside0.mk C2
  clear HF C1 C2
  rcases Classical.em (l1.length = l2.length) with hlen | hlen
  · have d1 : ((l1.length : Int) != (l2.length : Int)) = false := by rw [bne_eq_false_iff_eq]; omega
    have HL := Lib.hid hlen
    clear hlen
    go_enter Tryd.func33, Tryd.ntmps33
    go_wp2
    go_loopw [17] (fun i wr => ∃ j : Nat, j ≤ l1.length ∧ i = .int .i64 j ∧ Aside0 (eqL sameA (l1.drop j) (l2.drop j) = eqL sameA l1 l2) ∧ Aside0 (Below w.heap.size w wr)) (fun i _ => l1.length - (intOf i).toNat)
    case atStart => exact ⟨0, by omega, rfl, ⟨rfl⟩, ⟨Below.refl _ _⟩⟩
    case round =>
      obtain ⟨j, hj, rfl, HA, HB⟩ := hrel
      by_cases hlt : j < l1.length
      · have hlt2 : j < l2.length := by have := HL.out; omega
        obtain ⟨ad, A3, c3, e3, hx0, hx1, hx2, hx3, hx4, hxl, hxC⟩ := at_T38 K1.out (j : Int) (by omega) (by omega)
        obtain ⟨bd, B3, d3, f3, hy0, hy1, hy2, hy3, hy4, hyl, hyC⟩ := at_T38 K2.out (j : Int) (by omega) (by omega)
        cases e3
        cases f3
        simp only [Int.toNat_natCast] at hx0 hx1 hx2 hx3 hx4 hy0 hy1 hy2 hy3 hy4
        replace hx0 := (HB.out.cell (World.block_lt_of_cell? w _ hx0)).trans hx0
        replace hx1 := (HB.out.cell (World.block_lt_of_cell? w _ hx1)).trans hx1
        replace hx2 := (HB.out.cell (World.block_lt_of_cell? w _ hx2)).trans hx2
        replace hx3 := (HB.out.cell (World.block_lt_of_cell? w _ hx3)).trans hx3
        replace hx4 := (HB.out.cell (World.block_lt_of_cell? w _ hx4)).trans hx4
        replace hy0 := (HB.out.cell (World.block_lt_of_cell? w _ hy0)).trans hy0
        replace hy1 := (HB.out.cell (World.block_lt_of_cell? w _ hy1)).trans hy1
        replace hy2 := (HB.out.cell (World.block_lt_of_cell? w _ hy2)).trans hy2
        replace hy3 := (HB.out.cell (World.block_lt_of_cell? w _ hy3)).trans hy3
        replace hy4 := (HB.out.cell (World.block_lt_of_cell? w _ hy4)).trans hy4
        have hy0' := fun o => pw_cell_below (below_alloc (Below.refl wr.heap.size wr) o) hy0
        have hy1' := fun o => pw_cell_below (below_alloc (Below.refl wr.heap.size wr) o) hy1
        have hy2' := fun o => pw_cell_below (below_alloc (Below.refl wr.heap.size wr) o) hy2
        have hy3' := fun o => pw_cell_below (below_alloc (Below.refl wr.heap.size wr) o) hy3
        have hy4' := fun o => pw_cell_below (below_alloc (Below.refl wr.heap.size wr) o) hy4
        clear hy0 hy1 hy2 hy3 hy4
        have HS := Aside0.mk (eqLA_step l1 l2 j hlt hlt2)
        have HE := Lib.hid (HF'.out j hlt hlt2)
        generalize hX : rd_T38 l1 (j : Int) = X at *
        generalize hY : rd_T38 l2 (j : Int) = Y at *
        clear hX hY
        go_wp2_with fail
        refine (HE.out _ A3 B3 c3 d3 hxl hyl (Kd.C_below (Kd.C_below hxC HB.out) (below_alloc (below_alloc (Below.refl _ _) _) _)) (Kd.C_below (Kd.C_below hyC HB.out) (below_alloc (below_alloc (Below.refl _ _) _) _))).mono ?_
        rintro e w1 ⟨rfl, hb1⟩
        have HB1 := Aside0.mk (below_step (below_alloc (below_alloc HB.out _) _) hb1)
        clear hb1
        cases hr : sameA X Y
        · have HR1 := Aside0.mk (show eqL sameA l1 l2 = false by rw [← HA.out, HS.out, hr]; rfl)
          clear hr
          go_wp2
          go_ret
          exact ⟨by rw [HR1.out]; rfl, HB1.out⟩
        · have HR1 := Aside0.mk (show eqL sameA (l1.drop (j + 1)) (l2.drop (j + 1)) = eqL sameA l1 l2 by rw [← HA.out, HS.out, hr]; simp)
          clear hr
          go_wp2
          go_roundw
          case rel => exact ⟨j + 1, by omega, by go_num, HR1, HB1⟩
          case measure => simp [intOf]; omega
      · have HR1 := Aside0.mk (show eqL sameA l1 l2 = true by rw [← HA.out, List.drop_eq_nil_of_le (by omega), List.drop_eq_nil_of_le (by have := HL.out; omega)]; rfl)
        have hje : j = l1.length := by omega
        subst hje
        go_wp2
        go_ret
        exact ⟨by rw [HR1.out]; rfl, HB.out⟩
  · have d1 : ((l1.length : Int) != (l2.length : Int)) = true := by rw [bne_iff_ne]; omega
    have HL := Aside0.mk (eqL_len sameA l1 l2 hlen)
    have d2 : (l1.length != l2.length) = true := by rw [bne_iff_ne]; exact hlen
    clear hlen
    go_enter Tryd.func33, Tryd.ntmps33
    go_wp2
    go_ret
    exact ⟨by rw [HL.out]; rfl, Below.refl _ _⟩

end Go.Proofs.YtkfbhfmddmhiaaaDoor.TJ
