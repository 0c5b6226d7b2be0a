/- The judge's rule 6: the Go method answers as the plain function. Conditions: the judge lies in memory as JW says. -/
import Derived.Test.YtkfbhfmddmhiaaaDoorJ3
import Derived.Deep.RegionHeld3
import Derived.BigRegion
namespace Go.Proofs.YtkfbhfmddmhiaaaDoor.TJ
open Go.RowKit Go.Proofs.YtkfbhfmddmhiaaaDoorW.PrintWords Go.Proofs.YtkfbhfmddmhiaaaDoor.PT Go.Proofs.YtkfbhfmddmhiaaaDoor.IMaps
set_option linter.unusedVariables false

set_option maxHeartbeats 2000000 in
theorem clash_none (w : World) (b pb : Nat) (tv : Int) (k n : Int) (s : ByteArray) (A : Option Addr) (l c : Nat)
    (hp : w.cell? ⟨pb, 0, none⟩ = some (.pointer (some ⟨b + 3, 0, none⟩))) (h12 : w.cell? ⟨b + 3, 12, none⟩ = some (.map (some (b + 2))))
    (hl : ∀ w1, Below w.heap.size w w1 → (Instr.lookup 55 (.map (some (b + 2))) (.int .i64 tv) true).run Tryd.prog w1 = .ok (.tuple #[.agg #[.int .i64 0, .int .i64 0, .string ⟨#[]⟩, .slice none 0 0], .bool false]) w1) :
    Calls Tryd.prog 67 #[.agg #[.int .i64 tv, .int .i64 k, .int .i64 n, .string s, .slice A l c], .pointer (some ⟨pb, 0, none⟩)] w fun e w' => e = .returned (.bool false) ∧ Below w.heap.size w w' := by
  have hlA := fun o => hl (w.alloc o).drew (below_drew (below_alloc (Below.refl _ _) o))
  have hlB := fun o p => hl ((w.alloc o).alloc p).drew (below_drew (below_alloc (below_alloc (Below.refl _ _) o) p))
  have hpB := fun o p => pw_cell_below (below_alloc (below_alloc (Below.refl w.heap.size w) o) p) hp
  have h12B := fun o p => pw_cell_below (below_alloc (below_alloc (Below.refl w.heap.size w) o) p) h12
  have hpA := fun o => pw_cell_below (below_alloc (Below.refl w.heap.size w) o) hp
  have h12A := fun o => pw_cell_below (below_alloc (Below.refl w.heap.size w) o) h12
  clear hl hp h12
  go_enter Tryd.func67, Tryd.ntmps67
  go_wp2
  go_region
  go_wp2
  go_ret
  exact ⟨rfl, below_drew (below_alloc (below_alloc (Below.refl _ _) _) _)⟩

set_option maxHeartbeats 2000000 in
theorem clash_some (w : World) (b pb : Nat) (tv : Int) (k n : Int) (s : ByteArray) (A B : Option Addr) (l c l2 c2 : Nat) (k2 n2 : Int) (s2 : ByteArray) (r : Bool)
    (hp : w.cell? ⟨pb, 0, none⟩ = some (.pointer (some ⟨b + 3, 0, none⟩))) (h12 : w.cell? ⟨b + 3, 12, none⟩ = some (.map (some (b + 2))))
    (hl : ∀ w1, Below w.heap.size w w1 → (Instr.lookup 55 (.map (some (b + 2))) (.int .i64 tv) true).run Tryd.prog w1 = .ok (.tuple #[.agg #[.int .i64 k2, .int .i64 n2, .string s2, .slice B l2 c2], .bool true]) w1)
    (HA : ∀ w1, Below w.heap.size w w1 → Calls Tryd.prog 68 #[.agg #[.int .i64 k2, .int .i64 n2, .string s2, .slice B l2 c2], .agg #[.int .i64 k, .int .i64 n, .string s, .slice A l c]] w1 fun e w' => e = .returned (.bool r) ∧ Below w1.heap.size w1 w') :
    Calls Tryd.prog 67 #[.agg #[.int .i64 tv, .int .i64 k, .int .i64 n, .string s, .slice A l c], .pointer (some ⟨pb, 0, none⟩)] w fun e w' => e = .returned (.bool !r) ∧ Below w.heap.size w w' := by
  have hlA := fun o => hl (w.alloc o).drew (below_drew (below_alloc (Below.refl _ _) o))
  have hlB := fun o p => hl ((w.alloc o).alloc p).drew (below_drew (below_alloc (below_alloc (Below.refl _ _) o) p))
  have hpB := fun o p => pw_cell_below (below_alloc (below_alloc (Below.refl w.heap.size w) o) p) hp
  have h12B := fun o p => pw_cell_below (below_alloc (below_alloc (Below.refl w.heap.size w) o) p) h12
  have hpA := fun o => pw_cell_below (below_alloc (Below.refl w.heap.size w) o) hp
  have h12A := fun o => pw_cell_below (below_alloc (Below.refl w.heap.size w) o) h12
  have HA' := Lib.hid HA
  clear hl hp h12 HA
  go_enter Tryd.func67, Tryd.ntmps67
  go_wp2
  go_region
  go_wp2_with fail
  refine (HA'.out _ (below_drew (below_alloc (below_alloc (Below.refl _ _) _) _))).mono ?_
  rintro e w1 ⟨rfl, hb1⟩
  have HB1 := Aside0.mk (below_step (below_drew (below_alloc (below_alloc (Below.refl _ _) _) _)) hb1)
  clear hb1
  go_wp2_with fail
  go_ret
  exact ⟨rfl, HB1.out⟩

/-- What lies in the world w0 lies in every later one. -/
theorem clash_calls {w0 w : World} {b : Nat} {j : JS} (h : JW w0 w b j) (h0 : Below w0.heap.size w0 w) (pb : Nat) (hp : w.cell? ⟨pb, 0, none⟩ = some (.pointer (some ⟨b + 3, 0, none⟩))) (a : Ac) (A : Option Addr) (c : Nat) (hc : a.f1.f3.length ≤ c) (hC : kVl.C w A a.f1.f3.length a.f1.f3) :
    Calls Tryd.prog 67 #[.agg #[.int .i64 a.f0, .int .i64 a.f1.f0, .int .i64 a.f1.f1, .string a.f1.f2, .slice A a.f1.f3.length c], .pointer (some ⟨pb, 0, none⟩)] w fun e w' => e = .returned (.bool (clashB j a)) ∧ Below w.heap.size w w' := by
  obtain ⟨_, _, _, _, _, hcells⟩ := h.cells
  obtain ⟨lv, v1, v2⟩ := h.vars
  have hv := v2 a.f0
  cases hk : lk a.f0 lv with
  | none =>
    rw [hk] at hv
    cases hj : j.vars a.f0 with
    | some y => rw [hj] at hv; exact hv.elim
    | none =>
      have e : clashB j a = false := by unfold clashB; rw [hj]
      rw [e]
      refine clash_none w b pb _ _ _ _ _ _ _ hp (cellH hcells rfl) (fun w1 hb1 => ?_)
      have := run_lookup (v1.below hb1) Tryd.underlying55 Tryd.underlying3 (zeroVal w1) a.f0 true
      rw [this, hk]; rfl
  | some v =>
    rw [hk] at hv
    cases hj : j.vars a.f0 with
    | none => rw [hj] at hv; exact hv.elim
    | some y =>
      rw [hj] at hv
      obtain ⟨B, d, rfl, hd, hD⟩ := hv
      have e : clashB j a = !agreeV y a.f1 := by unfold clashB; rw [hj]
      rw [e]
      refine clash_some w b pb _ _ _ _ _ B _ _ y.f3.length d y.f0 y.f1 y.f2 (agreeV y a.f1) hp (cellH hcells rfl) (fun w1 hb1 => ?_) (fun w1 hb1 => ?_)
      · have := run_lookup (v1.below hb1) Tryd.underlying55 Tryd.underlying3 (zeroVal w1) a.f0 true
        rw [this, hk]; rfl
      · exact agree_calls _ y a.f1 (Nat.le_refl _) w1 B A d c hd hc (Kd.C_below hD (below_step h0 hb1)) (Kd.C_below hC hb1)

set_option maxHeartbeats 2000000 in
theorem indexClash (f : Ac → Bool) (fnv : Value) (l : List Ac) (w : World) (A : Option Addr) (c : Nat) (hc : l.length ≤ c) (C1 : kAc.C w A l.length l) (pb : Nat) (hfn : fnv = .func (.func 67) #[] #[.pointer (some ⟨pb, 0, none⟩)])
    (HF : ∀ (w1 : World) (a : Ac) (A1 : Option Addr) (c1 : Nat), Below w.heap.size w w1 → a.f1.f3.length ≤ c1 → kVl.C w1 A1 a.f1.f3.length a.f1.f3 →
      Calls Tryd.prog 67 #[.agg #[.int .i64 a.f0, .int .i64 a.f1.f0, .int .i64 a.f1.f1, .string a.f1.f2, .slice A1 a.f1.f3.length c1], .pointer (some ⟨pb, 0, none⟩)] w1 fun e w' => e = .returned (.bool (f a)) ∧ Below w1.heap.size w1 w') :
    Calls Tryd.prog 83 #[.slice A l.length c, fnv] w fun e w' => (∃ r : Int, e = .returned (.int .i64 r) ∧ (decide (0 ≤ r)) = l.any f) ∧ Below w.heap.size w w' := by
  subst hfn
  have HF' := Lib.hid HF
  have K1 := Aside0.mk C1
  have hm : l.length ≤ 9223372036854775807 := C1.2.1
  clear HF C1
  go_enter Tryd.func83, Tryd.ntmps83
  go_wp2
  go_loopw [8] (fun i wr => ∃ j : Nat, j ≤ l.length ∧ i = .int .i64 j ∧ Aside0 ((l.drop j).any f = l.any f) ∧ Aside0 (Below w.heap.size w wr)) (fun i _ => l.length - (intOf i).toNat)
  case atStart => exact ⟨0, by omega, rfl, ⟨rfl⟩, ⟨Below.refl _ _⟩⟩
  case round =>
    obtain ⟨j, hj, rfl, HA, HB⟩ := hrel
    by_cases hlt : j < l.length
    · obtain ⟨ad, A3, c3, e3, hx0, hx1, hx2, hx3, hx4, hxl, hxC⟩ := at_T38 K1.out (j : Int) (by omega) (by omega)
      cases e3
      simp only [Int.toNat_natCast] at hx0 hx1 hx2 hx3 hx4
      replace hx0 := (HB.out.cell (World.block_lt_of_cell? w _ hx0)).trans hx0
      replace hx1 := (HB.out.cell (World.block_lt_of_cell? w _ hx1)).trans hx1
      replace hx2 := (HB.out.cell (World.block_lt_of_cell? w _ hx2)).trans hx2
      replace hx3 := (HB.out.cell (World.block_lt_of_cell? w _ hx3)).trans hx3
      replace hx4 := (HB.out.cell (World.block_lt_of_cell? w _ hx4)).trans hx4
      have hs : (l.drop j).any f = (f (rd_T38 l (j : Int)) || (l.drop (j + 1)).any f) := by
        have e2 : rd_T38 l (j : Int) = l[j] := by simp [rd_T38, List.getD_eq_getElem?_getD, List.getElem?_eq_getElem hlt]
        rw [e2, List.drop_eq_getElem_cons hlt]
        rfl
      have HS := Aside0.mk hs
      clear hs
      generalize hX : rd_T38 l (j : Int) = X at *
      clear hX
      go_wp2_with fail
      refine (HF'.out _ X A3 c3 HB.out hxl (Kd.C_below hxC HB.out)).mono ?_
      rintro e w1 ⟨rfl, hb1⟩
      have HB1 := Aside0.mk (below_step HB.out hb1)
      clear hb1
      cases hr : f X
      · have HR1 := Aside0.mk (show (l.drop (j + 1)).any f = l.any f by rw [← HA.out, HS.out, hr]; rfl)
        clear hr
        go_wp2
        go_roundw
        case rel => exact ⟨j + 1, by omega, by go_num, HR1, HB1⟩
        case measure => simp [intOf]; omega
      · have HR1 := Aside0.mk (show l.any f = true by rw [← HA.out, HS.out, hr]; rfl)
        clear hr
        go_wp2
        go_ret
        exact ⟨⟨(j : Int), rfl, by rw [HR1.out]; exact decide_eq_true (by omega)⟩, HB1.out⟩
    · have HR1 := Aside0.mk (show l.any f = false by rw [← HA.out, List.drop_eq_nil_of_le (by omega)]; rfl)
      have hje : j = l.length := by omega
      subst hje
      go_wp2
      go_ret
      exact ⟨⟨-1, rfl, by rw [HR1.out]; rfl⟩, HB.out⟩

theorem containsClash (f : Ac → Bool) (fnv : Value) (l : List Ac) (w : World) (A : Option Addr) (c : Nat) (hc : l.length ≤ c) (C1 : kAc.C w A l.length l) (pb : Nat) (hfn : fnv = .func (.func 67) #[] #[.pointer (some ⟨pb, 0, none⟩)])
    (HF : ∀ (w1 : World) (a : Ac) (A1 : Option Addr) (c1 : Nat), Below w.heap.size w w1 → a.f1.f3.length ≤ c1 → kVl.C w1 A1 a.f1.f3.length a.f1.f3 →
      Calls Tryd.prog 67 #[.agg #[.int .i64 a.f0, .int .i64 a.f1.f0, .int .i64 a.f1.f1, .string a.f1.f2, .slice A1 a.f1.f3.length c1], .pointer (some ⟨pb, 0, none⟩)] w1 fun e w' => e = .returned (.bool (f a)) ∧ Below w1.heap.size w1 w') :
    Calls Tryd.prog 66 #[.slice A l.length c, fnv] w fun e w' => e = .returned (.bool (l.any f)) ∧ Below w.heap.size w w' := by
  have HI := Lib.hid (indexClash f fnv l w A c hc C1 pb hfn HF)
  clear HF C1 hfn hc
  go_enter Tryd.func66, Tryd.ntmps66
  go_wp2_with fail
  refine HI.out.mono ?_
  rintro e w1 ⟨⟨r, rfl, hr⟩, hb1⟩
  have HR := Lib.hid hr
  have HB := Aside0.mk hb1
  clear hr hb1
  go_wp2
  go_ret
  exact ⟨by rw [← HR.out]; rfl, HB.out⟩

theorem commits_calls {w0 w : World} {b : Nat} {j : JS} (h : JW w0 w b j) (h0 : Below w0.heap.size w0 w) (x : Ev) (A5 A6 : Option Addr) (c5 c6 : Nat) (g5 : x.f5.length ≤ c5) (C5 : kAc.C w A5 x.f5.length x.f5) :
    Calls Tryd.prog 48 #[.pointer (some ⟨b + 3, 0, none⟩), .agg #[.int .i64 x.f0, .int .i64 x.f1, .int .i64 x.f2, .int .i64 x.f3, .int .i64 x.f4, .slice A5 x.f5.length c5, .slice A6 x.f6.length c6]] w fun e w' => e = .returned (.bool (commitsB j x)) ∧ Below w.heap.size w w' := by
  have HC : ∀ o p, Calls Tryd.prog 66 #[.slice A5 x.f5.length c5, .func (.func 67) #[] #[.pointer (some ⟨w.heap.size, 0, none⟩)]] ((w.alloc (.cells #[.pointer (some ⟨b + 3, 0, none⟩)] o)).alloc p) fun e w' => e = .returned (.bool (x.f5.any (clashB j))) ∧ Below ((w.alloc (.cells #[.pointer (some ⟨b + 3, 0, none⟩)] o)).alloc p).heap.size ((w.alloc (.cells #[.pointer (some ⟨b + 3, 0, none⟩)] o)).alloc p) w' := by
    intro o p
    have hb : Below w.heap.size w ((w.alloc (.cells #[.pointer (some ⟨b + 3, 0, none⟩)] o)).alloc p) := below_alloc (below_alloc (Below.refl _ _) _) _
    refine containsClash (clashB j) _ x.f5 _ A5 c5 g5 (Kd.C_below C5 hb) w.heap.size rfl ?_
    intro w1 a A1 c1 hb1 ha hA1
    refine clash_calls (h.below (below_step hb hb1)) (below_step h0 (below_step hb hb1)) w.heap.size ?_ a A1 c1 ha hA1
    have h1 : (w.alloc (.cells #[.pointer (some ⟨b + 3, 0, none⟩)] o)).heap[w.heap.size]? = some (.cells #[.pointer (some ⟨b + 3, 0, none⟩)] o (0, 0)) := (MapKept.heap_alloc w _).1
    exact pw_cell_below hb1 (cellA h1 rfl p)
  have HC' := Lib.hid HC
  have hR := Lib.hid (show commitsB j x = !(x.f5.any (clashB j)) from rfl)
  clear HC h h0 C5 g5
  generalize x.f5.any (clashB j) = a at *
  generalize hr : commitsB j x = r at *
  clear hr
  go_enter Tryd.func48, Tryd.ntmps48
  go_wp2_with fail
  refine (HC'.out _ _).mono ?_
  rintro e w1 ⟨rfl, hb1⟩
  have HB1 := Aside0.mk (below_step (below_alloc (below_alloc (Below.refl _ _) _) _) hb1)
  clear hb1
  go_wp2
  go_ret
  exact ⟨by rw [hR.out]; rfl, HB1.out⟩
end Go.Proofs.YtkfbhfmddmhiaaaDoor.TJ
