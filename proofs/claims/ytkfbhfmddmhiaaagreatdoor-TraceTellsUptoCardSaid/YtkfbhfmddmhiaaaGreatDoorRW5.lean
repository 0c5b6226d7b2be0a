/- The reference's rule 5 of a trace, walked. Conditions: the trace lies in memory and is not too large. -/
import Derived.Test.YtkfbhfmddmhiaaaGreatDoorRRW
namespace Go.Proofs.YtkfbhfmddmhiaaaGreatDoor.TJ
open Go.RowKit Go.Proofs.YtkfbhfmddmhiaaaGreatDoorW.PrintWords Go.Proofs.YtkfbhfmddmhiaaaGreatDoorW.PrintLast Go.Proofs.YtkfbhfmddmhiaaaGreatDoor.PT Go.Proofs.YtkfbhfmddmhiaaaGreatDoor.IMaps
set_option linter.unusedVariables false
set_option linter.unusedSimpArgs false

set_option maxRecDepth 100000 in
set_option maxHeartbeats 16000000 in
theorem rule5_walk (w : World) (ad : Addr) (nn c i : Nat) (T th k n m : Int) (r a5 a6 : Bool) (A5 A6 : Option Addr) (n5 c5 n6 c6 : Nat) (hi : i < nn) (hn : nn ≤ 4000000) (b5 : n5 ≤ 4000000) (b6 : n6 ≤ 4000000)
    (h0 : w.cell? (ad.add (i * 7)) = some (.int .i64 T)) (h1 : w.cell? ⟨(ad.add (i * 7)).block, (ad.add (i * 7)).off + 1, none⟩ = some (.int .i64 th)) (h2 : w.cell? ⟨(ad.add (i * 7)).block, (ad.add (i * 7)).off + 2, none⟩ = some (.int .i64 k))
    (h3 : w.cell? ⟨(ad.add (i * 7)).block, (ad.add (i * 7)).off + 3, none⟩ = some (.int .i64 n)) (h4 : w.cell? ⟨(ad.add (i * 7)).block, (ad.add (i * 7)).off + 4, none⟩ = some (.int .i64 m))
    (h5 : w.cell? ⟨(ad.add (i * 7)).block, (ad.add (i * 7)).off + 5, none⟩ = some (.slice A5 n5 c5)) (h6 : w.cell? ⟨(ad.add (i * 7)).block, (ad.add (i * 7)).off + 6, none⟩ = some (.slice A6 n6 c6))
    (K5 : Hid (∀ W, Below w.heap.size w W → Calls Tryz.prog 59 #[.slice A5 n5 c5] W fun e w' => e = .returned (.bool a5) ∧ Below W.heap.size W w'))
    (K6 : Hid (∀ W, Below w.heap.size w W → Calls Tryz.prog 59 #[.slice A6 n6 c6] W fun e w' => e = .returned (.bool a6) ∧ Below W.heap.size W w'))
    (hr : Hid ((decide (1 ≤ k) && decide (k ≤ 12) && (hasN k || n == 0) && (k == 4 || m == 0) && (k == 7 || ((n5 : Int) + (n6 : Int) == 0)) && a5 && a6) = r)) :
    Calls Tryz.prog 38 #[.slice (some ad) nn c, .int .i64 i, .int .i64 5] w fun e w' => e = .returned (.bool r) ∧ Below w.heap.size w w' := by
  have HBO := Aside0.mk (below_alloc (Below.refl w.heap.size w) (.cells #[.int .i64 T, .int .i64 th, .int .i64 k, .int .i64 n, .int .i64 m, .slice A5 n5 c5, .slice A6 n6 c6] 44))
  have HX : Hid ((w.alloc (.cells #[.int .i64 T, .int .i64 th, .int .i64 k, .int .i64 n, .int .i64 m, .slice A5 n5 c5, .slice A6 n6 c6] 44)).heap[w.heap.size]? = some (.cells #[.int .i64 T, .int .i64 th, .int .i64 k, .int .i64 n, .int .i64 m, .slice A5 n5 c5, .slice A6 n6 c6] 44 (0, 0))) := Lib.hid (MapKept.heap_alloc w _).1
  have cases13 : (k < 1 ∨ 12 < k) ∨ k = 1 ∨ k = 2 ∨ k = 3 ∨ k = 4 ∨ k = 5 ∨ k = 6 ∨ k = 7 ∨ k = 8 ∨ k = 9 ∨ k = 10 ∨ k = 11 ∨ k = 12 := by omega
  rcases cases13 with hk | rfl | rfl | rfl | rfl | rfl | rfl | rfl | rfl | rfl | rfl | rfl | rfl
  · have hres : r = false := by rw [← hr.out]; rcases hk with hk | hk <;> simp [show ¬ (1 ≤ k ∧ k ≤ 12) by omega] <;> intros <;> omega
    subst hres
    have e1 : (k == 1) = false := beq_eq_false_iff_ne.2 (by omega)
    have e2 : (k == 2) = false := beq_eq_false_iff_ne.2 (by omega)
    have e3 : (k == 3) = false := beq_eq_false_iff_ne.2 (by omega)
    have e4 : (k == 4) = false := beq_eq_false_iff_ne.2 (by omega)
    have e5 : (k == 5) = false := beq_eq_false_iff_ne.2 (by omega)
    have e6 : (k == 6) = false := beq_eq_false_iff_ne.2 (by omega)
    have e11 : (k == 11) = false := beq_eq_false_iff_ne.2 (by omega)
    rcases hk with hk | hk
    · have d1 : decide (k < 1) = true := decide_eq_true hk
      clear hk
      go_enter Tryz.func38, Tryz.ntmps38
      go_wp2
      go_ret
      exact ⟨rfl, below_alloc (Below.refl _ _) _⟩
    · have d1 : decide (k < 1) = false := decide_eq_false (by omega)
      have d2 : decide (12 < k) = true := decide_eq_true hk
      clear hk
      go_enter Tryz.func38, Tryz.ntmps38
      go_wp2
      go_ret
      exact ⟨rfl, below_alloc (Below.refl _ _) _⟩
  all_goals
    have em : (m == 0) = !(m != 0) := by simp [bne]
    simp only [hasN] at hr
    rw [em] at hr
    clear em
    go_enter Tryz.func38, Tryz.ntmps38
    go_wp2_with fail
    all_goals
      first
      | (go_ret
         exact ⟨by rw [← hr.out]; simp [*], below_alloc (Below.refl _ _) _⟩)
      | (refine (K5.out _ (below_alloc (Below.refl _ _) _)).mono ?_
         rintro e w1 ⟨rfl, hb1⟩
         have HB1 := Aside0.mk (below_step (below_alloc (Below.refl _ _) _) hb1)
         have f6 : w1.cell? ⟨w.heap.size, 6, none⟩ = some (.slice A6 n6 c6) := (hb1.cell (p := ⟨w.heap.size, 6, none⟩) (by simp)).trans (cellH (MapKept.heap_alloc w _).1 rfl)
         clear hb1
         cases a5
         · go_wp2_with fail
           go_ret
           exact ⟨by rw [← hr.out]; simp [*], HB1.out⟩
         · go_wp2_with fail
           refine (K6.out _ HB1.out).mono ?_
           rintro e w2 ⟨rfl, hb2⟩
           have HB2 := Aside0.mk (below_step HB1.out hb2)
           clear hb2
           go_wp2_with fail
           go_ret
           exact ⟨by rw [← hr.out]; simp [*], HB2.out⟩)
end Go.Proofs.YtkfbhfmddmhiaaaGreatDoor.TJ
