/- The accesses that a sound trace without commits leaves: the Go function Serial answers none of them, with no error. Conditions: the trace lies in memory, is not too long, breaks no rule and leaves no variable. -/
import Derived.Test.YtkfbhfmddmhiaaaDoorJ7
import Derived.Test.YtkfbhfmddmhiaaaDoorSh
import Derived.Maps.RangeRun
namespace Go.Proofs.YtkfbhfmddmhiaaaDoor.TJ
open Go.RowKit Go.Proofs.YtkfbhfmddmhiaaaDoorW.PrintWords Go.Proofs.YtkfbhfmddmhiaaaDoor.PT Go.Proofs.YtkfbhfmddmhiaaaDoor.IMaps
set_option linter.unusedVariables false
set_option linter.unusedSimpArgs false

theorem IM.nil_block {w : World} {b : Nat} (h : IM w b []) : ∃ clock, w.heap[b]? = some (.map #[] clock) := by
  obtain ⟨es, clock, hb, _, he⟩ := h
  have : es.toList = [] := List.map_eq_nil_iff.1 he
  have : es = #[] := by simpa using this
  subst this
  exact ⟨clock, hb⟩

theorem run_range0 {P : Program} {w : World} {b clock : Nat} {t k e : TypeId} (hb : w.heap[b]? = some (.map #[] clock)) (ht : P.underlying t = some (.map k e)) :
    (Instr.range t (.map (some b))).run P w = .ok (.pointer (some ⟨w.heap.size, 0, none⟩)) (w.alloc (.mapIter (some b) clock #[] clock)) := by
  simp [Instr.range, run_underlying ht, MapKept.run_getObj_map hb, Result.andThen]

theorem run_next0 {P : Program} {w : World} {b r c clock : Nat} {ty : TypeId} (hr : w.heap[r]? = some (.mapIter (some b) c #[] c)) (hb : w.heap[b]? = some (.map #[] clock)) :
    (Instr.next (.pointer (some ⟨r, 0, none⟩)) false ty).run P w = .ok (.tuple #[.bool false]) w := by
  rcases run_next_at (P := P) w ty r b c c #[] #[] clock hr hb (by simp) (Nat.le_refl _) with ⟨_, h⟩ | ⟨e, he, _⟩
  · exact h
  · simp [leftOf] at he

theorem lk_nil_of : ∀ l : List (Int × Value), (∀ n, lk n l = none) → l = []
  | [], _ => rfl
  | p :: r, h => by
    have := h p.1
    simp [lk] at this

theorem insertion0 (w : World) (v : Value) :
    Calls Tryd.prog 51 #[.slice none 0 0, .int .i64 0, .int .i64 0, v] w fun e w' => e = .returned (.tuple #[]) ∧ w' = w := by
  go_enter Tryd.func51, Tryd.ntmps51
  go_wp2
  go_loopw [8] (fun v wr => v = .int .i64 1 ∧ wr = w) (fun _ _ => 0)
  case atStart => exact ⟨rfl, rfl⟩
  case round =>
    obtain ⟨rfl, rfl⟩ := hrel
    go_wp2
    go_end0
    exact ⟨rfl, rfl⟩

set_option maxRecDepth 100000 in
theorem pdq0 (w : World) (n : Int) (v : Value) :
    Calls Tryd.prog 36 #[.slice none 0 0, .int .i64 0, .int .i64 0, .int .i64 n, v] w fun e w' => e = .returned (.tuple #[]) ∧ w' = w := by
  go_enter Tryd.func36, Tryd.ntmps36
  go_wp2
  go_loopw [1, 2, 3, 10, 11] (fun a b c d e wr => a = .int .i64 0 ∧ b = .int .i64 0 ∧ c = .int .i64 n ∧ d = .bool true ∧ e = .bool true ∧ wr = w) (fun _ _ _ _ _ _ => 0)
  case atStart => exact ⟨rfl, rfl, rfl, rfl, rfl, rfl⟩
  case round =>
    obtain ⟨rfl, rfl, rfl, rfl, rfl, rfl⟩ := hrel
    go_wp2_with fail
    refine (insertion0 _ v).mono ?_
    rintro e w' ⟨rfl, rfl⟩
    go_wp2
    refine bodyPost_ret (v := .tuple #[]) (results_none rfl _ _ _) rfl ?_
    exact ⟨rfl, rfl⟩

theorem sortFunc0 (w : World) (v : Value) :
    Calls Tryd.prog 22 #[.slice none 0 0, v] w fun e w' => e = .returned (.tuple #[]) ∧ w' = w := by
  have HL := Lib.hid (fun W : World => Tryd.bits_Len 0 W (by decide) (by decide))
  go_enter Tryd.func22, Tryd.ntmps22
  go_wp2_with fail
  refine (HL.out _).mono ?_
  rintro e w' ⟨rfl, rfl⟩
  go_wp2_with fail
  refine (pdq0 _ _ v).mono ?_
  rintro e w' ⟨rfl, rfl⟩
  go_wp2
  go_end0
  exact ⟨rfl, rfl⟩

set_option maxRecDepth 100000 in
theorem serial_none (l : List Ev) (hsm : Small l) (w : World) (A : Option Addr) (c : Nat) (hc : l.length ≤ c) (C1 : kEv.C w A l.length l)
    (h0 : runJ js0 0 l = none) (hv : ∀ n, (l.foldl learnJ js0).vars n = none) :
    Calls Tryd.prog 13 #[.slice A l.length c] w fun e w' => e = .returned (.tuple #[.slice none 0 0, .int .i64 0]) ∧ Below w.heap.size w w' := by
  have HJ := Lib.hid (judged_calls l hsm w A c hc C1)
  have HV := Lib.hid (And.intro h0 hv)
  clear hsm C1 hc h0 hv
  go_enter Tryd.func13, Tryd.ntmps13
  go_wp2_with fail
  refine HJ.out.mono ?_
  intro e w1 hp
  obtain ⟨hB, hm⟩ := hp
  rw [HV.out.1] at hm
  obtain ⟨rfl, hJ⟩ := hm
  have hu := Tryd.underlying57
  have hcell := (hJ.facts).2.2.2.2.2.2.2
  have hempty : ∃ clock, w1.heap[w.heap.size + 2]? = some (.map #[] clock) := by
    obtain ⟨lv, v1, v2⟩ := hJ.vars
    have : lv = [] := lk_nil_of lv fun n => by
      have := v2 n
      rw [HV.out.2 n] at this
      cases hk : lk n lv with
      | none => rfl
      | some v => rw [hk] at this; exact this.elim
    subst this
    exact IM.nil_block v1
  obtain ⟨clock, hb⟩ := hempty
  have hrg := run_range0 (P := Tryd.prog) hb Tryd.underlying55
  have hnx := fun ty => run_next0 (P := Tryd.prog) (w := w1.alloc (.mapIter (some (w.heap.size + 2)) clock #[] clock)) (ty := ty) (r := w1.heap.size) (c := clock) (MapKept.heap_alloc w1 _).1 ((Below.heap_alloc w1 (.mapIter (some (w.heap.size + 2)) clock #[] clock) _ (Array.getElem?_eq_some_iff.1 hb).1).trans hb)
  have HB := Aside0.mk (below_alloc hB (.mapIter (some (w.heap.size + 2)) clock #[] clock))
  clear hJ hb hB
  go_wp2
  go_loopw [8] (fun a wr => a = .slice none 0 0 ∧ wr = w1.alloc (.mapIter (some (w.heap.size + 2)) clock #[] clock)) (fun _ _ => 0)
  case atStart => exact ⟨rfl, rfl⟩
  case round =>
    obtain ⟨rfl, rfl⟩ := hrel
    go_wp2_with fail
    refine (sortFunc0 _ _).mono ?_
    rintro e w' ⟨rfl, rfl⟩
    go_wp2
    go_ret2
    exact ⟨rfl, HB.out⟩
end Go.Proofs.YtkfbhfmddmhiaaaDoor.TJ
