/- The accesses that a sound trace without commits leaves: the Go function Serial answers none of them, with no error. Conditions: the trace lies in memory, is not too long, breaks no rule and leaves no variable. The few simple results that the laws look at: the Go function awake answers true. Conditions: none. The plain facts behind TraceBegins: few ends and bounds a trace, mod stays in its range, what comes before the first broken rule is sound. Conditions: none. -/
import Derived.Test.YtkfbhfmddmhiaaaGreatDoorJ7
import Derived.Test.YtkfbhfmddmhiaaaGreatDoorShh
import Derived.Maps.RangeRun
import Derived.Test.YtkfbhfmddmhiaaaGreatDoorT1
import Derived.Test.YtkfbhfmddmhiaaaGreatDoorPTx
import Derived.IntWalk
namespace Go.Proofs.YtkfbhfmddmhiaaaGreatDoor.TJ
open Go.RowKit Go.Proofs.YtkfbhfmddmhiaaaGreatDoorW.PrintWords Go.Proofs.YtkfbhfmddmhiaaaGreatDoor.PT Go.Proofs.YtkfbhfmddmhiaaaGreatDoor.IMaps
set_option linter.unusedVariables false
set_option linter.unusedSimpArgs false

theorem IM.nil_block {w : World} {b : Nat} (h : IM w b []) : ∃ clock, w.heap[b]? = some (.map #[] clock) := by
  obtain ⟨es, clock, hb, _, he⟩ := h
  have : es.toList = [] := List.map_eq_nil_iff.1 he
  have : es = #[] := by simpa using this
  subst this
  exact ⟨clock, hb⟩

theorem run_range0 {P : Program} {w : World} {b clock : Nat} {t k e : TypeId} (hb : w.heap[b]? = some (.map #[] clock)) (ht : P.underlying t = some (.map k e)) :
    (Instr.range t (.map (some b))).run P w = .ok (.pointer (some ⟨w.heap.size, 0, none⟩)) (w.alloc (.mapIter (some b) clock #[] clock)) := by
  simp [Instr.range, run_underlying ht, MapKept.run_getObj_map hb, Result.andThen]

theorem run_next0 {P : Program} {w : World} {b r c clock : Nat} {ty : TypeId} (hr : w.heap[r]? = some (.mapIter (some b) c #[] c)) (hb : w.heap[b]? = some (.map #[] clock)) :
    (Instr.next (.pointer (some ⟨r, 0, none⟩)) false ty).run P w = .ok (.tuple #[.bool false]) w := by
  rcases run_next_at (P := P) w ty r b c c #[] #[] clock hr hb (by simp) (Nat.le_refl _) with ⟨_, h⟩ | ⟨e, he, _⟩
  · exact h
  · simp [leftOf] at he

theorem lk_nil_of : ∀ l : List (Int × Value), (∀ n, lk n l = none) → l = []
  | [], _ => rfl
  | p :: r, h => by
    have := h p.1
    simp [lk] at this

theorem insertion0 (w : World) (v : Value) :
    Calls Tryz.prog 78 #[.slice none 0 0, .int .i64 0, .int .i64 0, v] w fun e w' => e = .returned (.tuple #[]) ∧ w' = w := by
  go_enter Tryz.func78, Tryz.ntmps78
  go_wp2
  go_loopw [8] (fun v wr => v = .int .i64 1 ∧ wr = w) (fun _ _ => 0)
  case atStart => exact ⟨rfl, rfl⟩
  case round =>
    obtain ⟨rfl, rfl⟩ := hrel
    go_wp2
    go_end0
    exact ⟨rfl, rfl⟩

set_option maxRecDepth 100000 in
theorem pdq0 (w : World) (n : Int) (v : Value) :
    Calls Tryz.prog 61 #[.slice none 0 0, .int .i64 0, .int .i64 0, .int .i64 n, v] w fun e w' => e = .returned (.tuple #[]) ∧ w' = w := by
  go_enter Tryz.func61, Tryz.ntmps61
  go_wp2
  go_loopw [1, 2, 3, 10, 11] (fun a b c d e wr => a = .int .i64 0 ∧ b = .int .i64 0 ∧ c = .int .i64 n ∧ d = .bool true ∧ e = .bool true ∧ wr = w) (fun _ _ _ _ _ _ => 0)
  case atStart => exact ⟨rfl, rfl, rfl, rfl, rfl, rfl⟩
  case round =>
    obtain ⟨rfl, rfl, rfl, rfl, rfl, rfl⟩ := hrel
    go_wp2_with fail
    refine (insertion0 _ v).mono ?_
    rintro e w' ⟨rfl, rfl⟩
    go_wp2
    refine bodyPost_ret (v := .tuple #[]) (results_none rfl _ _ _) rfl ?_
    exact ⟨rfl, rfl⟩

theorem sortFunc0 (w : World) (v : Value) :
    Calls Tryz.prog 40 #[.slice none 0 0, v] w fun e w' => e = .returned (.tuple #[]) ∧ w' = w := by
  have HL := Lib.hid (fun W : World => Tryz.bits_Len 0 W (by decide) (by decide))
  go_enter Tryz.func40, Tryz.ntmps40
  go_wp2_with fail
  refine (HL.out _).mono ?_
  rintro e w' ⟨rfl, rfl⟩
  go_wp2_with fail
  refine (pdq0 _ _ v).mono ?_
  rintro e w' ⟨rfl, rfl⟩
  go_wp2
  go_end0
  exact ⟨rfl, rfl⟩

set_option maxRecDepth 100000 in
theorem serial_none (l : List Ev) (hsm : Small l) (w : World) (A : Option Addr) (c : Nat) (hc : l.length ≤ c) (C1 : kEv.C w A l.length l)
    (h0 : runJ js0 0 l = none) (hv : ∀ n, (l.foldl learnJ js0).vars n = none) :
    Calls Tryz.prog 19 #[.slice A l.length c] w fun e w' => e = .returned (.tuple #[.slice none 0 0, .int .i64 0]) ∧ Below w.heap.size w w' := by
  have HJ := Lib.hid (judged_calls l hsm w A c hc C1)
  have HV := Lib.hid (And.intro h0 hv)
  clear hsm C1 hc h0 hv
  go_enter Tryz.func19, Tryz.ntmps19
  go_wp2_with fail
  refine HJ.out.mono ?_
  intro e w1 hp
  obtain ⟨hB, hm⟩ := hp
  rw [HV.out.1] at hm
  obtain ⟨rfl, hJ⟩ := hm
  have hu := Tryz.underlying76
  have hcell := (hJ.facts).2.2.2.2.2.2.2
  have hempty : ∃ clock, w1.heap[w.heap.size + 2]? = some (.map #[] clock) := by
    obtain ⟨lv, v1, v2⟩ := hJ.vars
    have : lv = [] := lk_nil_of lv fun n => by
      have := v2 n
      rw [HV.out.2 n] at this
      cases hk : lk n lv with
      | none => rfl
      | some v => rw [hk] at this; exact this.elim
    subst this
    exact IM.nil_block v1
  obtain ⟨clock, hb⟩ := hempty
  have hrg := run_range0 (P := Tryz.prog) hb Tryz.underlying74
  have hnx := fun ty => run_next0 (P := Tryz.prog) (w := w1.alloc (.mapIter (some (w.heap.size + 2)) clock #[] clock)) (ty := ty) (r := w1.heap.size) (c := clock) (MapKept.heap_alloc w1 _).1 ((Below.heap_alloc w1 (.mapIter (some (w.heap.size + 2)) clock #[] clock) _ (Array.getElem?_eq_some_iff.1 hb).1).trans hb)
  have HB := Aside0.mk (below_alloc hB (.mapIter (some (w.heap.size + 2)) clock #[] clock))
  clear hJ hb hB
  go_wp2
  go_loopw [8] (fun a wr => a = .slice none 0 0 ∧ wr = w1.alloc (.mapIter (some (w.heap.size + 2)) clock #[] clock)) (fun _ _ => 0)
  case atStart => exact ⟨rfl, rfl⟩
  case round =>
    obtain ⟨rfl, rfl⟩ := hrel
    go_wp2_with fail
    refine (sortFunc0 _ _).mono ?_
    rintro e w' ⟨rfl, rfl⟩
    go_wp2
    go_ret2
    exact ⟨rfl, HB.out⟩
end Go.Proofs.YtkfbhfmddmhiaaaGreatDoor.TJ
namespace Go.Proofs.YtkfbhfmddmhiaaaGreatDoor.TJ
open Go.RowKit Go.Proofs.YtkfbhfmddmhiaaaGreatDoorW.PrintWords Go.Proofs.YtkfbhfmddmhiaaaGreatDoorW.PrintLast Go.Proofs.YtkfbhfmddmhiaaaGreatDoor.PT Go.Proofs.YtkfbhfmddmhiaaaGreatDoor.IMaps
set_option linter.unusedVariables false
set_option linter.unusedSimpArgs false

def smp : List Ev := [⟨3, 0, 1, 5, 0, [], []⟩, ⟨3, 0, 10, 0, 0, [], []⟩]
def smp3 : Ev := ⟨4, 0, 1, 0, 0, [], []⟩
def acc0 : UInt8 → Ac → List UInt8 := fun _ _ => []

theorem small_smp : Small smp := ⟨by decide, by
  intro x hx
  simp only [smp, List.mem_cons, List.not_mem_nil, or_false] at hx
  rcases hx with rfl | rfl <;> exact ⟨by decide, by decide⟩⟩
theorem small_smp3 : Small (smp ++ [smp3]) := ⟨by decide, by
  intro x hx
  simp only [smp, smp3, List.cons_append, List.nil_append, List.mem_cons, List.not_mem_nil, or_false] at hx
  rcases hx with rfl | rfl | rfl <;> exact ⟨by decide, by decide⟩⟩
theorem run_smp : runJ js0 0 smp = none := by decide
theorem run_smp3 : runJ js0 0 (smp ++ [smp3]) = some (2, 3) := by decide
theorem vars_smp : ∀ n, (smp.foldl learnJ js0).vars n = none := fun n => rfl

theorem dec1 (u : Nat) (h : u < 10) : Lib.decDigits u = [UInt8.ofNat (48 + u)] := by rw [Lib.decDigits, dif_pos h]
theorem itoa0 : Lib.itoa 0 = [48] := by rw [Lib.itoa, if_neg (by decide)]; exact dec1 0 (by decide)
theorem itoa1 : Lib.itoa 1 = [49] := by rw [Lib.itoa, if_neg (by decide)]; exact dec1 1 (by decide)
theorem itoa3 : Lib.itoa 3 = [51] := by rw [Lib.itoa, if_neg (by decide)]; exact dec1 3 (by decide)
theorem itoa5 : Lib.itoa 5 = [53] := by rw [Lib.itoa, if_neg (by decide)]; exact dec1 5 (by decide)
theorem itoa10 : Lib.itoa 10 = [49, 48] := by
  rw [Lib.itoa, if_neg (by decide), show (10 : Int).toNat = 10 from rfl, Lib.decDigits, dif_neg (by decide)]
  rw [show 10 / 10 = 1 from rfl, dec1 1 (by decide)]
  rfl

theorem text_smp : textT acc0 smp = [51, 32, 48, 32, 49, 32, 53, 32, 48, 10, 51, 32, 48, 32, 49, 48, 32, 48, 32, 48, 10] := by
  simp only [textT, smp, evT, headT, List.map_cons, List.map_nil, List.flatten_cons, List.flatten_nil, itoa0, itoa1, itoa3, itoa5, itoa10]
  rfl

theorem itoaAt_small (w : World) (i : Nat) (hi : i < 100) (hl : (Lib.itoa i).length ≤ 100) : ItoaAt w (i : Int) := by
  refine ⟨hl, fun W hW => ?_⟩
  refine (Tryz.strconv_Itoa_small i hi W).mono ?_
  rintro e w' ⟨rfl, rfl⟩
  refine ⟨?_, Below.refl _ _⟩
  rw [Lib.itoa, if_neg (by omega), Int.toNat_natCast]

theorem itoa_smp (w : World) : ∀ x ∈ smp, ItoaAt w x.f0 ∧ ItoaAt w x.f1 ∧ ItoaAt w x.f2 ∧ ItoaAt w x.f3 ∧ ItoaAt w x.f4 := by
  have a0 := itoaAt_small w 0 (by decide) (by rw [show ((0 : Nat) : Int) = 0 from rfl, itoa0]; decide)
  have a1 := itoaAt_small w 1 (by decide) (by rw [show ((1 : Nat) : Int) = 1 from rfl, itoa1]; decide)
  have a3 := itoaAt_small w 3 (by decide) (by rw [show ((3 : Nat) : Int) = 3 from rfl, itoa3]; decide)
  have a5 := itoaAt_small w 5 (by decide) (by rw [show ((5 : Nat) : Int) = 5 from rfl, itoa5]; decide)
  have a10 := itoaAt_small w 10 (by decide) (by rw [show ((10 : Nat) : Int) = 10 from rfl, itoa10]; decide)
  intro x hx
  simp only [smp, List.mem_cons, List.not_mem_nil, or_false] at hx
  rcases hx with rfl | rfl
  · exact ⟨a3, a0, a1, a5, a0⟩
  · exact ⟨a3, a0, a10, a0, a0⟩

theorem acc_smp (w : World) : ∀ x ∈ smp, (∀ a ∈ x.f5, AccAt w acc0 a) ∧ ∀ a ∈ x.f6, AccAt w acc0 a := by
  intro x hx
  simp only [smp, List.mem_cons, List.not_mem_nil, or_false] at hx
  rcases hx with rfl | rfl <;> exact ⟨by simp, by simp⟩

def SmpPost (w : World) (e : Ending) (w' : World) : Prop := ∃ v, e = .returned v ∧ Kd.R kEv 44 w' w.heap.size (fun _ => True) v smp ∧ Below w.heap.size w w'
theorem smp_calls (w : World) : Calls Tryz.prog 26 #[] w (SmpPost w) := damasklaw27_sample.calls smp w rfl

def SerPost (w : World) (e : Ending) (w' : World) : Prop := e = .returned (.tuple #[.slice none 0 0, .int .i64 0]) ∧ Below w.heap.size w w'
theorem awake_breaks (w : World) (v : Value) (b : Nat) (h : Kd.R kEv 44 w b (fun _ => True) v smp) :
    Calls Tryz.prog 17 #[v] w fun e w' => e = .returned (.tuple #[.int .i64 0, .int .i64 0, .bool false]) ∧ Below w.heap.size w w' := by
  obtain ⟨A, c, rfl, hl, hC⟩ := Kd.R_reads h
  have := breaks_calls smp small_smp w A c hl hC
  rw [run_smp] at this
  exact this
theorem awake_breaks3 (w : World) (v : Value) (b : Nat) (h : Kd.R kEv 44 w b (fun _ => True) v (smp ++ [smp3])) :
    Calls Tryz.prog 17 #[v] w fun e w' => e = .returned (.tuple #[.int .i64 2, .int .i64 3, .bool true]) ∧ Below w.heap.size w w' := by
  obtain ⟨A, c, rfl, hl, hC⟩ := Kd.R_reads h
  have := breaks_calls (smp ++ [smp3]) small_smp3 w A c hl hC
  rw [run_smp3] at this
  exact this
theorem awake_serial (w : World) (v : Value) (b : Nat) (h : Kd.R kEv 44 w b (fun _ => True) v smp) :
    Calls Tryz.prog 19 #[v] w (SerPost w) := by
  obtain ⟨A, c, rfl, hl, hC⟩ := Kd.R_reads h
  exact serial_none smp small_smp w A c hl hC run_smp vars_smp
theorem awake_text (w : World) (v : Value) (b : Nat) (h : Kd.R kEv 44 w b (fun _ => True) v smp) :
    Calls Tryz.prog 8 #[v] w fun e w' => e = .returned (.string ⟨#[51, 32, 48, 32, 49, 32, 53, 32, 48, 10, 51, 32, 48, 32, 49, 48, 32, 48, 32, 48, 10]⟩) ∧ Below w.heap.size w w' := by
  obtain ⟨A, c, rfl, hl, hC⟩ := Kd.R_reads h
  have := text_calls acc0 smp (by decide) w A c hl hC (itoa_smp w) (acc_smp w) (by rw [text_smp]; decide)
  rw [text_smp] at this
  exact this
theorem awake_output (w : World) (v : Value) (b : Nat) (h : Kd.R kEv 44 w b (fun _ => True) v smp) :
    Calls Tryz.prog 12 #[v] w fun e w' => (∃ A c, e = .returned (.slice A 1 c)) ∧ Below w.heap.size w w' := by
  obtain ⟨A, c, rfl, hl, hC⟩ := Kd.R_reads h
  refine (trace_Output.calls 4 A c smp [5] w hC hl (by kernel_rfl)).mono ?_
  rintro e w' ⟨v0, rfl, hR, hb⟩
  obtain ⟨A1, c1, rfl, _⟩ := Kd.R_reads hR
  exact ⟨⟨A1, c1, rfl⟩, hb⟩

set_option maxRecDepth 100000 in
set_option maxHeartbeats 4000000 in
theorem awake_calls (w : World) : Calls Tryz.prog 6 #[] w fun e w' => e = .returned (.bool true) ∧ Below w.heap.size w w' := by
  have HB := Aside0.mk (Below.refl w.heap.size w)
  go_enter Tryz.func6, Tryz.ntmps6
  go_wp2_with fail
  refine (smp_calls _).mono ?_
  rintro e w1 ⟨v1, rfl, hR1, hb1⟩
  have R1 := Aside0.mk hR1
  have HB1 := Aside0.mk hb1
  clear hR1 hb1 HB
  go_wp2_with fail
  refine (awake_breaks _ _ _ R1.out).mono ?_
  rintro e w2 ⟨rfl, hb2⟩
  have HB2 := Aside0.mk (below_step HB1.out hb2)
  clear hb2 HB1 R1
  go_wp2_with fail
  refine (smp_calls _).mono ?_
  rintro e w3 ⟨v3, rfl, hR3, hb3⟩
  have R3 := Aside0.mk hR3
  have HB3 := Aside0.mk (below_step HB2.out hb3)
  have HS3 := Aside0.mk hb3.size
  have R3l := Aside0.mk (Kd.R_lower hR3 HB2.out.size)
  clear hR3 hb3 HB2
  go_wp2_with (at_builtin; refine Kd.R_append kEv (w0 := w) w.heap.size rfl _ _ 22 44 _ _ rfl Tryz.underlying22 info44 rfl (by decide) (by omega) v3 smp smp3 [.int .i64 4, .int .i64 0, .int .i64 1, .int .i64 0, .int .i64 0, .slice none 0 0, .slice none 0 0] (fun _ => True) (fun _ => False) rfl rfl ?aP (fun _ h => h.elim) (fun _ _ => trivial) R3l.out HB3.out HB3.out.size (by decide) ?_; (case aP => exact k44_mkM _ _ _ smp3 (Kd.R_nil _ _ _ _ _) (Kd.R_nil _ _ _ _ _)); intro v4 w4 hR4 hb4 _ _)
  have R4 := Aside0.mk hR4
  have HB4 := Aside0.mk hb4
  clear hR4 hb4 HB3 HS3 R3 R3l
  go_wp2_with fail
  refine (awake_breaks3 _ _ _ R4.out).mono ?_
  rintro e w5 ⟨rfl, hb5⟩
  have HB5 := Aside0.mk (below_step HB4.out hb5)
  clear hb5 HB4 R4
  go_wp2_with fail
  refine (smp_calls _).mono ?_
  rintro e w6 ⟨v6, rfl, hR6, hb6⟩
  have R6 := Aside0.mk hR6
  have HB6 := Aside0.mk (below_step HB5.out hb6)
  clear hR6 hb6 HB5
  go_wp2_with fail
  refine (awake_serial _ _ _ R6.out).mono ?_
  rintro e w7 ⟨rfl, hb7⟩
  have HB7 := Aside0.mk (below_step HB6.out hb7)
  clear hb7 HB6 R6
  go_wp2_with fail
  refine (smp_calls _).mono ?_
  rintro e w8 ⟨v8, rfl, hR8, hb8⟩
  have R8 := Aside0.mk hR8
  have HB8 := Aside0.mk (below_step HB7.out hb8)
  clear hR8 hb8 HB7
  go_wp2_with fail
  refine (awake_text _ _ _ R8.out).mono ?_
  rintro e w9 ⟨rfl, hb9⟩
  have HB9 := Aside0.mk (below_step HB8.out hb9)
  clear hb9 HB8 R8
  go_wp2_with fail
  refine (smp_calls _).mono ?_
  rintro e wa ⟨va, rfl, hRa, hba⟩
  have Ra := Aside0.mk hRa
  have HBa := Aside0.mk (below_step HB9.out hba)
  clear hRa hba HB9
  go_wp2_with fail
  refine (awake_output _ _ _ Ra.out).mono ?_
  rintro e wb ⟨⟨Ab, cb, rfl⟩, hbb⟩
  have HBb := Aside0.mk (below_step HBa.out hbb)
  clear hbb HBa Ra
  go_wp2
  go_ret
  exact ⟨rfl, HBb.out⟩
end Go.Proofs.YtkfbhfmddmhiaaaGreatDoor.TJ
namespace Go.Proofs.YtkfbhfmddmhiaaaGreatDoor.TJ
open Go.RowKit Go.Proofs.YtkfbhfmddmhiaaaGreatDoorW.PrintWords Go.Proofs.YtkfbhfmddmhiaaaGreatDoorW.PrintLast Go.Proofs.YtkfbhfmddmhiaaaGreatDoor.PT Go.Proofs.YtkfbhfmddmhiaaaGreatDoor.IMaps
set_option linter.unusedVariables false
set_option linter.unusedSimpArgs false

def WeightOk (x : Vl) (most : Int) (deep : Nat) : Prop := ∃ r, Go.Proofs.YtkfbhfmddmhiaaaGreatDoorW.PrintWords.Ev (fun k => damaskref17_weight.f k x.f0 x.f1 x.f2 x.f3 most (deep : Int)) r ∧ 1 ≤ r ∧ r ≤ most + 1

theorem weight_loop (deep : Nat) (hd : deep < 60) (hin : ∀ (x : Vl) (most : Int), 0 ≤ most → most ≤ 1000 → WeightOk x most deep) (most : Int) (hm0 : 0 ≤ most) (hm : most ≤ 1000) (c0 c1 : Int) (c2 : ByteArray) (c3 : List Vl) :
    ∀ (m : Nat) (n i : Int), (most + 1 - n).toNat ≤ m → 1 ≤ n → n ≤ most + 1 → 0 ≤ i → i ≤ n → ∃ r, Go.Proofs.YtkfbhfmddmhiaaaGreatDoorW.PrintWords.Ev (fun k => damaskref17_weight.l0 k most ((deep + 1 : Nat) : Int) n i c0 c1 c2 c3) r ∧ 1 ≤ r ∧ r ≤ most + 1 := by
  intro m
  induction m with
  | zero =>
    intro n i hmn h1 h2 h3 h4
    refine ⟨n, ?_, h1, h2⟩
    refine Ev.step (f := fun _ => some n) (fun k => ?_) (Ev.now _)
    simp only [damaskref17_weight.l0]
    by_cases h : i < (c3.length : Int)
    · rw [if_pos h, if_neg (by omega)]
    · rw [if_neg h]
  | succ m ih =>
    intro n i hmn h1 h2 h3 h4
    by_cases h : i < (c3.length : Int)
    · by_cases hn : n ≤ most
      · obtain ⟨t, ht, t1, t2⟩ := hin (rd_T49 c3 i) (most - n) (by omega) (by omega)
        obtain ⟨r, hr, r1, r2⟩ := ih (n + t) (i + 1) (by omega) (by omega) (by omega) (by omega) (by omega)
        refine ⟨r, ?_, r1, r2⟩
        refine Ev.step (fun k => by simp only [damaskref17_weight.l0]; rw [if_pos h, if_pos hn, if_pos h3]) ?_
        refine Ev.bind (a := t) ?_ ?_
        · have e1 : wrap64 (most - n) = most - n := IntWalk.wrap64_in _ (by omega)
          have e2 : wrap64 (((deep + 1 : Nat) : Int) - 1) = (deep : Int) := by rw [IntWalk.wrap64_in _ (by omega)]; omega
          simp only [e1, e2]
          exact ht
        · have e1 : wrap64 (n + t) = n + t := IntWalk.wrap64_in _ (by omega)
          have e2 : wrap64 (i + 1) = i + 1 := IntWalk.wrap64_in _ (by omega)
          simp only [e1, e2]
          exact hr
      · refine ⟨n, ?_, h1, h2⟩
        refine Ev.step (f := fun _ => some n) (fun k => ?_) (Ev.now _)
        simp only [damaskref17_weight.l0]
        rw [if_pos h, if_neg hn]
    · refine ⟨n, ?_, h1, h2⟩
      refine Ev.step (f := fun _ => some n) (fun k => ?_) (Ev.now _)
      simp only [damaskref17_weight.l0]
      rw [if_neg h]

theorem weight_ok : ∀ (deep : Nat), deep ≤ 60 → ∀ (x : Vl) (most : Int), 0 ≤ most → most ≤ 1000 → WeightOk x most deep := by
  intro deep
  induction deep with
  | zero =>
    intro _ x most h0 h1
    refine ⟨most + 1, Ev.step (f := fun _ => some (most + 1)) (fun k => ?_) (Ev.now _), by omega, by omega⟩
    simp only [damaskref17_weight.f]
    rw [if_pos (by rfl), IntWalk.wrap64_in _ (by omega)]
  | succ deep ih =>
    intro hd x most h0 h1
    obtain ⟨r, hr, r1, r2⟩ := weight_loop deep (by omega) (fun x most => ih (by omega) x most) most h0 h1 x.f0 x.f1 x.f2 x.f3 most.toNat 1 0 (by omega) (by omega) (by omega) (by omega) (by omega)
    refine ⟨r, Ev.step (fun k => ?_) hr, r1, r2⟩
    simp only [damaskref17_weight.f]
    rw [if_neg (by omega)]

theorem Weight_ok (x : Vl) : ∃ r, Go.Proofs.YtkfbhfmddmhiaaaGreatDoorW.PrintWords.Ev (fun k => damaskref17_Weight.f k x.f0 x.f1 x.f2 x.f3 1000) r ∧ 1 ≤ r ∧ r ≤ 1001 := by
  obtain ⟨r, hr, r1, r2⟩ := weight_ok 60 (by omega) x 1000 (by omega) (by omega)
  refine ⟨r, ?_, r1, by omega⟩
  refine Ev.congr (f := fun k => (damaskref17_weight.f k x.f0 x.f1 x.f2 x.f3 1000 60).bind fun t => some t) (fun k => rfl) ?_
  exact Ev.bind hr (Ev.now r)

def FewFrom (l : List Ev) (i : Int) : Prop := ∀ j : Nat, i ≤ (j : Int) → j < l.length → (rd_T44 l (j : Int)).f5.length ≤ 3000 ∧ (rd_T44 l (j : Int)).f6.length ≤ 3000
def FewSays (l : List Ev) (n i : Int) (r : Bool) : Prop := r = true → l.length ≤ 400 ∧ n ≤ 3000 ∧ FewFrom l i
def Few0 (l : List Ev) (n i : Int) : Prop := ∃ r, Go.Proofs.YtkfbhfmddmhiaaaGreatDoorW.PrintWords.Ev (fun k => damasklaw27_few.l0 k l n i) r ∧ FewSays l n i r

theorem few_end (l : List Ev) (n i : Int) (hi : (l.length : Int) ≤ i ∨ 3000 < n) (h0 : 0 ≤ i) : Few0 l n i := by
  refine ⟨if (l.length : Int) ≤ 400 then decide (n ≤ 3000) else false, ?_, ?_⟩
  · refine Ev.step (f := fun k => damasklaw27_few.j1 k l n i false) (fun k => ?_) (Ev.step (f := fun _ => some (if (l.length : Int) ≤ 400 then decide (n ≤ 3000) else false)) (fun k => ?_) (Ev.now _))
    · simp only [damasklaw27_few.l0]
      by_cases h : i < (l.length : Int)
      · rw [if_pos h, show decide (n ≤ 3000) = false from decide_eq_false (by omega)]
      · rw [if_neg h]
    · simp only [damasklaw27_few.j1]
      rw [if_neg (by decide)]
      by_cases h : (l.length : Int) ≤ 400
      · rw [if_pos h, if_pos h]
      · rw [if_neg h, if_neg h]
  · intro h
    by_cases hl : (l.length : Int) ≤ 400
    · rw [if_pos hl] at h
      have hn : n ≤ 3000 := of_decide_eq_true h
      refine ⟨by omega, hn, fun j hj hlt => ?_⟩
      omega
    · rw [if_neg hl] at h
      cases h

theorem few_l2 (l : List Ev) (m : Nat) (hin : ∀ n i : Int, (3001 - n).toNat ≤ m → 0 ≤ i → i ≤ n → n ≤ 5000 → Few0 l n i) (i : Int) (h0 : 0 ≤ i) (hil : i < (l.length : Int)) :
    ∀ (p : Nat) (n k : Int), (3001 - n).toNat ≤ p → (3001 - n).toNat ≤ m → 0 ≤ k → k ≤ n → i < n → n ≤ 5000 → ∃ r, Go.Proofs.YtkfbhfmddmhiaaaGreatDoorW.PrintWords.Ev (fun q => damasklaw27_few.l2 q l n i k) r ∧ (r = true → l.length ≤ 400 ∧ n ≤ 3000 ∧ ((rd_T44 l i).f6.length : Int) - k ≤ 3000 - n ∧ FewFrom l (i + 1)) := by
  intro p
  induction p with
  | zero =>
    intro n k hp hm hk0 hkn hin' hn5
    obtain ⟨r, hr, hs⟩ := hin n (i + 1) hm (by omega) (by omega) hn5
    refine ⟨r, Ev.step (fun q => ?_) hr, fun h => ?_⟩
    · simp only [damasklaw27_few.l2]
      rw [if_pos h0, if_pos hil, show wrap64 (i + 1) = i + 1 from IntWalk.wrap64_in _ (by omega)]
      by_cases hk : k < ((rd_T44 l i).f6.length : Int)
      · rw [if_pos hk, if_neg (by omega)]
      · rw [if_neg hk]
    · have := (hs h).2.1
      omega
  | succ p ih =>
    intro n k hp hm hk0 hkn hin' hn5
    by_cases hk : k < ((rd_T44 l i).f6.length : Int)
    · by_cases hn : n ≤ 3000
      · obtain ⟨t, ht, t1, t2⟩ := Weight_ok (rd_T51 ((rd_T44 l i).f6) k).f1
        obtain ⟨r, hr, hs⟩ := ih (n + 1 + t) (k + 1) (by omega) (by omega) (by omega) (by omega) (by omega) (by omega)
        refine ⟨r, Ev.step (fun q => by simp only [damasklaw27_few.l2]; rw [if_pos h0, if_pos hil, if_pos hk, if_pos hn, if_pos hk0]) (Ev.bind (a := t) ht ?_), fun h => ?_⟩
        · have e1 : wrap64 (wrap64 (n + 1) + t) = n + 1 + t := by rw [IntWalk.wrap64_in (n + 1) (by omega), IntWalk.wrap64_in _ (by omega)]
          have e2 : wrap64 (k + 1) = k + 1 := IntWalk.wrap64_in _ (by omega)
          simp only [e1, e2]
          exact hr
        · obtain ⟨s1, s2, s3, s4⟩ := hs h
          exact ⟨s1, hn, by omega, s4⟩
      · obtain ⟨r, hr, hs⟩ := hin n (i + 1) hm (by omega) (by omega) hn5
        refine ⟨r, Ev.step (fun q => ?_) hr, fun h => ?_⟩
        · simp only [damasklaw27_few.l2]
          rw [if_pos h0, if_pos hil, if_pos hk, if_neg hn, show wrap64 (i + 1) = i + 1 from IntWalk.wrap64_in _ (by omega)]
        · have := (hs h).2.1
          omega
    · obtain ⟨r, hr, hs⟩ := hin n (i + 1) hm (by omega) (by omega) hn5
      refine ⟨r, Ev.step (fun q => ?_) hr, fun h => ?_⟩
      · simp only [damasklaw27_few.l2]
        rw [if_pos h0, if_pos hil, if_neg hk, show wrap64 (i + 1) = i + 1 from IntWalk.wrap64_in _ (by omega)]
      · obtain ⟨s1, s2, s3⟩ := hs h
        exact ⟨s1, s2, by omega, s3⟩

theorem few_l1 (l : List Ev) (m : Nat) (hin : ∀ n i : Int, (3001 - n).toNat ≤ m → 0 ≤ i → i ≤ n → n ≤ 5000 → Few0 l n i) (i : Int) (h0 : 0 ≤ i) (hil : i < (l.length : Int)) :
    ∀ (p : Nat) (n k : Int), (3001 - n).toNat ≤ p → (3001 - n).toNat ≤ m → 0 ≤ k → k ≤ n → i < n → n ≤ 5000 → ∃ r, Go.Proofs.YtkfbhfmddmhiaaaGreatDoorW.PrintWords.Ev (fun q => damasklaw27_few.l1 q l n i k) r ∧ (r = true → l.length ≤ 400 ∧ n ≤ 3000 ∧ ((rd_T44 l i).f5.length : Int) - k ≤ 3000 - n ∧ ((rd_T44 l i).f6.length : Int) ≤ 3000 ∧ FewFrom l (i + 1)) := by
  have fin : ∀ n : Int, (3001 - n).toNat ≤ m → i < n → n ≤ 5000 → ∃ r, Go.Proofs.YtkfbhfmddmhiaaaGreatDoorW.PrintWords.Ev (fun q => damasklaw27_few.j3 q l n i) r ∧ (r = true → l.length ≤ 400 ∧ n ≤ 3000 ∧ ((rd_T44 l i).f6.length : Int) ≤ 3000 ∧ FewFrom l (i + 1)) := by
    intro n hm hi5 hn5
    obtain ⟨r, hr, hs⟩ := few_l2 l m hin i h0 hil (3001 - n).toNat n 0 (Nat.le_refl _) hm (by omega) (by omega) hi5 hn5
    refine ⟨r, Ev.step (fun q => by simp only [damasklaw27_few.j3]) hr, fun h => ?_⟩
    obtain ⟨s1, s2, s3, s4⟩ := hs h
    exact ⟨s1, s2, by omega, s4⟩
  intro p
  induction p with
  | zero =>
    intro n k hp hm hk0 hkn hin' hn5
    obtain ⟨r, hr, hs⟩ := fin n hm hin' hn5
    refine ⟨r, Ev.step (fun q => ?_) hr, fun h => ?_⟩
    · simp only [damasklaw27_few.l1]
      rw [if_pos h0, if_pos hil]
      by_cases hk : k < ((rd_T44 l i).f5.length : Int)
      · rw [if_pos hk, if_neg (by omega)]
      · rw [if_neg hk]
    · have := (hs h).2.1
      omega
  | succ p ih =>
    intro n k hp hm hk0 hkn hin' hn5
    by_cases hk : k < ((rd_T44 l i).f5.length : Int)
    · by_cases hn : n ≤ 3000
      · obtain ⟨t, ht, t1, t2⟩ := Weight_ok (rd_T51 ((rd_T44 l i).f5) k).f1
        obtain ⟨r, hr, hs⟩ := ih (n + 1 + t) (k + 1) (by omega) (by omega) (by omega) (by omega) (by omega) (by omega)
        refine ⟨r, Ev.step (fun q => by simp only [damasklaw27_few.l1]; rw [if_pos h0, if_pos hil, if_pos hk, if_pos hn, if_pos hk0]) (Ev.bind (a := t) ht ?_), fun h => ?_⟩
        · have e1 : wrap64 (wrap64 (n + 1) + t) = n + 1 + t := by rw [IntWalk.wrap64_in (n + 1) (by omega), IntWalk.wrap64_in _ (by omega)]
          have e2 : wrap64 (k + 1) = k + 1 := IntWalk.wrap64_in _ (by omega)
          simp only [e1, e2]
          exact hr
        · obtain ⟨s1, s2, s3, s4, s5⟩ := hs h
          exact ⟨s1, hn, by omega, s4, s5⟩
      · obtain ⟨r, hr, hs⟩ := fin n hm hin' hn5
        refine ⟨r, Ev.step (fun q => ?_) hr, fun h => ?_⟩
        · simp only [damasklaw27_few.l1]
          rw [if_pos h0, if_pos hil, if_pos hk, if_neg hn]
        · have := (hs h).2.1
          omega
    · obtain ⟨r, hr, hs⟩ := fin n hm hin' hn5
      refine ⟨r, Ev.step (fun q => ?_) hr, fun h => ?_⟩
      · simp only [damasklaw27_few.l1]
        rw [if_pos h0, if_pos hil, if_neg hk]
      · obtain ⟨s1, s2, s3, s4⟩ := hs h
        exact ⟨s1, s2, by omega, s3, s4⟩

theorem few_l0 (l : List Ev) : ∀ (m : Nat) (n i : Int), (3001 - n).toNat ≤ m → 0 ≤ i → i ≤ n → n ≤ 5000 → Few0 l n i := by
  intro m
  induction m with
  | zero => intro n i hm h0 hi hn; exact few_end l n i (.inr (by omega)) h0
  | succ m ih =>
    intro n i hm h0 hi hn
    by_cases hil : i < (l.length : Int)
    · by_cases hn3 : n ≤ 3000
      · obtain ⟨r, hr, hs⟩ := few_l1 l m ih i h0 hil m (n + 1) 0 (by omega) (by omega) (by omega) (by omega) (by omega) (by omega)
        refine ⟨r, Ev.step (f := fun k => damasklaw27_few.j1 k l n i true) (fun k => ?_) (Ev.step (f := fun k => damasklaw27_few.l1 k l (n + 1) i 0) (fun k => ?_) hr), fun h => ?_⟩
        · simp only [damasklaw27_few.l0]
          rw [if_pos hil, show decide (n ≤ 3000) = true from decide_eq_true hn3]
        · simp only [damasklaw27_few.j1]
          rw [if_pos trivial, show wrap64 (n + 1) = n + 1 from IntWalk.wrap64_in _ (by omega)]
        · obtain ⟨s1, s2, s3, s4, s5⟩ := hs h
          refine ⟨s1, hn3, fun j hj hlt => ?_⟩
          by_cases hji : (j : Int) = i
          · subst hji
            exact ⟨by omega, by omega⟩
          · exact s5 j (by omega) hlt
      · exact few_end l n i (.inr (by omega)) h0
    · exact few_end l n i (.inl (by omega)) h0

theorem few_ok (l : List Ev) : ∃ k r, damasklaw27_few.f k l = some r ∧ (r = true → l.length ≤ 400 ∧ Small l) := by
  obtain ⟨r, hr, hs⟩ := few_l0 l 3001 0 0 (by omega) (by omega) (by omega) (by omega)
  obtain ⟨k, hk⟩ := Ev.rounds hr
  refine ⟨k, r, hk, fun h => ?_⟩
  obtain ⟨s1, _, s3⟩ := hs h
  refine ⟨s1, by omega, fun x hx => ?_⟩
  obtain ⟨j, hj, rfl⟩ := List.mem_iff_getElem.1 hx
  have := s3 j (by omega) hj
  have e2 : rd_T44 l (j : Int) = l[j] := by simp [rd_T44, List.getD_eq_getElem?_getD, List.getElem?_eq_getElem hj]
  rw [e2] at this
  exact ⟨by omega, by omega⟩

end Go.Proofs.YtkfbhfmddmhiaaaGreatDoor.TJ
