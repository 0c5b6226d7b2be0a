/- The few simple results that the laws look at: the Go function awake answers true. Conditions: none. -/
import Derived.Test.YtkfbhfmddmhiaaaDoorS
import Derived.Test.YtkfbhfmddmhiaaaDoorT1
import Derived.Test.YtkfbhfmddmhiaaaDoorPTx
namespace Go.Proofs.YtkfbhfmddmhiaaaDoor.TJ
open Go.RowKit Go.Proofs.YtkfbhfmddmhiaaaDoorW.PrintWords Go.Proofs.YtkfbhfmddmhiaaaDoorW.PrintLast Go.Proofs.YtkfbhfmddmhiaaaDoor.PT Go.Proofs.YtkfbhfmddmhiaaaDoor.IMaps
set_option linter.unusedVariables false
set_option linter.unusedSimpArgs false

def smp : List Ev := [⟨3, 0, 1, 5, 0, [], []⟩, ⟨3, 0, 10, 0, 0, [], []⟩]
def smp3 : Ev := ⟨4, 0, 1, 0, 0, [], []⟩
def acc0 : UInt8 → Ac → List UInt8 := fun _ _ => []

theorem small_smp : Small smp := ⟨by decide, by
  intro x hx
  simp only [smp, List.mem_cons, List.not_mem_nil, or_false] at hx
  rcases hx with rfl | rfl <;> exact ⟨by decide, by decide⟩⟩
theorem small_smp3 : Small (smp ++ [smp3]) := ⟨by decide, by
  intro x hx
  simp only [smp, smp3, List.cons_append, List.nil_append, List.mem_cons, List.not_mem_nil, or_false] at hx
  rcases hx with rfl | rfl | rfl <;> exact ⟨by decide, by decide⟩⟩
theorem run_smp : runJ js0 0 smp = none := by decide
theorem run_smp3 : runJ js0 0 (smp ++ [smp3]) = some (2, 3) := by decide
theorem vars_smp : ∀ n, (smp.foldl learnJ js0).vars n = none := fun n => rfl

theorem dec1 (u : Nat) (h : u < 10) : Lib.decDigits u = [UInt8.ofNat (48 + u)] := by rw [Lib.decDigits, dif_pos h]
theorem itoa0 : Lib.itoa 0 = [48] := by rw [Lib.itoa, if_neg (by decide)]; exact dec1 0 (by decide)
theorem itoa1 : Lib.itoa 1 = [49] := by rw [Lib.itoa, if_neg (by decide)]; exact dec1 1 (by decide)
theorem itoa3 : Lib.itoa 3 = [51] := by rw [Lib.itoa, if_neg (by decide)]; exact dec1 3 (by decide)
theorem itoa5 : Lib.itoa 5 = [53] := by rw [Lib.itoa, if_neg (by decide)]; exact dec1 5 (by decide)
theorem itoa10 : Lib.itoa 10 = [49, 48] := by
  rw [Lib.itoa, if_neg (by decide), show (10 : Int).toNat = 10 from rfl, Lib.decDigits, dif_neg (by decide)]
  rw [show 10 / 10 = 1 from rfl, dec1 1 (by decide)]
  rfl

theorem text_smp : textT acc0 smp = [51, 32, 48, 32, 49, 32, 53, 32, 48, 10, 51, 32, 48, 32, 49, 48, 32, 48, 32, 48, 10] := by
  simp only [textT, smp, evT, headT, List.map_cons, List.map_nil, List.flatten_cons, List.flatten_nil, itoa0, itoa1, itoa3, itoa5, itoa10]
  rfl

theorem itoaAt_small (w : World) (i : Nat) (hi : i < 100) (hl : (Lib.itoa i).length ≤ 100) : ItoaAt w (i : Int) := by
  refine ⟨hl, fun W hW => ?_⟩
  refine (Tryd.strconv_Itoa_small i hi W).mono ?_
  rintro e w' ⟨rfl, rfl⟩
  refine ⟨?_, Below.refl _ _⟩
  rw [Lib.itoa, if_neg (by omega), Int.toNat_natCast]

theorem itoa_smp (w : World) : ∀ x ∈ smp, ItoaAt w x.f0 ∧ ItoaAt w x.f1 ∧ ItoaAt w x.f2 ∧ ItoaAt w x.f3 ∧ ItoaAt w x.f4 := by
  have a0 := itoaAt_small w 0 (by decide) (by rw [show ((0 : Nat) : Int) = 0 from rfl, itoa0]; decide)
  have a1 := itoaAt_small w 1 (by decide) (by rw [show ((1 : Nat) : Int) = 1 from rfl, itoa1]; decide)
  have a3 := itoaAt_small w 3 (by decide) (by rw [show ((3 : Nat) : Int) = 3 from rfl, itoa3]; decide)
  have a5 := itoaAt_small w 5 (by decide) (by rw [show ((5 : Nat) : Int) = 5 from rfl, itoa5]; decide)
  have a10 := itoaAt_small w 10 (by decide) (by rw [show ((10 : Nat) : Int) = 10 from rfl, itoa10]; decide)
  intro x hx
  simp only [smp, List.mem_cons, List.not_mem_nil, or_false] at hx
  rcases hx with rfl | rfl
  · exact ⟨a3, a0, a1, a5, a0⟩
  · exact ⟨a3, a0, a10, a0, a0⟩

theorem acc_smp (w : World) : ∀ x ∈ smp, (∀ a ∈ x.f5, AccAt w acc0 a) ∧ ∀ a ∈ x.f6, AccAt w acc0 a := by
  intro x hx
  simp only [smp, List.mem_cons, List.not_mem_nil, or_false] at hx
  rcases hx with rfl | rfl <;> exact ⟨by simp, by simp⟩

/-- What sample leaves: the two events lie in memory. -/
def SmpPost (w : World) (e : Ending) (w' : World) : Prop := ∃ v, e = .returned v ∧ Kd.R kEv 32 w' w.heap.size (fun _ => True) v smp ∧ Below w.heap.size w w'
theorem smp_calls (w : World) : Calls Tryd.prog 12 #[] w (SmpPost w) := damasklaw27_sample.calls smp w rfl

def SerPost (w : World) (e : Ending) (w' : World) : Prop := e = .returned (.tuple #[.slice none 0 0, .int .i64 0]) ∧ Below w.heap.size w w'
theorem awake_breaks (w : World) (v : Value) (b : Nat) (h : Kd.R kEv 32 w b (fun _ => True) v smp) :
    Calls Tryd.prog 7 #[v] w fun e w' => e = .returned (.tuple #[.int .i64 0, .int .i64 0, .bool false]) ∧ Below w.heap.size w w' := by
  obtain ⟨A, c, rfl, hl, hC⟩ := Kd.R_reads h
  have := breaks_calls smp small_smp w A c hl hC
  rw [run_smp] at this
  exact this
theorem awake_breaks3 (w : World) (v : Value) (b : Nat) (h : Kd.R kEv 32 w b (fun _ => True) v (smp ++ [smp3])) :
    Calls Tryd.prog 7 #[v] w fun e w' => e = .returned (.tuple #[.int .i64 2, .int .i64 3, .bool true]) ∧ Below w.heap.size w w' := by
  obtain ⟨A, c, rfl, hl, hC⟩ := Kd.R_reads h
  have := breaks_calls (smp ++ [smp3]) small_smp3 w A c hl hC
  rw [run_smp3] at this
  exact this
theorem awake_serial (w : World) (v : Value) (b : Nat) (h : Kd.R kEv 32 w b (fun _ => True) v smp) :
    Calls Tryd.prog 13 #[v] w (SerPost w) := by
  obtain ⟨A, c, rfl, hl, hC⟩ := Kd.R_reads h
  exact serial_none smp small_smp w A c hl hC run_smp vars_smp
theorem awake_text (w : World) (v : Value) (b : Nat) (h : Kd.R kEv 32 w b (fun _ => True) v smp) :
    Calls Tryd.prog 14 #[v] w fun e w' => e = .returned (.string ⟨#[51, 32, 48, 32, 49, 32, 53, 32, 48, 10, 51, 32, 48, 32, 49, 48, 32, 48, 32, 48, 10]⟩) ∧ Below w.heap.size w w' := by
  obtain ⟨A, c, rfl, hl, hC⟩ := Kd.R_reads h
  have := text_calls acc0 smp (by decide) w A c hl hC (itoa_smp w) (acc_smp w) (by rw [text_smp]; decide)
  rw [text_smp] at this
  exact this
theorem awake_output (w : World) (v : Value) (b : Nat) (h : Kd.R kEv 32 w b (fun _ => True) v smp) :
    Calls Tryd.prog 15 #[v] w fun e w' => (∃ A c, e = .returned (.slice A 1 c)) ∧ Below w.heap.size w w' := by
  obtain ⟨A, c, rfl, hl, hC⟩ := Kd.R_reads h
  refine (trace_Output.calls 4 A c smp [5] w hC hl (by kernel_rfl)).mono ?_
  rintro e w' ⟨v0, rfl, hR, hb⟩
  obtain ⟨A1, c1, rfl, _⟩ := Kd.R_reads hR
  exact ⟨⟨A1, c1, rfl⟩, hb⟩

set_option maxRecDepth 100000 in
set_option maxHeartbeats 4000000 in
theorem awake_calls (w : World) : Calls Tryd.prog 6 #[] w fun e w' => e = .returned (.bool true) ∧ Below w.heap.size w w' := by
  have HB := Aside0.mk (Below.refl w.heap.size w)
  go_enter Tryd.func6, Tryd.ntmps6
  go_wp2_with fail
  refine (smp_calls _).mono ?_
  rintro e w1 ⟨v1, rfl, hR1, hb1⟩
  have R1 := Aside0.mk hR1
  have HB1 := Aside0.mk hb1
  clear hR1 hb1 HB
  go_wp2_with fail
  refine (awake_breaks _ _ _ R1.out).mono ?_
  rintro e w2 ⟨rfl, hb2⟩
  have HB2 := Aside0.mk (below_step HB1.out hb2)
  clear hb2 HB1 R1
  go_wp2_with fail
  refine (smp_calls _).mono ?_
  rintro e w3 ⟨v3, rfl, hR3, hb3⟩
  have R3 := Aside0.mk hR3
  have HB3 := Aside0.mk (below_step HB2.out hb3)
  have HS3 := Aside0.mk hb3.size
  have R3l := Aside0.mk (Kd.R_lower hR3 HB2.out.size)
  clear hR3 hb3 HB2
  go_wp2_with (at_builtin; refine Kd.R_append kEv (w0 := w) w.heap.size rfl _ _ 22 32 _ _ rfl Tryd.underlying22 info32 rfl (by decide) (by omega) v3 smp smp3 [.int .i64 4, .int .i64 0, .int .i64 1, .int .i64 0, .int .i64 0, .slice none 0 0, .slice none 0 0] (fun _ => True) (fun _ => False) rfl rfl ?aP (fun _ h => h.elim) (fun _ _ => trivial) R3l.out HB3.out HB3.out.size (by decide) ?_; (case aP => exact k32_mkM _ _ _ smp3 (Kd.R_nil _ _ _ _ _) (Kd.R_nil _ _ _ _ _)); intro v4 w4 hR4 hb4 _ _)
  have R4 := Aside0.mk hR4
  have HB4 := Aside0.mk hb4
  clear hR4 hb4 HB3 HS3 R3 R3l
  go_wp2_with fail
  refine (awake_breaks3 _ _ _ R4.out).mono ?_
  rintro e w5 ⟨rfl, hb5⟩
  have HB5 := Aside0.mk (below_step HB4.out hb5)
  clear hb5 HB4 R4
  go_wp2_with fail
  refine (smp_calls _).mono ?_
  rintro e w6 ⟨v6, rfl, hR6, hb6⟩
  have R6 := Aside0.mk hR6
  have HB6 := Aside0.mk (below_step HB5.out hb6)
  clear hR6 hb6 HB5
  go_wp2_with fail
  refine (awake_serial _ _ _ R6.out).mono ?_
  rintro e w7 ⟨rfl, hb7⟩
  have HB7 := Aside0.mk (below_step HB6.out hb7)
  clear hb7 HB6 R6
  go_wp2_with fail
  refine (smp_calls _).mono ?_
  rintro e w8 ⟨v8, rfl, hR8, hb8⟩
  have R8 := Aside0.mk hR8
  have HB8 := Aside0.mk (below_step HB7.out hb8)
  clear hR8 hb8 HB7
  go_wp2_with fail
  refine (awake_text _ _ _ R8.out).mono ?_
  rintro e w9 ⟨rfl, hb9⟩
  have HB9 := Aside0.mk (below_step HB8.out hb9)
  clear hb9 HB8 R8
  go_wp2_with fail
  refine (smp_calls _).mono ?_
  rintro e wa ⟨va, rfl, hRa, hba⟩
  have Ra := Aside0.mk hRa
  have HBa := Aside0.mk (below_step HB9.out hba)
  clear hRa hba HB9
  go_wp2_with fail
  refine (awake_output _ _ _ Ra.out).mono ?_
  rintro e wb ⟨⟨Ab, cb, rfl⟩, hbb⟩
  have HBb := Aside0.mk (below_step HBa.out hbb)
  clear hbb HBa Ra
  go_wp2
  go_ret
  exact ⟨rfl, HBb.out⟩
end Go.Proofs.YtkfbhfmddmhiaaaDoor.TJ
