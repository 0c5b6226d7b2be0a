/- The law TraceBegins: the Go function answers true for every trace and number. Conditions: the trace lies in memory. -/
import Derived.Test.YtkfbhfmddmhiaaaDoorF
namespace Go.Proofs.YtkfbhfmddmhiaaaDoor.TJ
open Go.RowKit Go.Proofs.YtkfbhfmddmhiaaaDoorW.PrintWords Go.Proofs.YtkfbhfmddmhiaaaDoorW.PrintLast Go.Proofs.YtkfbhfmddmhiaaaDoorW.PrintMore Go.Proofs.YtkfbhfmddmhiaaaDoor.PT Go.Proofs.YtkfbhfmddmhiaaaDoor.IMaps
set_option linter.unusedVariables false
set_option linter.unusedSimpArgs false

/-- Breaks of a beginning. -/
theorem breaks_take (l : List Ev) (hsm : Small l) (w : World) (A : Option Addr) (c : Nat) (hc : l.length ≤ c) (C1 : kEv.C w A l.length l) (m : Int) (h0 : 0 ≤ m) (hm : m ≤ l.length) (W : World) (hW : Below w.heap.size w W) :
    Calls Tryd.prog 7 #[.slice A m.toNat c] W fun e w' => e = .returned (breaksV (runJ js0 0 (l.take m.toNat))) ∧ Below W.heap.size W w' := by
  have hl : (l.take m.toNat).length = m.toNat := by rw [List.length_take]; omega
  have hs : Small (l.take m.toNat) := ⟨by have := hsm.1; omega, fun x hx => hsm.2 x (List.mem_of_mem_take hx)⟩
  have := breaks_calls (l.take m.toNat) hs W A c (by omega) (Kd.C_take (Kd.C_below C1 hW) (by omega))
  rw [hl] at this
  exact this

theorem cutEv (A : Option Addr) (n c : Nat) (j : Int) (h0 : 0 ≤ j) (hm : j ≤ n) (hc : n ≤ c) : ∀ W : World, (Instr.slice 22 (.slice A n c) none (some (.int .i64 j)) none).run Tryd.prog W = .ok (.slice A j.toNat c) W := by
  obtain ⟨i, hi⟩ : ∃ i, Tryd.prog.info? 32 = some i := by
    have := info32
    cases h : Tryd.prog.info? 32 with
    | none => rw [h] at this; cases this
    | some i => exact ⟨i, rfl⟩
  exact cut_to 22 32 .i64 Tryd.underlying22 hi A n c j h0 hm hc

theorem min_left (ats : Array TypeId) (ty : TypeId) (x y : Int) (h : x ≤ y) (W : World) : (Builtin.min_ ats ty #[.int .i64 x, .int .i64 y]).run Tryd.prog W = .ok (.int .i64 x) W := by
  rw [min_two, min2_int, if_neg (by omega)]
  rfl
theorem min_right (ats : Array TypeId) (ty : TypeId) (x y : Int) (h : y < x) (W : World) : (Builtin.min_ ats ty #[.int .i64 x, .int .i64 y]).run Tryd.prog W = .ok (.int .i64 y) W := by
  rw [min_two, min2_int, if_pos h]
  rfl

set_option maxRecDepth 100000 in
set_option maxHeartbeats 8000000 in
theorem begins_calls (l : List Ev) (w : World) (A : Option Addr) (c : Nat) (n : Int) (hc : l.length ≤ c) (C1 : kEv.C w A l.length l) :
    Calls Tryd.prog 3 #[.slice A l.length c, .int .i64 n] w fun e w' => e = .returned (.bool true) ∧ Below w.heap.size w w' := by
  obtain ⟨k, r, hf, hr⟩ := few_ok l
  have HF := Lib.hid (damasklaw27_few.calls k A c l r w C1 hc hf)
  have HC := Lib.hid (And.intro hc C1)
  have HR := Lib.hid hr
  clear hf hr hc C1
  go_enter Tryd.func3, Tryd.ntmps3
  go_wp2_with fail
  refine HF.out.mono ?_
  rintro e w1 ⟨rfl, hb1⟩
  have HB1 := Aside0.mk hb1
  clear hb1 HF
  cases r with
  | false =>
    go_wp2_with fail
    refine (awake_calls _).mono ?_
    rintro e w2 ⟨rfl, hb2⟩
    have HB2 := Aside0.mk (below_step HB1.out hb2)
    clear hb2
    go_wp2
    go_ret
    exact ⟨rfl, HB2.out⟩
  | true =>
    have HS := Lib.hid (HR.out rfl)
    clear HR
    have hlen := HS.out.1
    go_wp2_with fail
    refine (breaks_calls l HS.out.2 _ A c HC.out.1 (Kd.C_below HC.out.2 HB1.out)).mono ?_
    rintro e w2 ⟨rfl, hb2⟩
    have HB2 := Aside0.mk (below_step HB1.out hb2)
    clear hb2 HB1
    cases hrun : runJ js0 0 l with
    | none =>
      have hN : ∀ m, runJ js0 0 (l.take m) = none := fun m => runJ_none m hrun
      have HN := Lib.hid hN
      obtain ⟨q, hq, q0, q1⟩ := mod_ok n ((l.length : Int) + 1) (by omega) (by omega)
      have HM := Lib.hid (fun W : World => damasklaw27_mod.calls n ((l.length : Int) + 1) q W hq)
      have hw1 : wrap64 ((l.length : Int) + 1) = (l.length : Int) + 1 := IntWalk.wrap64_in _ (by omega)
      have s1 := cutEv A l.length c (l.length : Int) (by omega) (by omega) HC.out.1
      have s2 := cutEv A l.length c q (by omega) (by omega) HC.out.1
      have hmin := fun ats ty => min_right ats ty ((l.length : Int) + 1) (l.length : Int) (by omega)
      clear hrun hN hq
      simp only [breaksV]
      go_wp2_with fail
      refine (breaks_take l HS.out.2 w A c HC.out.1 HC.out.2 (l.length : Int) (by omega) (by omega) _ HB2.out).mono ?_
      rw [HN.out]
      rintro e w3 ⟨rfl, hb3⟩
      have HB3 := Aside0.mk (below_step HB2.out hb3)
      clear hb3 HB2
      simp only [breaksV]
      go_wp2_with fail
      refine (HM.out _).mono ?_
      rintro e w4 ⟨rfl, hb4⟩
      have HB4 := Aside0.mk (below_step HB3.out hb4.below)
      clear hb4 HB3
      go_wp2_with fail
      refine (breaks_take l HS.out.2 w A c HC.out.1 HC.out.2 q (by omega) (by omega) _ HB4.out).mono ?_
      rw [HN.out]
      rintro e w5 ⟨rfl, hb5⟩
      have HB5 := Aside0.mk (below_step HB4.out hb5)
      clear hb5 HB4
      simp only [breaksV]
      go_wp2_with fail
      refine (breaks_take l HS.out.2 w A c HC.out.1 HC.out.2 (l.length : Int) (by omega) (by omega) _ HB5.out).mono ?_
      rw [HN.out]
      rintro e w6 ⟨rfl, hb6⟩
      have HB6 := Aside0.mk (below_step HB5.out hb6)
      clear hb6 HB5
      simp only [breaksV]
      go_wp2_with fail
      refine (awake_calls _).mono ?_
      rintro e w7 ⟨rfl, hb7⟩
      have HB7 := Aside0.mk (below_step HB6.out hb7)
      clear hb7 HB6
      go_wp2
      go_ret
      exact ⟨rfl, HB7.out⟩
    | some p =>
      obtain ⟨a, b⟩ := p
      obtain ⟨_, a1, b0, b1, hlo, hhi⟩ := runJ_some hrun
      simp only [Nat.zero_add, Nat.sub_zero] at a1 hlo hhi
      have HLo := Lib.hid hlo
      have HHi := Lib.hid hhi
      obtain ⟨q, hq, q0, q1⟩ := mod_ok n ((a : Int) + 1) (by omega) (by omega)
      have HM := Lib.hid (fun W : World => damasklaw27_mod.calls n ((a : Int) + 1) q W hq)
      have hw1 : wrap64 ((a : Int) + 1) = (a : Int) + 1 := IntWalk.wrap64_in _ (by omega)
      have s1 := cutEv A l.length c (a : Int) (by omega) (by omega) HC.out.1
      have s2 := cutEv A l.length c q (by omega) (by omega) HC.out.1
      have s3 := cutEv A l.length c ((a : Int) + 1) (by omega) (by omega) HC.out.1
      have hmin := fun ats ty => min_left ats ty ((a : Int) + 1) (l.length : Int) (by omega)
      clear hrun hlo hhi hq
      simp only [breaksV]
      go_wp2_with fail
      refine (breaks_take l HS.out.2 w A c HC.out.1 HC.out.2 (a : Int) (by omega) (by omega) _ HB2.out).mono ?_
      rw [HLo.out _ (by omega)]
      rintro e w3 ⟨rfl, hb3⟩
      have HB3 := Aside0.mk (below_step HB2.out hb3)
      clear hb3 HB2
      simp only [breaksV]
      go_wp2_with fail
      refine (HM.out _).mono ?_
      rintro e w4 ⟨rfl, hb4⟩
      have HB4 := Aside0.mk (below_step HB3.out hb4.below)
      clear hb4 HB3
      go_wp2_with fail
      refine (breaks_take l HS.out.2 w A c HC.out.1 HC.out.2 q (by omega) (by omega) _ HB4.out).mono ?_
      rw [HLo.out _ (by omega)]
      rintro e w5 ⟨rfl, hb5⟩
      have HB5 := Aside0.mk (below_step HB4.out hb5)
      clear hb5 HB4
      simp only [breaksV]
      go_wp2_with fail
      refine (breaks_take l HS.out.2 w A c HC.out.1 HC.out.2 ((a + 1 : Nat) : Int) (by omega) (by omega) _ HB5.out).mono ?_
      rw [HHi.out _ (by omega)]
      rintro e w6 ⟨rfl, hb6⟩
      have HB6 := Aside0.mk (below_step HB5.out hb6)
      clear hb6 HB5
      simp only [breaksV]
      go_wp2_with fail
      refine (awake_calls _).mono ?_
      rintro e w7 ⟨rfl, hb7⟩
      have HB7 := Aside0.mk (below_step HB6.out hb7)
      clear hb7 HB6
      go_wp2
      go_ret
      exact ⟨rfl, HB7.out⟩
end Go.Proofs.YtkfbhfmddmhiaaaDoor.TJ
