/- The law TraceSame: the Go function answers true for every two traces. Conditions: the traces lie in memory. -/
import Derived.Test.YtkfbhfmddmhiaaaDoorE4
namespace Go.Proofs.YtkfbhfmddmhiaaaDoor.TJ
open Go.RowKit Go.Proofs.YtkfbhfmddmhiaaaDoorW.PrintWords Go.Proofs.YtkfbhfmddmhiaaaDoorW.PrintLast Go.Proofs.YtkfbhfmddmhiaaaDoor.PT Go.Proofs.YtkfbhfmddmhiaaaDoor.IMaps
set_option linter.unusedVariables false
set_option linter.unusedSimpArgs false

set_option maxRecDepth 100000 in
set_option maxHeartbeats 8000000 in
theorem same_law_calls (l m : List Ev) (w : World) (A B : Option Addr) (c d : Nat) (hc : l.length ≤ c) (hd : m.length ≤ d) (C1 : kEv.C w A l.length l) (C2 : kEv.C w B m.length m) :
    Calls Tryd.prog 4 #[.slice A l.length c, .slice B m.length d] w fun e w' => e = .returned (.bool true) ∧ Below w.heap.size w w' := by
  obtain ⟨k1, r1, hf1, _⟩ := few_ok l
  obtain ⟨k2, r2, hf2, _⟩ := few_ok m
  obtain ⟨k3, hf3⟩ := refS_ok l m (fitE_C C1)
  have H1 := Lib.hid (damasklaw27_few.calls k1 A c l r1 w C1 hc hf1)
  have H2 := Lib.hid (fun W (hb : Below w.heap.size w W) => damasklaw27_few.calls k2 B d m r2 W (Kd.C_below C2 hb) hd hf2)
  have HS := Lib.hid (fun W (hb : Below w.heap.size w W) => trSame_calls l m W A B c d hc hd (Kd.C_below C1 hb) (Kd.C_below C2 hb))
  have HT := Lib.hid (fun W (hb : Below w.heap.size w W) => trSame_calls l l W A A c c hc hc (Kd.C_below C1 hb) (Kd.C_below C1 hb))
  have HR := Lib.hid (fun W (hb : Below w.heap.size w W) => damaskref26_Same.calls k3 A c l B d m _ W (Kd.C_below C1 hb) hc (Kd.C_below C2 hb) hd hf3)
  rw [eqL_self sameE sameE_self l] at HT
  generalize eqL sameE l m = s at *
  clear hf1 hf2 hf3 hc hd C1 C2
  go_enter Tryd.func4, Tryd.ntmps4
  go_wp2_with fail
  refine H1.out.mono ?_
  rintro e w1 ⟨rfl, hb1⟩
  have HB1 := Aside0.mk hb1
  clear hb1 H1
  have fin : ∀ W, Below w.heap.size w W → Calls Tryd.prog 6 #[] W fun e w' => e = .returned (.bool true) ∧ Below w.heap.size w w' := fun W hb => (awake_calls W).mono fun e w' h => ⟨h.1, below_step hb h.2⟩
  have HA := Lib.hid fin
  clear fin
  cases r1 with
  | false =>
    go_wp2_with fail
    refine (HA.out _ HB1.out).mono ?_
    rintro e w2 ⟨rfl, hb2⟩
    have HB2 := Aside0.mk hb2
    clear hb2
    go_wp2
    go_ret
    exact ⟨rfl, HB2.out⟩
  | true =>
    go_wp2_with fail
    refine (H2.out _ HB1.out).mono ?_
    rintro e w2 ⟨rfl, hb2⟩
    have HB2 := Aside0.mk (below_step HB1.out hb2)
    clear hb2 HB1
    cases r2 with
    | false =>
      go_wp2_with fail
      refine (HA.out _ HB2.out).mono ?_
      rintro e w3 ⟨rfl, hb3⟩
      have HB3 := Aside0.mk hb3
      clear hb3
      go_wp2
      go_ret
      exact ⟨rfl, HB3.out⟩
    | true =>
      go_wp2_with fail
      refine (HS.out _ HB2.out).mono ?_
      rintro e w3 ⟨rfl, hb3⟩
      have HB3 := Aside0.mk (below_step HB2.out hb3)
      clear hb3 HB2
      go_wp2_with fail
      refine (HR.out _ HB3.out).mono ?_
      rintro e w4 ⟨rfl, hb4⟩
      have HB4 := Aside0.mk (below_step HB3.out hb4)
      clear hb4 HB3
      have hss : (s == s) = true := by simp
      go_wp2_with fail
      refine (HT.out _ HB4.out).mono ?_
      rintro e w5 ⟨rfl, hb5⟩
      have HB5 := Aside0.mk (below_step HB4.out hb5)
      clear hb5 HB4
      go_wp2_with fail
      refine (HA.out _ HB5.out).mono ?_
      rintro e w6 ⟨rfl, hb6⟩
      have HB6 := Aside0.mk hb6
      clear hb6 HB5
      go_wp2
      go_ret
      exact ⟨rfl, HB6.out⟩
end Go.Proofs.YtkfbhfmddmhiaaaDoor.TJ
