/- The card of TraceBegins: the row and its tie to the program's text. Conditions: none. -/
import Derived.Test.YtkfbhfmddmhiaaaDoorR
namespace Go.Proofs.YtkfbhfmddmhiaaaDoor
open Go
set_option maxRecDepth 100000

theorem traceBegins_card_holds : Rows.TraceBeginsCardSaid :=
  Claim7.holds_tied_plain_at .later [] [.data, .data, .data, .data, .pinned] true (true, "f2ef73459d33e31f9ff9b1da05d34728fddc64f76edafbbb008c80a94a524ee4") false
    Begins.over (fun _ h => by cases h) (by kernel_rfl) (fun _ h => by cases h) traceBegins_row_tie rfl ⟨rfl, rfl⟩ (by kernel_rfl) rfl
    (fun f fn hf hfn => by
      obtain rfl : f = 3 := Option.some.inj ((show Tryd.prog.funcNamed "damask/damasklaw27.TraceBegins" = some 3 by kernel_rfl).symm.trans hf) |>.symm
      obtain rfl : fn = Tryd.f3 := (Option.some.inj (Tryd.func3.symm.trans hfn)).symm
      exact ⟨by kernel_rfl, fun j t ht => by
        rw [Tryd.params3] at ht
        have hm : t ∈ [22, 3] := by simpa using Array.mem_of_getElem? ht
        have hall : ([22, 3].all fun u => !Tryd.prog.wantsStandIn u) = true := by kernel_rfl
        exact (show Tryd.prog.wantsStandIn t = false by simpa using List.all_eq_true.1 hall t hm)⟩)
    (by kernel_rfl)
#print axioms traceBegins_card_holds
end Go.Proofs.YtkfbhfmddmhiaaaDoor
