/- The card of TraceSame: the row and its tie to the program's text. Conditions: none. -/
import Derived.Test.YtkfbhfmddmhiaaaDoorRS
namespace Go.Proofs.YtkfbhfmddmhiaaaDoor
open Go
set_option maxRecDepth 100000

theorem traceSame_card_holds : Rows.TraceSameCardSaid :=
  Claim7.holds_tied_plain_at .later [] [.data, .data, .data, .data, .pinned] true (true, "f2ef73459d33e31f9ff9b1da05d34728fddc64f76edafbbb008c80a94a524ee4") false
    Same2.over (fun _ h => by cases h) (by kernel_rfl) (fun _ h => by cases h) traceSame_row_tie rfl ⟨rfl, rfl⟩ (by kernel_rfl) rfl
    (fun f fn hf hfn => by
      obtain rfl : f = 4 := Option.some.inj ((show Tryd.prog.funcNamed "damask/damasklaw27.TraceSame" = some 4 by kernel_rfl).symm.trans hf) |>.symm
      obtain rfl : fn = Tryd.f4 := (Option.some.inj (Tryd.func4.symm.trans hfn)).symm
      exact ⟨by kernel_rfl, fun j t ht => by
        rw [Tryd.params4] at ht
        have hm : t ∈ [22, 22] := by simpa using Array.mem_of_getElem? ht
        have hall : ([22, 22].all fun u => !Tryd.prog.wantsStandIn u) = true := by kernel_rfl
        exact (show Tryd.prog.wantsStandIn t = false by simpa using List.all_eq_true.1 hall t hm)⟩)
    (by kernel_rfl)
#print axioms traceSame_card_holds
end Go.Proofs.YtkfbhfmddmhiaaaDoor
