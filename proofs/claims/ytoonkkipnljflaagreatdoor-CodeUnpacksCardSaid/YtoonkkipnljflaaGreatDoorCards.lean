/-
  DERIVED. GIVEN WITH THE SEED: THE CARDS: each row of YtoonkkipnljflaaGreatDoorRows.lean that lists a variable, with what it lists TIED to the program's text (the seventh form; the later family's looks); each row that meets fmt, with fmt's text TOLD by the authors' own Lean function (tested against real Go, not proved from fmt's source: count such statements apart). THE CARD IS WHAT COUNTS. Prove the row's statement (the work); the ties are given (YtoonkkipnljflaaGreatDoorTie.lean); close each card by the builder's one call (the guide's Derived/Test/ToyasCard.lean, 'card_holds'). Laid BY PROGRAM, IN A SANDBOX (cutbox-door.mjs). By AI agents, Wed Nov 11 2026. No macro, syntax, notation, axiom, sorry.
-/
import Derived.Test.YtoonkkipnljflaaGreatDoorRows
import GoSem.ClaimSeven
namespace Go.Proofs.YtoonkkipnljflaaGreatDoor
namespace Rows

/-- THE TIED CARD OF 'damasklaw21.CodeUnpacks'. -/
def codeUnpacksCard : Claim7 := { stood := { row := codeUnpacksRow, standIns := [], harness := (true, "0fee487469e55f868be94af9595907fd323f3acfbefdee0dfbd00c7760a7d3a2"), looks := true }, kinds := [], alts := [], laidByText := true, laidKinds := [.data, .data, .data, .data, .data, .data, .sentinel, .sentinel, .mapped, .mapped, .mapped, .mapped, .pinned], laidTests := true, laidLooks := .later }
def CodeUnpacksCardSaid : Prop := Claim7.holds Tryz.pinned (.plain (OpenSpec.ofChange codeUnpacksSpec)) codeUnpacksCard

/-- THE SECOND FORM's CARD OF 'damasklaw21.CodeUnpacks'. -/
def codeUnpacksUptoCard : Claim7 := { stood := { row := codeUnpacksUptoRow, standIns := [], harness := (true, "0fee487469e55f868be94af9595907fd323f3acfbefdee0dfbd00c7760a7d3a2"), looks := true }, kinds := [], alts := [], laidByText := true, laidKinds := [.data, .data, .data, .data, .data, .data, .sentinel, .sentinel, .mapped, .mapped, .mapped, .mapped, .pinned], laidTests := true, laidLooks := .later }
def CodeUnpacksUptoCardSaid : Prop := Claim7.holds Tryz.pinned (.plain (OpenSpec.upto codeUnpacksSpec)) codeUnpacksUptoCard
end Rows
end Go.Proofs.YtoonkkipnljflaaGreatDoor
