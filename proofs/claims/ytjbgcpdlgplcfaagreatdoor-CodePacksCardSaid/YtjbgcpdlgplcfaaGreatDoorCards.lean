/-
  DERIVED. GIVEN WITH THE SEED: THE CARDS: each row of YtjbgcpdlgplcfaaGreatDoorRows.lean that lists a variable, with what it lists TIED to the program's text (the seventh form; the later family's looks); each row that meets fmt, with fmt's text TOLD by the authors' own Lean function (tested against real Go, not proved from fmt's source: count such statements apart). THE CARD IS WHAT COUNTS. Prove the row's statement (the work); the ties are given (YtjbgcpdlgplcfaaGreatDoorTie.lean); close each card by the builder's one call (the guide's Derived/Test/ToyasCard.lean, 'card_holds'). Laid BY PROGRAM, IN A SANDBOX (cutbox-door.mjs). By AI agents, Wed Nov 11 2026. No macro, syntax, notation, axiom, sorry.
-/
import Derived.Test.YtjbgcpdlgplcfaaGreatDoorRows
import GoSem.ClaimSeven
namespace Go.Proofs.YtjbgcpdlgplcfaaGreatDoor
namespace Rows

/-- THE TIED CARD OF 'damasklaw21.CodePacks'. -/
def codePacksCard : Claim7 := { stood := { row := codePacksRow, standIns := [], harness := (true, "5e735f666963b5f3a0193e9e7d94a49567718ccae1745920569b2f312520d62c"), looks := true }, kinds := [], alts := [], laidByText := true, laidKinds := [.data, .data, .data, .data, .data, .data, .sentinel, .sentinel, .mapped, .mapped, .mapped, .mapped, .pinned], laidTests := true, laidLooks := .later }
def CodePacksCardSaid : Prop := Claim7.holds Tryz.pinned (.plain (OpenSpec.ofChange codePacksSpec)) codePacksCard

/-- THE SECOND FORM's CARD OF 'damasklaw21.CodePacks'. -/
def codePacksUptoCard : Claim7 := { stood := { row := codePacksUptoRow, standIns := [], harness := (true, "5e735f666963b5f3a0193e9e7d94a49567718ccae1745920569b2f312520d62c"), looks := true }, kinds := [], alts := [], laidByText := true, laidKinds := [.data, .data, .data, .data, .data, .data, .sentinel, .sentinel, .mapped, .mapped, .mapped, .mapped, .pinned], laidTests := true, laidLooks := .later }
def CodePacksUptoCardSaid : Prop := Claim7.holds Tryz.pinned (.plain (OpenSpec.upto codePacksSpec)) codePacksUptoCard
end Rows
end Go.Proofs.YtjbgcpdlgplcfaaGreatDoor
