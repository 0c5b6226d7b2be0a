/-
  DERIVED. GIVEN WITH THE SEED: THE CARDS: each row of YtmfjkepanmoeiaaGreatDoorRows.lean that lists a variable, with what it lists TIED to the program's text (the seventh form; the later family's looks); each row that meets fmt, with fmt's text TOLD by the authors' own Lean function (tested against real Go, not proved from fmt's source: count such statements apart). THE CARD IS WHAT COUNTS. Prove the row's statement (the work); the ties are given (YtmfjkepanmoeiaaGreatDoorTie.lean); close each card by the builder's one call (the guide's Derived/Test/ToyasCard.lean, 'card_holds'). Laid BY PROGRAM, IN A SANDBOX (cutbox-door.mjs). By AI agents, Wed Nov 11 2026. No macro, syntax, notation, axiom, sorry.
-/
import Derived.Test.YtmfjkepanmoeiaaGreatDoorRows
import GoSem.ClaimSeven
namespace Go.Proofs.YtmfjkepanmoeiaaGreatDoor
namespace Rows

/-- THE TIED CARD OF 'damasklaw21.CodeReads'. -/
def codeReadsCard : Claim7 := { stood := { row := codeReadsRow, standIns := [], harness := (true, "f9d207a936093e4437f3fb7978572139d6eb8159e4a3aa0f9ab2025bf81a2b8d"), looks := true }, kinds := [], alts := [], laidByText := true, laidKinds := [.data, .data, .data, .data, .data, .data, .sentinel, .sentinel, .mapped, .mapped, .mapped, .mapped, .pinned], laidTests := true, laidLooks := .later }
def CodeReadsCardSaid : Prop := Claim7.holds Tryz.pinned (.plain (OpenSpec.ofChange codeReadsSpec)) codeReadsCard

/-- THE TIED CARD OF 'damasklaw21.CodePacks'. -/
def codePacksCard : Claim7 := { stood := { row := codePacksRow, standIns := [], harness := (true, "f9d207a936093e4437f3fb7978572139d6eb8159e4a3aa0f9ab2025bf81a2b8d"), looks := true }, kinds := [], alts := [], laidByText := true, laidKinds := [.data, .data, .data, .data, .data, .data, .sentinel, .sentinel, .mapped, .mapped, .mapped, .mapped, .pinned], laidTests := true, laidLooks := .later }
def CodePacksCardSaid : Prop := Claim7.holds Tryz.pinned (.plain (OpenSpec.ofChange codePacksSpec)) codePacksCard

/-- THE TIED CARD OF 'damasklaw21.CodeUnpacks'. -/
def codeUnpacksCard : Claim7 := { stood := { row := codeUnpacksRow, standIns := [], harness := (true, "f9d207a936093e4437f3fb7978572139d6eb8159e4a3aa0f9ab2025bf81a2b8d"), looks := true }, kinds := [], alts := [], laidByText := true, laidKinds := [.data, .data, .data, .data, .data, .data, .sentinel, .sentinel, .mapped, .mapped, .mapped, .mapped, .pinned], laidTests := true, laidLooks := .later }
def CodeUnpacksCardSaid : Prop := Claim7.holds Tryz.pinned (.plain (OpenSpec.ofChange codeUnpacksSpec)) codeUnpacksCard

/-- THE TIED CARD OF 'damasklaw21.CodeAgain'. -/
def codeAgainCard : Claim7 := { stood := { row := codeAgainRow, standIns := [], harness := (true, "f9d207a936093e4437f3fb7978572139d6eb8159e4a3aa0f9ab2025bf81a2b8d"), looks := true }, kinds := [], alts := [], laidByText := true, laidKinds := [.data, .data, .data, .data, .sentinel, .sentinel, .mapped, .mapped, .mapped, .mapped, .pinned], laidTests := true, laidLooks := .later }
def CodeAgainCardSaid : Prop := Claim7.holds Tryz.pinned (.plain (OpenSpec.ofChange codeAgainSpec)) codeAgainCard

/-- THE TIED CARD OF 'damasklaw21.CodeBytes'. -/
def codeBytesCard : Claim7 := { stood := { row := codeBytesRow, standIns := [], harness := (true, "f9d207a936093e4437f3fb7978572139d6eb8159e4a3aa0f9ab2025bf81a2b8d"), looks := true }, kinds := [], alts := [], laidByText := true, laidKinds := [.data, .data, .data, .data, .data, .data, .sentinel, .sentinel, .mapped, .mapped, .mapped, .mapped, .pinned], laidTests := true, laidLooks := .later }
def CodeBytesCardSaid : Prop := Claim7.holds Tryz.pinned (.plain (OpenSpec.ofChange codeBytesSpec)) codeBytesCard

/-- THE TIED CARD OF 'damasklaw21.CodeSame'. -/
def codeSameCard : Claim7 := { stood := { row := codeSameRow, standIns := [], harness := (true, "f9d207a936093e4437f3fb7978572139d6eb8159e4a3aa0f9ab2025bf81a2b8d"), looks := true }, kinds := [], alts := [], laidByText := true, laidKinds := [.data, .data, .data, .data, .sentinel, .sentinel, .mapped, .mapped, .mapped, .mapped, .pinned], laidTests := true, laidLooks := .later }
def CodeSameCardSaid : Prop := Claim7.holds Tryz.pinned (.plain (OpenSpec.ofChange codeSameSpec)) codeSameCard

/-- THE TIED CARD OF 'damasklaw21.CodeBack'. -/
def codeBackCard : Claim7 := { stood := { row := codeBackRow, standIns := [], harness := (true, "f9d207a936093e4437f3fb7978572139d6eb8159e4a3aa0f9ab2025bf81a2b8d"), looks := true }, kinds := [], alts := [], laidByText := true, laidKinds := [.data, .data, .data, .data, .data, .data, .sentinel, .sentinel, .mapped, .mapped, .mapped, .mapped, .pinned], laidTests := true, laidLooks := .later }
def CodeBackCardSaid : Prop := Claim7.holds Tryz.pinned (.plain (OpenSpec.ofChange codeBackSpec)) codeBackCard

/-- THE TIED CARD OF 'damasklaw21.CodeChecks'. -/
def codeChecksCard : Claim7 := { stood := { row := codeChecksRow, standIns := [], harness := (true, "f9d207a936093e4437f3fb7978572139d6eb8159e4a3aa0f9ab2025bf81a2b8d"), looks := true }, kinds := [], alts := [], laidByText := true, laidKinds := [.data, .data, .data, .data, .data, .data, .sentinel, .sentinel, .mapped, .mapped, .mapped, .mapped, .pinned], laidTests := true, laidLooks := .later }
def CodeChecksCardSaid : Prop := Claim7.holds Tryz.pinned (.plain (OpenSpec.ofChange codeChecksSpec)) codeChecksCard

/-- THE SECOND FORM's CARD OF 'damasklaw21.CodeReads'. -/
def codeReadsUptoCard : Claim7 := { stood := { row := codeReadsUptoRow, standIns := [], harness := (true, "f9d207a936093e4437f3fb7978572139d6eb8159e4a3aa0f9ab2025bf81a2b8d"), looks := true }, kinds := [], alts := [], laidByText := true, laidKinds := [.data, .data, .data, .data, .data, .data, .sentinel, .sentinel, .mapped, .mapped, .mapped, .mapped, .pinned], laidTests := true, laidLooks := .later }
def CodeReadsUptoCardSaid : Prop := Claim7.holds Tryz.pinned (.plain (OpenSpec.upto codeReadsSpec)) codeReadsUptoCard

/-- THE SECOND FORM's CARD OF 'damasklaw21.CodePacks'. -/
def codePacksUptoCard : Claim7 := { stood := { row := codePacksUptoRow, standIns := [], harness := (true, "f9d207a936093e4437f3fb7978572139d6eb8159e4a3aa0f9ab2025bf81a2b8d"), looks := true }, kinds := [], alts := [], laidByText := true, laidKinds := [.data, .data, .data, .data, .data, .data, .sentinel, .sentinel, .mapped, .mapped, .mapped, .mapped, .pinned], laidTests := true, laidLooks := .later }
def CodePacksUptoCardSaid : Prop := Claim7.holds Tryz.pinned (.plain (OpenSpec.upto codePacksSpec)) codePacksUptoCard

/-- THE SECOND FORM's CARD OF 'damasklaw21.CodeUnpacks'. -/
def codeUnpacksUptoCard : Claim7 := { stood := { row := codeUnpacksUptoRow, standIns := [], harness := (true, "f9d207a936093e4437f3fb7978572139d6eb8159e4a3aa0f9ab2025bf81a2b8d"), looks := true }, kinds := [], alts := [], laidByText := true, laidKinds := [.data, .data, .data, .data, .data, .data, .sentinel, .sentinel, .mapped, .mapped, .mapped, .mapped, .pinned], laidTests := true, laidLooks := .later }
def CodeUnpacksUptoCardSaid : Prop := Claim7.holds Tryz.pinned (.plain (OpenSpec.upto codeUnpacksSpec)) codeUnpacksUptoCard

/-- THE SECOND FORM's CARD OF 'damasklaw21.CodeAgain'. -/
def codeAgainUptoCard : Claim7 := { stood := { row := codeAgainUptoRow, standIns := [], harness := (true, "f9d207a936093e4437f3fb7978572139d6eb8159e4a3aa0f9ab2025bf81a2b8d"), looks := true }, kinds := [], alts := [], laidByText := true, laidKinds := [.data, .data, .data, .data, .sentinel, .sentinel, .mapped, .mapped, .mapped, .mapped, .pinned], laidTests := true, laidLooks := .later }
def CodeAgainUptoCardSaid : Prop := Claim7.holds Tryz.pinned (.plain (OpenSpec.upto codeAgainSpec)) codeAgainUptoCard

/-- THE SECOND FORM's CARD OF 'damasklaw21.CodeBytes'. -/
def codeBytesUptoCard : Claim7 := { stood := { row := codeBytesUptoRow, standIns := [], harness := (true, "f9d207a936093e4437f3fb7978572139d6eb8159e4a3aa0f9ab2025bf81a2b8d"), looks := true }, kinds := [], alts := [], laidByText := true, laidKinds := [.data, .data, .data, .data, .data, .data, .sentinel, .sentinel, .mapped, .mapped, .mapped, .mapped, .pinned], laidTests := true, laidLooks := .later }
def CodeBytesUptoCardSaid : Prop := Claim7.holds Tryz.pinned (.plain (OpenSpec.upto codeBytesSpec)) codeBytesUptoCard

/-- THE SECOND FORM's CARD OF 'damasklaw21.CodeSame'. -/
def codeSameUptoCard : Claim7 := { stood := { row := codeSameUptoRow, standIns := [], harness := (true, "f9d207a936093e4437f3fb7978572139d6eb8159e4a3aa0f9ab2025bf81a2b8d"), looks := true }, kinds := [], alts := [], laidByText := true, laidKinds := [.data, .data, .data, .data, .sentinel, .sentinel, .mapped, .mapped, .mapped, .mapped, .pinned], laidTests := true, laidLooks := .later }
def CodeSameUptoCardSaid : Prop := Claim7.holds Tryz.pinned (.plain (OpenSpec.upto codeSameSpec)) codeSameUptoCard

/-- THE SECOND FORM's CARD OF 'damasklaw21.CodeBack'. -/
def codeBackUptoCard : Claim7 := { stood := { row := codeBackUptoRow, standIns := [], harness := (true, "f9d207a936093e4437f3fb7978572139d6eb8159e4a3aa0f9ab2025bf81a2b8d"), looks := true }, kinds := [], alts := [], laidByText := true, laidKinds := [.data, .data, .data, .data, .data, .data, .sentinel, .sentinel, .mapped, .mapped, .mapped, .mapped, .pinned], laidTests := true, laidLooks := .later }
def CodeBackUptoCardSaid : Prop := Claim7.holds Tryz.pinned (.plain (OpenSpec.upto codeBackSpec)) codeBackUptoCard

/-- THE SECOND FORM's CARD OF 'damasklaw21.CodeChecks'. -/
def codeChecksUptoCard : Claim7 := { stood := { row := codeChecksUptoRow, standIns := [], harness := (true, "f9d207a936093e4437f3fb7978572139d6eb8159e4a3aa0f9ab2025bf81a2b8d"), looks := true }, kinds := [], alts := [], laidByText := true, laidKinds := [.data, .data, .data, .data, .data, .data, .sentinel, .sentinel, .mapped, .mapped, .mapped, .mapped, .pinned], laidTests := true, laidLooks := .later }
def CodeChecksUptoCardSaid : Prop := Claim7.holds Tryz.pinned (.plain (OpenSpec.upto codeChecksSpec)) codeChecksUptoCard
end Rows
end Go.Proofs.YtmfjkepanmoeiaaGreatDoor
