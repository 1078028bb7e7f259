/-
  DERIVED. GIVEN WITH THE SEED: THE CARDS: each row of YtocklkaddiomhaaGreatDoorRows.lean that lists a variable, with what it lists TIED to the program's text (the seventh form; the later family's looks); each row that meets fmt, with fmt's text TOLD by the authors' own Lean function (tested against real Go, not proved from fmt's source: count such statements apart). THE CARD IS WHAT COUNTS. Prove the row's statement (the work); the ties are given (YtocklkaddiomhaaGreatDoorTie.lean); close each card by the builder's one call (the guide's Derived/Test/ToyasCard.lean, 'card_holds'). Laid BY PROGRAM, IN A SANDBOX (cutbox-door.mjs). By AI agents, Wed Nov 11 2026. No macro, syntax, notation, axiom, sorry.
-/
import Derived.Test.YtocklkaddiomhaaGreatDoorRows
import GoSem.ClaimSeven
namespace Go.Proofs.YtocklkaddiomhaaGreatDoor
namespace Rows

/-- THE TIED CARD OF 'sallyportlaw08.HeadComes'. -/
def headComesCard : Claim7 := { stood := { row := headComesRow, standIns := [], harness := (true, "0220fe7a79fc754dea93b670e7ed5c125a40d3ffe6be4b9f988fb62d2ed7fb52"), looks := true }, kinds := [], alts := [], laidByText := true, laidKinds := [.data, .data, .data, .data, .handle, .sentinel, .sentinel, .pinned, .pinned], laidTests := true, laidLooks := .later }
def HeadComesCardSaid : Prop := Claim7.holds Tryz.pinned (.plain (OpenSpec.ofChange headComesSpec)) headComesCard

/-- THE TIED CARD OF 'sallyportlaw08.HeadWords'. -/
def headWordsCard : Claim7 := { stood := { row := headWordsRow, standIns := [], harness := (true, "0220fe7a79fc754dea93b670e7ed5c125a40d3ffe6be4b9f988fb62d2ed7fb52"), looks := true }, kinds := [], alts := [], laidByText := true, laidKinds := [.data, .data, .data, .data, .handle, .sentinel, .sentinel, .pinned, .pinned], laidTests := true, laidLooks := .later }
def HeadWordsCardSaid : Prop := Claim7.holds Tryz.pinned (.plain (OpenSpec.ofChange headWordsSpec)) headWordsCard

/-- THE TIED CARD OF 'sallyportlaw08.HeadReads'. -/
def headReadsCard : Claim7 := { stood := { row := headReadsRow, standIns := [], harness := (true, "0220fe7a79fc754dea93b670e7ed5c125a40d3ffe6be4b9f988fb62d2ed7fb52"), looks := true }, kinds := [], alts := [], laidByText := true, laidKinds := [.data, .data, .data, .data, .handle, .sentinel, .sentinel, .pinned, .pinned], laidTests := true, laidLooks := .later }
def HeadReadsCardSaid : Prop := Claim7.holds Tryz.pinned (.plain (OpenSpec.ofChange headReadsSpec)) headReadsCard

/-- THE TIED CARD OF 'sallyportlaw08.HeadClean'. -/
def headCleanCard : Claim7 := { stood := { row := headCleanRow, standIns := [], harness := (true, "0220fe7a79fc754dea93b670e7ed5c125a40d3ffe6be4b9f988fb62d2ed7fb52"), looks := true }, kinds := [], alts := [], laidByText := true, laidKinds := [.data, .data, .data, .data, .handle, .sentinel, .sentinel, .sentinel, .pinned, .pinned], laidTests := true, laidLooks := .later }
def HeadCleanCardSaid : Prop := Claim7.holds Tryz.pinned (.plain (OpenSpec.ofChange headCleanSpec)) headCleanCard

/-- THE SECOND FORM's CARD OF 'sallyportlaw08.HeadComes'. -/
def headComesUptoCard : Claim7 := { stood := { row := headComesUptoRow, standIns := [], harness := (true, "0220fe7a79fc754dea93b670e7ed5c125a40d3ffe6be4b9f988fb62d2ed7fb52"), looks := true }, kinds := [], alts := [], laidByText := true, laidKinds := [.data, .data, .data, .data, .handle, .sentinel, .sentinel, .pinned, .pinned], laidTests := true, laidLooks := .later }
def HeadComesUptoCardSaid : Prop := Claim7.holds Tryz.pinned (.plain (OpenSpec.upto headComesSpec)) headComesUptoCard

/-- THE SECOND FORM's CARD OF 'sallyportlaw08.HeadWords'. -/
def headWordsUptoCard : Claim7 := { stood := { row := headWordsUptoRow, standIns := [], harness := (true, "0220fe7a79fc754dea93b670e7ed5c125a40d3ffe6be4b9f988fb62d2ed7fb52"), looks := true }, kinds := [], alts := [], laidByText := true, laidKinds := [.data, .data, .data, .data, .handle, .sentinel, .sentinel, .pinned, .pinned], laidTests := true, laidLooks := .later }
def HeadWordsUptoCardSaid : Prop := Claim7.holds Tryz.pinned (.plain (OpenSpec.upto headWordsSpec)) headWordsUptoCard

/-- THE SECOND FORM's CARD OF 'sallyportlaw08.HeadReads'. -/
def headReadsUptoCard : Claim7 := { stood := { row := headReadsUptoRow, standIns := [], harness := (true, "0220fe7a79fc754dea93b670e7ed5c125a40d3ffe6be4b9f988fb62d2ed7fb52"), looks := true }, kinds := [], alts := [], laidByText := true, laidKinds := [.data, .data, .data, .data, .handle, .sentinel, .sentinel, .pinned, .pinned], laidTests := true, laidLooks := .later }
def HeadReadsUptoCardSaid : Prop := Claim7.holds Tryz.pinned (.plain (OpenSpec.upto headReadsSpec)) headReadsUptoCard

/-- THE SECOND FORM's CARD OF 'sallyportlaw08.HeadClean'. -/
def headCleanUptoCard : Claim7 := { stood := { row := headCleanUptoRow, standIns := [], harness := (true, "0220fe7a79fc754dea93b670e7ed5c125a40d3ffe6be4b9f988fb62d2ed7fb52"), looks := true }, kinds := [], alts := [], laidByText := true, laidKinds := [.data, .data, .data, .data, .handle, .sentinel, .sentinel, .sentinel, .pinned, .pinned], laidTests := true, laidLooks := .later }
def HeadCleanUptoCardSaid : Prop := Claim7.holds Tryz.pinned (.plain (OpenSpec.upto headCleanSpec)) headCleanUptoCard
end Rows
end Go.Proofs.YtocklkaddiomhaaGreatDoor
