/-
  DERIVED. GIVEN WITH THE SEED: THE CARDS: each row of YteondnhokgmakaaDoorRows.lean that lists a variable, with what it lists TIED to the program's text (the seventh form; the later family's looks); each row that meets fmt, with fmt's text TOLD by the authors' own Lean function (tested against real Go, not proved from fmt's source: count such statements apart). THE CARD IS WHAT COUNTS. Prove the row's statement (the work); the ties are given (YteondnhokgmakaaDoorTie.lean); close each card by the builder's one call (the guide's Derived/Test/ToyasCard.lean, 'card_holds'). Laid BY PROGRAM, IN A SANDBOX (cutbox-door.mjs). By AI agents, Wed Nov 11 2026. No macro, syntax, notation, axiom, sorry.
-/
import Derived.Test.YteondnhokgmakaaDoorRows
import GoSem.ClaimSeven
namespace Go.Proofs.YteondnhokgmakaaDoor
namespace Rows

/-- THE TIED CARD OF 'sallyportlaw12.PolicyFirst'. -/
def policyFirstCard : Claim7 := { stood := { row := policyFirstRow, standIns := [], harness := (true, "1d477825740e2175f32b802b9e60b670486b5a636fa38fc41965ff744b46f646"), looks := true }, kinds := [], alts := [], laidByText := true, laidKinds := [.data, .data, .data, .data, .sentinel, .sentinel, .pinned, .pinned], laidTests := true, laidLooks := .later }
def PolicyFirstCardSaid : Prop := Claim7.holds Tryd.pinned (.plain (OpenSpec.ofChange policyFirstSpec)) policyFirstCard

/-- THE TIED CARD OF 'sallyportlaw12.PolicyBack'. -/
def policyBackCard : Claim7 := { stood := { row := policyBackRow, standIns := [], harness := (true, "1d477825740e2175f32b802b9e60b670486b5a636fa38fc41965ff744b46f646"), looks := true }, kinds := [], alts := [], laidByText := true, laidKinds := [.data, .data, .data, .data, .sentinel, .sentinel, .pinned, .pinned], laidTests := true, laidLooks := .later }
def PolicyBackCardSaid : Prop := Claim7.holds Tryd.pinned (.plain (OpenSpec.ofChange policyBackSpec)) policyBackCard

/-- THE TIED CARD OF 'sallyportlaw12.PolicyAll'. -/
def policyAllCard : Claim7 := { stood := { row := policyAllRow, standIns := [], harness := (true, "1d477825740e2175f32b802b9e60b670486b5a636fa38fc41965ff744b46f646"), looks := true }, kinds := [], alts := [], laidByText := true, laidKinds := [.data, .data, .data, .data, .sentinel, .sentinel, .pinned, .pinned], laidTests := true, laidLooks := .later }
def PolicyAllCardSaid : Prop := Claim7.holds Tryd.pinned (.plain (OpenSpec.ofChange policyAllSpec)) policyAllCard

/-- THE SECOND FORM's CARD OF 'sallyportlaw12.PolicyFirst'. -/
def policyFirstUptoCard : Claim7 := { stood := { row := policyFirstUptoRow, standIns := [], harness := (true, "1d477825740e2175f32b802b9e60b670486b5a636fa38fc41965ff744b46f646"), looks := true }, kinds := [], alts := [], laidByText := true, laidKinds := [.data, .data, .data, .data, .sentinel, .sentinel, .pinned, .pinned], laidTests := true, laidLooks := .later }
def PolicyFirstUptoCardSaid : Prop := Claim7.holds Tryd.pinned (.plain (OpenSpec.upto policyFirstSpec)) policyFirstUptoCard

/-- THE SECOND FORM's CARD OF 'sallyportlaw12.PolicyBack'. -/
def policyBackUptoCard : Claim7 := { stood := { row := policyBackUptoRow, standIns := [], harness := (true, "1d477825740e2175f32b802b9e60b670486b5a636fa38fc41965ff744b46f646"), looks := true }, kinds := [], alts := [], laidByText := true, laidKinds := [.data, .data, .data, .data, .sentinel, .sentinel, .pinned, .pinned], laidTests := true, laidLooks := .later }
def PolicyBackUptoCardSaid : Prop := Claim7.holds Tryd.pinned (.plain (OpenSpec.upto policyBackSpec)) policyBackUptoCard

/-- THE SECOND FORM's CARD OF 'sallyportlaw12.PolicyAll'. -/
def policyAllUptoCard : Claim7 := { stood := { row := policyAllUptoRow, standIns := [], harness := (true, "1d477825740e2175f32b802b9e60b670486b5a636fa38fc41965ff744b46f646"), looks := true }, kinds := [], alts := [], laidByText := true, laidKinds := [.data, .data, .data, .data, .sentinel, .sentinel, .pinned, .pinned], laidTests := true, laidLooks := .later }
def PolicyAllUptoCardSaid : Prop := Claim7.holds Tryd.pinned (.plain (OpenSpec.upto policyAllSpec)) policyAllUptoCard
end Rows
end Go.Proofs.YteondnhokgmakaaDoor
