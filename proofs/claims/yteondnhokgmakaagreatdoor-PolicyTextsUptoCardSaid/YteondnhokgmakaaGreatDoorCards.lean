/-
  DERIVED. GIVEN WITH THE SEED: THE CARDS: each row of YteondnhokgmakaaGreatDoorRows.lean that lists a variable, with what it lists TIED to the program's text (the seventh form; the later family's looks); each row that meets fmt, with fmt's text TOLD by the authors' own Lean function (tested against real Go, not proved from fmt's source: count such statements apart). THE CARD IS WHAT COUNTS. Prove the row's statement (the work); the ties are given (YteondnhokgmakaaGreatDoorTie.lean); close each card by the builder's one call (the guide's Derived/Test/ToyasCard.lean, 'card_holds'). Laid BY PROGRAM, IN A SANDBOX (cutbox-door.mjs). By AI agents, Wed Nov 11 2026. No macro, syntax, notation, axiom, sorry.
-/
import Derived.Test.YteondnhokgmakaaGreatDoorRows
import GoSem.ClaimSeven
namespace Go.Proofs.YteondnhokgmakaaGreatDoor
namespace Rows

/-- THE TIED CARD OF 'sallyportlaw12.PolicyMays'. -/
def policyMaysCard : Claim7 := { stood := { row := policyMaysRow, standIns := [], harness := (true, "324ea68c7c5464203f0531b0807d0bc0157e6859c44d7e7341d5974da7620487"), looks := true }, kinds := [], alts := [], laidByText := true, laidKinds := [.data, .data, .data, .data, .sentinel, .sentinel, .pinned, .pinned], laidTests := true, laidLooks := .later }
def PolicyMaysCardSaid : Prop := Claim7.holds Tryz.pinned (.plain (OpenSpec.ofChange policyMaysSpec)) policyMaysCard

/-- THE TIED CARD OF 'sallyportlaw12.PolicyTexts'. -/
def policyTextsCard : Claim7 := { stood := { row := policyTextsRow, standIns := [], harness := (true, "324ea68c7c5464203f0531b0807d0bc0157e6859c44d7e7341d5974da7620487"), looks := true }, kinds := [], alts := [], laidByText := true, laidKinds := [.data, .data, .data, .data, .sentinel, .sentinel, .pinned, .pinned], laidTests := true, laidLooks := .later }
def PolicyTextsCardSaid : Prop := Claim7.holds Tryz.pinned (.plain (OpenSpec.ofChange policyTextsSpec)) policyTextsCard

/-- THE TIED CARD OF 'sallyportlaw12.PolicyPuts'. -/
def policyPutsCard : Claim7 := { stood := { row := policyPutsRow, standIns := [], harness := (true, "324ea68c7c5464203f0531b0807d0bc0157e6859c44d7e7341d5974da7620487"), looks := true }, kinds := [], alts := [], laidByText := true, laidKinds := [.data, .data, .data, .data, .sentinel, .sentinel, .pinned, .pinned], laidTests := true, laidLooks := .later }
def PolicyPutsCardSaid : Prop := Claim7.holds Tryz.pinned (.plain (OpenSpec.ofChange policyPutsSpec)) policyPutsCard

/-- THE TIED CARD OF 'sallyportlaw06.HostNets'. -/
def hostNetsCard : Claim7 := { stood := { row := hostNetsRow, standIns := [], harness := (true, "324ea68c7c5464203f0531b0807d0bc0157e6859c44d7e7341d5974da7620487"), looks := true }, kinds := [], alts := [], laidByText := true, laidKinds := [.data, .data, .data, .data, .handle, .sentinel, .sentinel, .pinned, .pinned], laidTests := true, laidLooks := .later }
def HostNetsCardSaid : Prop := Claim7.holds Tryz.pinned (.plain (OpenSpec.ofChange hostNetsSpec)) hostNetsCard

/-- THE TIED CARD OF 'sallyportlaw06.HostWider'. -/
def hostWiderCard : Claim7 := { stood := { row := hostWiderRow, standIns := [], harness := (true, "324ea68c7c5464203f0531b0807d0bc0157e6859c44d7e7341d5974da7620487"), looks := true }, kinds := [], alts := [], laidByText := true, laidKinds := [.data, .data, .data, .data, .handle, .sentinel, .sentinel, .pinned, .pinned], laidTests := true, laidLooks := .later }
def HostWiderCardSaid : Prop := Claim7.holds Tryz.pinned (.plain (OpenSpec.ofChange hostWiderSpec)) hostWiderCard

/-- THE TIED CARD OF 'sallyportlaw06.HostPrints'. -/
def hostPrintsCard : Claim7 := { stood := { row := hostPrintsRow, standIns := [], harness := (true, "324ea68c7c5464203f0531b0807d0bc0157e6859c44d7e7341d5974da7620487"), looks := true }, kinds := [], alts := [], laidByText := true, laidKinds := [.data, .data, .data, .data, .handle, .sentinel, .sentinel, .pinned, .pinned], laidTests := true, laidLooks := .later }
def HostPrintsCardSaid : Prop := Claim7.holds Tryz.pinned (.plain (OpenSpec.ofChange hostPrintsSpec)) hostPrintsCard

/-- THE TIED CARD OF 'sallyportlaw06.HostBack'. -/
def hostBackCard : Claim7 := { stood := { row := hostBackRow, standIns := [], harness := (true, "324ea68c7c5464203f0531b0807d0bc0157e6859c44d7e7341d5974da7620487"), looks := true }, kinds := [], alts := [], laidByText := true, laidKinds := [.data, .data, .data, .data, .handle, .sentinel, .sentinel, .pinned, .pinned], laidTests := true, laidLooks := .later }
def HostBackCardSaid : Prop := Claim7.holds Tryz.pinned (.plain (OpenSpec.ofChange hostBackSpec)) hostBackCard

/-- THE SECOND FORM's CARD OF 'sallyportlaw12.PolicyMays'. -/
def policyMaysUptoCard : Claim7 := { stood := { row := policyMaysUptoRow, standIns := [], harness := (true, "324ea68c7c5464203f0531b0807d0bc0157e6859c44d7e7341d5974da7620487"), looks := true }, kinds := [], alts := [], laidByText := true, laidKinds := [.data, .data, .data, .data, .sentinel, .sentinel, .pinned, .pinned], laidTests := true, laidLooks := .later }
def PolicyMaysUptoCardSaid : Prop := Claim7.holds Tryz.pinned (.plain (OpenSpec.upto policyMaysSpec)) policyMaysUptoCard

/-- THE SECOND FORM's CARD OF 'sallyportlaw12.PolicyTexts'. -/
def policyTextsUptoCard : Claim7 := { stood := { row := policyTextsUptoRow, standIns := [], harness := (true, "324ea68c7c5464203f0531b0807d0bc0157e6859c44d7e7341d5974da7620487"), looks := true }, kinds := [], alts := [], laidByText := true, laidKinds := [.data, .data, .data, .data, .sentinel, .sentinel, .pinned, .pinned], laidTests := true, laidLooks := .later }
def PolicyTextsUptoCardSaid : Prop := Claim7.holds Tryz.pinned (.plain (OpenSpec.upto policyTextsSpec)) policyTextsUptoCard

/-- THE SECOND FORM's CARD OF 'sallyportlaw12.PolicyPuts'. -/
def policyPutsUptoCard : Claim7 := { stood := { row := policyPutsUptoRow, standIns := [], harness := (true, "324ea68c7c5464203f0531b0807d0bc0157e6859c44d7e7341d5974da7620487"), looks := true }, kinds := [], alts := [], laidByText := true, laidKinds := [.data, .data, .data, .data, .sentinel, .sentinel, .pinned, .pinned], laidTests := true, laidLooks := .later }
def PolicyPutsUptoCardSaid : Prop := Claim7.holds Tryz.pinned (.plain (OpenSpec.upto policyPutsSpec)) policyPutsUptoCard

/-- THE SECOND FORM's CARD OF 'sallyportlaw06.HostNets'. -/
def hostNetsUptoCard : Claim7 := { stood := { row := hostNetsUptoRow, standIns := [], harness := (true, "324ea68c7c5464203f0531b0807d0bc0157e6859c44d7e7341d5974da7620487"), looks := true }, kinds := [], alts := [], laidByText := true, laidKinds := [.data, .data, .data, .data, .handle, .sentinel, .sentinel, .pinned, .pinned], laidTests := true, laidLooks := .later }
def HostNetsUptoCardSaid : Prop := Claim7.holds Tryz.pinned (.plain (OpenSpec.upto hostNetsSpec)) hostNetsUptoCard

/-- THE SECOND FORM's CARD OF 'sallyportlaw06.HostWider'. -/
def hostWiderUptoCard : Claim7 := { stood := { row := hostWiderUptoRow, standIns := [], harness := (true, "324ea68c7c5464203f0531b0807d0bc0157e6859c44d7e7341d5974da7620487"), looks := true }, kinds := [], alts := [], laidByText := true, laidKinds := [.data, .data, .data, .data, .handle, .sentinel, .sentinel, .pinned, .pinned], laidTests := true, laidLooks := .later }
def HostWiderUptoCardSaid : Prop := Claim7.holds Tryz.pinned (.plain (OpenSpec.upto hostWiderSpec)) hostWiderUptoCard

/-- THE SECOND FORM's CARD OF 'sallyportlaw06.HostPrints'. -/
def hostPrintsUptoCard : Claim7 := { stood := { row := hostPrintsUptoRow, standIns := [], harness := (true, "324ea68c7c5464203f0531b0807d0bc0157e6859c44d7e7341d5974da7620487"), looks := true }, kinds := [], alts := [], laidByText := true, laidKinds := [.data, .data, .data, .data, .handle, .sentinel, .sentinel, .pinned, .pinned], laidTests := true, laidLooks := .later }
def HostPrintsUptoCardSaid : Prop := Claim7.holds Tryz.pinned (.plain (OpenSpec.upto hostPrintsSpec)) hostPrintsUptoCard

/-- THE SECOND FORM's CARD OF 'sallyportlaw06.HostBack'. -/
def hostBackUptoCard : Claim7 := { stood := { row := hostBackUptoRow, standIns := [], harness := (true, "324ea68c7c5464203f0531b0807d0bc0157e6859c44d7e7341d5974da7620487"), looks := true }, kinds := [], alts := [], laidByText := true, laidKinds := [.data, .data, .data, .data, .handle, .sentinel, .sentinel, .pinned, .pinned], laidTests := true, laidLooks := .later }
def HostBackUptoCardSaid : Prop := Claim7.holds Tryz.pinned (.plain (OpenSpec.upto hostBackSpec)) hostBackUptoCard
end Rows
end Go.Proofs.YteondnhokgmakaaGreatDoor
