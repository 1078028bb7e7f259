/-
  DERIVED. GIVEN WITH THE SEED: THE CARDS: each row of YtgmpdjjoefkndaaGreatDoorRows.lean that lists a variable, with what it lists TIED to the program's text (the seventh form; the later family's looks); each row that meets fmt, with fmt's text TOLD by the authors' own Lean function (tested against real Go, not proved from fmt's source: count such statements apart). THE CARD IS WHAT COUNTS. Prove the row's statement (the work); the ties are given (YtgmpdjjoefkndaaGreatDoorTie.lean); close each card by the builder's one call (the guide's Derived/Test/ToyasCard.lean, 'card_holds'). Laid BY PROGRAM, IN A SANDBOX (cutbox-door.mjs). By AI agents, Wed Nov 11 2026. No macro, syntax, notation, axiom, sorry.
-/
import Derived.Test.YtgmpdjjoefkndaaGreatDoorRows
import GoSem.ClaimSeven
namespace Go.Proofs.YtgmpdjjoefkndaaGreatDoor
namespace Rows

/-- THE TIED CARD OF 'sallyportlaw08.HeadReads'. -/
def headReadsCard : Claim7 := { stood := { row := headReadsRow, standIns := [], harness := (true, "0537248ad264eb673bd5e6185d5ed61f24bc67eac2487b0e8d9c87078db8577d"), looks := true }, kinds := [], alts := [], laidByText := true, laidKinds := [.data, .data, .data, .data, .handle, .sentinel, .sentinel, .pinned, .pinned], laidTests := true, laidLooks := .later }
def HeadReadsCardSaid : Prop := Claim7.holds Tryz.pinned (.plain (OpenSpec.ofChange headReadsSpec)) headReadsCard

/-- THE TIED CARD OF 'sallyportlaw18.ProxyHops'. -/
def proxyHopsCard : Claim7 := { stood := { row := proxyHopsRow, standIns := [], harness := (true, "0537248ad264eb673bd5e6185d5ed61f24bc67eac2487b0e8d9c87078db8577d"), looks := true }, kinds := [], alts := [], laidByText := true, laidKinds := [.data, .data, .data, .data, .handle, .sentinel, .sentinel, .sentinel, .pinned, .pinned], laidTests := true, laidLooks := .later }
def ProxyHopsCardSaid : Prop := Claim7.holds Tryz.pinned (.plain (OpenSpec.ofChange proxyHopsSpec)) proxyHopsCard

/-- THE TIED CARD OF 'sallyportlaw18.ProxyComes'. -/
def proxyComesCard : Claim7 := { stood := { row := proxyComesRow, standIns := [], harness := (true, "0537248ad264eb673bd5e6185d5ed61f24bc67eac2487b0e8d9c87078db8577d"), looks := true }, kinds := [], alts := [], laidByText := true, laidKinds := [.data, .data, .data, .data, .handle, .sentinel, .sentinel, .sentinel, .pinned, .pinned], laidTests := true, laidLooks := .later }
def ProxyComesCardSaid : Prop := Claim7.holds Tryz.pinned (.plain (OpenSpec.ofChange proxyComesSpec)) proxyComesCard

/-- THE TIED CARD OF 'sallyportlaw18.ProxyOwn'. -/
def proxyOwnCard : Claim7 := { stood := { row := proxyOwnRow, standIns := [], harness := (true, "0537248ad264eb673bd5e6185d5ed61f24bc67eac2487b0e8d9c87078db8577d"), looks := true }, kinds := [], alts := [], laidByText := true, laidKinds := [.data, .data, .data, .data, .handle, .sentinel, .sentinel, .sentinel, .pinned, .pinned], laidTests := true, laidLooks := .later }
def ProxyOwnCardSaid : Prop := Claim7.holds Tryz.pinned (.plain (OpenSpec.ofChange proxyOwnSpec)) proxyOwnCard

/-- THE TIED CARD OF 'sallyportlaw18.ProxyPlays'. -/
def proxyPlaysCard : Claim7 := { stood := { row := proxyPlaysRow, standIns := [], harness := (true, "0537248ad264eb673bd5e6185d5ed61f24bc67eac2487b0e8d9c87078db8577d"), looks := true }, kinds := [], alts := [], laidByText := true, laidKinds := [.data, .data, .data, .data, .handle, .sentinel, .sentinel, .sentinel, .pinned, .pinned], laidTests := true, laidLooks := .later }
def ProxyPlaysCardSaid : Prop := Claim7.holds Tryz.pinned (.plain (OpenSpec.ofChange proxyPlaysSpec)) proxyPlaysCard

/-- THE TIED CARD OF 'sallyportlaw18.ProxySays'. -/
def proxySaysCard : Claim7 := { stood := { row := proxySaysRow, standIns := [], harness := (true, "0537248ad264eb673bd5e6185d5ed61f24bc67eac2487b0e8d9c87078db8577d"), looks := true }, kinds := [], alts := [], laidByText := true, laidKinds := [.data, .data, .data, .data, .handle, .sentinel, .sentinel, .sentinel, .pinned, .pinned], laidTests := true, laidLooks := .later }
def ProxySaysCardSaid : Prop := Claim7.holds Tryz.pinned (.plain (OpenSpec.ofChange proxySaysSpec)) proxySaysCard

/-- THE SECOND FORM's CARD OF 'sallyportlaw08.HeadReads'. -/
def headReadsUptoCard : Claim7 := { stood := { row := headReadsUptoRow, standIns := [], harness := (true, "0537248ad264eb673bd5e6185d5ed61f24bc67eac2487b0e8d9c87078db8577d"), looks := true }, kinds := [], alts := [], laidByText := true, laidKinds := [.data, .data, .data, .data, .handle, .sentinel, .sentinel, .pinned, .pinned], laidTests := true, laidLooks := .later }
def HeadReadsUptoCardSaid : Prop := Claim7.holds Tryz.pinned (.plain (OpenSpec.upto headReadsSpec)) headReadsUptoCard

/-- THE SECOND FORM's CARD OF 'sallyportlaw18.ProxyHops'. -/
def proxyHopsUptoCard : Claim7 := { stood := { row := proxyHopsUptoRow, standIns := [], harness := (true, "0537248ad264eb673bd5e6185d5ed61f24bc67eac2487b0e8d9c87078db8577d"), looks := true }, kinds := [], alts := [], laidByText := true, laidKinds := [.data, .data, .data, .data, .handle, .sentinel, .sentinel, .sentinel, .pinned, .pinned], laidTests := true, laidLooks := .later }
def ProxyHopsUptoCardSaid : Prop := Claim7.holds Tryz.pinned (.plain (OpenSpec.upto proxyHopsSpec)) proxyHopsUptoCard

/-- THE SECOND FORM's CARD OF 'sallyportlaw18.ProxyComes'. -/
def proxyComesUptoCard : Claim7 := { stood := { row := proxyComesUptoRow, standIns := [], harness := (true, "0537248ad264eb673bd5e6185d5ed61f24bc67eac2487b0e8d9c87078db8577d"), looks := true }, kinds := [], alts := [], laidByText := true, laidKinds := [.data, .data, .data, .data, .handle, .sentinel, .sentinel, .sentinel, .pinned, .pinned], laidTests := true, laidLooks := .later }
def ProxyComesUptoCardSaid : Prop := Claim7.holds Tryz.pinned (.plain (OpenSpec.upto proxyComesSpec)) proxyComesUptoCard

/-- THE SECOND FORM's CARD OF 'sallyportlaw18.ProxyOwn'. -/
def proxyOwnUptoCard : Claim7 := { stood := { row := proxyOwnUptoRow, standIns := [], harness := (true, "0537248ad264eb673bd5e6185d5ed61f24bc67eac2487b0e8d9c87078db8577d"), looks := true }, kinds := [], alts := [], laidByText := true, laidKinds := [.data, .data, .data, .data, .handle, .sentinel, .sentinel, .sentinel, .pinned, .pinned], laidTests := true, laidLooks := .later }
def ProxyOwnUptoCardSaid : Prop := Claim7.holds Tryz.pinned (.plain (OpenSpec.upto proxyOwnSpec)) proxyOwnUptoCard

/-- THE SECOND FORM's CARD OF 'sallyportlaw18.ProxyPlays'. -/
def proxyPlaysUptoCard : Claim7 := { stood := { row := proxyPlaysUptoRow, standIns := [], harness := (true, "0537248ad264eb673bd5e6185d5ed61f24bc67eac2487b0e8d9c87078db8577d"), looks := true }, kinds := [], alts := [], laidByText := true, laidKinds := [.data, .data, .data, .data, .handle, .sentinel, .sentinel, .sentinel, .pinned, .pinned], laidTests := true, laidLooks := .later }
def ProxyPlaysUptoCardSaid : Prop := Claim7.holds Tryz.pinned (.plain (OpenSpec.upto proxyPlaysSpec)) proxyPlaysUptoCard

/-- THE SECOND FORM's CARD OF 'sallyportlaw18.ProxySays'. -/
def proxySaysUptoCard : Claim7 := { stood := { row := proxySaysUptoRow, standIns := [], harness := (true, "0537248ad264eb673bd5e6185d5ed61f24bc67eac2487b0e8d9c87078db8577d"), looks := true }, kinds := [], alts := [], laidByText := true, laidKinds := [.data, .data, .data, .data, .handle, .sentinel, .sentinel, .sentinel, .pinned, .pinned], laidTests := true, laidLooks := .later }
def ProxySaysUptoCardSaid : Prop := Claim7.holds Tryz.pinned (.plain (OpenSpec.upto proxySaysSpec)) proxySaysUptoCard
end Rows
end Go.Proofs.YtgmpdjjoefkndaaGreatDoor
