/-
  DERIVED. GIVEN WITH THE SEED: THE CARDS: each row of YtaakgjbdknobbaaGreatDoorRows.lean that lists a variable, with what it lists TIED to the program's text (the seventh form; the later family's looks); each row that meets fmt, with fmt's text TOLD by the authors' own Lean function (tested against real Go, not proved from fmt's source: count such statements apart). THE CARD IS WHAT COUNTS. Prove the row's statement (the work); the ties are given (YtaakgjbdknobbaaGreatDoorTie.lean); close each card by the builder's one call (the guide's Derived/Test/ToyasCard.lean, 'card_holds'). Laid BY PROGRAM, IN A SANDBOX (cutbox-door.mjs). By AI agents, Wed Nov 11 2026. No macro, syntax, notation, axiom, sorry.
-/
import Derived.Test.YtaakgjbdknobbaaGreatDoorRows
import GoSem.ClaimSeven
namespace Go.Proofs.YtaakgjbdknobbaaGreatDoor
namespace Rows

/-- THE TIED CARD OF 'sallyportlaw13.FieldsKeys'. -/
def fieldsKeysCard : Claim7 := { stood := { row := fieldsKeysRow, standIns := [], harness := (true, "0ccecfacac9a9eae6f9bc9e60363fd0fd1db71b94ac3b142c6d845bdb78e3d65"), looks := true }, kinds := [], alts := [], laidByText := true, laidKinds := [.data, .data, .data, .data, .sentinel, .sentinel, .sentinel, .pinned, .pinned], laidTests := true, laidLooks := .later }
def FieldsKeysCardSaid : Prop := Claim7.holds Tryz.pinned (.plain (OpenSpec.ofChange fieldsKeysSpec)) fieldsKeysCard

/-- THE TIED CARD OF 'sallyportlaw13.FieldsAdds'. -/
def fieldsAddsCard : Claim7 := { stood := { row := fieldsAddsRow, standIns := [], harness := (true, "0ccecfacac9a9eae6f9bc9e60363fd0fd1db71b94ac3b142c6d845bdb78e3d65"), looks := true }, kinds := [], alts := [], laidByText := true, laidKinds := [.data, .data, .data, .data, .sentinel, .sentinel, .sentinel, .pinned, .pinned], laidTests := true, laidLooks := .later }
def FieldsAddsCardSaid : Prop := Claim7.holds Tryz.pinned (.plain (OpenSpec.ofChange fieldsAddsSpec)) fieldsAddsCard

/-- THE TIED CARD OF 'sallyportlaw08.HeadComes'. -/
def headComesCard : Claim7 := { stood := { row := headComesRow, standIns := [], harness := (true, "0ccecfacac9a9eae6f9bc9e60363fd0fd1db71b94ac3b142c6d845bdb78e3d65"), looks := true }, kinds := [], alts := [], laidByText := true, laidKinds := [.data, .data, .data, .data, .handle, .sentinel, .sentinel, .pinned, .pinned], laidTests := true, laidLooks := .later }
def HeadComesCardSaid : Prop := Claim7.holds Tryz.pinned (.plain (OpenSpec.ofChange headComesSpec)) headComesCard

/-- THE TIED CARD OF 'sallyportlaw08.HeadWords'. -/
def headWordsCard : Claim7 := { stood := { row := headWordsRow, standIns := [], harness := (true, "0ccecfacac9a9eae6f9bc9e60363fd0fd1db71b94ac3b142c6d845bdb78e3d65"), looks := true }, kinds := [], alts := [], laidByText := true, laidKinds := [.data, .data, .data, .data, .handle, .sentinel, .sentinel, .pinned, .pinned], laidTests := true, laidLooks := .later }
def HeadWordsCardSaid : Prop := Claim7.holds Tryz.pinned (.plain (OpenSpec.ofChange headWordsSpec)) headWordsCard

/-- THE TIED CARD OF 'sallyportlaw08.HeadReads'. -/
def headReadsCard : Claim7 := { stood := { row := headReadsRow, standIns := [], harness := (true, "0ccecfacac9a9eae6f9bc9e60363fd0fd1db71b94ac3b142c6d845bdb78e3d65"), looks := true }, kinds := [], alts := [], laidByText := true, laidKinds := [.data, .data, .data, .data, .handle, .sentinel, .sentinel, .pinned, .pinned], laidTests := true, laidLooks := .later }
def HeadReadsCardSaid : Prop := Claim7.holds Tryz.pinned (.plain (OpenSpec.ofChange headReadsSpec)) headReadsCard

/-- THE TIED CARD OF 'sallyportlaw08.HeadClean'. -/
def headCleanCard : Claim7 := { stood := { row := headCleanRow, standIns := [], harness := (true, "0ccecfacac9a9eae6f9bc9e60363fd0fd1db71b94ac3b142c6d845bdb78e3d65"), looks := true }, kinds := [], alts := [], laidByText := true, laidKinds := [.data, .data, .data, .data, .handle, .sentinel, .sentinel, .sentinel, .pinned, .pinned], laidTests := true, laidLooks := .later }
def HeadCleanCardSaid : Prop := Claim7.holds Tryz.pinned (.plain (OpenSpec.ofChange headCleanSpec)) headCleanCard

/-- THE TIED CARD OF 'sallyportlaw18.ProxyHops'. -/
def proxyHopsCard : Claim7 := { stood := { row := proxyHopsRow, standIns := [], harness := (true, "0ccecfacac9a9eae6f9bc9e60363fd0fd1db71b94ac3b142c6d845bdb78e3d65"), looks := true }, kinds := [], alts := [], laidByText := true, laidKinds := [.data, .data, .data, .data, .handle, .sentinel, .sentinel, .sentinel, .pinned, .pinned], laidTests := true, laidLooks := .later }
def ProxyHopsCardSaid : Prop := Claim7.holds Tryz.pinned (.plain (OpenSpec.ofChange proxyHopsSpec)) proxyHopsCard

/-- THE TIED CARD OF 'sallyportlaw18.ProxyComes'. -/
def proxyComesCard : Claim7 := { stood := { row := proxyComesRow, standIns := [], harness := (true, "0ccecfacac9a9eae6f9bc9e60363fd0fd1db71b94ac3b142c6d845bdb78e3d65"), looks := true }, kinds := [], alts := [], laidByText := true, laidKinds := [.data, .data, .data, .data, .handle, .sentinel, .sentinel, .sentinel, .pinned, .pinned], laidTests := true, laidLooks := .later }
def ProxyComesCardSaid : Prop := Claim7.holds Tryz.pinned (.plain (OpenSpec.ofChange proxyComesSpec)) proxyComesCard

/-- THE TIED CARD OF 'sallyportlaw18.ProxyOwn'. -/
def proxyOwnCard : Claim7 := { stood := { row := proxyOwnRow, standIns := [], harness := (true, "0ccecfacac9a9eae6f9bc9e60363fd0fd1db71b94ac3b142c6d845bdb78e3d65"), looks := true }, kinds := [], alts := [], laidByText := true, laidKinds := [.data, .data, .data, .data, .handle, .sentinel, .sentinel, .sentinel, .pinned, .pinned], laidTests := true, laidLooks := .later }
def ProxyOwnCardSaid : Prop := Claim7.holds Tryz.pinned (.plain (OpenSpec.ofChange proxyOwnSpec)) proxyOwnCard

/-- THE TIED CARD OF 'sallyportlaw18.ProxyPlays'. -/
def proxyPlaysCard : Claim7 := { stood := { row := proxyPlaysRow, standIns := [], harness := (true, "0ccecfacac9a9eae6f9bc9e60363fd0fd1db71b94ac3b142c6d845bdb78e3d65"), looks := true }, kinds := [], alts := [], laidByText := true, laidKinds := [.data, .data, .data, .data, .handle, .sentinel, .sentinel, .sentinel, .pinned, .pinned], laidTests := true, laidLooks := .later }
def ProxyPlaysCardSaid : Prop := Claim7.holds Tryz.pinned (.plain (OpenSpec.ofChange proxyPlaysSpec)) proxyPlaysCard

/-- THE TIED CARD OF 'sallyportlaw18.ProxySays'. -/
def proxySaysCard : Claim7 := { stood := { row := proxySaysRow, standIns := [], harness := (true, "0ccecfacac9a9eae6f9bc9e60363fd0fd1db71b94ac3b142c6d845bdb78e3d65"), looks := true }, kinds := [], alts := [], laidByText := true, laidKinds := [.data, .data, .data, .data, .handle, .sentinel, .sentinel, .sentinel, .pinned, .pinned], laidTests := true, laidLooks := .later }
def ProxySaysCardSaid : Prop := Claim7.holds Tryz.pinned (.plain (OpenSpec.ofChange proxySaysSpec)) proxySaysCard

/-- THE SECOND FORM's CARD OF 'sallyportlaw13.FieldsKeys'. -/
def fieldsKeysUptoCard : Claim7 := { stood := { row := fieldsKeysUptoRow, standIns := [], harness := (true, "0ccecfacac9a9eae6f9bc9e60363fd0fd1db71b94ac3b142c6d845bdb78e3d65"), looks := true }, kinds := [], alts := [], laidByText := true, laidKinds := [.data, .data, .data, .data, .sentinel, .sentinel, .sentinel, .pinned, .pinned], laidTests := true, laidLooks := .later }
def FieldsKeysUptoCardSaid : Prop := Claim7.holds Tryz.pinned (.plain (OpenSpec.upto fieldsKeysSpec)) fieldsKeysUptoCard

/-- THE SECOND FORM's CARD OF 'sallyportlaw13.FieldsAdds'. -/
def fieldsAddsUptoCard : Claim7 := { stood := { row := fieldsAddsUptoRow, standIns := [], harness := (true, "0ccecfacac9a9eae6f9bc9e60363fd0fd1db71b94ac3b142c6d845bdb78e3d65"), looks := true }, kinds := [], alts := [], laidByText := true, laidKinds := [.data, .data, .data, .data, .sentinel, .sentinel, .sentinel, .pinned, .pinned], laidTests := true, laidLooks := .later }
def FieldsAddsUptoCardSaid : Prop := Claim7.holds Tryz.pinned (.plain (OpenSpec.upto fieldsAddsSpec)) fieldsAddsUptoCard

/-- THE SECOND FORM's CARD OF 'sallyportlaw08.HeadComes'. -/
def headComesUptoCard : Claim7 := { stood := { row := headComesUptoRow, standIns := [], harness := (true, "0ccecfacac9a9eae6f9bc9e60363fd0fd1db71b94ac3b142c6d845bdb78e3d65"), looks := true }, kinds := [], alts := [], laidByText := true, laidKinds := [.data, .data, .data, .data, .handle, .sentinel, .sentinel, .pinned, .pinned], laidTests := true, laidLooks := .later }
def HeadComesUptoCardSaid : Prop := Claim7.holds Tryz.pinned (.plain (OpenSpec.upto headComesSpec)) headComesUptoCard

/-- THE SECOND FORM's CARD OF 'sallyportlaw08.HeadWords'. -/
def headWordsUptoCard : Claim7 := { stood := { row := headWordsUptoRow, standIns := [], harness := (true, "0ccecfacac9a9eae6f9bc9e60363fd0fd1db71b94ac3b142c6d845bdb78e3d65"), looks := true }, kinds := [], alts := [], laidByText := true, laidKinds := [.data, .data, .data, .data, .handle, .sentinel, .sentinel, .pinned, .pinned], laidTests := true, laidLooks := .later }
def HeadWordsUptoCardSaid : Prop := Claim7.holds Tryz.pinned (.plain (OpenSpec.upto headWordsSpec)) headWordsUptoCard

/-- THE SECOND FORM's CARD OF 'sallyportlaw08.HeadReads'. -/
def headReadsUptoCard : Claim7 := { stood := { row := headReadsUptoRow, standIns := [], harness := (true, "0ccecfacac9a9eae6f9bc9e60363fd0fd1db71b94ac3b142c6d845bdb78e3d65"), looks := true }, kinds := [], alts := [], laidByText := true, laidKinds := [.data, .data, .data, .data, .handle, .sentinel, .sentinel, .pinned, .pinned], laidTests := true, laidLooks := .later }
def HeadReadsUptoCardSaid : Prop := Claim7.holds Tryz.pinned (.plain (OpenSpec.upto headReadsSpec)) headReadsUptoCard

/-- THE SECOND FORM's CARD OF 'sallyportlaw08.HeadClean'. -/
def headCleanUptoCard : Claim7 := { stood := { row := headCleanUptoRow, standIns := [], harness := (true, "0ccecfacac9a9eae6f9bc9e60363fd0fd1db71b94ac3b142c6d845bdb78e3d65"), looks := true }, kinds := [], alts := [], laidByText := true, laidKinds := [.data, .data, .data, .data, .handle, .sentinel, .sentinel, .sentinel, .pinned, .pinned], laidTests := true, laidLooks := .later }
def HeadCleanUptoCardSaid : Prop := Claim7.holds Tryz.pinned (.plain (OpenSpec.upto headCleanSpec)) headCleanUptoCard

/-- THE SECOND FORM's CARD OF 'sallyportlaw18.ProxyHops'. -/
def proxyHopsUptoCard : Claim7 := { stood := { row := proxyHopsUptoRow, standIns := [], harness := (true, "0ccecfacac9a9eae6f9bc9e60363fd0fd1db71b94ac3b142c6d845bdb78e3d65"), looks := true }, kinds := [], alts := [], laidByText := true, laidKinds := [.data, .data, .data, .data, .handle, .sentinel, .sentinel, .sentinel, .pinned, .pinned], laidTests := true, laidLooks := .later }
def ProxyHopsUptoCardSaid : Prop := Claim7.holds Tryz.pinned (.plain (OpenSpec.upto proxyHopsSpec)) proxyHopsUptoCard

/-- THE SECOND FORM's CARD OF 'sallyportlaw18.ProxyComes'. -/
def proxyComesUptoCard : Claim7 := { stood := { row := proxyComesUptoRow, standIns := [], harness := (true, "0ccecfacac9a9eae6f9bc9e60363fd0fd1db71b94ac3b142c6d845bdb78e3d65"), looks := true }, kinds := [], alts := [], laidByText := true, laidKinds := [.data, .data, .data, .data, .handle, .sentinel, .sentinel, .sentinel, .pinned, .pinned], laidTests := true, laidLooks := .later }
def ProxyComesUptoCardSaid : Prop := Claim7.holds Tryz.pinned (.plain (OpenSpec.upto proxyComesSpec)) proxyComesUptoCard

/-- THE SECOND FORM's CARD OF 'sallyportlaw18.ProxyOwn'. -/
def proxyOwnUptoCard : Claim7 := { stood := { row := proxyOwnUptoRow, standIns := [], harness := (true, "0ccecfacac9a9eae6f9bc9e60363fd0fd1db71b94ac3b142c6d845bdb78e3d65"), looks := true }, kinds := [], alts := [], laidByText := true, laidKinds := [.data, .data, .data, .data, .handle, .sentinel, .sentinel, .sentinel, .pinned, .pinned], laidTests := true, laidLooks := .later }
def ProxyOwnUptoCardSaid : Prop := Claim7.holds Tryz.pinned (.plain (OpenSpec.upto proxyOwnSpec)) proxyOwnUptoCard

/-- THE SECOND FORM's CARD OF 'sallyportlaw18.ProxyPlays'. -/
def proxyPlaysUptoCard : Claim7 := { stood := { row := proxyPlaysUptoRow, standIns := [], harness := (true, "0ccecfacac9a9eae6f9bc9e60363fd0fd1db71b94ac3b142c6d845bdb78e3d65"), looks := true }, kinds := [], alts := [], laidByText := true, laidKinds := [.data, .data, .data, .data, .handle, .sentinel, .sentinel, .sentinel, .pinned, .pinned], laidTests := true, laidLooks := .later }
def ProxyPlaysUptoCardSaid : Prop := Claim7.holds Tryz.pinned (.plain (OpenSpec.upto proxyPlaysSpec)) proxyPlaysUptoCard

/-- THE SECOND FORM's CARD OF 'sallyportlaw18.ProxySays'. -/
def proxySaysUptoCard : Claim7 := { stood := { row := proxySaysUptoRow, standIns := [], harness := (true, "0ccecfacac9a9eae6f9bc9e60363fd0fd1db71b94ac3b142c6d845bdb78e3d65"), looks := true }, kinds := [], alts := [], laidByText := true, laidKinds := [.data, .data, .data, .data, .handle, .sentinel, .sentinel, .sentinel, .pinned, .pinned], laidTests := true, laidLooks := .later }
def ProxySaysUptoCardSaid : Prop := Claim7.holds Tryz.pinned (.plain (OpenSpec.upto proxySaysSpec)) proxySaysUptoCard
end Rows
end Go.Proofs.YtaakgjbdknobbaaGreatDoor
