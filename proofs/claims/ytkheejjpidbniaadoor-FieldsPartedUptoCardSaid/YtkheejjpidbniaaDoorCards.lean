/-
  DERIVED. GIVEN WITH THE SEED: THE CARDS: each row of YtkheejjpidbniaaDoorRows.lean that lists a variable, with what it lists TIED to the program's text (the seventh form; the later family's looks); each row that meets fmt, with fmt's text TOLD by the authors' own Lean function (tested against real Go, not proved from fmt's source: count such statements apart). THE CARD IS WHAT COUNTS. Prove the row's statement (the work); the ties are given (YtkheejjpidbniaaDoorTie.lean); close each card by the builder's one call (the guide's Derived/Test/ToyasCard.lean, 'card_holds'). Laid BY PROGRAM, IN A SANDBOX (cutbox-door.mjs). By AI agents, Wed Nov 11 2026. No macro, syntax, notation, axiom, sorry.
-/
import Derived.Test.YtkheejjpidbniaaDoorRows
import GoSem.ClaimSeven
namespace Go.Proofs.YtkheejjpidbniaaDoor
namespace Rows

/-- THE TIED CARD OF 'sallyportlaw13.FieldsOthers'. -/
def fieldsOthersCard : Claim7 := { stood := { row := fieldsOthersRow, standIns := [], harness := (true, "8c0fa2f62166ebcd33355dc09821c050dba76e7ba6e5ed6c2e5b802b6bb0e0fc"), looks := true }, kinds := [], alts := [], laidByText := true, laidKinds := [.data, .data, .data, .data, .sentinel, .sentinel, .pinned], laidTests := true, laidLooks := .later }
def FieldsOthersCardSaid : Prop := Claim7.holds Tryd.pinned (.plain (OpenSpec.ofChange fieldsOthersSpec)) fieldsOthersCard

/-- THE TIED CARD OF 'sallyportlaw13.FieldsParted'. -/
def fieldsPartedCard : Claim7 := { stood := { row := fieldsPartedRow, standIns := [], harness := (true, "8c0fa2f62166ebcd33355dc09821c050dba76e7ba6e5ed6c2e5b802b6bb0e0fc"), looks := true }, kinds := [], alts := [], laidByText := true, laidKinds := [.data, .data, .data, .data, .sentinel, .sentinel, .pinned], laidTests := true, laidLooks := .later }
def FieldsPartedCardSaid : Prop := Claim7.holds Tryd.pinned (.plain (OpenSpec.ofChange fieldsPartedSpec)) fieldsPartedCard

/-- THE SECOND FORM's CARD OF 'sallyportlaw13.FieldsOthers'. -/
def fieldsOthersUptoCard : Claim7 := { stood := { row := fieldsOthersUptoRow, standIns := [], harness := (true, "8c0fa2f62166ebcd33355dc09821c050dba76e7ba6e5ed6c2e5b802b6bb0e0fc"), looks := true }, kinds := [], alts := [], laidByText := true, laidKinds := [.data, .data, .data, .data, .sentinel, .sentinel, .pinned], laidTests := true, laidLooks := .later }
def FieldsOthersUptoCardSaid : Prop := Claim7.holds Tryd.pinned (.plain (OpenSpec.upto fieldsOthersSpec)) fieldsOthersUptoCard

/-- THE SECOND FORM's CARD OF 'sallyportlaw13.FieldsParted'. -/
def fieldsPartedUptoCard : Claim7 := { stood := { row := fieldsPartedUptoRow, standIns := [], harness := (true, "8c0fa2f62166ebcd33355dc09821c050dba76e7ba6e5ed6c2e5b802b6bb0e0fc"), looks := true }, kinds := [], alts := [], laidByText := true, laidKinds := [.data, .data, .data, .data, .sentinel, .sentinel, .pinned], laidTests := true, laidLooks := .later }
def FieldsPartedUptoCardSaid : Prop := Claim7.holds Tryd.pinned (.plain (OpenSpec.upto fieldsPartedSpec)) fieldsPartedUptoCard
end Rows
end Go.Proofs.YtkheejjpidbniaaDoor
