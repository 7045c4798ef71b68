/-
  DERIVED. GIVEN WITH THE SEED: THE CARDS: each row of YtefoconkepmmgaaGreatDoorRows.lean that lists a variable, with what it lists TIED to the program's text (the seventh form; the later family's looks); each row that meets fmt, with fmt's text TOLD by the authors' own Lean function (tested against real Go, not proved from fmt's source: count such statements apart). THE CARD IS WHAT COUNTS. Prove the row's statement (the work); the ties are given (YtefoconkepmmgaaGreatDoorTie.lean); close each card by the builder's one call (the guide's Derived/Test/ToyasCard.lean, 'card_holds'). Laid BY PROGRAM, IN A SANDBOX (cutbox-door.mjs). By AI agents, Wed Nov 11 2026. No macro, syntax, notation, axiom, sorry.
-/
import Derived.Test.YtefoconkepmmgaaGreatDoorRows
import GoSem.ClaimSeven
namespace Go.Proofs.YtefoconkepmmgaaGreatDoor
namespace Rows

/-- THE TIED CARD OF 'shellactop.TopActs'. -/
def topActsCard : Claim7 := { stood := { row := topActsRow, standIns := [], harness := (true, "767cf05db922c71fc95608af73202d7cc5e9a51636a86141bc167bd13fdfa5bd"), looks := true }, kinds := [], alts := [], laidByText := true, laidKinds := [.data, .data, .data, .data, .sentinel, .sentinel, .pinned], laidTests := true, laidLooks := .later }
def TopActsCardSaid : Prop := Claim7.holds Tryz.pinned (.plain (OpenSpec.ofChange topActsSpec)) topActsCard

/-- THE TIED CARD OF 'shellactop.TopPlayed'. -/
def topPlayedCard : Claim7 := { stood := { row := topPlayedRow, standIns := [], harness := (true, "767cf05db922c71fc95608af73202d7cc5e9a51636a86141bc167bd13fdfa5bd"), looks := true }, kinds := [], alts := [], laidByText := true, laidKinds := [.data, .data, .data, .data, .sentinel, .sentinel, .pinned], laidTests := true, laidLooks := .later }
def TopPlayedCardSaid : Prop := Claim7.holds Tryz.pinned (.plain (OpenSpec.ofChange topPlayedSpec)) topPlayedCard

/-- THE SECOND FORM's CARD OF 'shellactop.TopActs'. -/
def topActsUptoCard : Claim7 := { stood := { row := topActsUptoRow, standIns := [], harness := (true, "767cf05db922c71fc95608af73202d7cc5e9a51636a86141bc167bd13fdfa5bd"), looks := true }, kinds := [], alts := [], laidByText := true, laidKinds := [.data, .data, .data, .data, .sentinel, .sentinel, .pinned], laidTests := true, laidLooks := .later }
def TopActsUptoCardSaid : Prop := Claim7.holds Tryz.pinned (.plain (OpenSpec.upto topActsSpec)) topActsUptoCard

/-- THE SECOND FORM's CARD OF 'shellactop.TopPlayed'. -/
def topPlayedUptoCard : Claim7 := { stood := { row := topPlayedUptoRow, standIns := [], harness := (true, "767cf05db922c71fc95608af73202d7cc5e9a51636a86141bc167bd13fdfa5bd"), looks := true }, kinds := [], alts := [], laidByText := true, laidKinds := [.data, .data, .data, .data, .sentinel, .sentinel, .pinned], laidTests := true, laidLooks := .later }
def TopPlayedUptoCardSaid : Prop := Claim7.holds Tryz.pinned (.plain (OpenSpec.upto topPlayedSpec)) topPlayedUptoCard
end Rows
end Go.Proofs.YtefoconkepmmgaaGreatDoor
