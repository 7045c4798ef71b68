/-
  DERIVED. GIVEN WITH THE SEED: THE CARDS: each row of YtcggfogkfhlmlaaGreatDoorRows.lean that lists a variable, with what it lists TIED to the program's text (the seventh form; the later family's looks); each row that meets fmt, with fmt's text TOLD by the authors' own Lean function (tested against real Go, not proved from fmt's source: count such statements apart). THE CARD IS WHAT COUNTS. Prove the row's statement (the work); the ties are given (YtcggfogkfhlmlaaGreatDoorTie.lean); close each card by the builder's one call (the guide's Derived/Test/ToyasCard.lean, 'card_holds'). Laid BY PROGRAM, IN A SANDBOX (cutbox-door.mjs). By AI agents, Wed Nov 11 2026. No macro, syntax, notation, axiom, sorry.
-/
import Derived.Test.YtcggfogkfhlmlaaGreatDoorRows
import GoSem.ClaimSeven
namespace Go.Proofs.YtcggfogkfhlmlaaGreatDoor
namespace Rows

/-- THE TIED CARD OF 'shellaclaw12.ClerkHalves'. -/
def clerkHalvesCard : Claim7 := { stood := { row := clerkHalvesRow, standIns := [], harness := (true, "b38b138be826a35a2cfbed1389a5c3651f2d48d9408001c7dbdeb1d6ebbbcbae"), looks := true }, kinds := [], alts := [], laidByText := true, laidKinds := [.data, .data, .data, .data, .sentinel, .sentinel, .pinned], laidTests := true, laidLooks := .later }
def ClerkHalvesCardSaid : Prop := Claim7.holds Tryz.pinned (.plain (OpenSpec.ofChange clerkHalvesSpec)) clerkHalvesCard

/-- THE TIED CARD OF 'shellaclaw12.ClerkNothing'. -/
def clerkNothingCard : Claim7 := { stood := { row := clerkNothingRow, standIns := [], harness := (true, "b38b138be826a35a2cfbed1389a5c3651f2d48d9408001c7dbdeb1d6ebbbcbae"), looks := true }, kinds := [], alts := [], laidByText := true, laidKinds := [.data, .data, .data, .data, .sentinel, .sentinel, .pinned], laidTests := true, laidLooks := .later }
def ClerkNothingCardSaid : Prop := Claim7.holds Tryz.pinned (.plain (OpenSpec.ofChange clerkNothingSpec)) clerkNothingCard

/-- THE TIED CARD OF 'shellaclaw12.ClerkAsked'. -/
def clerkAskedCard : Claim7 := { stood := { row := clerkAskedRow, standIns := [], harness := (true, "b38b138be826a35a2cfbed1389a5c3651f2d48d9408001c7dbdeb1d6ebbbcbae"), looks := true }, kinds := [], alts := [], laidByText := true, laidKinds := [.data, .data, .data, .data, .sentinel, .sentinel, .pinned], laidTests := true, laidLooks := .later }
def ClerkAskedCardSaid : Prop := Claim7.holds Tryz.pinned (.plain (OpenSpec.ofChange clerkAskedSpec)) clerkAskedCard

/-- THE TIED CARD OF 'shellaclaw12.ClerkPaid'. -/
def clerkPaidCard : Claim7 := { stood := { row := clerkPaidRow, standIns := [], harness := (true, "b38b138be826a35a2cfbed1389a5c3651f2d48d9408001c7dbdeb1d6ebbbcbae"), looks := true }, kinds := [], alts := [], laidByText := true, laidKinds := [.data, .data, .data, .data, .sentinel, .sentinel, .pinned], laidTests := true, laidLooks := .later }
def ClerkPaidCardSaid : Prop := Claim7.holds Tryz.pinned (.plain (OpenSpec.ofChange clerkPaidSpec)) clerkPaidCard

/-- THE TIED CARD OF 'shellaclaw12.ClerkWhole'. -/
def clerkWholeCard : Claim7 := { stood := { row := clerkWholeRow, standIns := [], harness := (true, "b38b138be826a35a2cfbed1389a5c3651f2d48d9408001c7dbdeb1d6ebbbcbae"), looks := true }, kinds := [], alts := [], laidByText := true, laidKinds := [.data, .data, .data, .data, .sentinel, .sentinel, .pinned], laidTests := true, laidLooks := .later }
def ClerkWholeCardSaid : Prop := Claim7.holds Tryz.pinned (.plain (OpenSpec.ofChange clerkWholeSpec)) clerkWholeCard

/-- THE TIED CARD OF 'shellaclaw12.ClerkLost'. -/
def clerkLostCard : Claim7 := { stood := { row := clerkLostRow, standIns := [], harness := (true, "b38b138be826a35a2cfbed1389a5c3651f2d48d9408001c7dbdeb1d6ebbbcbae"), looks := true }, kinds := [], alts := [], laidByText := true, laidKinds := [.data, .data, .data, .data, .sentinel, .sentinel, .pinned], laidTests := true, laidLooks := .later }
def ClerkLostCardSaid : Prop := Claim7.holds Tryz.pinned (.plain (OpenSpec.ofChange clerkLostSpec)) clerkLostCard

/-- THE TIED CARD OF 'shellaclaw12.ClerkEmptied'. -/
def clerkEmptiedCard : Claim7 := { stood := { row := clerkEmptiedRow, standIns := [], harness := (true, "b38b138be826a35a2cfbed1389a5c3651f2d48d9408001c7dbdeb1d6ebbbcbae"), looks := true }, kinds := [], alts := [], laidByText := true, laidKinds := [.data, .data, .data, .data, .sentinel, .sentinel, .pinned], laidTests := true, laidLooks := .later }
def ClerkEmptiedCardSaid : Prop := Claim7.holds Tryz.pinned (.plain (OpenSpec.ofChange clerkEmptiedSpec)) clerkEmptiedCard

/-- THE TIED CARD OF 'shellaclaw12.ClerkCoin'. -/
def clerkCoinCard : Claim7 := { stood := { row := clerkCoinRow, standIns := [], harness := (true, "b38b138be826a35a2cfbed1389a5c3651f2d48d9408001c7dbdeb1d6ebbbcbae"), looks := true }, kinds := [], alts := [], laidByText := true, laidKinds := [.data, .data, .data, .data, .sentinel, .sentinel, .pinned], laidTests := true, laidLooks := .later }
def ClerkCoinCardSaid : Prop := Claim7.holds Tryz.pinned (.plain (OpenSpec.ofChange clerkCoinSpec)) clerkCoinCard

/-- THE TIED CARD OF 'shellactop.TopSettled'. -/
def topSettledCard : Claim7 := { stood := { row := topSettledRow, standIns := [], harness := (true, "b38b138be826a35a2cfbed1389a5c3651f2d48d9408001c7dbdeb1d6ebbbcbae"), looks := true }, kinds := [], alts := [], laidByText := true, laidKinds := [.data, .data, .data, .data, .sentinel, .sentinel, .pinned], laidTests := true, laidLooks := .later }
def TopSettledCardSaid : Prop := Claim7.holds Tryz.pinned (.plain (OpenSpec.ofChange topSettledSpec)) topSettledCard

/-- THE SECOND FORM's CARD OF 'shellaclaw12.ClerkHalves'. -/
def clerkHalvesUptoCard : Claim7 := { stood := { row := clerkHalvesUptoRow, standIns := [], harness := (true, "b38b138be826a35a2cfbed1389a5c3651f2d48d9408001c7dbdeb1d6ebbbcbae"), looks := true }, kinds := [], alts := [], laidByText := true, laidKinds := [.data, .data, .data, .data, .sentinel, .sentinel, .pinned], laidTests := true, laidLooks := .later }
def ClerkHalvesUptoCardSaid : Prop := Claim7.holds Tryz.pinned (.plain (OpenSpec.upto clerkHalvesSpec)) clerkHalvesUptoCard

/-- THE SECOND FORM's CARD OF 'shellaclaw12.ClerkNothing'. -/
def clerkNothingUptoCard : Claim7 := { stood := { row := clerkNothingUptoRow, standIns := [], harness := (true, "b38b138be826a35a2cfbed1389a5c3651f2d48d9408001c7dbdeb1d6ebbbcbae"), looks := true }, kinds := [], alts := [], laidByText := true, laidKinds := [.data, .data, .data, .data, .sentinel, .sentinel, .pinned], laidTests := true, laidLooks := .later }
def ClerkNothingUptoCardSaid : Prop := Claim7.holds Tryz.pinned (.plain (OpenSpec.upto clerkNothingSpec)) clerkNothingUptoCard

/-- THE SECOND FORM's CARD OF 'shellaclaw12.ClerkAsked'. -/
def clerkAskedUptoCard : Claim7 := { stood := { row := clerkAskedUptoRow, standIns := [], harness := (true, "b38b138be826a35a2cfbed1389a5c3651f2d48d9408001c7dbdeb1d6ebbbcbae"), looks := true }, kinds := [], alts := [], laidByText := true, laidKinds := [.data, .data, .data, .data, .sentinel, .sentinel, .pinned], laidTests := true, laidLooks := .later }
def ClerkAskedUptoCardSaid : Prop := Claim7.holds Tryz.pinned (.plain (OpenSpec.upto clerkAskedSpec)) clerkAskedUptoCard

/-- THE SECOND FORM's CARD OF 'shellaclaw12.ClerkPaid'. -/
def clerkPaidUptoCard : Claim7 := { stood := { row := clerkPaidUptoRow, standIns := [], harness := (true, "b38b138be826a35a2cfbed1389a5c3651f2d48d9408001c7dbdeb1d6ebbbcbae"), looks := true }, kinds := [], alts := [], laidByText := true, laidKinds := [.data, .data, .data, .data, .sentinel, .sentinel, .pinned], laidTests := true, laidLooks := .later }
def ClerkPaidUptoCardSaid : Prop := Claim7.holds Tryz.pinned (.plain (OpenSpec.upto clerkPaidSpec)) clerkPaidUptoCard

/-- THE SECOND FORM's CARD OF 'shellaclaw12.ClerkWhole'. -/
def clerkWholeUptoCard : Claim7 := { stood := { row := clerkWholeUptoRow, standIns := [], harness := (true, "b38b138be826a35a2cfbed1389a5c3651f2d48d9408001c7dbdeb1d6ebbbcbae"), looks := true }, kinds := [], alts := [], laidByText := true, laidKinds := [.data, .data, .data, .data, .sentinel, .sentinel, .pinned], laidTests := true, laidLooks := .later }
def ClerkWholeUptoCardSaid : Prop := Claim7.holds Tryz.pinned (.plain (OpenSpec.upto clerkWholeSpec)) clerkWholeUptoCard

/-- THE SECOND FORM's CARD OF 'shellaclaw12.ClerkLost'. -/
def clerkLostUptoCard : Claim7 := { stood := { row := clerkLostUptoRow, standIns := [], harness := (true, "b38b138be826a35a2cfbed1389a5c3651f2d48d9408001c7dbdeb1d6ebbbcbae"), looks := true }, kinds := [], alts := [], laidByText := true, laidKinds := [.data, .data, .data, .data, .sentinel, .sentinel, .pinned], laidTests := true, laidLooks := .later }
def ClerkLostUptoCardSaid : Prop := Claim7.holds Tryz.pinned (.plain (OpenSpec.upto clerkLostSpec)) clerkLostUptoCard

/-- THE SECOND FORM's CARD OF 'shellaclaw12.ClerkEmptied'. -/
def clerkEmptiedUptoCard : Claim7 := { stood := { row := clerkEmptiedUptoRow, standIns := [], harness := (true, "b38b138be826a35a2cfbed1389a5c3651f2d48d9408001c7dbdeb1d6ebbbcbae"), looks := true }, kinds := [], alts := [], laidByText := true, laidKinds := [.data, .data, .data, .data, .sentinel, .sentinel, .pinned], laidTests := true, laidLooks := .later }
def ClerkEmptiedUptoCardSaid : Prop := Claim7.holds Tryz.pinned (.plain (OpenSpec.upto clerkEmptiedSpec)) clerkEmptiedUptoCard

/-- THE SECOND FORM's CARD OF 'shellaclaw12.ClerkCoin'. -/
def clerkCoinUptoCard : Claim7 := { stood := { row := clerkCoinUptoRow, standIns := [], harness := (true, "b38b138be826a35a2cfbed1389a5c3651f2d48d9408001c7dbdeb1d6ebbbcbae"), looks := true }, kinds := [], alts := [], laidByText := true, laidKinds := [.data, .data, .data, .data, .sentinel, .sentinel, .pinned], laidTests := true, laidLooks := .later }
def ClerkCoinUptoCardSaid : Prop := Claim7.holds Tryz.pinned (.plain (OpenSpec.upto clerkCoinSpec)) clerkCoinUptoCard

/-- THE SECOND FORM's CARD OF 'shellactop.TopSettled'. -/
def topSettledUptoCard : Claim7 := { stood := { row := topSettledUptoRow, standIns := [], harness := (true, "b38b138be826a35a2cfbed1389a5c3651f2d48d9408001c7dbdeb1d6ebbbcbae"), looks := true }, kinds := [], alts := [], laidByText := true, laidKinds := [.data, .data, .data, .data, .sentinel, .sentinel, .pinned], laidTests := true, laidLooks := .later }
def TopSettledUptoCardSaid : Prop := Claim7.holds Tryz.pinned (.plain (OpenSpec.upto topSettledSpec)) topSettledUptoCard
end Rows
end Go.Proofs.YtcggfogkfhlmlaaGreatDoor
