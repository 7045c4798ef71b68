/-
  DERIVED. GIVEN WITH THE SEED: THE CARDS: each row of YtlmfdmlochpfcaaDoorRows.lean that lists a variable, with what it lists TIED to the program's text (the seventh form; the later family's looks); each row that meets fmt, with fmt's text TOLD by the authors' own Lean function (tested against real Go, not proved from fmt's source: count such statements apart). THE CARD IS WHAT COUNTS. Prove the row's statement (the work); the ties are given (YtlmfdmlochpfcaaDoorTie.lean); close each card by the builder's one call (the guide's Derived/Test/ToyasCard.lean, 'card_holds'). Laid BY PROGRAM, IN A SANDBOX (cutbox-door.mjs). By AI agents, Wed Nov 11 2026. No macro, syntax, notation, axiom, sorry.
-/
import Derived.Test.YtlmfdmlochpfcaaDoorRows
import GoSem.ClaimSeven
namespace Go.Proofs.YtlmfdmlochpfcaaDoor
namespace Rows

/-- THE TIED CARD OF 'shellaclaw14.BookThree'. -/
def bookThreeCard : Claim7 := { stood := { row := bookThreeRow, standIns := [], harness := (true, "2f11f69eca9792850fda878921f73c0649dea776c7c2436db4fe02dd71cbaf64"), looks := false }, kinds := [], alts := [], laidByText := true, laidKinds := [.data, .pinned], laidTests := true, laidLooks := .later }
def BookThreeCardSaid : Prop := Claim7.holds Tryd.pinned (.plain (OpenSpec.ofChange bookThreeSpec)) bookThreeCard

/-- THE TIED CARD OF 'shellaclaw14.BookCrossed'. -/
def bookCrossedCard : Claim7 := { stood := { row := bookCrossedRow, standIns := [], harness := (true, "2f11f69eca9792850fda878921f73c0649dea776c7c2436db4fe02dd71cbaf64"), looks := false }, kinds := [], alts := [], laidByText := true, laidKinds := [.data, .pinned], laidTests := true, laidLooks := .later }
def BookCrossedCardSaid : Prop := Claim7.holds Tryd.pinned (.plain (OpenSpec.ofChange bookCrossedSpec)) bookCrossedCard

/-- THE TIED CARD OF 'shellaclaw14.BookWrite'. -/
def bookWriteCard : Claim7 := { stood := { row := bookWriteRow, standIns := [], harness := (true, "2f11f69eca9792850fda878921f73c0649dea776c7c2436db4fe02dd71cbaf64"), looks := false }, kinds := [], alts := [], laidByText := true, laidKinds := [.data, .pinned], laidTests := true, laidLooks := .later }
def BookWriteCardSaid : Prop := Claim7.holds Tryd.pinned (.plain (OpenSpec.ofChange bookWriteSpec)) bookWriteCard

/-- THE TIED CARD OF 'shellaclaw14.BookRead'. -/
def bookReadCard : Claim7 := { stood := { row := bookReadRow, standIns := [], harness := (true, "2f11f69eca9792850fda878921f73c0649dea776c7c2436db4fe02dd71cbaf64"), looks := false }, kinds := [], alts := [], laidByText := true, laidKinds := [.data, .pinned], laidTests := true, laidLooks := .later }
def BookReadCardSaid : Prop := Claim7.holds Tryd.pinned (.plain (OpenSpec.ofChange bookReadSpec)) bookReadCard

/-- THE TIED CARD OF 'shellaclaw14.BookWrong'. -/
def bookWrongCard : Claim7 := { stood := { row := bookWrongRow, standIns := [], harness := (true, "2f11f69eca9792850fda878921f73c0649dea776c7c2436db4fe02dd71cbaf64"), looks := false }, kinds := [], alts := [], laidByText := true, laidKinds := [.data, .pinned], laidTests := true, laidLooks := .later }
def BookWrongCardSaid : Prop := Claim7.holds Tryd.pinned (.plain (OpenSpec.ofChange bookWrongSpec)) bookWrongCard

/-- THE TIED CARD OF 'shellaclaw14.BookBack'. -/
def bookBackCard : Claim7 := { stood := { row := bookBackRow, standIns := [], harness := (true, "2f11f69eca9792850fda878921f73c0649dea776c7c2436db4fe02dd71cbaf64"), looks := false }, kinds := [], alts := [], laidByText := true, laidKinds := [.data, .pinned], laidTests := true, laidLooks := .later }
def BookBackCardSaid : Prop := Claim7.holds Tryd.pinned (.plain (OpenSpec.ofChange bookBackSpec)) bookBackCard

/-- THE TIED CARD OF 'shellaclaw14.BookOrder'. -/
def bookOrderCard : Claim7 := { stood := { row := bookOrderRow, standIns := [], harness := (true, "2f11f69eca9792850fda878921f73c0649dea776c7c2436db4fe02dd71cbaf64"), looks := false }, kinds := [], alts := [], laidByText := true, laidKinds := [.data, .pinned], laidTests := true, laidLooks := .later }
def BookOrderCardSaid : Prop := Claim7.holds Tryd.pinned (.plain (OpenSpec.ofChange bookOrderSpec)) bookOrderCard

/-- THE TIED CARD OF 'shellaclaw14.BookFewest'. -/
def bookFewestCard : Claim7 := { stood := { row := bookFewestRow, standIns := [], harness := (true, "2f11f69eca9792850fda878921f73c0649dea776c7c2436db4fe02dd71cbaf64"), looks := false }, kinds := [], alts := [], laidByText := true, laidKinds := [.data, .pinned], laidTests := true, laidLooks := .later }
def BookFewestCardSaid : Prop := Claim7.holds Tryd.pinned (.plain (OpenSpec.ofChange bookFewestSpec)) bookFewestCard

/-- THE TIED CARD OF 'shellaclaw14.BookLeft'. -/
def bookLeftCard : Claim7 := { stood := { row := bookLeftRow, standIns := [], harness := (true, "2f11f69eca9792850fda878921f73c0649dea776c7c2436db4fe02dd71cbaf64"), looks := false }, kinds := [], alts := [], laidByText := true, laidKinds := [.data, .pinned], laidTests := true, laidLooks := .later }
def BookLeftCardSaid : Prop := Claim7.holds Tryd.pinned (.plain (OpenSpec.ofChange bookLeftSpec)) bookLeftCard

/-- THE TIED CARD OF 'shellaclaw14.BookCopies'. -/
def bookCopiesCard : Claim7 := { stood := { row := bookCopiesRow, standIns := [], harness := (true, "2f11f69eca9792850fda878921f73c0649dea776c7c2436db4fe02dd71cbaf64"), looks := false }, kinds := [], alts := [], laidByText := true, laidKinds := [.data, .pinned], laidTests := true, laidLooks := .later }
def BookCopiesCardSaid : Prop := Claim7.holds Tryd.pinned (.plain (OpenSpec.ofChange bookCopiesSpec)) bookCopiesCard

/-- THE TIED CARD OF 'shellaclaw14.BookJoin'. -/
def bookJoinCard : Claim7 := { stood := { row := bookJoinRow, standIns := [], harness := (true, "2f11f69eca9792850fda878921f73c0649dea776c7c2436db4fe02dd71cbaf64"), looks := false }, kinds := [], alts := [], laidByText := true, laidKinds := [.data, .pinned], laidTests := true, laidLooks := .later }
def BookJoinCardSaid : Prop := Claim7.holds Tryd.pinned (.plain (OpenSpec.ofChange bookJoinSpec)) bookJoinCard

/-- THE SECOND FORM's CARD OF 'shellaclaw14.BookThree'. -/
def bookThreeUptoCard : Claim7 := { stood := { row := bookThreeUptoRow, standIns := [], harness := (true, "2f11f69eca9792850fda878921f73c0649dea776c7c2436db4fe02dd71cbaf64"), looks := false }, kinds := [], alts := [], laidByText := true, laidKinds := [.data, .pinned], laidTests := true, laidLooks := .later }
def BookThreeUptoCardSaid : Prop := Claim7.holds Tryd.pinned (.plain (OpenSpec.upto bookThreeSpec)) bookThreeUptoCard

/-- THE SECOND FORM's CARD OF 'shellaclaw14.BookCrossed'. -/
def bookCrossedUptoCard : Claim7 := { stood := { row := bookCrossedUptoRow, standIns := [], harness := (true, "2f11f69eca9792850fda878921f73c0649dea776c7c2436db4fe02dd71cbaf64"), looks := false }, kinds := [], alts := [], laidByText := true, laidKinds := [.data, .pinned], laidTests := true, laidLooks := .later }
def BookCrossedUptoCardSaid : Prop := Claim7.holds Tryd.pinned (.plain (OpenSpec.upto bookCrossedSpec)) bookCrossedUptoCard

/-- THE SECOND FORM's CARD OF 'shellaclaw14.BookWrite'. -/
def bookWriteUptoCard : Claim7 := { stood := { row := bookWriteUptoRow, standIns := [], harness := (true, "2f11f69eca9792850fda878921f73c0649dea776c7c2436db4fe02dd71cbaf64"), looks := false }, kinds := [], alts := [], laidByText := true, laidKinds := [.data, .pinned], laidTests := true, laidLooks := .later }
def BookWriteUptoCardSaid : Prop := Claim7.holds Tryd.pinned (.plain (OpenSpec.upto bookWriteSpec)) bookWriteUptoCard

/-- THE SECOND FORM's CARD OF 'shellaclaw14.BookRead'. -/
def bookReadUptoCard : Claim7 := { stood := { row := bookReadUptoRow, standIns := [], harness := (true, "2f11f69eca9792850fda878921f73c0649dea776c7c2436db4fe02dd71cbaf64"), looks := false }, kinds := [], alts := [], laidByText := true, laidKinds := [.data, .pinned], laidTests := true, laidLooks := .later }
def BookReadUptoCardSaid : Prop := Claim7.holds Tryd.pinned (.plain (OpenSpec.upto bookReadSpec)) bookReadUptoCard

/-- THE SECOND FORM's CARD OF 'shellaclaw14.BookWrong'. -/
def bookWrongUptoCard : Claim7 := { stood := { row := bookWrongUptoRow, standIns := [], harness := (true, "2f11f69eca9792850fda878921f73c0649dea776c7c2436db4fe02dd71cbaf64"), looks := false }, kinds := [], alts := [], laidByText := true, laidKinds := [.data, .pinned], laidTests := true, laidLooks := .later }
def BookWrongUptoCardSaid : Prop := Claim7.holds Tryd.pinned (.plain (OpenSpec.upto bookWrongSpec)) bookWrongUptoCard

/-- THE SECOND FORM's CARD OF 'shellaclaw14.BookBack'. -/
def bookBackUptoCard : Claim7 := { stood := { row := bookBackUptoRow, standIns := [], harness := (true, "2f11f69eca9792850fda878921f73c0649dea776c7c2436db4fe02dd71cbaf64"), looks := false }, kinds := [], alts := [], laidByText := true, laidKinds := [.data, .pinned], laidTests := true, laidLooks := .later }
def BookBackUptoCardSaid : Prop := Claim7.holds Tryd.pinned (.plain (OpenSpec.upto bookBackSpec)) bookBackUptoCard

/-- THE SECOND FORM's CARD OF 'shellaclaw14.BookOrder'. -/
def bookOrderUptoCard : Claim7 := { stood := { row := bookOrderUptoRow, standIns := [], harness := (true, "2f11f69eca9792850fda878921f73c0649dea776c7c2436db4fe02dd71cbaf64"), looks := false }, kinds := [], alts := [], laidByText := true, laidKinds := [.data, .pinned], laidTests := true, laidLooks := .later }
def BookOrderUptoCardSaid : Prop := Claim7.holds Tryd.pinned (.plain (OpenSpec.upto bookOrderSpec)) bookOrderUptoCard

/-- THE SECOND FORM's CARD OF 'shellaclaw14.BookFewest'. -/
def bookFewestUptoCard : Claim7 := { stood := { row := bookFewestUptoRow, standIns := [], harness := (true, "2f11f69eca9792850fda878921f73c0649dea776c7c2436db4fe02dd71cbaf64"), looks := false }, kinds := [], alts := [], laidByText := true, laidKinds := [.data, .pinned], laidTests := true, laidLooks := .later }
def BookFewestUptoCardSaid : Prop := Claim7.holds Tryd.pinned (.plain (OpenSpec.upto bookFewestSpec)) bookFewestUptoCard

/-- THE SECOND FORM's CARD OF 'shellaclaw14.BookLeft'. -/
def bookLeftUptoCard : Claim7 := { stood := { row := bookLeftUptoRow, standIns := [], harness := (true, "2f11f69eca9792850fda878921f73c0649dea776c7c2436db4fe02dd71cbaf64"), looks := false }, kinds := [], alts := [], laidByText := true, laidKinds := [.data, .pinned], laidTests := true, laidLooks := .later }
def BookLeftUptoCardSaid : Prop := Claim7.holds Tryd.pinned (.plain (OpenSpec.upto bookLeftSpec)) bookLeftUptoCard

/-- THE SECOND FORM's CARD OF 'shellaclaw14.BookCopies'. -/
def bookCopiesUptoCard : Claim7 := { stood := { row := bookCopiesUptoRow, standIns := [], harness := (true, "2f11f69eca9792850fda878921f73c0649dea776c7c2436db4fe02dd71cbaf64"), looks := false }, kinds := [], alts := [], laidByText := true, laidKinds := [.data, .pinned], laidTests := true, laidLooks := .later }
def BookCopiesUptoCardSaid : Prop := Claim7.holds Tryd.pinned (.plain (OpenSpec.upto bookCopiesSpec)) bookCopiesUptoCard

/-- THE SECOND FORM's CARD OF 'shellaclaw14.BookJoin'. -/
def bookJoinUptoCard : Claim7 := { stood := { row := bookJoinUptoRow, standIns := [], harness := (true, "2f11f69eca9792850fda878921f73c0649dea776c7c2436db4fe02dd71cbaf64"), looks := false }, kinds := [], alts := [], laidByText := true, laidKinds := [.data, .pinned], laidTests := true, laidLooks := .later }
def BookJoinUptoCardSaid : Prop := Claim7.holds Tryd.pinned (.plain (OpenSpec.upto bookJoinSpec)) bookJoinUptoCard
end Rows
end Go.Proofs.YtlmfdmlochpfcaaDoor
