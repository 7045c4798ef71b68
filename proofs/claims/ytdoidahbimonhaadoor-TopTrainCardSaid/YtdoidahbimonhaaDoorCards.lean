/-
  DERIVED. GIVEN WITH THE SEED: THE CARDS: each row of YtdoidahbimonhaaDoorRows.lean that lists a variable, with what it lists TIED to the program's text (the seventh form; the later family's looks); each row that meets fmt, with fmt's text TOLD by the authors' own Lean function (tested against real Go, not proved from fmt's source: count such statements apart). THE CARD IS WHAT COUNTS. Prove the row's statement (the work); the ties are given (YtdoidahbimonhaaDoorTie.lean); close each card by the builder's one call (the guide's Derived/Test/ToyasCard.lean, 'card_holds'). Laid BY PROGRAM, IN A SANDBOX (cutbox-door.mjs). By AI agents, Wed Nov 11 2026. No macro, syntax, notation, axiom, sorry.
-/
import Derived.Test.YtdoidahbimonhaaDoorRows
import GoSem.ClaimSeven
namespace Go.Proofs.YtdoidahbimonhaaDoor
namespace Rows

/-- THE TIED CARD OF 'shellactop.TopTrain'. -/
def topTrainCard : Claim7 := { stood := { row := topTrainRow, standIns := [], harness := (true, "73bbab3bb95217ecc00d326e3fe30a39e00a0bb96eb5c24493fb415e270987c1"), looks := false }, kinds := [], alts := [], laidByText := true, laidKinds := [.data, .pinned], laidTests := true, laidLooks := .later }
def TopTrainCardSaid : Prop := Claim7.holds Tryd.pinned (.plain (OpenSpec.ofChange topTrainSpec)) topTrainCard

/-- THE SECOND FORM's CARD OF 'shellactop.TopTrain'. -/
def topTrainUptoCard : Claim7 := { stood := { row := topTrainUptoRow, standIns := [], harness := (true, "73bbab3bb95217ecc00d326e3fe30a39e00a0bb96eb5c24493fb415e270987c1"), looks := false }, kinds := [], alts := [], laidByText := true, laidKinds := [.data, .pinned], laidTests := true, laidLooks := .later }
def TopTrainUptoCardSaid : Prop := Claim7.holds Tryd.pinned (.plain (OpenSpec.upto topTrainSpec)) topTrainUptoCard
end Rows
end Go.Proofs.YtdoidahbimonhaaDoor
