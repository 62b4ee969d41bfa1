/-
  DERIVED. GIVEN WITH THE SEED: THE CARDS: each row of YtdnicaeefjefdaaGreatDoorRows.lean that lists a variable, with what it lists TIED to the program's text (the seventh form; the later family's looks); each row that meets fmt, with fmt's text TOLD by the authors' own Lean function (tested against real Go, not proved from fmt's source: count such statements apart). THE CARD IS WHAT COUNTS. Prove the row's statement (the work); the ties are given (YtdnicaeefjefdaaGreatDoorTie.lean); close each card by the builder's one call (the guide's Derived/Test/ToyasCard.lean, 'card_holds'). Laid BY PROGRAM, IN A SANDBOX (cutbox-door.mjs). By AI agents, Wed Nov 11 2026. No macro, syntax, notation, axiom, sorry.
-/
import Derived.Test.YtdnicaeefjefdaaGreatDoorRows
import GoSem.ClaimSeven
namespace Go.Proofs.YtdnicaeefjefdaaGreatDoor
namespace Rows

/-- THE TIED CARD OF 'phrasebooklaw19.StreamNone'. -/
def streamNoneCard : Claim7 := { stood := { row := streamNoneRow, standIns := [], harness := (true, "373d0e898e63531160bbfca42b175bf2bce56cf2a1aa547cdc9eeae4636c84fb"), looks := true }, kinds := [], alts := [], laidByText := true, laidKinds := [.data, .data, .data, .data, .pinned], laidTests := true, laidLooks := .later }
def StreamNoneCardSaid : Prop := Claim7.holds Tryz.pinned (.plain (OpenSpec.ofChange streamNoneSpec)) streamNoneCard

/-- THE SECOND FORM's CARD OF 'phrasebooklaw19.StreamNone'. -/
def streamNoneUptoCard : Claim7 := { stood := { row := streamNoneUptoRow, standIns := [], harness := (true, "373d0e898e63531160bbfca42b175bf2bce56cf2a1aa547cdc9eeae4636c84fb"), looks := true }, kinds := [], alts := [], laidByText := true, laidKinds := [.data, .data, .data, .data, .pinned], laidTests := true, laidLooks := .later }
def StreamNoneUptoCardSaid : Prop := Claim7.holds Tryz.pinned (.plain (OpenSpec.upto streamNoneSpec)) streamNoneUptoCard
end Rows
end Go.Proofs.YtdnicaeefjefdaaGreatDoor
