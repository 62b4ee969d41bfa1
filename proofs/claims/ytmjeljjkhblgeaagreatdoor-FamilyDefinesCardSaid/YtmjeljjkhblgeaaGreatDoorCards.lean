/-
  DERIVED. GIVEN WITH THE SEED: THE CARDS: each row of YtmjeljjkhblgeaaGreatDoorRows.lean that lists a variable, with what it lists TIED to the program's text (the seventh form; the later family's looks); each row that meets fmt, with fmt's text TOLD by the authors' own Lean function (tested against real Go, not proved from fmt's source: count such statements apart). THE CARD IS WHAT COUNTS. Prove the row's statement (the work); the ties are given (YtmjeljjkhblgeaaGreatDoorTie.lean); close each card by the builder's one call (the guide's Derived/Test/ToyasCard.lean, 'card_holds'). Laid BY PROGRAM, IN A SANDBOX (cutbox-door.mjs). By AI agents, Wed Nov 11 2026. No macro, syntax, notation, axiom, sorry.
-/
import Derived.Test.YtmjeljjkhblgeaaGreatDoorRows
import GoSem.ClaimSeven
namespace Go.Proofs.YtmjeljjkhblgeaaGreatDoor
namespace Rows

/-- THE TIED CARD OF 'phrasebooklaw52.FamilyLists'. -/
def familyListsCard : Claim7 := { stood := { row := familyListsRow, standIns := [], harness := (true, "8d37c4310b5c98236aa40972fb4e4e839bdd1c5ad5fdff4fa22e88a4aab5ff13"), looks := true }, kinds := [], alts := [], laidByText := true, laidKinds := [.data, .data, .data, .data, .sentinel, .sentinel, .pinned], laidTests := true, laidLooks := .later }
def FamilyListsCardSaid : Prop := Claim7.holds Tryz.pinned (.plain (OpenSpec.ofChange familyListsSpec)) familyListsCard

/-- THE TIED CARD OF 'phrasebooklaw52.FamilyExamples'. -/
def familyExamplesCard : Claim7 := { stood := { row := familyExamplesRow, standIns := [], harness := (true, "8d37c4310b5c98236aa40972fb4e4e839bdd1c5ad5fdff4fa22e88a4aab5ff13"), looks := true }, kinds := [], alts := [], laidByText := true, laidKinds := [.data, .data, .data, .data, .sentinel, .sentinel, .pinned], laidTests := true, laidLooks := .later }
def FamilyExamplesCardSaid : Prop := Claim7.holds Tryz.pinned (.plain (OpenSpec.ofChange familyExamplesSpec)) familyExamplesCard

/-- THE TIED CARD OF 'phrasebooklaw52.FamilyDefines'. -/
def familyDefinesCard : Claim7 := { stood := { row := familyDefinesRow, standIns := [], harness := (true, "8d37c4310b5c98236aa40972fb4e4e839bdd1c5ad5fdff4fa22e88a4aab5ff13"), looks := true }, kinds := [], alts := [], laidByText := true, laidKinds := [.data, .data, .data, .data, .sentinel, .sentinel, .pinned], laidTests := true, laidLooks := .later }
def FamilyDefinesCardSaid : Prop := Claim7.holds Tryz.pinned (.plain (OpenSpec.ofChange familyDefinesSpec)) familyDefinesCard

/-- THE TIED CARD OF 'phrasebooklaw52.FamilySessions'. -/
def familySessionsCard : Claim7 := { stood := { row := familySessionsRow, standIns := [], harness := (true, "8d37c4310b5c98236aa40972fb4e4e839bdd1c5ad5fdff4fa22e88a4aab5ff13"), looks := true }, kinds := [], alts := [], laidByText := true, laidKinds := [.data, .data, .data, .data, .sentinel, .sentinel, .pinned], laidTests := true, laidLooks := .later }
def FamilySessionsCardSaid : Prop := Claim7.holds Tryz.pinned (.plain (OpenSpec.ofChange familySessionsSpec)) familySessionsCard

/-- THE SECOND FORM's CARD OF 'phrasebooklaw52.FamilyLists'. -/
def familyListsUptoCard : Claim7 := { stood := { row := familyListsUptoRow, standIns := [], harness := (true, "8d37c4310b5c98236aa40972fb4e4e839bdd1c5ad5fdff4fa22e88a4aab5ff13"), looks := true }, kinds := [], alts := [], laidByText := true, laidKinds := [.data, .data, .data, .data, .sentinel, .sentinel, .pinned], laidTests := true, laidLooks := .later }
def FamilyListsUptoCardSaid : Prop := Claim7.holds Tryz.pinned (.plain (OpenSpec.upto familyListsSpec)) familyListsUptoCard

/-- THE SECOND FORM's CARD OF 'phrasebooklaw52.FamilyExamples'. -/
def familyExamplesUptoCard : Claim7 := { stood := { row := familyExamplesUptoRow, standIns := [], harness := (true, "8d37c4310b5c98236aa40972fb4e4e839bdd1c5ad5fdff4fa22e88a4aab5ff13"), looks := true }, kinds := [], alts := [], laidByText := true, laidKinds := [.data, .data, .data, .data, .sentinel, .sentinel, .pinned], laidTests := true, laidLooks := .later }
def FamilyExamplesUptoCardSaid : Prop := Claim7.holds Tryz.pinned (.plain (OpenSpec.upto familyExamplesSpec)) familyExamplesUptoCard

/-- THE SECOND FORM's CARD OF 'phrasebooklaw52.FamilyDefines'. -/
def familyDefinesUptoCard : Claim7 := { stood := { row := familyDefinesUptoRow, standIns := [], harness := (true, "8d37c4310b5c98236aa40972fb4e4e839bdd1c5ad5fdff4fa22e88a4aab5ff13"), looks := true }, kinds := [], alts := [], laidByText := true, laidKinds := [.data, .data, .data, .data, .sentinel, .sentinel, .pinned], laidTests := true, laidLooks := .later }
def FamilyDefinesUptoCardSaid : Prop := Claim7.holds Tryz.pinned (.plain (OpenSpec.upto familyDefinesSpec)) familyDefinesUptoCard

/-- THE SECOND FORM's CARD OF 'phrasebooklaw52.FamilySessions'. -/
def familySessionsUptoCard : Claim7 := { stood := { row := familySessionsUptoRow, standIns := [], harness := (true, "8d37c4310b5c98236aa40972fb4e4e839bdd1c5ad5fdff4fa22e88a4aab5ff13"), looks := true }, kinds := [], alts := [], laidByText := true, laidKinds := [.data, .data, .data, .data, .sentinel, .sentinel, .pinned], laidTests := true, laidLooks := .later }
def FamilySessionsUptoCardSaid : Prop := Claim7.holds Tryz.pinned (.plain (OpenSpec.upto familySessionsSpec)) familySessionsUptoCard
end Rows
end Go.Proofs.YtmjeljjkhblgeaaGreatDoor
