/- What is proved: a part of what the card asks of the row and the program. Conditions: none. -/
import Derived.Test.YtmjeljjkhblgeaaGreatDoorFamilyDefinesProof1
namespace Go.Proofs.YtmjeljjkhblgeaaGreatDoor.familyDefines
theorem cardW : Rows.familyDefinesRow.wfByText (OpenSpec.ofChange Rows.familyDefinesSpec) = true := by kernel_rfl
theorem cardM : Tryz.pinned.checked.prog.mainIs = some (true, ("8d37c4310b5c98236aa40972fb4e4e839bdd1c5ad5fdff4fa22e88a4aab5ff13").toList) := by kernel_rfl
end Go.Proofs.YtmjeljjkhblgeaaGreatDoor.familyDefines
