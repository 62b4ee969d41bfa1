/- What is proved: a part of what the card asks of the row and the program. Conditions: none. -/
import Derived.Test.YtmjeljjkhblgeaaGreatDoorFamilyExamplesProof1
namespace Go.Proofs.YtmjeljjkhblgeaaGreatDoor.familyExamples
theorem cardG : false = Rows.familyExamplesRow.goesBy Tryz.pinned.checked.prog := by kernel_rfl
end Go.Proofs.YtmjeljjkhblgeaaGreatDoor.familyExamples
