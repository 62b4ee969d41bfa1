/- What is proved: a part of what the card asks of the row and the program. Conditions: none. -/
import Derived.Test.YtmjeljjkhblgeaaGreatDoorFamilyDefinesProof1
namespace Go.Proofs.YtmjeljjkhblgeaaGreatDoor.familyDefines
theorem cardG : false = Rows.familyDefinesRow.goesBy Tryz.pinned.checked.prog := by kernel_rfl
end Go.Proofs.YtmjeljjkhblgeaaGreatDoor.familyDefines
