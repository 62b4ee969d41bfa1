/- What is proved: a part of what the card asks of the row and the program. Conditions: none. -/
import Derived.Test.YtmjeljjkhblgeaaGreatDoorFamilySessionsProof1
namespace Go.Proofs.YtmjeljjkhblgeaaGreatDoor.familySessions
theorem cardG : false = Rows.familySessionsRow.goesBy Tryz.pinned.checked.prog := by kernel_rfl
end Go.Proofs.YtmjeljjkhblgeaaGreatDoor.familySessions
