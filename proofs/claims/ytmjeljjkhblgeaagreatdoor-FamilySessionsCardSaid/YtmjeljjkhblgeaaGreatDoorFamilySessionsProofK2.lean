/- What is proved: a part of what the card asks of the row and the program. Conditions: none. -/
import Derived.Test.YtmjeljjkhblgeaaGreatDoorFamilySessionsProof1
namespace Go.Proofs.YtmjeljjkhblgeaaGreatDoor.familySessions
theorem cardL : true = Tryz.pinned.checked.prog.looks [] := by kernel_rfl
end Go.Proofs.YtmjeljjkhblgeaaGreatDoor.familySessions
