/- What is proved: a part of what the card asks of the row and the program. Conditions: none. -/
import Derived.Test.YtmjeljjkhblgeaaGreatDoorFamilyListsProofK2
namespace Go.Proofs.YtmjeljjkhblgeaaGreatDoor.familyLists
theorem cardG : false = Rows.familyListsRow.goesBy Tryz.pinned.checked.prog := by kernel_rfl
end Go.Proofs.YtmjeljjkhblgeaaGreatDoor.familyLists
