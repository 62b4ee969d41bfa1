/- What is proved: a part of what the row asks of the program itself. Conditions: none. -/
import Derived.Test.YtmjeljjkhblgeaaGreatDoorFamilyListsProofJ2
namespace Go.Proofs.YtmjeljjkhblgeaaGreatDoor.familyLists
theorem jf3:(Rows.familyListsRow.recurses == Tryz.pinned.checked.prog.recurses 3)=true:=by kernel_rfl
end Go.Proofs.YtmjeljjkhblgeaaGreatDoor.familyLists
