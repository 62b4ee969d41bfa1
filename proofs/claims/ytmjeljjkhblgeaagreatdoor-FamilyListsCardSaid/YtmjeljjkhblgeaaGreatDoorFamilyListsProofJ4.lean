/- What is proved: a part of what the row asks of the program itself. Conditions: none. -/
import Derived.Test.YtmjeljjkhblgeaaGreatDoorFamilyListsProofJ3
namespace Go.Proofs.YtmjeljjkhblgeaaGreatDoor.familyLists
theorem jf4:(Rows.familyListsRow.named == Tryz.pinned.checked.prog.varsNamed 3)=true:=by kernel_rfl
end Go.Proofs.YtmjeljjkhblgeaaGreatDoor.familyLists
