/- What is proved: a part of what the row asks of the program itself. Conditions: none. -/
import Derived.Test.YtmjeljjkhblgeaaGreatDoorFamilyDefinesProof0
namespace Go.Proofs.YtmjeljjkhblgeaaGreatDoor.familyDefines
theorem joinF1:(Rows.familyDefinesRow.inPlace == Tryz.pinned.checked.prog.inPlace 5)=true:=by kernel_rfl
end Go.Proofs.YtmjeljjkhblgeaaGreatDoor.familyDefines
