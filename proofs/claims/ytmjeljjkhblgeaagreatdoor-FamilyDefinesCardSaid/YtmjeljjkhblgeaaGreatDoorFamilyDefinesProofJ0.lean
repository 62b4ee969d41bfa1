/- What is proved: a part of what the row asks of the program itself. Conditions: none. -/
import Derived.Test.YtmjeljjkhblgeaaGreatDoorFamilyDefinesProof0
namespace Go.Proofs.YtmjeljjkhblgeaaGreatDoor.familyDefines
theorem joinF0:laidOutB Tryz.pinned.checked.prog=true:=by kernel_rfl
end Go.Proofs.YtmjeljjkhblgeaaGreatDoor.familyDefines
