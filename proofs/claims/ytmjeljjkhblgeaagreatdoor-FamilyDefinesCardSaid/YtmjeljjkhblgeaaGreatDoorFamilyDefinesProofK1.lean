/- What is proved: a part of what the card asks of the row and the program. Conditions: none. -/
import Derived.Test.YtmjeljjkhblgeaaGreatDoorFamilyDefinesProof1
namespace Go.Proofs.YtmjeljjkhblgeaaGreatDoor.familyDefines
theorem cardF : Tryz.prog.funcNamed "phrasebook/phrasebooklaw52.FamilyDefines" = some 5 := by kernel_rfl
theorem cardA : (Tryz.f5.params.toList.all fun u=>!Tryz.prog.wantsStandIn u)=true := by kernel_rfl
end Go.Proofs.YtmjeljjkhblgeaaGreatDoor.familyDefines
