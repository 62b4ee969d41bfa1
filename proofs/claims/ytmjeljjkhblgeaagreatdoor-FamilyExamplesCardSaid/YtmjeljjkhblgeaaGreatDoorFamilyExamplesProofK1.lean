/- What is proved: a part of what the card asks of the row and the program. Conditions: none. -/
import Derived.Test.YtmjeljjkhblgeaaGreatDoorFamilyExamplesProof1
namespace Go.Proofs.YtmjeljjkhblgeaaGreatDoor.familyExamples
theorem cardF : Tryz.prog.funcNamed "phrasebook/phrasebooklaw52.FamilyExamples" = some 4 := by kernel_rfl
theorem cardA : (Tryz.f4.params.toList.all fun u=>!Tryz.prog.wantsStandIn u)=true := by kernel_rfl
end Go.Proofs.YtmjeljjkhblgeaaGreatDoor.familyExamples
