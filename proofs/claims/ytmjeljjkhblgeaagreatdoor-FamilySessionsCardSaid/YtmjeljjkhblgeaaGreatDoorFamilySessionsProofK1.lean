/- What is proved: a part of what the card asks of the row and the program. Conditions: none. -/
import Derived.Test.YtmjeljjkhblgeaaGreatDoorFamilySessionsProof1
namespace Go.Proofs.YtmjeljjkhblgeaaGreatDoor.familySessions
theorem cardF : Tryz.prog.funcNamed "phrasebook/phrasebooklaw52.FamilySessions" = some 6 := by kernel_rfl
theorem cardA : (Tryz.f6.params.toList.all fun u=>!Tryz.prog.wantsStandIn u)=true := by kernel_rfl
end Go.Proofs.YtmjeljjkhblgeaaGreatDoor.familySessions
