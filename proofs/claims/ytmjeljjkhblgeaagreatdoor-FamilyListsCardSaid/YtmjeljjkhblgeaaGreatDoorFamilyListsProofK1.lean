/- What is proved: a part of what the card asks of the row and the program. Conditions: none. -/
import Derived.Test.YtmjeljjkhblgeaaGreatDoorFamilyListsProofK0
namespace Go.Proofs.YtmjeljjkhblgeaaGreatDoor.familyLists
theorem cardF : Tryz.prog.funcNamed "phrasebook/phrasebooklaw52.FamilyLists" = some 3 := by kernel_rfl
theorem cardA : (Tryz.f3.params.toList.all fun u=>!Tryz.prog.wantsStandIn u)=true := by kernel_rfl
end Go.Proofs.YtmjeljjkhblgeaaGreatDoor.familyLists
