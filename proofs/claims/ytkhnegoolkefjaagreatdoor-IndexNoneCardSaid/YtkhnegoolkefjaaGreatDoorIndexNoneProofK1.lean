/- What is proved: a part of what the card asks of the row and the program. Conditions: none. -/
import Derived.Test.YtkhnegoolkefjaaGreatDoorIndexNoneProofK0
namespace Go.Proofs.YtkhnegoolkefjaaGreatDoor.indexNone
theorem kf : Tryz.prog.funcNamed "phrasebook/phrasebooklaw51.IndexNone" = some 3 := by kernel_rfl
theorem ka : (Tryz.f3.params.toList.all fun u => !Tryz.prog.wantsStandIn u) = true := by kernel_rfl
end Go.Proofs.YtkhnegoolkefjaaGreatDoor.indexNone
