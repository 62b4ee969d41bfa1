/- What is proved: a part of what the row asks of the program itself. Conditions: none. -/
import Derived.Test.YtkhnegoolkefjaaGreatDoorIndexNoneProofJ1
namespace Go.Proofs.YtkhnegoolkefjaaGreatDoor.indexNone
theorem jf2:(Rows.indexNoneRow.unfollowed == Tryz.pinned.checked.prog.unfollowed 3)=true:=by kernel_rfl
end Go.Proofs.YtkhnegoolkefjaaGreatDoor.indexNone
