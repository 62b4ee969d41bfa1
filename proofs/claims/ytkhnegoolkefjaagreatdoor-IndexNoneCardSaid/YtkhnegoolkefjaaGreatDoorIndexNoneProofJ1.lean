/- What is proved: a part of what the row asks of the program itself. Conditions: none. -/
import Derived.Test.YtkhnegoolkefjaaGreatDoorIndexNoneProofJ0
namespace Go.Proofs.YtkhnegoolkefjaaGreatDoor.indexNone
theorem jf1:(Rows.indexNoneRow.inPlace == Tryz.pinned.checked.prog.inPlace 3)=true:=by kernel_rfl
end Go.Proofs.YtkhnegoolkefjaaGreatDoor.indexNone
