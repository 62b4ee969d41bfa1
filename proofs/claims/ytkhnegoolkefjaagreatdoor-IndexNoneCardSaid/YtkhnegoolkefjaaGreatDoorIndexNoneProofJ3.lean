/- What is proved: a part of what the row asks of the program itself. Conditions: none. -/
import Derived.Test.YtkhnegoolkefjaaGreatDoorIndexNoneProofJ2
namespace Go.Proofs.YtkhnegoolkefjaaGreatDoor.indexNone
theorem jf3:(Rows.indexNoneRow.recurses == Tryz.pinned.checked.prog.recurses 3)=true:=by kernel_rfl
end Go.Proofs.YtkhnegoolkefjaaGreatDoor.indexNone
