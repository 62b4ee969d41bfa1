/- What is proved: a part of what the row asks of the program itself. Conditions: none. -/
import Derived.Test.YtkhnegoolkefjaaGreatDoorIndexNoneProofJ3
namespace Go.Proofs.YtkhnegoolkefjaaGreatDoor.indexNone
theorem jf4:(Rows.indexNoneRow.named == Tryz.pinned.checked.prog.varsNamed 3)=true:=by kernel_rfl
end Go.Proofs.YtkhnegoolkefjaaGreatDoor.indexNone
