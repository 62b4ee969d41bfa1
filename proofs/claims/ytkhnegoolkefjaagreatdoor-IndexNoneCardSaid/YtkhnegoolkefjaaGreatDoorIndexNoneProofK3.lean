/- What is proved: a part of what the card asks of the row and the program. Conditions: none. -/
import Derived.Test.YtkhnegoolkefjaaGreatDoorIndexNoneProofK2
namespace Go.Proofs.YtkhnegoolkefjaaGreatDoor.indexNone
theorem kg : false = Rows.indexNoneRow.goesBy Tryz.pinned.checked.prog := by kernel_rfl
end Go.Proofs.YtkhnegoolkefjaaGreatDoor.indexNone
