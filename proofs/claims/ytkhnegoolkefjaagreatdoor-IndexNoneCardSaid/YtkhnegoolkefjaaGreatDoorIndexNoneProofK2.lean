/- What is proved: a part of what the card asks of the row and the program. Conditions: none. -/
import Derived.Test.YtkhnegoolkefjaaGreatDoorIndexNoneProofK1
namespace Go.Proofs.YtkhnegoolkefjaaGreatDoor.indexNone
theorem kl : true = Tryz.pinned.checked.prog.looks [] := by kernel_rfl
end Go.Proofs.YtkhnegoolkefjaaGreatDoor.indexNone
