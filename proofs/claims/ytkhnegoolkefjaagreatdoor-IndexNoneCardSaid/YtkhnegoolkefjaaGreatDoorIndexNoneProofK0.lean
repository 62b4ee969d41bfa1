/- What is proved: a part of what the card asks of the row and the program. Conditions: none. -/
import Derived.Test.YtkhnegoolkefjaaGreatDoorIndexNoneProof1
namespace Go.Proofs.YtkhnegoolkefjaaGreatDoor.indexNone
theorem kw : Rows.indexNoneRow.wfByText (OpenSpec.ofChange Rows.indexNoneSpec) = true := by kernel_rfl
theorem km : Tryz.pinned.checked.prog.mainIs = some (true, ("2c557b26de1306675b80025adc1c3e1126d87043e531c5867f029befb5d7da8f").toList) := by kernel_rfl
end Go.Proofs.YtkhnegoolkefjaaGreatDoor.indexNone
