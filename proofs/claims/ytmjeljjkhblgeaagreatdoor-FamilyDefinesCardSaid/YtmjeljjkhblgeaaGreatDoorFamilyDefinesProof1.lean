/- What is proved: the given statement Rows.FamilyDefinesCardSaid: at every input the law FamilyDefines returns true and leaves what its arguments reach as it was. Conditions: none beyond those that the given row itself states. The road: the functions that the law reaches are turned into plain functions over data, which the kernel checks; the plain law is proved of those. -/
import Derived.Test.YtmjeljjkhblgeaaGreatDoorFamilyDefinesProofJ0
import Derived.Test.YtmjeljjkhblgeaaGreatDoorFamilyDefinesProofJ1
import Derived.Test.YtmjeljjkhblgeaaGreatDoorFamilyDefinesProofJ2
import Derived.Test.YtmjeljjkhblgeaaGreatDoorFamilyDefinesProofJ3
import Derived.Test.YtmjeljjkhblgeaaGreatDoorFamilyDefinesProofJ4
import Derived.Test.YtmjeljjkhblgeaaGreatDoorFamilyDefinesProofJ5
set_option linter.unusedVariables false
set_option linter.unusedSectionVars false
set_option linter.unusedSimpArgs false
namespace Go.Proofs.YtmjeljjkhblgeaaGreatDoor.familyDefines
open Go.AE Fdm
theorem joinF : joinedFacts Tryz.pinned.checked.prog 5 Tryz.f5 Rows.familyDefinesSpec Rows.familyDefinesRow = true := by
 unfold joinedFacts
 rw [joinF0, joinF1, joinF2, joinF3, joinF4, joinF5a, joinF5b, joinF5c, joinF5d]
 kernel_rfl
theorem over:Rows.familyDefinesRow.holds Tryz.pinned (OpenSpec.ofChange Rows.familyDefinesSpec):=
 OpenClaim.holds_of_wide 5 Tryz.f5 rfl rfl rfl rfl rfl rfl rfl ⟨rfl,rfl,rfl,rfl,rfl⟩ rfl rfl rfl rfl rfl (by kernel_rfl) Tryz.func5 joinF
  (of_decide_eq_true (by kernel_rfl)) (by unfold Func.isWrapper;first | (rw [if_pos (by decide +kernel)];kernel_rfl) | (rw [if_neg (by decide +kernel)];exact ⟨rfl,rfl⟩))
  (fun os started H enc _=>lifted os started H enc)
end Go.Proofs.YtmjeljjkhblgeaaGreatDoor.familyDefines


