/- What is proved: the given statement Rows.FamilyListsCardSaid: at every input the law FamilyLists returns true and leaves what its arguments reach as it was. Conditions: none beyond those that the given row itself states. The road: the functions that the law reaches are turned into plain functions over data, which the kernel checks; the plain law is proved of those. -/
import Derived.Test.YtmjeljjkhblgeaaGreatDoorFamilyListsProofJ5
set_option linter.unusedVariables false
set_option linter.unusedSectionVars false
set_option linter.unusedSimpArgs false
namespace Go.Proofs.YtmjeljjkhblgeaaGreatDoor.familyLists
open Go.AE Fl
theorem joinF : joinedFacts Tryz.pinned.checked.prog 3 Tryz.f3 Rows.familyListsSpec Rows.familyListsRow = true := by
 unfold joinedFacts
 rw [jf0, jf1, jf2, jf3, jf4, jf5a, jf5b, jf5c, jf5d]
 kernel_rfl
theorem over:Rows.familyListsRow.holds Tryz.pinned (OpenSpec.ofChange Rows.familyListsSpec):=
 OpenClaim.holds_of_wide 3 Tryz.f3 rfl rfl rfl rfl rfl rfl rfl ⟨rfl,rfl,rfl,rfl,rfl⟩ rfl rfl rfl rfl rfl (by kernel_rfl) Tryz.func3 joinF
  (of_decide_eq_true (by kernel_rfl)) (by unfold Func.isWrapper;first | (rw [if_pos (by decide +kernel)];kernel_rfl) | (rw [if_neg (by decide +kernel)];exact ⟨rfl,rfl⟩))
  (fun os started H enc _=>lifted os started H enc)
end Go.Proofs.YtmjeljjkhblgeaaGreatDoor.familyLists


