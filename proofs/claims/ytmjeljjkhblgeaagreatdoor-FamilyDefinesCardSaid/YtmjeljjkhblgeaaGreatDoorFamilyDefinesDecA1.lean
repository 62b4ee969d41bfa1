/- What is proved: that the law FamilyDefines itself is the plain function over data whose tree of tests was written out before: place 0. Conditions: the program is the given one. -/
import Derived.Test.YtmjeljjkhblgeaaGreatDoorFamilyDefinesDecA0
set_option linter.unusedVariables false
set_option linter.unusedSectionVars false
set_option linter.unusedSimpArgs false
namespace Go.Proofs.YtmjeljjkhblgeaaGreatDoor.familyDefines
open Go.AE Fdm
theorem Avm1:pb0 1 0 []:=by unfold pb0;kernel_rfl
end Go.Proofs.YtmjeljjkhblgeaaGreatDoor.familyDefines
