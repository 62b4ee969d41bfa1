/- What is proved: that the law FamilyDefines itself is the plain function over data whose tree of tests was written out before: place 0. Conditions: the program is the given one. -/
import Derived.Test.YtmjeljjkhblgeaaGreatDoorFamilyDefinesDecA1
set_option linter.unusedVariables false
set_option linter.unusedSectionVars false
set_option linter.unusedSimpArgs false
namespace Go.Proofs.YtmjeljjkhblgeaaGreatDoor.familyDefines
open Go.AE Fdm
theorem Avm2:pb0 0 0 []:=decB_join (wayB 0 0) Avm0 Avm1
theorem Avm:JE (EF m0) [] 20000 (d0 E0) t0 0=some (jl (d0 E0) []):=decB_pt Avm2
theorem c0:VB (EF m0) [] 20000 (d0 E0) t0:=dk1 rfl Avm
end Go.Proofs.YtmjeljjkhblgeaaGreatDoor.familyDefines

