/- What is proved: that the law FamilySessions itself is the plain function over data whose tree of tests was written out before: place 0. Conditions: the program is the given one. -/
import Derived.Test.YtmjeljjkhblgeaaGreatDoorFamilySessionsDecA1
set_option linter.unusedVariables false
set_option linter.unusedSectionVars false
set_option linter.unusedSimpArgs false
namespace Go.Proofs.YtmjeljjkhblgeaaGreatDoor.familySessions
open Go.AE Fs
theorem Aem2:pb0 0 0 []:=decB_join (wayB 0 0) Aem0 Aem1
theorem Aem:Hn (EF m0) [] 20000 (d0 E0) t0 0=some (jl (d0 E0) []):=decB_pt Aem2
theorem c0:N8 (EF m0) [] 20000 (d0 E0) t0:=dk1 rfl Aem
end Go.Proofs.YtmjeljjkhblgeaaGreatDoor.familySessions

