/- What is proved: that the law StreamNone itself is the plain function over data whose tree of tests was written out before: place 0. Conditions: the program is the given one. -/
import Derived.Test.YtdnicaeefjefdaaGreatDoorStreamNoneDec
set_option linter.unusedVariables false
set_option linter.unusedSectionVars false
set_option linter.unusedSimpArgs false
namespace Go.Proofs.YtdnicaeefjefdaaGreatDoor.streamNone
open Go.AE Sn
def m1 (E : Env) : List Sm := (d0 E).smL a0 (p0 E) 0 (d0 E).shs ++ m0 E
def p1 (E : Env) : Pt := Do E 3 [22, 4]
def d1 (E : Env) : Dec :=
 {g := 1, f := 3, p := 0, pts := [p1 E],
  shs := [Dh] }
theorem R4 : CF (EF m1) [] 20000 (d1 E0) t1 0 = some (jl (d1 E0) []) := by kernel_rfl
theorem c1 : DO (EF m1) [] 20000 (d1 E0) t1 := dk1 rfl R4
end Go.Proofs.YtdnicaeefjefdaaGreatDoor.streamNone

