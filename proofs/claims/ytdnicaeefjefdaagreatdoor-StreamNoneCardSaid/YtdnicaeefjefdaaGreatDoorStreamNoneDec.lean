/- What is proved: that the functions which the law StreamNone reaches are the plain functions over data whose trees of tests the text before writes out (the kernel runs the evaluator over each place). Conditions: the program is the given one. -/
import Derived.Test.YtdnicaeefjefdaaGreatDoorProg
import Derived.KernelRfl
import Derived.Test.YtdnicaeefjefdaaGreatDoorStreamNoneTree
import Derived.Test.YtdnicaeefjefdaaGreatDoorStreamNoneKnownA
set_option linter.unusedVariables false
set_option linter.unusedSectionVars false
set_option linter.unusedSimpArgs false
namespace Go.Proofs.YtdnicaeefjefdaaGreatDoor.streamNone
open Go.AE Sn
def m0 (E : Env) : List Sm := []
instance pg : Pg Tryz.prog l7 := ⟨trivial⟩
def a0 : List AV := []
def p0 (E : Env) : Pt := Bu E 4 0 a0 [] []
def d0 (E : Env) : Dec :=
 {g := 0, f := 4, p := 0, pts := [p0 E],
  shs := [{ m := 0, res := (.bool true), post := [], keep := [] }] }
theorem Sc : CF (EF m0) [] 20000 (d0 E0) t0 0 = some (jl (d0 E0) []) := by kernel_rfl
theorem c0 : DO (EF m0) [] 20000 (d0 E0) t0 := dk1 rfl Sc
end Go.Proofs.YtdnicaeefjefdaaGreatDoor.streamNone

