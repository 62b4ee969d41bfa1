/- What is stated: the trees of tests of the functions that the law StreamNone reaches, as data. Conditions: none. -/
import Derived.Test.YtdnicaeefjefdaaGreatDoorBeF
set_option linter.unusedVariables false
set_option linter.unusedSectionVars false
set_option linter.unusedSimpArgs false
namespace Sn
open Go.AE
def u0 : SE := .var 0
def u1 : SE := .var 1
def x0 : Tr Plf := (
 .split (.eql (.sel (.app 0 (rl [(.c 0)])) 0) (.c 1)) (
 .leaf (.done 0 [(.bc true)])) (
 .leaf .stuck))
def Se : Tr Plf :=
 .leaf (.done 0 [])
def t0 : List (Tr Plf) := [Se]
def Sd : Tr Plf :=
 .split (.lss (.c 100) (.lenL u0)) x0 (
 .split u1 x0 x0)
def t1 : List (Tr Plf) := [Sd]
def ts : List (List (Tr Plf)) := [t0, t1]
end Sn

