/- What is stated: the trees of tests of the functions that the law IndexNone reaches, as data. Conditions: none. -/
import Derived.Test.YtkhnegoolkefjaaGreatDoorBeG
set_option linter.unusedVariables false
set_option linter.unusedSectionVars false
set_option linter.unusedSimpArgs false
namespace Ix
open Go.AE
def u0 : SE := .var 0
def u1 : SE := .var 1
def u2 : SE := .var 2
def u3 : SE := .var 3
def u4 : SE := .var 4
def u5 : SE := .var 5
def x0 : Tr Plf := (
 .leaf (.done 0 [(.bc true)]))
def x1 : SE := (.sel (.app 0 (rl [(.c 0), (.bc false), .nilL, (.bc true)])) 0)
def x2 : Tr Plf := (
 .leaf (.done 0 [(.bc false)]))
def To : Tr Plf :=
 .leaf (.next 1 [u1, u2, u0])
def Tl : Tr Plf :=
 .split (.lss (.c 0) (.lenL u0)) (
 .leaf (.done 0 [])) (
 .leaf (.done 1 []))
def t0 : List (Tr Plf) := [To, Tl]
def Tc : Tr Plf :=
 .split (.lss (.c 10) (.lenL u3)) x0 (
 .split (.lss (.c 100) (.lenS u4)) x0 (
 .split (.lss (.c 100) (.lenS u5)) x0 (
 .leaf (.next 1 (us 0 9)))))
def Tw : Tr Plf :=
 .split (.eql x1 (.c 1)) x2 (
 .split (.eql x1 (.c 2)) (
 .leaf (.next 2 (us 0 9))) (
 .leaf .stuck))
def S7 : Tr Plf :=
 .split (.eql x1 (.c 1)) x2 (
 .split (.eql x1 (.c 2)) (
 .leaf (.next 3 (us 0 9))) (
 .leaf .stuck))
def Tb : Tr Plf :=
 .leaf (.done 0 [(.bc true)])
def t1 : List (Tr Plf) := [Tc, Tw, S7, Tb]
def ts : List (List (Tr Plf)) := [t0, t1]
end Ix

