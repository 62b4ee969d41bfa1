/- What is stated: the trees of tests of the functions that the law FamilyDefines reaches, as data. Conditions: none. -/
import Derived.Test.YtmjeljjkhblgeaaGreatDoorBeH
set_option linter.unusedVariables false
set_option linter.unusedSectionVars false
set_option linter.unusedSimpArgs false
namespace Fdm
open Go.AE
def u0:SE:=.var 0
def u1:SE:=.var 1
def x0:SE:=(.conv .i64 u0)
def x1:Tr Plf:=(
 .leaf (.done 0 [(.bc true)]))
def Ayh:Tr Plf:=
 .split (.lss x0 (.c 8)) (
 .split (.eql x0 (.c 0)) x1 (
 .split (.eql x0 (.c 1)) x1 (
 .split (.eql x0 (.c 2)) x1 (
 .split (.eql x0 (.c 3)) x1 (
 .split (.eql x0 (.c 4)) x1 (
 .split (.eql x0 (.c 5)) x1 (
 .split (.eql x0 (.c 6)) x1 (
 .split (.eql x0 (.c 7)) x1 (
 .leaf .stuck))))))))) (
 .split (.eqS u1 5 495622906222) x1 (
 .split (.eqS u1 5 435727459692) x1 (
 .split (.eqS u1 5 495622842726) x1 (
 .split (.eqS u1 6 126870807932788) x1 (
 .split (.eqS u1 7 32480064979559794) x1 (
 .split (.eqS u1 7 32495402123093352) x1 (
 .split (.eqS u1 7 32497592573780591) x1 (
 .split (.eqS u1 9 2129618691208608441714) x1 (
 .split (.lss (.c 100) (.lenS u1)) x1 x1)))))))))
def t0:List (Tr Plf):=[Ayh]
def ts:List (List (Tr Plf)):=[t0]
end Fdm

