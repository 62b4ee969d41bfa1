/- What is stated: the trees of tests of the functions that the law FamilyLists reaches, as data. Conditions: none. -/
import Derived.Test.YtmjeljjkhblgeaaGreatDoorBeH
set_option linter.unusedVariables false
set_option linter.unusedSectionVars false
set_option linter.unusedSimpArgs false
namespace Fl
open Go.AE
def u0:SE:=.var 0
def u1:SE:=.var 1
def u2:SE:=.var 2
def u3:SE:=.var 3
def u4:SE:=.var 4
def x0:SE:=(.eql u0 u4)
def x1:SE:=(.lss u4 (.c 8))
def x2:SE:=(.eql u4 (.c 0))
def x3:SE:=(.arith .add .i64 u4 (.c 1))
def x4:Tr Plf:=(
 .leaf (.next 1 [(.arith .add .i64 u0 (.c 1)),u1,u2,u3,x3]))
def x5:Tr Plf:=(
 .split (.eql u3 (.c 0)) (
 .split (.lss x3 u1) x4 (
 .leaf (.done 0 [x3]))) x4)
def x6:SE:=(.eql u4 (.c 1))
def x7:Tr Plf:=(
 .leaf (.done 1 [u4]))
def x8:SE:=(.eql u4 (.c 2))
def x9:SE:=(.eql u4 (.c 3))
def x10:SE:=(.eql u4 (.c 4))
def x11:SE:=(.eql u4 (.c 5))
def x12:SE:=(.eql u4 (.c 6))
def x13:Tr Plf:=(
 .leaf .stuck)
def x14:Tr Plf:=(
 .split (.eql u4 (.c 7)) x7 x13)
def x15:Tr Plf:=(
 .split x11 x7 (
 .split x12 x7 x14))
def x16:Tr Plf:=(
 .split x9 x7 (
 .split x10 x7 x15))
def x17:SE:=(.sel (.app 0 (rl [(.c 0),u0,(.bc false),(.c 0),(.c 0)])) 0)
def x18:Tr Plf:=(
 .leaf (.done 0 [(.bc false)]))
def x19:SE:=(.app 0 (rl [(.c 0),u0,(.bc false),(.c 1),(.c 0)]))
def x20:Tr Plf:=(
 .split (.eql (.sel x19 1) (.c 8)) (
 .leaf (.next 3 [u0])) x18)
def qM:Tr Plf:=
 .leaf (.next 1 [(.c 0),u0,u1,u2,u3])
def pQ:Tr Plf:=
 .split (.lss u0 (.c 8)) (
 .split (.eql u0 (.c 0)) (
 .split x0 (
 .split x1 (
 .split x2 x5 (
 .split x6 x7 (
 .split x8 x7 x16))) x7) x7) (
 .split (.eql u0 (.c 1)) (
 .split x0 (
 .split x1 (
 .split x2 x7 (
 .split x6 x5 (
 .split x8 x7 x16))) x7) x7) (
 .split (.eql u0 (.c 2)) (
 .split x0 (
 .split x1 (
 .split x2 x7 (
 .split x6 x7 (
 .split x8 x5 x16))) x7) x7) (
 .split (.eql u0 (.c 3)) (
 .split x0 (
 .split x1 (
 .split x2 x7 (
 .split x6 x7 (
 .split x8 x7 (
 .split x9 x5 (
 .split x10 x7 x15))))) x7) x7) (
 .split (.eql u0 (.c 4)) (
 .split x0 (
 .split x1 (
 .split x2 x7 (
 .split x6 x7 (
 .split x8 x7 (
 .split x9 x7 (
 .split x10 x5 x15))))) x7) x7) (
 .split (.eql u0 (.c 5)) (
 .split x0 (
 .split x1 (
 .split x2 x7 (
 .split x6 x7 (
 .split x8 x7 (
 .split x9 x7 (
 .split x10 x7 (
 .split x11 x5 (
 .split x12 x7 x14))))))) x7) x7) (
 .split (.eql u0 (.c 6)) (
 .split x0 (
 .split x1 (
 .split x2 x7 (
 .split x6 x7 (
 .split x8 x7 (
 .split x9 x7 (
 .split x10 x7 (
 .split x11 x7 (
 .split x12 x5 x14))))))) x7) x7) (
 .split (.eql u0 (.c 7)) (
 .split x0 (
 .split x1 (
 .split x2 x7 (
 .split x6 x7 (
 .split x8 x7 (
 .split x9 x7 (
 .split x10 x7 (
 .split x11 x7 (
 .split x12 x7 (
 .split (.eql u4 (.c 7)) x5 x13)))))))) x7) x7) x13)))))))) (
 .leaf (.done 2 [u4]))
def t0:List (Tr Plf):=[qM,pQ]
def mR:Tr Plf:=
 .leaf (.next 1 [u0])
def ux:Tr Plf:=
 .split (.eql x17 (.c 1)) (
 .leaf (.next 2 [u0])) (
 .split (.eql x17 (.c 2)) x18 (
 .split (.eql x17 (.c 3)) (
 .leaf (.next 2 [u0])) x13))
def kH:Tr Plf:=
 .split (.eql (.sel x19 0) (.c 1)) x20 (
 .split (.eql (.sel x19 0) (.c 2)) x18 (
 .split (.eql (.sel x19 0) (.c 3)) x20 x13))
def mt:Tr Plf:=
 .leaf (.done 0 [(.bc true)])
def t1:List (Tr Plf):=[mR,ux,kH,mt]
def ts:List (List (Tr Plf)):=[t0,t1]
end Fl

