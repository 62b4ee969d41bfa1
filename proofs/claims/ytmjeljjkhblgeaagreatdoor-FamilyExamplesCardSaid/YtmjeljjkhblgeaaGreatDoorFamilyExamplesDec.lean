/- What is proved: that the functions which the law FamilyExamples reaches are the plain functions over data whose trees of tests the text before writes out (the kernel runs the evaluator over each place). Conditions: the program is the given one. -/
import Derived.Test.YtmjeljjkhblgeaaGreatDoorProg
import Derived.KernelRfl
import Derived.Test.YtmjeljjkhblgeaaGreatDoorFamilyExamplesTree
import Derived.Test.YtmjeljjkhblgeaaGreatDoorFamilyExamplesKnownA
import Derived.Test.YtmjeljjkhblgeaaGreatDoorFamilyExamplesKnownB
import Derived.Test.YtmjeljjkhblgeaaGreatDoorFamilyExamplesKnownC
import Derived.Test.YtmjeljjkhblgeaaGreatDoorFamilyExamplesKnownD
import Derived.Test.YtmjeljjkhblgeaaGreatDoorFamilyExamplesKnownE
import Derived.Test.YtmjeljjkhblgeaaGreatDoorFamilyExamplesKnownF
import Derived.Test.YtmjeljjkhblgeaaGreatDoorFamilyExamplesKnownG
import Derived.Test.YtmjeljjkhblgeaaGreatDoorFamilyExamplesKnownH
import Derived.Test.YtmjeljjkhblgeaaGreatDoorFamilyExamplesKnownI
import Derived.Test.YtmjeljjkhblgeaaGreatDoorFamilyExamplesKnownJ
import Derived.Test.YtmjeljjkhblgeaaGreatDoorFamilyExamplesKnownK
import Derived.Test.YtmjeljjkhblgeaaGreatDoorFamilyExamplesKnownL
import Derived.Test.YtmjeljjkhblgeaaGreatDoorFamilyExamplesKnownM
import Derived.Test.YtmjeljjkhblgeaaGreatDoorFamilyExamplesKnownN
import Derived.Test.YtmjeljjkhblgeaaGreatDoorFamilyExamplesKnownO
import Derived.Test.YtmjeljjkhblgeaaGreatDoorFamilyExamplesKnownP
set_option linter.unusedVariables false
set_option linter.unusedSectionVars false
set_option linter.unusedSimpArgs false
namespace Go.Proofs.YtmjeljjkhblgeaaGreatDoor.familyExamples
open Go.AE Fx
def m0 (E:Env):List Sm:=[]
instance pg:Pg Tryz.prog [R6,af,Vd,cB,VB,Xl,R0,Xo,UK,X2,Vl,Sb,W3,U4,Za,Uh,Sy,WN,U6,aX,Va,Sz,Yg,VI,Y8,Vq,S4,cJ,UQ,aw,UV,SX,Yv,Ub,bH,VS,SW,Yr,UY,Zw,U0,UT]:=⟨trivial⟩
def p0 (E:Env):Pt:=JZ E 4 [5,9]
def d0 (E:Env):Dec:=
 {g:=0,f:=4,p:=0,pts:=[p0 E],
  shs:=[Ke]}
theorem tz:Hk (EF m0) [] 20000 (d0 E0) t0 0=some (jl (d0 E0) []):=by kernel_rfl
theorem c0:N1 (EF m0) [] 20000 (d0 E0) t0:=dk1 rfl tz
end Go.Proofs.YtmjeljjkhblgeaaGreatDoor.familyExamples

