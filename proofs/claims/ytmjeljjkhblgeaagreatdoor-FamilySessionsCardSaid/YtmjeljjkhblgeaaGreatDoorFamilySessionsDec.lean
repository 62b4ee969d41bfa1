/- What is proved: that the functions which the law FamilySessions reaches are the plain functions over data whose trees of tests the text before writes out (the kernel runs the evaluator over each place). Conditions: the program is the given one. -/
import Derived.Test.YtmjeljjkhblgeaaGreatDoorProg
import Derived.KernelRfl
import Derived.Test.YtmjeljjkhblgeaaGreatDoorFamilySessionsTree
import Derived.Test.YtmjeljjkhblgeaaGreatDoorFamilySessionsKnownA
import Derived.Test.YtmjeljjkhblgeaaGreatDoorFamilySessionsKnownB
import Derived.Test.YtmjeljjkhblgeaaGreatDoorFamilySessionsKnownC
import Derived.Test.YtmjeljjkhblgeaaGreatDoorFamilySessionsKnownD
import Derived.Test.YtmjeljjkhblgeaaGreatDoorFamilySessionsKnownE
import Derived.Test.YtmjeljjkhblgeaaGreatDoorFamilySessionsKnownF
import Derived.Test.YtmjeljjkhblgeaaGreatDoorFamilySessionsKnownG
import Derived.Test.YtmjeljjkhblgeaaGreatDoorFamilySessionsKnownH
import Derived.Test.YtmjeljjkhblgeaaGreatDoorFamilySessionsKnownI
import Derived.Test.YtmjeljjkhblgeaaGreatDoorFamilySessionsKnownJ
import Derived.Test.YtmjeljjkhblgeaaGreatDoorFamilySessionsKnownK
import Derived.Test.YtmjeljjkhblgeaaGreatDoorFamilySessionsKnownL
import Derived.Test.YtmjeljjkhblgeaaGreatDoorFamilySessionsKnownM
import Derived.Test.YtmjeljjkhblgeaaGreatDoorFamilySessionsKnownN
import Derived.Test.YtmjeljjkhblgeaaGreatDoorFamilySessionsKnownO
import Derived.Test.YtmjeljjkhblgeaaGreatDoorFamilySessionsKnownP
import Derived.Test.YtmjeljjkhblgeaaGreatDoorFamilySessionsKnownQ
import Derived.Test.YtmjeljjkhblgeaaGreatDoorFamilySessionsKnownR
import Derived.Test.YtmjeljjkhblgeaaGreatDoorFamilySessionsKnownS
set_option linter.unusedVariables false
set_option linter.unusedSectionVars false
set_option linter.unusedSimpArgs false
namespace Go.Proofs.YtmjeljjkhblgeaaGreatDoor.familySessions
open Go.AE Fs
def m0 (E:Env):List Sm:=[]
instance pg:Pg Tryz.prog [Ss,RE,UI,aI,UD,Y2,Xt,VA,dh,TH,Rm,Vm,Zr,UB,dS,fG,Vb,Tt,Rw,U5,eX,V6,W8,be,Wk,Tp,R5,UE,cu,UJ,XW,dt,Vq,Sl,RV,VE,Yd,Wb,ZQ,d6,Vj,Uy,RS,VT,ff,We,eH,Yq,U1,T4,Vw,Rf,U4,dR,Vu,Zi,Yt,Vp,Tf,Vl,Q7,V1,aL,VS,ZR,ZB,Vn,UG,V9]:=⟨trivial⟩
def p0 (E:Env):Pt:=J3 E 6 [5,9]
def d0 (E:Env):Dec:=
 {g:=0,f:=6,p:=0,pts:=[p0 E],
  shs:=[Ki]}
end Go.Proofs.YtmjeljjkhblgeaaGreatDoor.familySessions

