/- What is proved: that the functions which the law FamilyDefines reaches are the plain functions over data whose trees of tests the text before writes out (the kernel runs the evaluator over each place). Conditions: the program is the given one. -/
import Derived.Test.YtmjeljjkhblgeaaGreatDoorProg
import Derived.KernelRfl
import Derived.Test.YtmjeljjkhblgeaaGreatDoorFamilyDefinesTree
import Derived.Test.YtmjeljjkhblgeaaGreatDoorFamilyDefinesKnownA
import Derived.Test.YtmjeljjkhblgeaaGreatDoorFamilyDefinesKnownB
import Derived.Test.YtmjeljjkhblgeaaGreatDoorFamilyDefinesKnownC
import Derived.Test.YtmjeljjkhblgeaaGreatDoorFamilyDefinesKnownD
import Derived.Test.YtmjeljjkhblgeaaGreatDoorFamilyDefinesKnownE
import Derived.Test.YtmjeljjkhblgeaaGreatDoorFamilyDefinesKnownF
import Derived.Test.YtmjeljjkhblgeaaGreatDoorFamilyDefinesKnownG
import Derived.Test.YtmjeljjkhblgeaaGreatDoorFamilyDefinesKnownH
import Derived.Test.YtmjeljjkhblgeaaGreatDoorFamilyDefinesKnownI
import Derived.Test.YtmjeljjkhblgeaaGreatDoorFamilyDefinesKnownJ
import Derived.Test.YtmjeljjkhblgeaaGreatDoorFamilyDefinesKnownK
import Derived.Test.YtmjeljjkhblgeaaGreatDoorFamilyDefinesKnownL
import Derived.Test.YtmjeljjkhblgeaaGreatDoorFamilyDefinesKnownM
import Derived.Test.YtmjeljjkhblgeaaGreatDoorFamilyDefinesKnownN
import Derived.Test.YtmjeljjkhblgeaaGreatDoorFamilyDefinesKnownO
import Derived.Test.YtmjeljjkhblgeaaGreatDoorFamilyDefinesKnownP
set_option linter.unusedVariables false
set_option linter.unusedSectionVars false
set_option linter.unusedSimpArgs false
namespace Go.Proofs.YtmjeljjkhblgeaaGreatDoor.familyDefines
open Go.AE Fdm
def m0 (E:Env):List Sm:=[]
instance pg:Pg Tryz.prog [o42,o43,o64,o65,o66,o67,o68,o69,o70,o83,o84,m6,yQ,lW,zO,yt,kk,Ac7,f6,aF,kE,xZ,lS,Aa0,Aad,mP,zA,gI,cu,md,Aci,mQ,Ac5,Aco,kx,Act,j7,cE,lm,yg,kN,yG,Abr,mU,Abf,dM,aK,kD,Abw,mL,yo,xN,l9,zZ,jM,mh,aW,lJ,yx,m9,zI,yL,nf,Aaj,cY,ku,bI,kn,yn,mg,Ac3,Ads,lV,Adz,kT,ko]:=⟨trivial⟩
def p0 (E:Env):Pt:=Oa E 5 [5,9]
def d0 (E:Env):Dec:=
 {g:=0,f:=5,p:=0,pts:=[p0 E],
  shs:=[OD]}
end Go.Proofs.YtmjeljjkhblgeaaGreatDoor.familyDefines

