/- What is proved: that the law UpgradeSoon itself is the plain function over data whose tree of tests was written out before: place 0. Conditions: the program is the given one. -/
import Derived.Test.YtmgppdghdeokbaaGreatUpgradeSoonDec
set_option linter.unusedVariables false
set_option linter.unusedSectionVars false
set_option linter.unusedSimpArgs false
namespace Go.Proofs.YtmgppdghdeokbaaGreat.upgradeSoon
open Go.AE Us
def m91 (E:Env):List Sm:=(d90 E).smL a90 (p90 E) 0 (d90 E).shs ++ m90 E
def p91 (E:Env):Pt:=E3 E 3 [26,32,33]
def d91 (E:Env):Dec:=
 {g:=91,f:=3,p:=0,pts:=[p91 E,
  Ax E 3 122 10 42 [(2,dV 3 0),(3,(.ptr 0 0)),(4,(.ptr 1 0)),(7,(.ptr 2 0)),(9,(.ptr 3 0)),(11,iV 1)] [some z1,some (.cells 6 (Ak [(0,sV 6),(1,dV 98 7),(2,dV 96 8),(3,dV 101 9),(4,dV 103 10),(5,dV 188 11)])),some (.cells 1 (Ak [(0,(.ptr 4 0))])),some (.cells 10 (Ak [(0,sV 12),(1,dV 98 13),(2,dV 96 14),(3,dV 101 15),(4,sV 16),(5,iV 17),(6,dV 96 18),(7,dV 3 19),(8,iV 20),(9,dV 140 21)])),some (.cells 11 (Ak [(0,(.ptr 5 0)),(1,sV 22),(2,aV 6 3 23 24),(3,aV 7 2 25 26),(4,aV 8 9 27 28),(5,sV 29),(6,bV 30),(7,iV 31),(8,(.ptr 9 0)),(9,bV 32),(10,aV 10 2 33 34)])),some (.cells 2 (Ak [(0,(.bool true)),(1,aV 11 3 35 36)])),rV 98 23,rV 96 25,rV 101 27,some (.cells 3 (Ak [(0,iV 37),(1,(.nmap 12 (.var 38))),(2,aV 13 2 39 40)])),rV 225 33,rV 215 35,some (.dmap 3 3 (.var 41)),rV 256 39] [] [],
  Ax E 3 122 19 3 [(12,dV 3 0),(14,dV 3 1),(16,iV 2)] [] [] []],
  shs:=[E6]}
theorem ta:Af (EF m91) [10,19] 20000 (d91 E0) t91 0=some (jl (d91 E0) [1]):=by kernel_rfl
end Go.Proofs.YtmgppdghdeokbaaGreat.upgradeSoon

