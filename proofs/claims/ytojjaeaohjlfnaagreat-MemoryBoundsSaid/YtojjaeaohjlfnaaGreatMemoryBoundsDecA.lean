/- What is proved: that the law MemoryBounds itself is the plain function over data whose tree of tests was written out before: place 0. Conditions: the program is the given one. -/
import Derived.Test.YtojjaeaohjlfnaaGreatMemoryBoundsDecF16
import Derived.Test.YtojjaeaohjlfnaaGreatMemoryBoundsDecF59
set_option linter.unusedVariables false
set_option linter.unusedSectionVars false
set_option linter.unusedSimpArgs false
namespace Go.Proofs.YtojjaeaohjlfnaaGreat.memoryBounds
open Go.AE Mz
def cN(E:Env):List Sm:=(XH E).smL xX (pT E) 0 (XH E).shs++dN E
def Aek(E:Env):Pt:=MD E 3 [24,25]
def XW(E:Env):Dec:=
 {g:=101,f:=3,p:=0,pts:=[Aek E,
  Ap E 3 118 8 14 [(2,(.ptr 0 0)),(3,(.ptr 1 0)),(5,(.ptr 2 0)),(6,iV 0),(7,(.ptr 3 0)),(8,iV 1)] [some z2,some z47,some (.cells 3 (Am [(0,iV 8),(1,iV 9),(2,iV 10)])),some (.cells 3 (Am [(0,iV 11),(1,iV 12),(2,iV 13)]))] [] []],
  shs:=[MY]}
theorem kG:Af (EF cN) [8] 20000 (XW E0) ZP 0=some (jl (XW E0) [1]):=by kernel_rfl
end Go.Proofs.YtojjaeaohjlfnaaGreat.memoryBounds

