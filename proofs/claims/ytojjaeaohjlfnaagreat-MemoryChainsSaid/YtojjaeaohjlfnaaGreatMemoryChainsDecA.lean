/- What is proved: that the law MemoryChains itself is the plain function over data whose tree of tests was written out before: place 0. Conditions: the program is the given one. -/
import Derived.Test.YtojjaeaohjlfnaaGreatMemoryChainsDecF16
import Derived.Test.YtojjaeaohjlfnaaGreatMemoryChainsDecF80
set_option linter.unusedVariables false
namespace Go.Proofs.YtojjaeaohjlfnaaGreat.memoryChains
open Go.AE Mc
def m85 (E:Env):List Sm:=(d84 E).smL a84 (p84 E) 0 (d84 E).shs++m84 E
def p85 (E:Env):Pt:=Mq E 5 [24]
def d85 (E:Env):Dec:=
 {g:=85,f:=5,p:=0,pts:=[p85 E,
  Ap E 5 99 12 6 [(3,aV 0 1 0 1),(5,.ptr0),(6,(.int .i64 2)),(7,(.ptr 1 0)),(8,iV 2),(9,(.int .i64 0)),(10,(.int .i64 0))] [rV 9 0,some z30] [] [],
  Ap E 5 99 12 16 [(3,aV 0 1 0 1),(5,(.ptr 1 0)),(6,(.int .i64 0)),(7,(.ptr 2 0)),(8,iV 2),(9,iV 3),(10,iV 4)] [rV 9 0,some (.cells 6 (Ai [(0,sV 5),(1,aV 3 2 6 7),(2,sV 8),(3,aV 4 6 9 10),(4,(.map 5)),(5,(.map 6))])),some (.cells 3 (Ai [(0,iV 11),(1,iV 12),(2,iV 13)])),rV 44 6,rV 108 9,some (.dmap 9 3 (.var 14)),some (.dmap 9 3 (.var 15))] [] []],
  shs:=[MO]}
theorem rF:Ag (EF m85) [12] 20000 (d85 E0) t85 0=some (jl (d85 E0) [1,2]):=by kernel_rfl
end Go.Proofs.YtojjaeaohjlfnaaGreat.memoryChains

