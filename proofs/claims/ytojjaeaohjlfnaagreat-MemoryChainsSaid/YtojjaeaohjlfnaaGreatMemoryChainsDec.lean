/- What is proved: that the functions which the law MemoryChains reaches are the plain functions over data whose trees of tests the text before writes out (the kernel runs the evaluator over each place). Conditions: the program is the given one. -/
import Derived.Test.YtojjaeaohjlfnaaGreatProg
import Derived.KernelRfl
import Derived.Test.YtojjaeaohjlfnaaGreatMemoryChainsTree
import Derived.Test.YtojjaeaohjlfnaaGreatMemoryChainsKnownA
import Derived.Test.YtojjaeaohjlfnaaGreatMemoryChainsKnownB
import Derived.Test.YtojjaeaohjlfnaaGreatMemoryChainsKnownC
import Derived.Test.YtojjaeaohjlfnaaGreatMemoryChainsKnownD
import Derived.Test.YtojjaeaohjlfnaaGreatMemoryChainsKnownE
import Derived.Test.YtojjaeaohjlfnaaGreatMemoryChainsKnownF
import Derived.Test.YtojjaeaohjlfnaaGreatMemoryChainsKnownG
import Derived.Test.YtojjaeaohjlfnaaGreatMemoryChainsKnownH
import Derived.Test.YtojjaeaohjlfnaaGreatMemoryChainsKnownI
import Derived.Test.YtojjaeaohjlfnaaGreatMemoryChainsKnownJ
import Derived.Test.YtojjaeaohjlfnaaGreatMemoryChainsKnownK
import Derived.Test.YtojjaeaohjlfnaaGreatMemoryChainsKnownL
import Derived.Test.YtojjaeaohjlfnaaGreatMemoryChainsKnownM
set_option linter.unusedVariables false
set_option linter.unusedSectionVars false
set_option linter.unusedSimpArgs false
namespace Go.Proofs.YtojjaeaohjlfnaaGreat.memoryChains
open Go.AE Mc
def m0 (E:Env):List Sm:=[]
instance pg:Pg Tryz.prog [o18]:=⟨trivial⟩
def z0:AV:=(.agg [sV 0,dV 44 1,sV 2])
def a0:List AV:=[z0]
def p0 (E:Env):Pt:=Al E 7 3 a0 [] []
def z1:Am:=(.cells 3 (Ai [(0,sV 1),(1,dV 44 2),(2,sV 3)]))
def z2:Am:=(.cells 3 (Ai [(0,sV 2),(1,dV 44 3),(2,sV 4)]))
def z3:Am:=(.cells 2 (Ai [(0,sV 5),(1,dV 63 6)]))
def d0 (E:Env):Dec:=
 {g:=0,f:=7,p:=0,pts:=[p0 E,
  Ap E 7 80 4 4 [(1,(.ptr 0 0)),(3,iV 0)] [some z1] [] [],
  Ap E 7 80 10 7 [(1,(.ptr 0 0)),(3,iV 0),(4,(.ptr 1 0)),(5,iV 1)] [some z2,some z3] [] []],
  shs:=[{m:=1,res:=bV 0,post:=[],keep:=[]}]}
theorem Acq:Ag (EF m0) [4,10] 20000 (d0 E0) t0 0=some (jl (d0 E0) [1]):=by kernel_rfl
theorem Acy:Ag (EF m0) [4,10] 20000 (d0 E0) t0 1=some (jl (d0 E0) [2]):=by kernel_rfl
theorem Adv:Ag (EF m0) [4,10] 20000 (d0 E0) t0 2=some (jl (d0 E0) [2,1]):=by kernel_rfl
theorem c0:As (EF m0) [4,10] 20000 (d0 E0) t0:=dk3 rfl Acq Acy Adv
def m1 (E:Env):List Sm:=(d0 E).smL a0 (p0 E) 0 (d0 E).shs++m0 E
def a1:List AV:=[aV 0 1 0 1,bV 2]
def p1 (E:Env):Pt:=Al E 151 3 a1 [rV 4 0] []
def d1 (E:Env):Dec:=
 {g:=1,f:=151,p:=1,pts:=[p1 E,
  Ap E 151 19 2 4 [(0,aV 0 1 0 1),(1,bV 2),(7,(.si .i64 (.lenL (.var 0)))),(8,iV 3)] [rV 4 0] [] []],
  shs:=[{m:=1,res:=iV 0,post:=[none],keep:=[0]}]}
theorem Ad6:Ag (EF m1) [2] 20000 (d1 E0) t1 0=some (jl (d1 E0) [1]):=by kernel_rfl
theorem Adx:Ag (EF m1) [2] 20000 (d1 E0) t1 1=some (jl (d1 E0) [1,1]):=by kernel_rfl
theorem c1:As (EF m1) [2] 20000 (d1 E0) t1:=dk2 rfl Ad6 Adx
def m2 (E:Env):List Sm:=(d1 E).smL a1 (p1 E) 0 (d1 E).shs++m1 E
def a2:List AV:=[aV 0 1 0 1,(.func (.func 134) [] [])]
def p2 (E:Env):Pt:=Al E 145 2 a2 [rV 5 0] []
def d2 (E:Env):Dec:=
 {g:=2,f:=145,p:=1,pts:=[p2 E,
  Ap E 145 19 2 3 [(0,aV 0 1 0 1),(1,(.func (.func 134) [] [])),(7,(.si .i64 (.lenL (.var 0)))),(8,iV 2)] [rV 5 0] [] []],
  shs:=[{m:=1,res:=iV 0,post:=[none],keep:=[0]}]}
theorem Ab9:Ag (EF m2) [2] 20000 (d2 E0) t2 0=some (jl (d2 E0) [1]):=by kernel_rfl
theorem Ab5:Ag (EF m2) [2] 20000 (d2 E0) t2 1=some (jl (d2 E0) [1,1,1,1]):=by kernel_rfl
theorem c2:As (EF m2) [2] 20000 (d2 E0) t2:=dk2 rfl Ab9 Ab5
def m3 (E:Env):List Sm:=(d2 E).smL a2 (p2 E) 0 (d2 E).shs++m2 E
def a3:List AV:=[sV 0]
def p3 (E:Env):Pt:=Al E 116 1 a3 [] []
def d3 (E:Env):Dec:=
 {g:=3,f:=116,p:=0,pts:=[p3 E],
  shs:=[{m:=1,res:=bV 0,post:=[],keep:=[]}]}
theorem Acl:Ag (EF m3) [] 20000 (d3 E0) t3 0=some (jl (d3 E0) []):=by kernel_rfl
theorem c3:As (EF m3) [] 20000 (d3 E0) t3:=dk1 rfl Acl
def m4 (E:Env):List Sm:=(d3 E).smL a3 (p3 E) 0 (d3 E).shs++m3 E
def a4:List AV:=[dV 63 0,(.func (.func 40) [] [(.ptr 0 0)])]
def z4:Am:=(.cells 1 (Ai [(0,sV 1)]))
def p4 (E:Env):Pt:=Al E 66 2 a4 [some z4] []
def z5:Am:=(.cells 1 (Ai [(0,sV 2)]))
def d4 (E:Env):Dec:=
 {g:=4,f:=66,p:=1,pts:=[p4 E,
  Ap E 66 19 2 3 [(0,dV 63 0),(1,(.func (.func 40) [] [(.ptr 0 0)])),(7,(.si .i64 (.lenL (.var 0)))),(8,iV 1)] [some z5] [] []],
  shs:=[{m:=1,res:=iV 0,post:=[none],keep:=[0]}]}
theorem Adr:Ag (EF m4) [2] 20000 (d4 E0) t4 0=some (jl (d4 E0) [1]):=by kernel_rfl
theorem Ada:Ag (EF m4) [2] 20000 (d4 E0) t4 1=some (jl (d4 E0) [1]):=by kernel_rfl
theorem c4:As (EF m4) [2] 20000 (d4 E0) t4:=dk2 rfl Adr Ada
def m5 (E:Env):List Sm:=(d4 E).smL a4 (p4 E) 0 (d4 E).shs++m4 E
def a5:List AV:=[dV 119 0,aV 0 2 1 2]
def p5 (E:Env):Pt:=Al E 189 3 a5 [rV 119 1] []
def d5 (E:Env):Dec:=
 {g:=5,f:=189,p:=1,pts:=[p5 E,
  Ap E 189 26 4 4 [(0,dV 119 0),(1,aV 0 2 1 2),(12,(.si .i64 (.lenL (.var 0)))),(13,iV 3)] [rV 119 1] [] []],
  shs:=[{m:=1,res:=bV 0,post:=[none],keep:=[0]}]}
theorem Adf:Ag (EF m5) [4] 20000 (d5 E0) t5 0=some (jl (d5 E0) [1]):=by kernel_rfl
theorem Adt:Ag (EF m5) [4] 20000 (d5 E0) t5 1=some (jl (d5 E0) [1]):=by kernel_rfl
theorem c5:As (EF m5) [4] 20000 (d5 E0) t5:=dk2 rfl Adf Adt
def m6 (E:Env):List Sm:=(d5 E).smL a5 (p5 E) 0 (d5 E).shs++m5 E
def a6:List AV:=[dV 138 0,aV 0 3 1 2]
def p6 (E:Env):Pt:=Al E 190 3 a6 [rV 138 1] []
def d6 (E:Env):Dec:=
 {g:=6,f:=190,p:=1,pts:=[p6 E,
  Ap E 190 26 4 4 [(0,dV 138 0),(1,aV 0 3 1 2),(12,(.si .i64 (.lenL (.var 0)))),(13,iV 3)] [rV 138 1] [] []],
  shs:=[{m:=1,res:=bV 0,post:=[none],keep:=[0]}]}
theorem Ad0:Ag (EF m6) [4] 20000 (d6 E0) t6 0=some (jl (d6 E0) [1]):=by kernel_rfl
theorem Acx:Ag (EF m6) [4] 20000 (d6 E0) t6 1=some (jl (d6 E0) [1]):=by kernel_rfl
theorem c6:As (EF m6) [4] 20000 (d6 E0) t6:=dk2 rfl Ad0 Acx
def m7 (E:Env):List Sm:=(d6 E).smL a6 (p6 E) 0 (d6 E).shs++m6 E
def a7:List AV:=[(.ptr 0 0),iV 9,iV 10,aV 3 1 11 12]
def z6:Am:=(.cells 9 (Ai [(0,sV 0),(1,dV 44 1),(2,sV 2),(3,(.map 1)),(4,(.map 2)),(5,iV 5),(6,iV 6),(7,sV 7),(8,dV 63 8)]))
def p7 (E:Env):Pt:=Al E 164 13 a7 [some z6,some (.dmap 9 3 (.var 3)),some (.dmap 9 4 (.var 4)),rV 3 11] []
def d7 (E:Env):Dec:=
 {g:=7,f:=164,p:=4,pts:=[p7 E,
  Ap E 164 28 1 14 [(0,(.ptr 0 0)),(1,iV 0),(2,iV 1),(10,aV 3 1 2 3),(11,(.si .i64 (.lenL (.var 2)))),(12,iV 4)] [some (.cells 9 (Ai [(0,sV 5),(1,dV 44 6),(2,sV 7),(3,(.map 1)),(4,(.map 2)),(5,iV 8),(6,iV 9),(7,sV 10),(8,dV 63 11)])),some (.dmap 9 3 (.var 12)),some (.dmap 9 4 (.var 13)),rV 3 2] [] []],
  shs:=[{m:=2,res:=(.iface 78 (.agg [iV 0,iV 1,(.int .i64 7)])),post:=[none,none,none,none],keep:=[0,1,2,3],ok:=false},{m:=0,res:=(.tuple []),post:=[none,none,none,none],keep:=[0,1,2,3]}]}
theorem Ab2:Ag (EF m7) [1] 20000 (d7 E0) t7 0=some (jl (d7 E0) [1]):=by kernel_rfl
theorem Adn:Ag (EF m7) [1] 20000 (d7 E0) t7 1=some (jl (d7 E0) [1]):=by kernel_rfl
theorem c7:As (EF m7) [1] 20000 (d7 E0) t7:=dk2 rfl Ab2 Adn
def m8 (E:Env):List Sm:=(d7 E).smL a7 (p7 E) 0 (d7 E).shs++m7 E
def a8:List AV:=[dV 119 0,(.func (.func 152) [] [(.ptr 0 0)])]
def z7:Am:=(.cells 1 (Ai [(0,(.map 1))]))
def p8 (E:Env):Pt:=Al E 133 2 a8 [some z7,some (.dmap 9 4 (.var 1))] []
def d8 (E:Env):Dec:=
 {g:=8,f:=133,p:=2,pts:=[p8 E,
  Ap E 133 19 2 3 [(0,dV 119 0),(1,(.func (.func 152) [] [(.ptr 0 0)])),(7,(.si .i64 (.lenL (.var 0)))),(8,iV 1)] [some z7,some (.dmap 9 4 (.var 2))] [] []],
  shs:=[{m:=2,res:=iV 0,post:=[none,some (.dmap 9 4 (.var 1))],keep:=[0]}]}
theorem Ab8:Ag (EF m8) [2] 20000 (d8 E0) t8 0=some (jl (d8 E0) [1]):=by kernel_rfl
theorem Ado:Ag (EF m8) [2] 20000 (d8 E0) t8 1=some (jl (d8 E0) [1,1,1,1]):=by kernel_rfl
theorem c8:As (EF m8) [2] 20000 (d8 E0) t8:=dk2 rfl Ab8 Ado
def m9 (E:Env):List Sm:=(d8 E).smL a8 (p8 E) 0 (d8 E).shs++m8 E
def a9:List AV:=[dV 63 0]
def p9 (E:Env):Pt:=Al E 126 1 a9 [] []
def d9 (E:Env):Dec:=
 {g:=9,f:=126,p:=0,pts:=[p9 E,
  Ap E 126 28 3 3 [(3,(.map 0)),(9,dV 63 0),(10,(.si .i64 (.lenL (.var 0)))),(11,iV 1)] [some (.dmap 9 157 (.var 2))] [] []],
  shs:=[{m:=1,res:=(.map 0),post:=[some (.dmap 9 157 (.var 0))],keep:=[]}]}
theorem Ac0:Ag (EF m9) [3] 20000 (d9 E0) t9 0=some (jl (d9 E0) [1]):=by kernel_rfl
theorem Adq:Ag (EF m9) [3] 20000 (d9 E0) t9 1=some (jl (d9 E0) [1,1,1,1,1,1,1]):=by kernel_rfl
theorem c9:As (EF m9) [3] 20000 (d9 E0) t9:=dk2 rfl Ac0 Adq
def m10 (E:Env):List Sm:=(d9 E).smL a9 (p9 E) 0 (d9 E).shs++m9 E
def a10:List AV:=[(.func (.yield 0) [] []),(.ptr 8 0)]
def z8:Am:=(.cells 1 (Ai [(0,(.ptr 2 0))]))
def z9:Am:=(.cells 9 (Ai [(0,sV 0),(1,dV 44 1),(2,sV 2),(3,(.map 3)),(4,(.map 4)),(5,iV 5),(6,iV 6),(7,sV 7),(8,dV 63 8)]))
def z10:Am:=(.cells 1 (Ai [(0,(.map 6))]))
def p10 (E:Env):Pt:=Al E 154 12 a10 [some (Az E 170 4 .ready none 52 [(2,(.ptr 1 0)),(4,(.ptr 5 0))] 7),some z8,some z9,some (.dmap 9 3 (.var 3)),some (.dmap 9 4 (.var 4)),some z10,some (.dmap 9 157 (.var 9)),some (.deferred (some [])),some (.cells 1 (Ai [(0,aV 9 2 10 11)])),rV 119 10] []
def z11:Am:=(.cells 1 (Ai [(0,aV 9 2 0 1)]))
def d10 (E:Env):Dec:=
 {g:=10,f:=154,p:=10,pts:=[p10 E,
  Ap E 154 17 1 13 [(0,(.func (.yield 0) [] [])),(5,aV 9 2 0 1),(6,(.si .i64 (.lenL (.var 0)))),(7,iV 2)] [some (Az E 170 4 .ready none 52 [(2,(.ptr 1 0)),(4,(.ptr 5 0))] 7),some z8,some (.cells 9 (Ai [(0,sV 3),(1,dV 44 4),(2,sV 5),(3,(.map 3)),(4,(.map 4)),(5,iV 6),(6,iV 7),(7,sV 8),(8,dV 63 9)])),some (.dmap 9 3 (.var 10)),some (.dmap 9 4 (.var 11)),some z10,some (.dmap 9 157 (.var 12)),some (.deferred (some [])),some z11,rV 119 0] [] []],
  shs:=[{m:=2,res:=(.iface 78 (.agg [iV 0,iV 1,(.int .i64 8)])),post:=[some (Az E 170 4 .busy none 52 [] 7),none,none,none,none,none,none,none,none,none],keep:=[1,2,3,4,5,6,7,8,9],ok:=false},{m:=0,res:=(.tuple []),post:=[none,none,none,none,none,none,none,none,none,none],keep:=[0,1,2,3,4,5,6,7,8,9]}]}
theorem zk:Ag (EF m10) [1] 20000 (d10 E0) t10 0=some (jl (d10 E0) [1]):=by kernel_rfl
theorem vj:Ag (EF m10) [1] 20000 (d10 E0) t10 1=some (jl (d10 E0) [1]):=by kernel_rfl
theorem c10:As (EF m10) [1] 20000 (d10 E0) t10:=dk2 rfl zk vj
def m11 (E:Env):List Sm:=(d10 E).smL a10 (p10 E) 0 (d10 E).shs++m10 E
def a11:List AV:=[(.func (.yield 0) [] []),(.ptr 8 0)]
def z12:Am:=(.cells 1 (Ai [(0,sV 0)]))
def z13:Am:=(.cells 1 (Ai [(0,(.map 3))]))
def z14:Am:=(.cells 1 (Ai [(0,(.func (.func 120) [] []))]))
def z15:Am:=(.cells 1 (Ai [(0,iV 2)]))
def z16:Am:=(.cells 1 (Ai [(0,bV 3)]))
def p11 (E:Env):Pt:=Al E 154 6 a11 [some (Az E 122 5 .ready none 38 [(5,(.ptr 1 0)),(6,(.ptr 2 0)),(7,(.ptr 4 0)),(8,(.ptr 5 0)),(9,(.ptr 6 0))] 7),some z12,some z13,some (.dmap 9 157 (.var 1)),some z14,some z15,some z16,some (.deferred (some [])),some (.cells 1 (Ai [(0,aV 9 2 4 5)])),rV 119 4] []
def z17:Am:=(.cells 1 (Ai [(0,sV 3)]))
def z18:Am:=(.cells 1 (Ai [(0,iV 5)]))
def z19:Am:=(.cells 1 (Ai [(0,bV 6)]))
def z20:Am:=(.cells 1 (Ai [(0,bV 0)]))
def d11 (E:Env):Dec:=
 {g:=11,f:=154,p:=10,pts:=[p11 E,
  Ap E 154 17 1 7 [(0,(.func (.yield 0) [] [])),(5,aV 9 2 0 1),(6,(.si .i64 (.lenL (.var 0)))),(7,iV 2)] [some (Az E 122 5 .ready none 38 [(5,(.ptr 1 0)),(6,(.ptr 2 0)),(7,(.ptr 4 0)),(8,(.ptr 5 0)),(9,(.ptr 6 0))] 7),some z17,some z13,some (.dmap 9 157 (.var 4)),some z14,some z18,some z19,some (.deferred (some [])),some z11,rV 119 0] [] []],
  shs:=[{m:=1,res:=(.tuple []),post:=[some (Az E 122 5 .done (some .ret) 38 [] 7),none,none,none,none,some (.cells 1 (Ai [(0,(.int .i64 2))])),some z20,none,none,none],keep:=[1,2,3,4,7,8,9]},{m:=1,res:=(.tuple []),post:=[none,none,none,none,none,none,some z20,none,none,none],keep:=[0,1,2,3,4,5,7,8,9]}]}
theorem xV:Ag (EF m11) [1] 20000 (d11 E0) t11 0=some (jl (d11 E0) [1]):=by kernel_rfl
theorem ux:Ag (EF m11) [1] 20000 (d11 E0) t11 1=some (jl (d11 E0) [1,1,1,1]):=by kernel_rfl
theorem c11:As (EF m11) [1] 20000 (d11 E0) t11:=dk2 rfl xV ux
def m12 (E:Env):List Sm:=(d11 E).smL a11 (p11 E) 0 (d11 E).shs++m11 E
def a12:List AV:=[(.agg [iV 0,dV 119 1]),(.func (.func 125) [] [(.ptr 0 0),(.ptr 2 0)])]
def p12 (E:Env):Pt:=Al E 124 4 a12 [some z7,some (.dmap 9 157 (.var 2)),some z16] []
def d12 (E:Env):Dec:=
 {g:=12,f:=124,p:=3,pts:=[p12 E,
  Ap E 124 27 3 5 [(1,(.func (.func 125) [] [(.ptr 0 0),(.ptr 2 0)])),(5,iV 0),(11,dV 119 1),(12,(.si .i64 (.lenL (.var 1)))),(13,iV 2)] [some z7,some (.dmap 9 157 (.var 3)),some (.cells 1 (Ai [(0,bV 4)]))] [] []],
  shs:=[{m:=1,res:=iV 0,post:=[none,none,none],keep:=[0,1,2]}]}
theorem wu:Ag (EF m12) [3] 20000 (d12 E0) t12 0=some (jl (d12 E0) [1]):=by kernel_rfl
theorem Aau:Ag (EF m12) [3] 20000 (d12 E0) t12 1=some (jl (d12 E0) [1,1,1,1,1,1,1,1]):=by kernel_rfl
theorem c12:As (EF m12) [3] 20000 (d12 E0) t12:=dk2 rfl wu Aau
def m13 (E:Env):List Sm:=(d12 E).smL a12 (p12 E) 0 (d12 E).shs++m12 E
def z21:AV:=(.agg [sV 9,iV 10,iV 11,bV 12,bV 13,iV 14,iV 15,iV 16,dV 119 17,sV 18,sV 19,sV 20,dV 138 21,iV 22,iV 23])
def a13:List AV:=[(.ptr 0 0),z21]
def p13 (E:Env):Pt:=Al E 170 24 a13 [some z6,some (.dmap 9 3 (.var 3)),some (.dmap 9 4 (.var 4))] []
def z22:AV:=(.agg [iV 0,iV 1,iV 2])
def d13 (E:Env):Dec:=
 {g:=13,f:=170,p:=3,pts:=[p13 E],
  shs:=[{m:=3,res:=(.iface 78 z22),post:=[none,none,none],keep:=[0,1,2],ok:=false},{m:=0,res:=(.tuple []),post:=[none,none,none],keep:=[0,1,2]}]}
theorem oE:Ag (EF m13) [] 20000 (d13 E0) t13 0=some (jl (d13 E0) []):=by kernel_rfl
theorem c13:As (EF m13) [] 20000 (d13 E0) t13:=dk1 rfl oE
def m14 (E:Env):List Sm:=(d13 E).smL a13 (p13 E) 0 (d13 E).shs++m13 E
def a14:List AV:=[dV 63 0,(.func (.func 191) [] [(.ptr 0 0)])]
def p14 (E:Env):Pt:=Al E 66 16 a14 [some (.cells 15 (Ai [(0,sV 1),(1,iV 2),(2,iV 3),(3,bV 4),(4,bV 5),(5,iV 6),(6,iV 7),(7,iV 8),(8,dV 119 9),(9,sV 10),(10,sV 11),(11,sV 12),(12,dV 138 13),(13,iV 14),(14,iV 15)]))] []
def d14 (E:Env):Dec:=
 {g:=14,f:=66,p:=1,pts:=[p14 E,
  Ap E 66 19 2 17 [(0,dV 63 0),(1,(.func (.func 191) [] [(.ptr 0 0)])),(7,(.si .i64 (.lenL (.var 0)))),(8,iV 1)] [some (.cells 15 (Ai [(0,sV 2),(1,iV 3),(2,iV 4),(3,bV 5),(4,bV 6),(5,iV 7),(6,iV 8),(7,iV 9),(8,dV 119 10),(9,sV 11),(10,sV 12),(11,sV 13),(12,dV 138 14),(13,iV 15),(14,iV 16)]))] [] []],
  shs:=[{m:=1,res:=iV 0,post:=[none],keep:=[0]}]}
theorem zM:Ag (EF m14) [2] 20000 (d14 E0) t14 0=some (jl (d14 E0) [1]):=by kernel_rfl
theorem oY:Ag (EF m14) [2] 20000 (d14 E0) t14 1=some (jl (d14 E0) [1,1]):=by kernel_rfl
theorem c14:As (EF m14) [2] 20000 (d14 E0) t14:=dk2 rfl zM oY
def m15 (E:Env):List Sm:=(d14 E).smL a14 (p14 E) 0 (d14 E).shs++m14 E
def a15:List AV:=[(.ptr 0 0),z21]
def p15 (E:Env):Pt:=Al E 181 24 a15 [some z6,some (.dmap 9 3 (.var 3)),some (.dmap 9 4 (.var 4))] []
def d15 (E:Env):Dec:=
 {g:=15,f:=181,p:=3,pts:=[p15 E,
  Ap E 181 69 7 14 [(0,(.ptr 0 0)),(4,(.ptr 3 0)),(7,iV 0),(45,dV 138 1),(46,(.si .i64 (.lenL (.var 1)))),(47,iV 2)] [some (.cells 9 (Ai [(0,sV 3),(1,dV 44 4),(2,sV 5),(3,(.map 1)),(4,(.map 2)),(5,iV 6),(6,iV 7),(7,sV 8),(8,dV 63 9)])),some (.dmap 9 3 (.var 10)),some (.dmap 9 4 (.var 11)),some (.cells 2 (Ai [(0,iV 12),(1,iV 13)]))] [] []],
  shs:=[{m:=3,res:=(.iface 78 z22),post:=[none,none,none],keep:=[0,1,2],ok:=false},{m:=0,res:=(.tuple []),post:=[none,none,none],keep:=[0,1,2]}]}
theorem rA:Ag (EF m15) [7] 20000 (d15 E0) t15 0=some (jl (d15 E0) [1]):=by kernel_rfl
theorem qJ:Ag (EF m15) [7] 20000 (d15 E0) t15 1=some (jl (d15 E0) [1]):=by kernel_rfl
theorem c15:As (EF m15) [7] 20000 (d15 E0) t15:=dk2 rfl rA qJ
def m16 (E:Env):List Sm:=(d15 E).smL a15 (p15 E) 0 (d15 E).shs++m15 E
def a16:List AV:=[(.ptr 0 0),z21]
def p16 (E:Env):Pt:=Al E 138 24 a16 [some z6,some (.dmap 9 3 (.var 3)),some (.dmap 9 4 (.var 4))] []
def d16 (E:Env):Dec:=
 {g:=16,f:=138,p:=3,pts:=[p16 E],
  shs:=[{m:=3,res:=(.iface 78 z22),post:=[none,none,none],keep:=[0,1,2],ok:=false},{m:=0,res:=(.tuple []),post:=[none,none,none],keep:=[0,1,2]}]}
def m17 (E:Env):List Sm:=(d16 E).smL a16 (p16 E) 0 (d16 E).shs++m16 E
def z23:AV:=(.agg [sV 0,dV 63 1])
def a17:List AV:=[z23]
def p17 (E:Env):Pt:=Al E 43 2 a17 [] []
def z24:Am:=(.cells 1 (Ai [(0,dV 9 0)]))
def d17 (E:Env):Dec:=
 {g:=17,f:=43,p:=0,pts:=[p17 E,
  Ap E 43 43 3 4 [(3,(.ptr 0 0)),(9,dV 63 0),(10,(.si .i64 (.lenL (.var 0)))),(11,iV 1)] [some (.cells 1 (Ai [(0,aV 1 1 2 3)])),rV 9 2] [] [],
  Ap E 43 43 12 7 [(3,(.ptr 0 0)),(9,dV 63 0),(10,(.si .i64 (.lenL (.var 0)))),(11,iV 1),(29,dV 138 2),(30,iV 3),(31,iV 4)] [some (.cells 1 (Ai [(0,aV 1 1 5 6)])),rV 9 5] [] []],
  shs:=[{m:=1,res:=(.func (.func 70) [] [(.ptr 0 0)]),post:=[some z24],keep:=[]}]}
theorem mo:Ag (EF m17) [3,12] 20000 (d17 E0) t17 0=some (jl (d17 E0) [1]):=by kernel_rfl
theorem nA:Ag (EF m17) [3,12] 20000 (d17 E0) t17 1=some (jl (d17 E0) [1,1,1,2,1]):=by kernel_rfl
theorem uU:Ag (EF m17) [3,12] 20000 (d17 E0) t17 2=some (jl (d17 E0) [2,1]):=by kernel_rfl
theorem c17:As (EF m17) [3,12] 20000 (d17 E0) t17:=dk3 rfl mo nA uU
def m18 (E:Env):List Sm:=(d17 E).smL a17 (p17 E) 0 (d17 E).shs++m17 E
def a18:List AV:=[dV 9 0,sV 1]
def p18 (E:Env):Pt:=Al E 107 2 a18 [] []
def d18 (E:Env):Dec:=
 {g:=18,f:=107,p:=0,pts:=[p18 E,
  Ap E 107 19 2 3 [(0,dV 9 0),(1,sV 1),(7,(.si .i64 (.lenL (.var 0)))),(8,iV 2)] [] [] []],
  shs:=[{m:=1,res:=iV 0,post:=[],keep:=[]}]}
theorem Abc:Ag (EF m18) [2] 20000 (d18 E0) t18 0=some (jl (d18 E0) [1]):=by kernel_rfl
theorem xX:Ag (EF m18) [2] 20000 (d18 E0) t18 1=some (jl (d18 E0) [1]):=by kernel_rfl
theorem c18:As (EF m18) [2] 20000 (d18 E0) t18:=dk2 rfl Abc xX
def m19 (E:Env):List Sm:=(d18 E).smL a18 (p18 E) 0 (d18 E).shs++m18 E
def a19:List AV:=[(.func (.yield 0) [] []),(.ptr 8 0)]
def p19 (E:Env):Pt:=Al E 70 12 a19 [some (Az E 117 17 .ready none 117 [(2,(.ptr 1 0)),(6,(.ptr 5 0)),(9,(.ptr 6 0))] 7),some z8,some z9,some (.dmap 9 3 (.var 3)),some (.dmap 9 4 (.var 4)),some (.cells 1 (Ai [(0,bV 9)])),some (.cells 1 (Ai [(0,iV 10)])),some (.deferred (some [])),some (.cells 1 (Ai [(0,dV 9 11)]))] []
def z25:Am:=(.cells 1 (Ai [(0,iV 1)]))
def d19 (E:Env):Dec:=
 {g:=19,f:=70,p:=9,pts:=[p19 E,
  Ap E 70 25 1 13 [(0,(.func (.yield 0) [] [])),(1,(.ptr 8 0)),(5,dV 9 0),(6,(.si .i64 (.lenL (.var 0)))),(7,iV 1)] [some (Az E 117 17 .ready none 117 [(2,(.ptr 1 0)),(6,(.ptr 5 0)),(9,(.ptr 6 0))] 7),some z8,some (.cells 9 (Ai [(0,sV 2),(1,dV 44 3),(2,sV 4),(3,(.map 3)),(4,(.map 4)),(5,iV 5),(6,iV 6),(7,sV 7),(8,dV 63 8)])),some (.dmap 9 3 (.var 9)),some (.dmap 9 4 (.var 10)),some (.cells 1 (Ai [(0,bV 11)])),some (.cells 1 (Ai [(0,iV 12)])),some (.deferred (some [])),some z24] [] []],
  shs:=[{m:=2,res:=(.tuple []),post:=[none,none,none,none,none,some z20,some z25,none,none],keep:=[0,1,2,3,4,7,8]}]}
theorem pE:Ag (EF m19) [1] 20000 (d19 E0) t19 0=some (jl (d19 E0) [1]):=by kernel_rfl
theorem ml:Ag (EF m19) [1] 20000 (d19 E0) t19 1=some (jl (d19 E0) [1,1,1,1,1,1,1,1,1,1,1,1,1]):=by kernel_rfl
theorem c19:As (EF m19) [1] 20000 (d19 E0) t19:=dk2 rfl pE ml
def m20 (E:Env):List Sm:=(d19 E).smL a19 (p19 E) 0 (d19 E).shs++m19 E
def a20:List AV:=[(.ptr 0 0),(.agg [sV 9,dV 63 10])]
def p20 (E:Env):Pt:=Al E 117 11 a20 [some z6,some (.dmap 9 3 (.var 3)),some (.dmap 9 4 (.var 4))] []
def d20 (E:Env):Dec:=
 {g:=20,f:=117,p:=3,pts:=[p20 E,
  Ap E 117 117 8 11 [(2,(.ptr 3 0)),(3,(.ptr 4 0)),(6,(.ptr 5 0)),(50,dV 63 0),(51,(.si .i64 (.lenL (.var 0)))),(52,iV 1)] [some (.cells 9 (Ai [(0,sV 2),(1,dV 44 3),(2,sV 4),(3,(.map 1)),(4,(.map 2)),(5,iV 5),(6,iV 6),(7,sV 7),(8,dV 63 0)])),some (.dmap 9 3 (.var 8)),some (.dmap 9 4 (.var 9)),some (.cells 1 (Ai [(0,(.ptr 0 0))])),some (.cells 2 (Ai [(0,sV 7),(1,dV 63 0)])),some (.cells 1 (Ai [(0,bV 10)]))] [] []],
  shs:=[{m:=8,res:=(.iface 78 z22),post:=[some (.cells 9 (Ai [(0,.top),(1,.top),(2,.top),(3,.top),(4,.top),(5,.top),(6,iV 3),(7,sV 4),(8,dV 63 5)])),some (.dmap 9 3 (.var 6)),some (.dmap 9 4 (.var 7))],keep:=[],keepC:=[(0,[0,1,2,3,4,5])],ok:=false},{m:=4,res:=(.tuple []),post:=[some (.cells 9 (Ai [(0,.top),(1,.top),(2,.top),(3,.top),(4,.top),(5,.top),(6,(.int .i64 (-1))),(7,sV 0),(8,dV 63 1)])),some (.dmap 9 3 (.var 2)),some (.dmap 9 4 (.var 3))],keep:=[],keepC:=[(0,[0,1,2,3,4,5])]}]}
theorem zq:Ag (EF m20) [8] 20000 (d20 E0) t20 0=some (jl (d20 E0) [1]):=by kernel_rfl
theorem xN:Ag (EF m20) [8] 20000 (d20 E0) t20 1=some (jl (d20 E0) [1,1]):=by kernel_rfl
theorem c20:As (EF m20) [8] 20000 (d20 E0) t20:=dk2 rfl zq xN
def m21 (E:Env):List Sm:=(d20 E).smL a20 (p20 E) 0 (d20 E).shs++m20 E
def a21:List AV:=[z0]
def p21 (E:Env):Pt:=Al E 81 3 a21 [] []
def d21 (E:Env):Dec:=
 {g:=21,f:=81,p:=0,pts:=[p21 E,
  Ap E 81 66 6 9 [(1,(.ptr 0 0)),(2,(.ptr 1 0)),(3,(.ptr 2 0)),(4,(.ptr 3 0)),(33,dV 44 0),(34,(.si .i64 (.lenL (.var 0)))),(35,iV 1)] [some (.cells 3 (Ai [(0,sV 2),(1,dV 44 0),(2,sV 3)])),some (.cells 9 (Ai [(0,sV 2),(1,dV 44 0),(2,sV 3),(3,(.map 4)),(4,(.map 5)),(5,iV 4),(6,(.int .i64 (-1))),(7,sV 5),(8,dV 63 6)])),some (.cells 3 (Ai [(0,(.int .i64 0)),(1,(.int .i64 0)),(2,(.int .i64 0))])),some (.cells 1 (Ai [(0,(.bool false))])),some (.dmap 9 3 (.var 7)),some (.dmap 9 4 (.var 8))] [] [{fn:=some (.func 114),coll:=0,captured:=[(.ptr 2 0),(.ptr 3 0)],args:=[]}]],
  shs:=[{m:=4,res:=(.tuple [(.ptr 0 0),(.agg [(.int .i64 (-1)),(.int .i64 (-1)),iV 0]),(.bool true)]),post:=[some (.cells 9 (Ai [(0,sV 1),(1,dV 44 2),(2,sV 3),(3,(.map 1)),(4,(.map 2)),(5,(.int .i64 (-1))),(6,(.int .i64 (-1))),(7,(.str 0 0)),(8,.slice0)])),some (.map [] 0),some (.map [] 0)],keep:=[]},{m:=13,res:=(.tuple [(.ptr 0 0),z22,bV 3]),post:=[some (.cells 9 (Ai [(0,sV 4),(1,dV 44 5),(2,sV 6),(3,(.map 1)),(4,(.map 2)),(5,iV 7),(6,iV 8),(7,sV 9),(8,dV 63 10)])),some (.dmap 9 3 (.var 11)),some (.dmap 9 4 (.var 12))],keep:=[]}]}
theorem wV:Ag (EF m21) [6] 20000 (d21 E0) t21 0=some (jl (d21 E0) [1]):=by kernel_rfl
theorem Aav:Ag (EF m21) [6] 20000 (d21 E0) t21 1=some (jl (d21 E0) [1]):=by kernel_rfl
theorem c21:As (EF m21) [6] 20000 (d21 E0) t21:=dk2 rfl wV Aav
def m22 (E:Env):List Sm:=(d21 E).smL a21 (p21 E) 0 (d21 E).shs++m21 E
def a22:List AV:=[z0]
def p22 (E:Env):Pt:=Al E 62 3 a22 [] []
def d22 (E:Env):Dec:=
 {g:=22,f:=62,p:=0,pts:=[p22 E],
  shs:=[{m:=4,res:=(.tuple [z22,bV 3]),post:=[],keep:=[]}]}
theorem qO:Ag (EF m22) [] 20000 (d22 E0) t22 0=some (jl (d22 E0) []):=by kernel_rfl
theorem c22:As (EF m22) [] 20000 (d22 E0) t22:=dk1 rfl qO
def m23 (E:Env):List Sm:=(d22 E).smL a22 (p22 E) 0 (d22 E).shs++m22 E
def a23:List AV:=[(.func (.yield 0) [] []),(.ptr 4 0)]
def z26:Am:=(.cells 1 (Ai [(0,iV 0)]))
def p23 (E:Env):Pt:=Al E 96 3 a23 [some (Az E 83 2 .ready none 15 [(3,(.ptr 1 0)),(4,(.ptr 2 0))] 3),some z26,some z25,some (.deferred (some [])),some (.cells 1 (Ai [(0,dV 63 2)]))] []
def z27:Am:=(.cells 1 (Ai [(0,iV 3)]))
def z28:Am:=(.cells 1 (Ai [(0,iV 4)]))
def z29:Am:=(.cells 1 (Ai [(0,dV 63 1)]))
def d23 (E:Env):Dec:=
 {g:=23,f:=96,p:=5,pts:=[p23 E,
  Ap E 96 39 2 5 [(0,(.func (.yield 0) [] [])),(1,(.ptr 4 0)),(3,iV 0),(8,dV 63 1),(9,(.si .i64 (.lenL (.var 1)))),(10,iV 2)] [some (Az E 83 2 .ready none 15 [(3,(.ptr 1 0)),(4,(.ptr 2 0))] 3),some z27,some z28,some (.deferred (some [])),some z29] [] []],
  shs:=[{m:=1,res:=(.tuple []),post:=[some (Az E 83 2 .done (some .ret) 15 [] 3),none,some z26,none,none],keep:=[1,3,4]},{m:=0,res:=(.tuple []),post:=[none,none,none,none,none],keep:=[0,1,2,3,4]}]}
theorem zT:Ag (EF m23) [2] 20000 (d23 E0) t23 0=some (jl (d23 E0) [1]):=by kernel_rfl
theorem ou:Ag (EF m23) [2] 20000 (d23 E0) t23 1=some (jl (d23 E0) [1,1,1,1]):=by kernel_rfl
theorem c23:As (EF m23) [2] 20000 (d23 E0) t23:=dk2 rfl zT ou
def m24 (E:Env):List Sm:=(d23 E).smL a23 (p23 E) 0 (d23 E).shs++m23 E
def a24:List AV:=[dV 63 0,iV 1,iV 2]
def p24 (E:Env):Pt:=Al E 64 3 a24 [] []
def d24 (E:Env):Dec:=
 {g:=24,f:=64,p:=0,pts:=[p24 E],
  shs:=[{m:=1,res:=bV 0,post:=[],keep:=[]}]}
theorem nf:Ag (EF m24) [] 20000 (d24 E0) t24 0=some (jl (d24 E0) []):=by kernel_rfl
theorem c24:As (EF m24) [] 20000 (d24 E0) t24:=dk1 rfl nf
def m25 (E:Env):List Sm:=(d24 E).smL a24 (p24 E) 0 (d24 E).shs++m24 E
def a25:List AV:=[(.func (.yield 0) [] []),(.ptr 6 0)]
def p25 (E:Env):Pt:=Al E 96 8 a25 [some (Az E 32 8 .ready none 47 [(2,(.ptr 1 0)),(3,(.ptr 2 0)),(4,(.ptr 3 0)),(5,(.ptr 4 0))] 5),some (.cells 3 (Ai [(0,iV 0),(1,iV 1),(2,iV 2)])),some z16,some z28,some z3,some (.deferred (some [])),some (.cells 1 (Ai [(0,dV 63 7)]))] []
def z30:Am:=(.cells 3 (Ai [(0,iV 3),(1,iV 4),(2,iV 5)]))
def z31:Am:=(.cells 2 (Ai [(0,sV 8),(1,dV 63 9)]))
def d25 (E:Env):Dec:=
 {g:=25,f:=96,p:=7,pts:=[p25 E,
  Ap E 96 39 2 10 [(0,(.func (.yield 0) [] [])),(1,(.ptr 6 0)),(3,iV 0),(8,dV 63 1),(9,(.si .i64 (.lenL (.var 1)))),(10,iV 2)] [some (Az E 32 8 .ready none 47 [(2,(.ptr 1 0)),(3,(.ptr 2 0)),(4,(.ptr 3 0)),(5,(.ptr 4 0))] 5),some z30,some z19,some (.cells 1 (Ai [(0,iV 7)])),some z31,some (.deferred (some [])),some z29] [] []],
  shs:=[{m:=3,res:=(.tuple []),post:=[some (Az E 32 8 .done (some (.exit 0)) 47 [] 5),some (.cells 3 (Ai [(0,iV 0),(1,iV 1),(2,(.int .i64 12))])),some (.cells 1 (Ai [(0,bV 2)])),none,none,none,none],keep:=[3,4,5,6]},{m:=1,res:=(.tuple []),post:=[none,none,some z20,none,none,none,none],keep:=[0,1,3,4,5,6]}]}
theorem yE:Ag (EF m25) [2] 20000 (d25 E0) t25 0=some (jl (d25 E0) [1]):=by kernel_rfl
theorem zR:Ag (EF m25) [2] 20000 (d25 E0) t25 1=some (jl (d25 E0) [1,1,1,1]):=by kernel_rfl
theorem c25:As (EF m25) [2] 20000 (d25 E0) t25:=dk2 rfl yE zR
def m26 (E:Env):List Sm:=(d25 E).smL a25 (p25 E) 0 (d25 E).shs++m25 E
def a26:List AV:=[z0]
def p26 (E:Env):Pt:=Al E 32 3 a26 [] []
def d26 (E:Env):Dec:=
 {g:=26,f:=32,p:=0,pts:=[p26 E],
  shs:=[{m:=4,res:=(.tuple [z22,bV 3]),post:=[],keep:=[]}]}
theorem uv:Ag (EF m26) [] 560 (d26 E0) t26 0=some (jl (d26 E0) []):=by kernel_rfl
theorem c26:As (EF m26) [] 560 (d26 E0) t26:=dk1 rfl uv
def m27 (E:Env):List Sm:=(d26 E).smL a26 (p26 E) 0 (d26 E).shs++m26 E
def a27:List AV:=[z0]
def p27 (E:Env):Pt:=Al E 10 3 a27 [] []
def d27 (E:Env):Dec:=
 {g:=27,f:=10,p:=0,pts:=[p27 E],
  shs:=[{m:=1,res:=bV 0,post:=[],keep:=[]}]}
theorem uJ:Ag (EF m27) [] 20000 (d27 E0) t27 0=some (jl (d27 E0) []):=by kernel_rfl
theorem c27:As (EF m27) [] 20000 (d27 E0) t27:=dk1 rfl uJ
def m28 (E:Env):List Sm:=(d27 E).smL a27 (p27 E) 0 (d27 E).shs++m27 E
def a28:List AV:=[z0]
def p28 (E:Env):Pt:=Al E 46 3 a28 [] []
def z32:Am:=(.cells 3 (Ai [(0,(.str 0 0)),(1,.slice0),(2,(.str 0 0))]))
def d28 (E:Env):Dec:=
 {g:=28,f:=46,p:=0,pts:=[p28 E,
  Ap E 46 64 3 6 [(1,(.ptr 0 0)),(2,(.ptr 1 0)),(13,iV 0),(14,iV 1)] [some (.cells 3 (Ai [(0,sV 2),(1,aV 2 2 3 4),(2,sV 5)])),some z32,rV 44 3] [] [],
  Ap E 46 64 8 7 [(1,(.ptr 0 0)),(2,(.ptr 1 0)),(4,(.aptr 2 2 (.var 0) 0)),(13,iV 1),(14,iV 0),(33,iV 2),(34,(.int .i64 0))] [some (.cells 3 (Ai [(0,sV 3),(1,aV 2 2 4 5),(2,sV 6)])),some z32,rV 44 4] [] [],
  Ap E 46 64 8 10 [(1,(.ptr 0 0)),(2,(.ptr 1 0)),(4,(.aptr 2 2 (.var 0) 0)),(13,iV 1),(14,iV 0),(33,iV 2),(34,iV 3)] [some (.cells 3 (Ai [(0,sV 4),(1,aV 2 2 5 6),(2,sV 7)])),some z32,some (.hole 44 (.var 5) (.var 0) 1 (aV 3 15 8 9)),rV 63 8] [] []],
  shs:=[{m:=4,res:=(.agg [sV 0,aV 0 2 1 2,sV 3]),post:=[rV 44 1],keep:=[]}]}
theorem uN:Ag (EF m28) [3,8] 20000 (d28 E0) t28 0=some (jl (d28 E0) [1,1]):=by kernel_rfl
theorem Aab:Ag (EF m28) [3,8] 20000 (d28 E0) t28 1=some (jl (d28 E0) [2,3]):=by kernel_rfl
theorem xE:Ag (EF m28) [3,8] 20000 (d28 E0) t28 2=some (jl (d28 E0) [1]):=by kernel_rfl
theorem Abp:Ag (EF m28) [3,8] 20000 (d28 E0) t28 3=some (jl (d28 E0) [3,3,3,3,1]):=by kernel_rfl
theorem c28:As (EF m28) [3,8] 20000 (d28 E0) t28:=dk4 rfl uN Aab xE Abp
def m29 (E:Env):List Sm:=(d28 E).smL a28 (p28 E) 0 (d28 E).shs++m28 E
def z33:AV:=(.agg [(.ptr 0 0),iV 8])
def a29:List AV:=[z33,(.agg [iV 9,iV 10,iV 11,iV 12,iV 13,iV 14])]
def z34:Am:=(.cells 6 (Ai [(0,sV 0),(1,aV 1 2 1 2),(2,sV 3),(3,aV 2 6 4 5),(4,(.map 3)),(5,(.map 4))]))
def p29 (E:Env):Pt:=Al E 47 15 a29 [some z34,rV 44 1,rV 108 4,some (.dmap 9 3 (.var 6)),some (.dmap 9 3 (.var 7))] []
def z35:Am:=(.cells 6 (Ai [(0,.top),(1,.top),(2,.top),(3,aV 5 6 0 1),(4,.top),(5,.top)]))
def d29 (E:Env):Dec:=
 {g:=29,f:=47,p:=5,pts:=[p29 E],
  shs:=[{m:=2,res:=(.tuple []),post:=[some z35,none,none,none,none,rV 108 0],keep:=[1,3,4],keepC:=[(0,[0,1,2,4,5])]}]}
theorem sT:Ag (EF m29) [] 20000 (d29 E0) t29 0=some (jl (d29 E0) []):=by kernel_rfl
theorem c29:As (EF m29) [] 20000 (d29 E0) t29:=dk1 rfl sT
def m30 (E:Env):List Sm:=(d29 E).smL a29 (p29 E) 0 (d29 E).shs++m29 E
def a30:List AV:=[dV 44 0,(.func (.func 38) [] [(.ptr 0 0)])]
def p30 (E:Env):Pt:=Al E 65 2 a30 [some z4] []
def d30 (E:Env):Dec:=
 {g:=30,f:=65,p:=1,pts:=[p30 E,
  Ap E 65 19 2 3 [(0,dV 44 0),(1,(.func (.func 38) [] [(.ptr 0 0)])),(7,(.si .i64 (.lenL (.var 0)))),(8,iV 1)] [some z5] [] []],
  shs:=[{m:=1,res:=iV 0,post:=[none],keep:=[0]}]}
theorem oW:Ag (EF m30) [2] 20000 (d30 E0) t30 0=some (jl (d30 E0) [1]):=by kernel_rfl
theorem ua:Ag (EF m30) [2] 20000 (d30 E0) t30 1=some (jl (d30 E0) [1]):=by kernel_rfl
theorem c30:As (EF m30) [2] 20000 (d30 E0) t30:=dk2 rfl oW ua
def z36:Am:=(.cells 1 (Ai [(0,(.func (.func 77) [] [(.ptr 0 0),(.ptr 2 0),(.ptr 3 0)]))]))
def q31 (E:Env):Sm:={f:=77,nv:=5,args:=[sV 0,(.ptr 0 0),(.ptr 2 0),(.ptr 3 0)],pre:=[some z7,some (.dmap 9 4 (.var 1)),some z2,some z36],facts:=[(.bc false,true)],res:=.undef,post:=[]}
def m31 (E:Env):List Sm:=q31 E::((d30 E).smL a30 (p30 E) 0 (d30 E).shs++m30 E)
def a31:List AV:=[(.func (.yield 0) [] []),(.ptr 6 0)]
def z37:Am:=(.cells 1 (Ai [(0,(.func (.func 77) [] [(.ptr 2 0),(.ptr 4 0),(.ptr 1 0)]))]))
def z38:Am:=(.cells 1 (Ai [(0,dV 9 4)]))
def p31 (E:Env):Pt:=Al E 70 5 a31 [some (Az E 77 4 .ready none 29 [(3,(.ptr 1 0))] 5),some z37,some z13,some (.dmap 9 4 (.var 0)),some z1,some (.deferred (some [])),some z38] []
def z39:Am:=(.cells 3 (Ai [(0,sV 3),(1,dV 44 4),(2,sV 5)]))
def d31 (E:Env):Dec:=
 {g:=31,f:=70,p:=7,pts:=[p31 E,
  Ap E 70 25 1 6 [(0,(.func (.yield 0) [] [])),(1,(.ptr 6 0)),(5,dV 9 0),(6,(.si .i64 (.lenL (.var 0)))),(7,iV 1)] [some (Az E 77 4 .ready none 29 [(3,(.ptr 1 0))] 5),some z37,some z13,some (.dmap 9 4 (.var 2)),some z39,some (.deferred (some [])),some z24] [] []],
  shs:=[{m:=0,res:=(.tuple []),post:=[none,none,none,none,none,none,none],keep:=[0,1,2,3,4,5,6]}]}
theorem zl:Ag (EF m31) [1] 20000 (d31 E0) t31 0=some (jl (d31 E0) [1]):=by kernel_rfl
theorem vb:Ag (EF m31) [1] 20000 (d31 E0) t31 1=some (jl (d31 E0) [1]):=by kernel_rfl
theorem c31:As (EF m31) [1] 20000 (d31 E0) t31:=dk2 rfl zl vb
def m32 (E:Env):List Sm:=(d31 E).smL a31 (p31 E) 0 (d31 E).shs++m31 E
def a32:List AV:=[sV 0,(.ptr 0 0),(.ptr 2 0),(.ptr 3 0)]
def p32 (E:Env):Pt:=Al E 77 5 a32 [some z7,some (.dmap 9 4 (.var 1)),some z2,some z36] []
def d32 (E:Env):Dec:=
 {g:=32,f:=77,p:=4,pts:=[p32 E],
  shs:=[{m:=1,res:=(.tuple []),post:=[none,some (.dmap 9 4 (.var 0)),none,none],keep:=[0,2,3]}]}
theorem oK:Ag (EF m32) [] 20000 (d32 E0) t32 0=some (jl (d32 E0) []):=by kernel_rfl
theorem c32:As (EF m32) [] 20000 (d32 E0) t32:=dk1 rfl oK
def m33 (E:Env):List Sm:=(d32 E).smL a32 (p32 E) 0 (d32 E).shs++m31 E
def a33:List AV:=[(.func (.yield 0) [] []),(.ptr 6 0)]
def p33 (E:Env):Pt:=Al E 70 5 a33 [some (Az E 77 4 .ready none 29 [(3,(.ptr 1 0))] 5),some z37,some z13,some (.dmap 9 4 (.var 0)),some z1,some (.deferred (some [])),some z38] []
def d33 (E:Env):Dec:=
 {g:=33,f:=70,p:=7,pts:=[p33 E,
  Ap E 70 25 1 6 [(0,(.func (.yield 0) [] [])),(1,(.ptr 6 0)),(5,dV 9 0),(6,(.si .i64 (.lenL (.var 0)))),(7,iV 1)] [some (Az E 77 4 .ready none 29 [(3,(.ptr 1 0))] 5),some z37,some z13,some (.dmap 9 4 (.var 2)),some z39,some (.deferred (some [])),some z24] [] []],
  shs:=[{m:=1,res:=(.tuple []),post:=[none,none,none,some (.dmap 9 4 (.var 0)),none,none,none],keep:=[0,1,2,4,5,6]}]}
theorem vz:Ag (EF m33) [1] 20000 (d33 E0) t33 0=some (jl (d33 E0) [1]):=by kernel_rfl
theorem rb:Ag (EF m33) [1] 20000 (d33 E0) t33 1=some (jl (d33 E0) [1,1]):=by kernel_rfl
theorem c33:As (EF m33) [1] 20000 (d33 E0) t33:=dk2 rfl vz rb
def m34 (E:Env):List Sm:=(d33 E).smL a33 (p33 E) 0 (d33 E).shs++m33 E
def a34:List AV:=[sV 0,(.ptr 0 0),(.ptr 2 0),(.ptr 3 0)]
def p34 (E:Env):Pt:=Al E 77 5 a34 [some z7,some (.dmap 9 4 (.var 1)),some z2,some z36] []
def d34 (E:Env):Dec:=
 {g:=34,f:=77,p:=4,pts:=[p34 E],
  shs:=[{m:=1,res:=(.tuple []),post:=[none,some (.dmap 9 4 (.var 0)),none,none],keep:=[0,2,3]}]}
theorem rL:Ag (EF m34) [] 20000 (d34 E0) t34 0=some (jl (d34 E0) []):=by kernel_rfl
theorem c34:As (EF m34) [] 20000 (d34 E0) t34:=dk1 rfl rL
def m35 (E:Env):List Sm:=(d34 E).smL a34 (p34 E) 0 (d34 E).shs++m31 E
def a35:List AV:=[(.func (.yield 0) [] []),(.ptr 6 0)]
def p35 (E:Env):Pt:=Al E 70 5 a35 [some (Az E 77 4 .ready none 29 [(3,(.ptr 1 0))] 5),some z37,some z13,some (.dmap 9 4 (.var 0)),some z1,some (.deferred (some [])),some z38] []
def d35 (E:Env):Dec:=
 {g:=35,f:=70,p:=7,pts:=[p35 E,
  Ap E 70 25 1 6 [(0,(.func (.yield 0) [] [])),(1,(.ptr 6 0)),(5,dV 9 0),(6,(.si .i64 (.lenL (.var 0)))),(7,iV 1)] [some (Az E 77 4 .ready none 29 [(3,(.ptr 1 0))] 5),some z37,some z13,some (.dmap 9 4 (.var 2)),some z39,some (.deferred (some [])),some z24] [] []],
  shs:=[{m:=1,res:=(.tuple []),post:=[none,none,none,some (.dmap 9 4 (.var 0)),none,none,none],keep:=[0,1,2,4,5,6]}]}
theorem wc:Ag (EF m35) [1] 20000 (d35 E0) t35 0=some (jl (d35 E0) [1]):=by kernel_rfl
theorem xR:Ag (EF m35) [1] 20000 (d35 E0) t35 1=some (jl (d35 E0) [1,1]):=by kernel_rfl
theorem c35:As (EF m35) [1] 20000 (d35 E0) t35:=dk2 rfl wc xR
def m36 (E:Env):List Sm:=(d35 E).smL a35 (p35 E) 0 (d35 E).shs++m35 E
def a36:List AV:=[sV 0,(.ptr 0 0),(.ptr 2 0),(.ptr 3 0)]
def p36 (E:Env):Pt:=Al E 77 5 a36 [some z7,some (.dmap 9 4 (.var 1)),some z2,some z36] []
def d36 (E:Env):Dec:=
 {g:=36,f:=77,p:=4,pts:=[p36 E],
  shs:=[{m:=1,res:=(.tuple []),post:=[none,some (.dmap 9 4 (.var 0)),none,none],keep:=[0,2,3]}]}
theorem n9:Ag (EF m36) [] 20000 (d36 E0) t36 0=some (jl (d36 E0) []):=by kernel_rfl
theorem c36:As (EF m36) [] 20000 (d36 E0) t36:=dk1 rfl n9
def m37 (E:Env):List Sm:=(d36 E).smL a36 (p36 E) 0 (d36 E).shs++m31 E
def a37:List AV:=[(.func (.yield 0) [] []),(.ptr 6 0)]
def p37 (E:Env):Pt:=Al E 70 5 a37 [some (Az E 77 4 .ready none 29 [(3,(.ptr 1 0))] 5),some z37,some z13,some (.dmap 9 4 (.var 0)),some z1,some (.deferred (some [])),some z38] []
def d37 (E:Env):Dec:=
 {g:=37,f:=70,p:=7,pts:=[p37 E,
  Ap E 70 25 1 6 [(0,(.func (.yield 0) [] [])),(1,(.ptr 6 0)),(5,dV 9 0),(6,(.si .i64 (.lenL (.var 0)))),(7,iV 1)] [some (Az E 77 4 .ready none 29 [(3,(.ptr 1 0))] 5),some z37,some z13,some (.dmap 9 4 (.var 2)),some z39,some (.deferred (some [])),some z24] [] []],
  shs:=[{m:=1,res:=(.tuple []),post:=[none,none,none,some (.dmap 9 4 (.var 0)),none,none,none],keep:=[0,1,2,4,5,6]}]}
theorem pO:Ag (EF m37) [1] 20000 (d37 E0) t37 0=some (jl (d37 E0) [1]):=by kernel_rfl
theorem sJ:Ag (EF m37) [1] 20000 (d37 E0) t37 1=some (jl (d37 E0) [1,1]):=by kernel_rfl
theorem c37:As (EF m37) [1] 20000 (d37 E0) t37:=dk2 rfl pO sJ
def m38 (E:Env):List Sm:=(d37 E).smL a37 (p37 E) 0 (d37 E).shs++m37 E
def a38:List AV:=[sV 0,(.ptr 0 0),(.ptr 2 0),(.ptr 3 0)]
def p38 (E:Env):Pt:=Al E 77 5 a38 [some z7,some (.dmap 9 4 (.var 1)),some z2,some z36] []
def d38 (E:Env):Dec:=
 {g:=38,f:=77,p:=4,pts:=[p38 E],
  shs:=[{m:=1,res:=(.tuple []),post:=[none,some (.dmap 9 4 (.var 0)),none,none],keep:=[0,2,3]}]}
theorem mn:Ag (EF m38) [] 20000 (d38 E0) t38 0=some (jl (d38 E0) []):=by kernel_rfl
theorem c38:As (EF m38) [] 20000 (d38 E0) t38:=dk1 rfl mn
def m39 (E:Env):List Sm:=(d38 E).smL a38 (p38 E) 0 (d38 E).shs++m31 E
def a39:List AV:=[(.func (.yield 0) [] []),(.ptr 6 0)]
def p39 (E:Env):Pt:=Al E 70 5 a39 [some (Az E 77 4 .ready none 29 [(3,(.ptr 1 0))] 5),some z37,some z13,some (.dmap 9 4 (.var 0)),some z1,some (.deferred (some [])),some z38] []
def d39 (E:Env):Dec:=
 {g:=39,f:=70,p:=7,pts:=[p39 E,
  Ap E 70 25 1 6 [(0,(.func (.yield 0) [] [])),(1,(.ptr 6 0)),(5,dV 9 0),(6,(.si .i64 (.lenL (.var 0)))),(7,iV 1)] [some (Az E 77 4 .ready none 29 [(3,(.ptr 1 0))] 5),some z37,some z13,some (.dmap 9 4 (.var 2)),some z39,some (.deferred (some [])),some z24] [] []],
  shs:=[{m:=1,res:=(.tuple []),post:=[none,none,none,some (.dmap 9 4 (.var 0)),none,none,none],keep:=[0,1,2,4,5,6]}]}
theorem rf:Ag (EF m39) [1] 20000 (d39 E0) t39 0=some (jl (d39 E0) [1]):=by kernel_rfl
theorem xF:Ag (EF m39) [1] 20000 (d39 E0) t39 1=some (jl (d39 E0) [1,1]):=by kernel_rfl
theorem c39:As (EF m39) [1] 20000 (d39 E0) t39:=dk2 rfl rf xF
def m40 (E:Env):List Sm:=(d39 E).smL a39 (p39 E) 0 (d39 E).shs++m39 E
def a40:List AV:=[sV 0,(.ptr 0 0),(.ptr 2 0),(.ptr 3 0)]
def p40 (E:Env):Pt:=Al E 77 5 a40 [some z7,some (.dmap 9 4 (.var 1)),some z2,some z36] []
def d40 (E:Env):Dec:=
 {g:=40,f:=77,p:=4,pts:=[p40 E],
  shs:=[{m:=1,res:=(.tuple []),post:=[none,some (.dmap 9 4 (.var 0)),none,none],keep:=[0,2,3]}]}
theorem zL:Ag (EF m40) [] 20000 (d40 E0) t40 0=some (jl (d40 E0) []):=by kernel_rfl
theorem c40:As (EF m40) [] 20000 (d40 E0) t40:=dk1 rfl zL
def m41 (E:Env):List Sm:=(d40 E).smL a40 (p40 E) 0 (d40 E).shs++m31 E
def a41:List AV:=[(.func (.yield 0) [] []),(.ptr 6 0)]
def p41 (E:Env):Pt:=Al E 70 5 a41 [some (Az E 77 4 .ready none 29 [(3,(.ptr 1 0))] 5),some z37,some z13,some (.dmap 9 4 (.var 0)),some z1,some (.deferred (some [])),some z38] []
def d41 (E:Env):Dec:=
 {g:=41,f:=70,p:=7,pts:=[p41 E,
  Ap E 70 25 1 6 [(0,(.func (.yield 0) [] [])),(1,(.ptr 6 0)),(5,dV 9 0),(6,(.si .i64 (.lenL (.var 0)))),(7,iV 1)] [some (Az E 77 4 .ready none 29 [(3,(.ptr 1 0))] 5),some z37,some z13,some (.dmap 9 4 (.var 2)),some z39,some (.deferred (some [])),some z24] [] []],
  shs:=[{m:=1,res:=(.tuple []),post:=[none,none,none,some (.dmap 9 4 (.var 0)),none,none,none],keep:=[0,1,2,4,5,6]}]}
theorem rT:Ag (EF m41) [1] 20000 (d41 E0) t41 0=some (jl (d41 E0) [1]):=by kernel_rfl
theorem qQ:Ag (EF m41) [1] 20000 (d41 E0) t41 1=some (jl (d41 E0) [1,1]):=by kernel_rfl
theorem c41:As (EF m41) [1] 20000 (d41 E0) t41:=dk2 rfl rT qQ
def m42 (E:Env):List Sm:=(d41 E).smL a41 (p41 E) 0 (d41 E).shs++m41 E
def a42:List AV:=[sV 0,(.ptr 0 0),(.ptr 2 0),(.ptr 3 0)]
def p42 (E:Env):Pt:=Al E 77 5 a42 [some z7,some (.dmap 9 4 (.var 1)),some z2,some z36] []
def d42 (E:Env):Dec:=
 {g:=42,f:=77,p:=4,pts:=[p42 E],
  shs:=[{m:=1,res:=(.tuple []),post:=[none,some (.dmap 9 4 (.var 0)),none,none],keep:=[0,2,3]}]}
theorem zK:Ag (EF m42) [] 20000 (d42 E0) t42 0=some (jl (d42 E0) []):=by kernel_rfl
theorem c42:As (EF m42) [] 20000 (d42 E0) t42:=dk1 rfl zK
def m43 (E:Env):List Sm:=(d42 E).smL a42 (p42 E) 0 (d42 E).shs++m31 E
def a43:List AV:=[(.func (.yield 0) [] []),(.ptr 6 0)]
def p43 (E:Env):Pt:=Al E 70 5 a43 [some (Az E 77 4 .ready none 29 [(3,(.ptr 1 0))] 5),some z37,some z13,some (.dmap 9 4 (.var 0)),some z1,some (.deferred (some [])),some z38] []
def d43 (E:Env):Dec:=
 {g:=43,f:=70,p:=7,pts:=[p43 E,
  Ap E 70 25 1 6 [(0,(.func (.yield 0) [] [])),(1,(.ptr 6 0)),(5,dV 9 0),(6,(.si .i64 (.lenL (.var 0)))),(7,iV 1)] [some (Az E 77 4 .ready none 29 [(3,(.ptr 1 0))] 5),some z37,some z13,some (.dmap 9 4 (.var 2)),some z39,some (.deferred (some [])),some z24] [] []],
  shs:=[{m:=1,res:=(.tuple []),post:=[none,none,none,some (.dmap 9 4 (.var 0)),none,none,none],keep:=[0,1,2,4,5,6]}]}
theorem qy:Ag (EF m43) [1] 20000 (d43 E0) t43 0=some (jl (d43 E0) [1]):=by kernel_rfl
theorem uT:Ag (EF m43) [1] 20000 (d43 E0) t43 1=some (jl (d43 E0) [1,1]):=by kernel_rfl
theorem c43:As (EF m43) [1] 20000 (d43 E0) t43:=dk2 rfl qy uT
def m44 (E:Env):List Sm:=(d43 E).smL a43 (p43 E) 0 (d43 E).shs++m43 E
def a44:List AV:=[sV 0,(.ptr 0 0),(.ptr 2 0),(.ptr 3 0)]
def p44 (E:Env):Pt:=Al E 77 5 a44 [some z7,some (.dmap 9 4 (.var 1)),some z2,some z36] []
def d44 (E:Env):Dec:=
 {g:=44,f:=77,p:=4,pts:=[p44 E],
  shs:=[{m:=1,res:=(.tuple []),post:=[none,some (.dmap 9 4 (.var 0)),none,none],keep:=[0,2,3]}]}
theorem zX:Ag (EF m44) [] 20000 (d44 E0) t44 0=some (jl (d44 E0) []):=by kernel_rfl
theorem c44:As (EF m44) [] 20000 (d44 E0) t44:=dk1 rfl zX
def m45 (E:Env):List Sm:=(d44 E).smL a44 (p44 E) 0 (d44 E).shs++m31 E
def a45:List AV:=[(.func (.yield 0) [] []),(.ptr 6 0)]
def p45 (E:Env):Pt:=Al E 70 5 a45 [some (Az E 77 4 .ready none 29 [(3,(.ptr 1 0))] 5),some z37,some z13,some (.dmap 9 4 (.var 0)),some z1,some (.deferred (some [])),some z38] []
def d45 (E:Env):Dec:=
 {g:=45,f:=70,p:=7,pts:=[p45 E,
  Ap E 70 25 1 6 [(0,(.func (.yield 0) [] [])),(1,(.ptr 6 0)),(5,dV 9 0),(6,(.si .i64 (.lenL (.var 0)))),(7,iV 1)] [some (Az E 77 4 .ready none 29 [(3,(.ptr 1 0))] 5),some z37,some z13,some (.dmap 9 4 (.var 2)),some z39,some (.deferred (some [])),some z24] [] []],
  shs:=[{m:=1,res:=(.tuple []),post:=[none,none,none,some (.dmap 9 4 (.var 0)),none,none,none],keep:=[0,1,2,4,5,6]}]}
theorem yh:Ag (EF m45) [1] 20000 (d45 E0) t45 0=some (jl (d45 E0) [1]):=by kernel_rfl
theorem xm:Ag (EF m45) [1] 20000 (d45 E0) t45 1=some (jl (d45 E0) [1,1]):=by kernel_rfl
theorem c45:As (EF m45) [1] 20000 (d45 E0) t45:=dk2 rfl yh xm
def m46 (E:Env):List Sm:=(d45 E).smL a45 (p45 E) 0 (d45 E).shs++m45 E
def a46:List AV:=[sV 0,(.ptr 0 0),(.ptr 2 0),(.ptr 3 0)]
def p46 (E:Env):Pt:=Al E 77 5 a46 [some z7,some (.dmap 9 4 (.var 1)),some z2,some z36] []
def d46 (E:Env):Dec:=
 {g:=46,f:=77,p:=4,pts:=[p46 E],
  shs:=[{m:=1,res:=(.tuple []),post:=[none,some (.dmap 9 4 (.var 0)),none,none],keep:=[0,2,3]}]}
theorem Aad:Ag (EF m46) [] 20000 (d46 E0) t46 0=some (jl (d46 E0) []):=by kernel_rfl
theorem c46:As (EF m46) [] 20000 (d46 E0) t46:=dk1 rfl Aad
def m47 (E:Env):List Sm:=(d46 E).smL a46 (p46 E) 0 (d46 E).shs++m31 E
def a47:List AV:=[(.func (.yield 0) [] []),(.ptr 6 0)]
def p47 (E:Env):Pt:=Al E 70 5 a47 [some (Az E 77 4 .ready none 29 [(3,(.ptr 1 0))] 5),some z37,some z13,some (.dmap 9 4 (.var 0)),some z1,some (.deferred (some [])),some z38] []
def d47 (E:Env):Dec:=
 {g:=47,f:=70,p:=7,pts:=[p47 E,
  Ap E 70 25 1 6 [(0,(.func (.yield 0) [] [])),(1,(.ptr 6 0)),(5,dV 9 0),(6,(.si .i64 (.lenL (.var 0)))),(7,iV 1)] [some (Az E 77 4 .ready none 29 [(3,(.ptr 1 0))] 5),some z37,some z13,some (.dmap 9 4 (.var 2)),some z39,some (.deferred (some [])),some z24] [] []],
  shs:=[{m:=1,res:=(.tuple []),post:=[none,none,none,some (.dmap 9 4 (.var 0)),none,none,none],keep:=[0,1,2,4,5,6]}]}
theorem oN:Ag (EF m47) [1] 20000 (d47 E0) t47 0=some (jl (d47 E0) [1]):=by kernel_rfl
theorem pA:Ag (EF m47) [1] 20000 (d47 E0) t47 1=some (jl (d47 E0) [1,1]):=by kernel_rfl
theorem c47:As (EF m47) [1] 20000 (d47 E0) t47:=dk2 rfl oN pA
def m48 (E:Env):List Sm:=(d47 E).smL a47 (p47 E) 0 (d47 E).shs++m47 E
def a48:List AV:=[sV 0,(.ptr 0 0),(.ptr 2 0),(.ptr 3 0)]
def p48 (E:Env):Pt:=Al E 77 5 a48 [some z7,some (.dmap 9 4 (.var 1)),some z2,some z36] []
def d48 (E:Env):Dec:=
 {g:=48,f:=77,p:=4,pts:=[p48 E],
  shs:=[{m:=1,res:=(.tuple []),post:=[none,some (.dmap 9 4 (.var 0)),none,none],keep:=[0,2,3]}]}
theorem xy:Ag (EF m48) [] 20000 (d48 E0) t48 0=some (jl (d48 E0) []):=by kernel_rfl
theorem c48:As (EF m48) [] 20000 (d48 E0) t48:=dk1 rfl xy
def m49 (E:Env):List Sm:=(d48 E).smL a48 (p48 E) 0 (d48 E).shs++m31 E
def a49:List AV:=[z0,aV 0 1 3 4]
def p49 (E:Env):Pt:=Al E 49 5 a49 [rV 9 3] []
def z40:Am:=(.cells 3 (Ai [(0,sV 4),(1,dV 44 5),(2,sV 6)]))
def d49 (E:Env):Dec:=
 {g:=49,f:=49,p:=1,pts:=[p49 E,
  Ap E 49 22 5 7 [(5,(.ptr 1 0)),(6,(.ptr 2 0)),(11,aV 0 1 0 1),(12,(.si .i64 (.lenL (.var 0)))),(13,iV 2)] [rV 9 0,some z13,some (.cells 1 (Ai [(0,(.func (.func 77) [] [(.ptr 1 0),(.ptr 4 0),(.ptr 2 0)]))])),some (.dmap 9 4 (.var 3)),some z40] [] []],
  shs:=[{m:=1,res:=(.map 1),post:=[none,some (.dmap 9 4 (.var 0))],keep:=[0]}]}
theorem xG:Ag (EF m49) [5] 20000 (d49 E0) t49 0=some (jl (d49 E0) [1]):=by kernel_rfl
theorem vA:Ag (EF m49) [5] 20000 (d49 E0) t49 1=some (jl (d49 E0) [1]):=by kernel_rfl
theorem c49:As (EF m49) [5] 20000 (d49 E0) t49:=dk2 rfl xG vA
def m50 (E:Env):List Sm:=(d49 E).smL a49 (p49 E) 0 (d49 E).shs++m49 E
def a50:List AV:=[iV 0]
def p50 (E:Env):Pt:=Al E 48 1 a50 [] []
def d50 (E:Env):Dec:=
 {g:=50,f:=48,p:=0,pts:=[p50 E],
  shs:=[{m:=1,res:=(.agg [iV 0,(.int .i64 (-1)),(.int .i64 (-1)),(.int .i64 (-1)),(.int .i64 (-1)),(.int .i64 (-1))]),post:=[],keep:=[]}]}
theorem Aa0:Ag (EF m50) [] 20000 (d50 E0) t50 0=some (jl (d50 E0) []):=by kernel_rfl
theorem c50:As (EF m50) [] 20000 (d50 E0) t50:=dk1 rfl Aa0
def m51 (E:Env):List Sm:=(d50 E).smL a50 (p50 E) 0 (d50 E).shs++m50 E
def a51:List AV:=[z33,iV 9,iV 10,iV 11]
def p51 (E:Env):Pt:=Al E 50 12 a51 [some z34,rV 44 1,rV 108 4,some (.dmap 9 3 (.var 6)),some (.dmap 9 3 (.var 7))] []
def d51 (E:Env):Dec:=
 {g:=51,f:=50,p:=5,pts:=[p51 E],
  shs:=[{m:=2,res:=(.tuple []),post:=[some z35,none,none,none,none,rV 108 0],keep:=[1,3,4],keepC:=[(0,[0,1,2,4,5])]}]}
theorem Abx:Ag (EF m51) [] 20000 (d51 E0) t51 0=some (jl (d51 E0) []):=by kernel_rfl
theorem c51:As (EF m51) [] 20000 (d51 E0) t51:=dk1 rfl Abx
def m52 (E:Env):List Sm:=(d51 E).smL a51 (p51 E) 0 (d51 E).shs++m51 E
def a52:List AV:=[z33,iV 9,(.agg [sV 10,iV 11,iV 12,bV 13,bV 14,iV 15,iV 16,iV 17,dV 119 18,sV 19,sV 20,sV 21,dV 138 22,iV 23,iV 24])]
def p52 (E:Env):Pt:=Al E 54 25 a52 [some z34,rV 44 1,rV 108 4,some (.dmap 9 3 (.var 6)),some (.dmap 9 3 (.var 7))] []
def d52 (E:Env):Dec:=
 {g:=52,f:=54,p:=5,pts:=[p52 E,
  Ap E 54 46 3 12 [(1,iV 0),(3,(.ptr 5 0)),(12,dV 138 1),(13,(.si .i64 (.lenL (.var 1)))),(14,iV 2)] [some (.cells 6 (Ai [(0,sV 3),(1,aV 1 2 4 5),(2,sV 6),(3,aV 6 6 7 8),(4,(.map 3)),(5,(.map 4))])),rV 44 4,none,some (.dmap 9 3 (.var 9)),some (.dmap 9 3 (.var 10)),some (.cells 2 (Ai [(0,(.ptr 0 0)),(1,iV 11)])),rV 108 7] [] []],
  shs:=[{m:=2,res:=(.tuple []),post:=[some z35,none,none,none,none,rV 108 0],keep:=[1,3,4],keepC:=[(0,[0,1,2,4,5])]}]}
theorem xa:Ag (EF m52) [3] 20000 (d52 E0) t52 0=some (jl (d52 E0) [1]):=by kernel_rfl
theorem vI:Ag (EF m52) [3] 20000 (d52 E0) t52 1=some (jl (d52 E0) [1,1]):=by kernel_rfl
theorem c52:As (EF m52) [3] 20000 (d52 E0) t52:=dk2 rfl xa vI
def m53 (E:Env):List Sm:=(d52 E).smL a52 (p52 E) 0 (d52 E).shs++m52 E
def a53:List AV:=[dV 119 0,(.func (.func 113) [] [(.ptr 0 0)])]
def p53 (E:Env):Pt:=Al E 133 2 a53 [some z4] []
def d53 (E:Env):Dec:=
 {g:=53,f:=133,p:=1,pts:=[p53 E,
  Ap E 133 19 2 3 [(0,dV 119 0),(1,(.func (.func 113) [] [(.ptr 0 0)])),(7,(.si .i64 (.lenL (.var 0)))),(8,iV 1)] [some z5] [] []],
  shs:=[{m:=1,res:=iV 0,post:=[none],keep:=[0]}]}
theorem nG:Ag (EF m53) [2] 20000 (d53 E0) t53 0=some (jl (d53 E0) [1]):=by kernel_rfl
theorem tC:Ag (EF m53) [2] 20000 (d53 E0) t53 1=some (jl (d53 E0) [1]):=by kernel_rfl
theorem c53:As (EF m53) [2] 20000 (d53 E0) t53:=dk2 rfl nG tC
def m54 (E:Env):List Sm:=(d53 E).smL a53 (p53 E) 0 (d53 E).shs++m53 E
def a54:List AV:=[dV 63 0,(.func (.func 111) [] [(.ptr 0 0)])]
def p54 (E:Env):Pt:=Al E 66 2 a54 [some z4] []
def d54 (E:Env):Dec:=
 {g:=54,f:=66,p:=1,pts:=[p54 E,
  Ap E 66 19 2 3 [(0,dV 63 0),(1,(.func (.func 111) [] [(.ptr 0 0)])),(7,(.si .i64 (.lenL (.var 0)))),(8,iV 1)] [some z5] [] []],
  shs:=[{m:=1,res:=iV 0,post:=[none],keep:=[0]}]}
theorem zd:Ag (EF m54) [2] 20000 (d54 E0) t54 0=some (jl (d54 E0) [1]):=by kernel_rfl
theorem oZ:Ag (EF m54) [2] 20000 (d54 E0) t54 1=some (jl (d54 E0) [1,1]):=by kernel_rfl
theorem c54:As (EF m54) [2] 20000 (d54 E0) t54:=dk2 rfl zd oZ
def m55 (E:Env):List Sm:=(d54 E).smL a54 (p54 E) 0 (d54 E).shs++m54 E
def a55:List AV:=[z23,sV 2]
def p55 (E:Env):Pt:=Al E 79 3 a55 [] []
def d55 (E:Env):Dec:=
 {g:=55,f:=79,p:=0,pts:=[p55 E],
  shs:=[{m:=1,res:=bV 0,post:=[],keep:=[]}]}
theorem Abg:Ag (EF m55) [] 20000 (d55 E0) t55 0=some (jl (d55 E0) []):=by kernel_rfl
theorem c55:As (EF m55) [] 20000 (d55 E0) t55:=dk1 rfl Abg
def m56 (E:Env):List Sm:=(d55 E).smL a55 (p55 E) 0 (d55 E).shs++m55 E
def a56:List AV:=[z0]
def p56 (E:Env):Pt:=Al E 21 3 a56 [] []
def d56 (E:Env):Dec:=
 {g:=56,f:=21,p:=0,pts:=[p56 E,
  Ap E 21 139 9 13 [(4,(.ptr 0 0)),(5,(.ptr 1 0)),(6,(.map 2)),(46,aV 3 2 0 1),(47,iV 2),(48,iV 3)] [some (.cells 6 (Ai [(0,sV 4),(1,aV 3 2 0 5),(2,sV 6),(3,aV 4 6 7 8),(4,(.map 5)),(5,(.map 6))])),some (.cells 2 (Ai [(0,(.ptr 0 0)),(1,iV 9)])),some (.dmap 9 4 (.var 10)),rV 44 0,rV 108 7,some (.dmap 9 3 (.var 11)),some (.dmap 9 3 (.var 12))] [] [],
  Ap E 21 139 17 20 [(4,(.ptr 0 0)),(5,(.ptr 1 0)),(6,(.map 2)),(9,(.map 3)),(46,aV 4 2 0 1),(47,iV 2),(48,iV 3),(94,dV 63 4),(95,iV 5),(96,iV 6)] [some (.cells 6 (Ai [(0,sV 7),(1,aV 4 2 0 8),(2,sV 9),(3,aV 5 6 10 11),(4,(.map 6)),(5,(.map 7))])),some (.cells 2 (Ai [(0,(.ptr 0 0)),(1,iV 12)])),some (.dmap 9 4 (.var 13)),some (.map [⟨(.int .i64 8),(.func (.func 51) [(.agg [(.ptr 0 0),iV 14])] []),0⟩,⟨(.int .i64 7),(.func (.func 52) [(.agg [(.ptr 0 0),iV 15])] []),1⟩,⟨(.int .i64 12),(.func (.func 53) [(.agg [(.ptr 0 0),iV 16])] []),2⟩,⟨(.int .i64 9),(.func (.func 54) [(.agg [(.ptr 0 0),iV 17])] []),3⟩] 4),rV 44 0,rV 108 10,some (.dmap 9 3 (.var 18)),some (.dmap 9 3 (.var 19))] [] []],
  shs:=[{m:=0,res:=(.tuple [.ptr0,(.int .i64 2)]),post:=[],keep:=[]},{m:=8,res:=(.tuple [(.ptr 0 0),(.int .i64 0)]),post:=[some z34,rV 44 1,rV 108 4,some (.dmap 9 3 (.var 6)),some (.dmap 9 3 (.var 7))],keep:=[]}]}
theorem qK:Ag (EF m56) [9,17] 20000 (d56 E0) t56 0=some (jl (d56 E0) [1]):=by kernel_rfl
theorem vw:Ag (EF m56) [9,17] 20000 (d56 E0) t56 1=some (jl (d56 E0) [1,2,1]):=by kernel_rfl
theorem pX:Ag (EF m56) [9,17] 20000 (d56 E0) t56 2=some (jl (d56 E0) [2,2,2,2,2,2,2,2,2,2,2,2,2,2,2,2,2,1]):=by kernel_rfl
theorem c56:As (EF m56) [9,17] 20000 (d56 E0) t56:=dk3 rfl qK vw pX
def m57 (E:Env):List Sm:=(d56 E).smL a56 (p56 E) 0 (d56 E).shs++m56 E
def a57:List AV:=[.ptr0,sV 0]
def p57 (E:Env):Pt:=Al E 22 1 a57 [] []
def d57 (E:Env):Dec:=
 {g:=57,f:=22,p:=0,pts:=[p57 E],
  shs:=[{m:=0,res:=(.tuple [(.int .i64 0),(.int .i64 1)]),post:=[],keep:=[]}]}
theorem vT:Ag (EF m57) [] 20000 (d57 E0) t57 0=some (jl (d57 E0) []):=by kernel_rfl
theorem c57:As (EF m57) [] 20000 (d57 E0) t57:=dk1 rfl vT
def m58 (E:Env):List Sm:=(d57 E).smL a57 (p57 E) 0 (d57 E).shs++m57 E
def a58:List AV:=[z0,.ptr0]
def p58 (E:Env):Pt:=Al E 25 3 a58 [] []
def d58 (E:Env):Dec:=
 {g:=58,f:=25,p:=0,pts:=[p58 E,
  Ap E 25 45 3 2 [(1,.ptr0),(4,.map0),(5,(.ptr 0 0)),(14,dV 44 0),(15,(.si .i64 (.lenL (.var 0)))),(16,iV 1)] [some z7,some (.map [] 0)] [] []],
  shs:=[{m:=0,res:=(.map 0),post:=[some (.map [] 0)],keep:=[]}]}
theorem yx:Ag (EF m58) [3] 20000 (d58 E0) t58 0=some (jl (d58 E0) [1]):=by kernel_rfl
theorem oD:Ag (EF m58) [3] 20000 (d58 E0) t58 1=some (jl (d58 E0) [1]):=by kernel_rfl
theorem c58:As (EF m58) [3] 20000 (d58 E0) t58:=dk2 rfl yx oD
def m59 (E:Env):List Sm:=(d58 E).smL a58 (p58 E) 0 (d58 E).shs++m58 E
def a59:List AV:=[(.ptr 0 0),sV 8]
def p59 (E:Env):Pt:=Al E 22 9 a59 [some z34,rV 44 1,rV 108 4,some (.dmap 9 3 (.var 6)),some (.dmap 9 3 (.var 7))] []
def d59 (E:Env):Dec:=
 {g:=59,f:=22,p:=5,pts:=[p59 E],
  shs:=[{m:=2,res:=(.tuple [iV 0,iV 1]),post:=[none,none,none,none,none],keep:=[0,1,2,3,4]}]}
theorem zf:Ag (EF m59) [] 20000 (d59 E0) t59 0=some (jl (d59 E0) []):=by kernel_rfl
theorem c59:As (EF m59) [] 20000 (d59 E0) t59:=dk1 rfl zf
def m60 (E:Env):List Sm:=(d59 E).smL a59 (p59 E) 0 (d59 E).shs++m59 E
def a60:List AV:=[(.func (.yield 0) [] []),(.ptr 5 0)]
def z41:Am:=(.cells 1 (Ai [(0,(.map 2))]))
def p60 (E:Env):Pt:=Al E 70 3 a60 [some (Az E 25 9 .ready none 45 [(5,(.ptr 1 0)),(10,(.ptr 3 0))] 4),some z41,some (.dmap 9 3 (.var 0)),some z25,some (.deferred (some [])),some (.cells 1 (Ai [(0,dV 9 2)]))] []
def d60 (E:Env):Dec:=
 {g:=60,f:=70,p:=6,pts:=[p60 E,
  Ap E 70 25 1 4 [(0,(.func (.yield 0) [] [])),(1,(.ptr 5 0)),(5,dV 9 0),(6,(.si .i64 (.lenL (.var 0)))),(7,iV 1)] [some (Az E 25 9 .ready none 45 [(5,(.ptr 1 0)),(10,(.ptr 3 0))] 4),some z41,some (.dmap 9 3 (.var 2)),some z27,some (.deferred (some [])),some z24] [] []],
  shs:=[{m:=1,res:=(.tuple []),post:=[none,none,none,some z26,none,none],keep:=[0,1,2,4,5]}]}
theorem vE:Ag (EF m60) [1] 20000 (d60 E0) t60 0=some (jl (d60 E0) [1]):=by kernel_rfl
theorem qe:Ag (EF m60) [1] 20000 (d60 E0) t60 1=some (jl (d60 E0) [1,1,1,1,1]):=by kernel_rfl
theorem c60:As (EF m60) [1] 20000 (d60 E0) t60:=dk2 rfl vE qe
def m61 (E:Env):List Sm:=(d60 E).smL a60 (p60 E) 0 (d60 E).shs++m60 E
def a61:List AV:=[z0,(.ptr 0 0)]
def p61 (E:Env):Pt:=Al E 25 11 a61 [some (.cells 6 (Ai [(0,sV 3),(1,aV 1 2 4 5),(2,sV 6),(3,aV 2 6 7 8),(4,(.map 3)),(5,(.map 4))])),rV 44 4,rV 108 7,some (.dmap 9 3 (.var 9)),some (.dmap 9 3 (.var 10))] []
def z42:Am:=(.cells 6 (Ai [(0,sV 2),(1,aV 1 2 3 4),(2,sV 5),(3,aV 2 6 6 7),(4,(.map 3)),(5,(.map 4))]))
def z43:Am:=(.cells 1 (Ai [(0,(.map 8))]))
def z44:Am:=(.cells 1 (Ai [(0,(.map 10))]))
def z45:Am:=(.cells 1 (Ai [(0,(.map 11))]))
def z46:Am:=(.cells 1 (Ai [(0,(.map 12))]))
def z47:Am:=(.cells 1 (Ai [(0,(.map 13))]))
def z48:Am:=(.cells 1 (Ai [(0,(.map 14))]))
def z49:Am:=(.cells 1 (Ai [(0,(.map 15))]))
def d61 (E:Env):Dec:=
 {g:=61,f:=25,p:=5,pts:=[p61 E,
  Ap E 25 45 3 10 [(1,(.ptr 0 0)),(4,.map0),(5,(.ptr 5 0)),(14,dV 44 0),(15,(.si .i64 (.lenL (.var 0)))),(16,iV 1)] [some z42,rV 44 3,rV 108 6,some (.dmap 9 3 (.var 8)),some (.dmap 9 3 (.var 9)),some z10,some (.map [] 0)] [] [],
  Ap E 25 45 3 11 [(1,(.ptr 0 0)),(4,.map0),(5,(.ptr 5 0)),(14,dV 44 0),(15,(.si .i64 (.lenL (.var 0)))),(16,iV 1)] [some z42,rV 44 3,rV 108 6,some (.dmap 9 3 (.var 8)),some (.dmap 9 3 (.var 9)),some (.cells 1 (Ai [(0,(.map 7))])),some (.deferred (some [])),some (.dmap 9 3 (.var 10))] [] [6],
  Ap E 25 45 3 11 [(1,(.ptr 0 0)),(4,.map0),(5,(.ptr 5 0)),(14,dV 44 0),(15,(.si .i64 (.lenL (.var 0)))),(16,iV 1)] [some z42,rV 44 3,rV 108 6,some (.dmap 9 3 (.var 8)),some (.dmap 9 3 (.var 9)),some z43,some (.deferred (some [])),some (.deferred (some [])),some (.dmap 9 3 (.var 10))] [] [6,7],
  Ap E 25 45 3 11 [(1,(.ptr 0 0)),(4,.map0),(5,(.ptr 5 0)),(14,dV 44 0),(15,(.si .i64 (.lenL (.var 0)))),(16,iV 1)] [some z42,rV 44 3,rV 108 6,some (.dmap 9 3 (.var 8)),some (.dmap 9 3 (.var 9)),some (.cells 1 (Ai [(0,(.map 9))])),some (.deferred (some [])),some (.deferred (some [])),some (.deferred (some [])),some (.dmap 9 3 (.var 10))] [] [6,7,8],
  Ap E 25 45 3 11 [(1,(.ptr 0 0)),(4,.map0),(5,(.ptr 5 0)),(14,dV 44 0),(15,(.si .i64 (.lenL (.var 0)))),(16,iV 1)] [some z42,rV 44 3,rV 108 6,some (.dmap 9 3 (.var 8)),some (.dmap 9 3 (.var 9)),some z44,some (.deferred (some [])),some (.deferred (some [])),some (.deferred (some [])),some (.deferred (some [])),some (.dmap 9 3 (.var 10))] [] [6,7,8,9],
  Ap E 25 45 3 11 [(1,(.ptr 0 0)),(4,.map0),(5,(.ptr 5 0)),(14,dV 44 0),(15,(.si .i64 (.lenL (.var 0)))),(16,iV 1)] [some z42,rV 44 3,rV 108 6,some (.dmap 9 3 (.var 8)),some (.dmap 9 3 (.var 9)),some z45,some (.deferred (some [])),some (.deferred (some [])),some (.deferred (some [])),some (.deferred (some [])),some (.deferred (some [])),some (.dmap 9 3 (.var 10))] [] [6,7,8,9,10],
  Ap E 25 45 3 11 [(1,(.ptr 0 0)),(4,.map0),(5,(.ptr 5 0)),(14,dV 44 0),(15,(.si .i64 (.lenL (.var 0)))),(16,iV 1)] [some z42,rV 44 3,rV 108 6,some (.dmap 9 3 (.var 8)),some (.dmap 9 3 (.var 9)),some z46,some (.deferred (some [])),some (.deferred (some [])),some (.deferred (some [])),some (.deferred (some [])),some (.deferred (some [])),some (.deferred (some [])),some (.dmap 9 3 (.var 10))] [] [6,7,8,9,10,11],
  Ap E 25 45 3 11 [(1,(.ptr 0 0)),(4,.map0),(5,(.ptr 5 0)),(14,dV 44 0),(15,(.si .i64 (.lenL (.var 0)))),(16,iV 1)] [some z42,rV 44 3,rV 108 6,some (.dmap 9 3 (.var 8)),some (.dmap 9 3 (.var 9)),some z47,some (.deferred (some [])),some (.deferred (some [])),some (.deferred (some [])),some (.deferred (some [])),some (.deferred (some [])),some (.deferred (some [])),some (.deferred (some [])),some (.dmap 9 3 (.var 10))] [] [6,7,8,9,10,11,12],
  Ap E 25 45 3 11 [(1,(.ptr 0 0)),(4,.map0),(5,(.ptr 5 0)),(14,dV 44 0),(15,(.si .i64 (.lenL (.var 0)))),(16,iV 1)] [some z42,rV 44 3,rV 108 6,some (.dmap 9 3 (.var 8)),some (.dmap 9 3 (.var 9)),some z48,some (.deferred (some [])),some (.deferred (some [])),some (.deferred (some [])),some (.deferred (some [])),some (.deferred (some [])),some (.deferred (some [])),some (.deferred (some [])),some (.deferred (some [])),some (.dmap 9 3 (.var 10))] [] [6,7,8,9,10,11,12,13],
  Ap E 25 45 3 11 [(1,(.ptr 0 0)),(4,.map0),(5,(.ptr 5 0)),(14,dV 44 0),(15,(.si .i64 (.lenL (.var 0)))),(16,iV 1)] [some z42,rV 44 3,rV 108 6,some (.dmap 9 3 (.var 8)),some (.dmap 9 3 (.var 9)),some z49,some (.deferred (some [])),some (.deferred (some [])),some (.deferred (some [])),some (.deferred (some [])),some (.deferred (some [])),some (.deferred (some [])),some (.deferred (some [])),some (.deferred (some [])),some (.deferred (some [])),some (.dmap 9 3 (.var 10))] [] [6,7,8,9,10,11,12,13,14]],
  shs:=[{m:=1,res:=(.map 5),post:=[none,none,none,none,none,some (.dmap 9 3 (.var 0))],keep:=[0,1,2,3,4]}]}
theorem yf:Ag (EF m61) [3] 20000 (d61 E0) t61 0=some (jl (d61 E0) [1]):=by kernel_rfl
theorem ql:Ag (EF m61) [3] 20000 (d61 E0) t61 1=some (jl (d61 E0) [2,2,1]):=by kernel_rfl
theorem Abm:Ag (EF m61) [3] 20000 (d61 E0) t61 2=some (jl (d61 E0) [3,3,2]):=by kernel_rfl
theorem qD:Ag (EF m61) [3] 20000 (d61 E0) t61 3=some (jl (d61 E0) [4,4,3]):=by kernel_rfl
theorem xW:Ag (EF m61) [3] 20000 (d61 E0) t61 4=some (jl (d61 E0) [5,5,4]):=by kernel_rfl
theorem uw:Ag (EF m61) [3] 20000 (d61 E0) t61 5=some (jl (d61 E0) [6,6,5]):=by kernel_rfl
theorem ng:Ag (EF m61) [3] 20000 (d61 E0) t61 6=some (jl (d61 E0) [7,7,6]):=by kernel_rfl
theorem rj:Ag (EF m61) [3] 20000 (d61 E0) t61 7=some (jl (d61 E0) [8,8,7]):=by kernel_rfl
theorem wK:Ag (EF m61) [3] 20000 (d61 E0) t61 8=some (jl (d61 E0) [9,9,8]):=by kernel_rfl
theorem pq:Ag (EF m61) [3] 20000 (d61 E0) t61 9=some (jl (d61 E0) [10,10,9]):=by kernel_rfl
theorem lC:Ag (EF m61) [3] 20000 (d61 E0) t61 10=some (jl (d61 E0) [10]):=by kernel_rfl
theorem c61:As (EF m61) [3] 20000 (d61 E0) t61:=fun i pt h=>match i,h with|0,_=>⟨_,yf⟩|1,_=>⟨_,ql⟩|2,_=>⟨_,Abm⟩|3,_=>⟨_,qD⟩|4,_=>⟨_,xW⟩|5,_=>⟨_,uw⟩|6,_=>⟨_,ng⟩|7,_=>⟨_,rj⟩|8,_=>⟨_,wK⟩|9,_=>⟨_,pq⟩|10,_=>⟨_,lC⟩|i+11,h=>by cases (show none=some pt from h)
def m62 (E:Env):List Sm:=(d61 E).smL a61 (p61 E) 0 (d61 E).shs++m61 E
def a62:List AV:=[(.func (.yield 0) [] []),(.ptr 6 0)]
def p62 (E:Env):Pt:=Al E 70 4 a62 [some (Az E 18 15 .ready none 68 [(6,(.ptr 1 0)),(8,(.ptr 3 0)),(13,(.ptr 4 0))] 5),some z41,some (.dmap 9 3 (.var 0)),some z4,some z15,some (.deferred (some [])),some (.cells 1 (Ai [(0,dV 9 3)]))] []
def d62 (E:Env):Dec:=
 {g:=62,f:=70,p:=7,pts:=[p62 E,
  Ap E 70 25 1 5 [(0,(.func (.yield 0) [] [])),(1,(.ptr 6 0)),(5,dV 9 0),(6,(.si .i64 (.lenL (.var 0)))),(7,iV 1)] [some (Az E 18 15 .ready none 68 [(6,(.ptr 1 0)),(8,(.ptr 3 0)),(13,(.ptr 4 0))] 5),some z41,some (.dmap 9 3 (.var 2)),some z17,some z28,some (.deferred (some [])),some z24] [] []],
  shs:=[{m:=1,res:=(.tuple []),post:=[some (Az E 18 15 .done (some (.exit 2)) 68 [] 5),none,none,some z12,none,none,none],keep:=[1,2,4,5,6]},{m:=0,res:=(.tuple []),post:=[none,none,none,none,none,none,none],keep:=[0,1,2,3,4,5,6]}]}
theorem yn:Ag (EF m62) [1] 20000 (d62 E0) t62 0=some (jl (d62 E0) [1]):=by kernel_rfl
theorem mb:Ag (EF m62) [1] 20000 (d62 E0) t62 1=some (jl (d62 E0) [1,1,1]):=by kernel_rfl
theorem c62:As (EF m62) [1] 20000 (d62 E0) t62:=dk2 rfl yn mb
def m63 (E:Env):List Sm:=(d62 E).smL a62 (p62 E) 0 (d62 E).shs++m62 E
def a63:List AV:=[z0]
def p63 (E:Env):Pt:=Al E 18 3 a63 [] []
def z50:Am:=(.cells 3 (Ai [(0,sV 0),(1,dV 44 1),(2,sV 2)]))
def d63 (E:Env):Dec:=
 {g:=63,f:=18,p:=0,pts:=[p63 E,
  Ap E 18 68 7 3 [(1,(.ptr 0 0)),(2,.slice0),(3,(.int .i64 0)),(4,.ptr0),(6,(.ptr 1 0)),(7,.slice0),(8,(.ptr 2 0))] [some z50,some z13,some z5,some (.map [] 0)] [] [],
  Ap E 18 68 7 12 [(1,(.ptr 0 0)),(2,.slice0),(3,(.int .i64 0)),(4,(.ptr 1 0)),(6,(.ptr 2 0)),(7,.slice0),(8,(.ptr 3 0))] [some z50,some (.cells 6 (Ai [(0,sV 3),(1,aV 4 2 4 5),(2,sV 6),(3,aV 5 6 7 8),(4,(.map 6)),(5,(.map 7))])),some z43,some z5,rV 44 4,rV 108 7,some (.dmap 9 3 (.var 9)),some (.dmap 9 3 (.var 10)),some (.dmap 9 3 (.var 11))] [] [],
  Ap E 18 68 7 13 [(1,(.ptr 0 0)),(2,.slice0),(3,(.int .i64 0)),(4,(.ptr 1 0)),(6,(.ptr 2 0)),(7,(.slice 3 0 1 1)),(8,(.ptr 4 0))] [some z50,some (.cells 6 (Ai [(0,sV 3),(1,aV 6 2 4 5),(2,sV 6),(3,aV 7 6 7 8),(4,(.map 8)),(5,(.map 9))])),some z44,some z5,some (.cells 1 (Ai [(0,sV 9)])),some (.deferred (some [])),rV 44 4,rV 108 7,some (.dmap 9 3 (.var 10)),some (.dmap 9 3 (.var 11)),some (.dmap 9 3 (.var 12))] [] [5],
  Ap E 18 68 7 14 [(1,(.ptr 0 0)),(2,.slice0),(3,(.int .i64 0)),(4,(.ptr 1 0)),(6,(.ptr 2 0)),(7,(.slice 3 0 2 1)),(8,(.ptr 4 0))] [some z50,some (.cells 6 (Ai [(0,sV 3),(1,aV 7 2 4 5),(2,sV 6),(3,aV 8 6 7 8),(4,(.map 9)),(5,(.map 10))])),some z45,some (.cells 2 (Ai [(0,sV 2),(1,sV 9)])),some (.cells 1 (Ai [(0,sV 10)])),some (.deferred (some [])),some (.deferred (some [])),rV 44 4,rV 108 7,some (.dmap 9 3 (.var 11)),some (.dmap 9 3 (.var 12)),some (.dmap 9 3 (.var 13))] [] [5,6],
  Ap E 18 68 7 15 [(1,(.ptr 0 0)),(2,.slice0),(3,(.int .i64 0)),(4,(.ptr 1 0)),(6,(.ptr 2 0)),(7,(.slice 3 0 3 1)),(8,(.ptr 4 0))] [some z50,some (.cells 6 (Ai [(0,sV 3),(1,aV 8 2 4 5),(2,sV 6),(3,aV 9 6 7 8),(4,(.map 10)),(5,(.map 11))])),some z46,some (.cells 3 (Ai [(0,sV 2),(1,sV 9),(2,sV 10)])),some (.cells 1 (Ai [(0,sV 11)])),some (.deferred (some [])),some (.deferred (some [])),some (.deferred (some [])),rV 44 4,rV 108 7,some (.dmap 9 3 (.var 12)),some (.dmap 9 3 (.var 13)),some (.dmap 9 3 (.var 14))] [] [5,6,7],
  Ap E 18 68 7 16 [(1,(.ptr 0 0)),(2,.slice0),(3,(.int .i64 0)),(4,(.ptr 1 0)),(6,(.ptr 2 0)),(7,(.slice 3 0 4 1)),(8,(.ptr 4 0))] [some z50,some (.cells 6 (Ai [(0,sV 3),(1,aV 9 2 4 5),(2,sV 6),(3,aV 10 6 7 8),(4,(.map 11)),(5,(.map 12))])),some z47,some (.cells 4 (Ai [(0,sV 2),(1,sV 9),(2,sV 10),(3,sV 11)])),some (.cells 1 (Ai [(0,sV 12)])),some (.deferred (some [])),some (.deferred (some [])),some (.deferred (some [])),some (.deferred (some [])),rV 44 4,rV 108 7,some (.dmap 9 3 (.var 13)),some (.dmap 9 3 (.var 14)),some (.dmap 9 3 (.var 15))] [] [5,6,7,8],
  Ap E 18 68 7 17 [(1,(.ptr 0 0)),(2,.slice0),(3,(.int .i64 0)),(4,(.ptr 1 0)),(6,(.ptr 2 0)),(7,(.slice 3 0 5 1)),(8,(.ptr 4 0))] [some z50,some (.cells 6 (Ai [(0,sV 3),(1,aV 10 2 4 5),(2,sV 6),(3,aV 11 6 7 8),(4,(.map 12)),(5,(.map 13))])),some z48,some (.cells 5 (Ai [(0,sV 2),(1,sV 9),(2,sV 10),(3,sV 11),(4,sV 12)])),some (.cells 1 (Ai [(0,sV 13)])),some (.deferred (some [])),some (.deferred (some [])),some (.deferred (some [])),some (.deferred (some [])),some (.deferred (some [])),rV 44 4,rV 108 7,some (.dmap 9 3 (.var 14)),some (.dmap 9 3 (.var 15)),some (.dmap 9 3 (.var 16))] [] [5,6,7,8,9],
  Ap E 18 68 7 18 [(1,(.ptr 0 0)),(2,.slice0),(3,(.int .i64 0)),(4,(.ptr 1 0)),(6,(.ptr 2 0)),(7,(.slice 3 0 6 1)),(8,(.ptr 4 0))] [some z50,some (.cells 6 (Ai [(0,sV 3),(1,aV 11 2 4 5),(2,sV 6),(3,aV 12 6 7 8),(4,(.map 13)),(5,(.map 14))])),some z49,some (.cells 6 (Ai [(0,sV 2),(1,sV 9),(2,sV 10),(3,sV 11),(4,sV 12),(5,sV 13)])),some (.cells 1 (Ai [(0,sV 14)])),some (.deferred (some [])),some (.deferred (some [])),some (.deferred (some [])),some (.deferred (some [])),some (.deferred (some [])),some (.deferred (some [])),rV 44 4,rV 108 7,some (.dmap 9 3 (.var 15)),some (.dmap 9 3 (.var 16)),some (.dmap 9 3 (.var 17))] [] [5,6,7,8,9,10],
  Ap E 18 68 7 19 [(1,(.ptr 0 0)),(2,.slice0),(3,(.int .i64 0)),(4,(.ptr 1 0)),(6,(.ptr 2 0)),(7,(.slice 3 0 7 1)),(8,(.ptr 4 0))] [some z50,some (.cells 6 (Ai [(0,sV 3),(1,aV 12 2 4 5),(2,sV 6),(3,aV 13 6 7 8),(4,(.map 14)),(5,(.map 15))])),some (.cells 1 (Ai [(0,(.map 16))])),some (.cells 7 (Ai [(0,sV 2),(1,sV 9),(2,sV 10),(3,sV 11),(4,sV 12),(5,sV 13),(6,sV 14)])),some (.cells 1 (Ai [(0,sV 15)])),some (.deferred (some [])),some (.deferred (some [])),some (.deferred (some [])),some (.deferred (some [])),some (.deferred (some [])),some (.deferred (some [])),some (.deferred (some [])),rV 44 4,rV 108 7,some (.dmap 9 3 (.var 16)),some (.dmap 9 3 (.var 17)),some (.dmap 9 3 (.var 18))] [] [5,6,7,8,9,10,11],
  Ap E 18 68 7 20 [(1,(.ptr 0 0)),(2,.slice0),(3,(.int .i64 0)),(4,(.ptr 1 0)),(6,(.ptr 2 0)),(7,(.slice 3 0 8 1)),(8,(.ptr 4 0))] [some z50,some (.cells 6 (Ai [(0,sV 3),(1,aV 13 2 4 5),(2,sV 6),(3,aV 14 6 7 8),(4,(.map 15)),(5,(.map 16))])),some (.cells 1 (Ai [(0,(.map 17))])),some (.cells 8 (Ai [(0,sV 2),(1,sV 9),(2,sV 10),(3,sV 11),(4,sV 12),(5,sV 13),(6,sV 14),(7,sV 15)])),some (.cells 1 (Ai [(0,sV 16)])),some (.deferred (some [])),some (.deferred (some [])),some (.deferred (some [])),some (.deferred (some [])),some (.deferred (some [])),some (.deferred (some [])),some (.deferred (some [])),some (.deferred (some [])),rV 44 4,rV 108 7,some (.dmap 9 3 (.var 17)),some (.dmap 9 3 (.var 18)),some (.dmap 9 3 (.var 19))] [] [5,6,7,8,9,10,11,12],
  Ap E 18 68 7 21 [(1,(.ptr 0 0)),(2,.slice0),(3,(.int .i64 0)),(4,(.ptr 1 0)),(6,(.ptr 2 0)),(7,(.slice 3 0 9 1)),(8,(.ptr 4 0))] [some z50,some (.cells 6 (Ai [(0,sV 3),(1,aV 14 2 4 5),(2,sV 6),(3,aV 15 6 7 8),(4,(.map 16)),(5,(.map 17))])),some (.cells 1 (Ai [(0,(.map 18))])),some (.cells 9 (Ai [(0,sV 2),(1,sV 9),(2,sV 10),(3,sV 11),(4,sV 12),(5,sV 13),(6,sV 14),(7,sV 15),(8,sV 16)])),some (.cells 1 (Ai [(0,sV 17)])),some (.deferred (some [])),some (.deferred (some [])),some (.deferred (some [])),some (.deferred (some [])),some (.deferred (some [])),some (.deferred (some [])),some (.deferred (some [])),some (.deferred (some [])),some (.deferred (some [])),rV 44 4,rV 108 7,some (.dmap 9 3 (.var 18)),some (.dmap 9 3 (.var 19)),some (.dmap 9 3 (.var 20))] [] [5,6,7,8,9,10,11,12,13]],
  shs:=[{m:=3,res:=(.tuple [aV 0 1 0 1,iV 2]),post:=[rV 9 0],keep:=[]}]}
theorem nU:Ag (EF m63) [7] 20000 (d63 E0) t63 0=some (jl (d63 E0) [1,2]):=by kernel_rfl
theorem rx:Ag (EF m63) [7] 20000 (d63 E0) t63 1=some (jl (d63 E0) []):=by kernel_rfl
theorem nH:Ag (EF m63) [7] 20000 (d63 E0) t63 2=some (jl (d63 E0) [3,3,3,3,3,3,3,3]):=by kernel_rfl
theorem ny:Ag (EF m63) [7] 20000 (d63 E0) t63 3=some (jl (d63 E0) [4,4,4,4,4,4,4,4]):=by kernel_rfl
theorem mj:Ag (EF m63) [7] 20000 (d63 E0) t63 4=some (jl (d63 E0) [5,5,5,5,5,5,5,5]):=by kernel_rfl
theorem zx:Ag (EF m63) [7] 20000 (d63 E0) t63 5=some (jl (d63 E0) [6,6,6,6,6,6,6,6]):=by kernel_rfl
theorem tE:Ag (EF m63) [7] 20000 (d63 E0) t63 6=some (jl (d63 E0) [7,7,7,7,7,7,7,7]):=by kernel_rfl
theorem Abq:Ag (EF m63) [7] 20000 (d63 E0) t63 7=some (jl (d63 E0) [8,8,8,8,8,8,8,8]):=by kernel_rfl
theorem yT:Ag (EF m63) [7] 20000 (d63 E0) t63 8=some (jl (d63 E0) [9,9,9,9,9,9,9,9]):=by kernel_rfl
theorem mR:Ag (EF m63) [7] 20000 (d63 E0) t63 9=some (jl (d63 E0) [10,10,10,10,10,10,10,10]):=by kernel_rfl
theorem j7:Ag (EF m63) [7] 20000 (d63 E0) t63 10=some (jl (d63 E0) [11,11,11,11,11,11,11,11]):=by kernel_rfl
theorem ik:Ag (EF m63) [7] 20000 (d63 E0) t63 11=some (jl (d63 E0) []):=by kernel_rfl
theorem c63:As (EF m63) [7] 20000 (d63 E0) t63:=fun i pt h=>match i,h with|0,_=>⟨_,nU⟩|1,_=>⟨_,rx⟩|2,_=>⟨_,nH⟩|3,_=>⟨_,ny⟩|4,_=>⟨_,mj⟩|5,_=>⟨_,zx⟩|6,_=>⟨_,tE⟩|7,_=>⟨_,Abq⟩|8,_=>⟨_,yT⟩|9,_=>⟨_,mR⟩|10,_=>⟨_,j7⟩|11,_=>⟨_,ik⟩|i+12,h=>by cases (show none=some pt from h)
def m64 (E:Env):List Sm:=(d63 E).smL a63 (p63 E) 0 (d63 E).shs++m63 E
def a64:List AV:=[z0,sV 3,iV 4]
def p64 (E:Env):Pt:=Al E 33 5 a64 [] []
def d64 (E:Env):Dec:=
 {g:=64,f:=33,p:=0,pts:=[p64 E,
  Ap E 33 22 2 6 [(1,sV 0),(2,iV 1),(3,(.ptr 0 0)),(7,iV 2)] [some z39] [] []],
  shs:=[{m:=1,res:=iV 0,post:=[],keep:=[]}]}
theorem mQ:Ag (EF m64) [2] 20000 (d64 E0) t64 0=some (jl (d64 E0) [1]):=by kernel_rfl
theorem tt:Ag (EF m64) [2] 20000 (d64 E0) t64 1=some (jl (d64 E0) [1]):=by kernel_rfl
theorem c64:As (EF m64) [2] 20000 (d64 E0) t64:=dk2 rfl mQ tt
def m65 (E:Env):List Sm:=(d64 E).smL a64 (p64 E) 0 (d64 E).shs++m64 E
def a65:List AV:=[z23]
def p65 (E:Env):Pt:=Al E 45 2 a65 [] []
def z51:Am:=(.cells 2 (Ai [(0,sV 3),(1,dV 63 4)]))
def z52:Am:=(.cells 2 (Ai [(0,sV 6),(1,dV 63 7)]))
def d65 (E:Env):Dec:=
 {g:=65,f:=45,p:=0,pts:=[p65 E,
  Ap E 45 96 3 5 [(1,(.ptr 0 0)),(3,aV 1 1 0 1),(4,iV 2)] [some z51,rV 9 0] [] [],
  Ap E 45 96 10 23 [(1,(.ptr 0 0)),(3,aV 3 1 0 1),(4,iV 2),(5,(.ptr 1 0)),(6,aV 2 1 3 4),(7,iV 5)] [some z52,some (.cells 15 (Ai [(0,sV 8),(1,iV 9),(2,iV 10),(3,bV 11),(4,bV 12),(5,iV 13),(6,iV 14),(7,iV 15),(8,dV 119 16),(9,sV 17),(10,sV 18),(11,sV 19),(12,dV 138 20),(13,iV 21),(14,iV 22)])),rV 9 3,rV 9 0] [] [],
  Ap E 45 96 14 8 [(1,(.ptr 0 0)),(3,aV 2 1 0 1),(4,iV 2),(6,aV 1 1 3 4),(8,iV 5)] [some z52,rV 9 3,rV 9 0] [] [],
  Ap E 45 96 18 10 [(1,(.ptr 0 0)),(3,aV 2 1 0 1),(4,iV 2),(6,aV 1 1 3 4),(8,iV 5),(9,bV 6),(10,iV 7)] [some z31,rV 9 3,rV 9 0] [] []],
  shs:=[{m:=2,res:=aV 0 1 0 1,post:=[rV 9 0],keep:=[]}]}
theorem Abh:Ag (EF m65) [3,10,14,18] 20000 (d65 E0) t65 0=some (jl (d65 E0) [1]):=by kernel_rfl
theorem mT:Ag (EF m65) [3,10,14,18] 20000 (d65 E0) t65 1=some (jl (d65 E0) [2,2,2,2]):=by kernel_rfl
theorem rU:Ag (EF m65) [3,10,14,18] 20000 (d65 E0) t65 2=some (jl (d65 E0) [2,3,3]):=by kernel_rfl
theorem yo:Ag (EF m65) [3,10,14,18] 20000 (d65 E0) t65 3=some (jl (d65 E0) [4,1]):=by kernel_rfl
theorem zO:Ag (EF m65) [3,10,14,18] 20000 (d65 E0) t65 4=some (jl (d65 E0) [4,4,3,3]):=by kernel_rfl
theorem c65:As (EF m65) [3,10,14,18] 20000 (d65 E0) t65:=dk5 rfl Abh mT rU yo zO
def m66 (E:Env):List Sm:=(d65 E).smL a65 (p65 E) 0 (d65 E).shs++m65 E
def a66:List AV:=[z23,sV 2]
def p66 (E:Env):Pt:=Al E 109 3 a66 [] []
def z53:Am:=(.cells 2 (Ai [(0,sV 2),(1,dV 63 3)]))
def d66 (E:Env):Dec:=
 {g:=66,f:=109,p:=0,pts:=[p66 E,
  Ap E 109 46 2 4 [(1,sV 0),(2,(.ptr 0 0)),(5,iV 1)] [some z53] [] [],
  Ap E 109 46 8 20 [(1,sV 0),(2,(.ptr 0 0)),(5,iV 1),(6,(.ptr 1 0)),(7,iV 2)] [some z51,some (.cells 15 (Ai [(0,sV 5),(1,iV 6),(2,iV 7),(3,bV 8),(4,bV 9),(5,iV 10),(6,iV 11),(7,iV 12),(8,dV 119 13),(9,sV 14),(10,sV 15),(11,sV 16),(12,dV 138 17),(13,iV 18),(14,iV 19)]))] [] []],
  shs:=[{m:=1,res:=bV 0,post:=[],keep:=[]}]}
theorem vq:Ag (EF m66) [2,8] 20000 (d66 E0) t66 0=some (jl (d66 E0) [1]):=by kernel_rfl
theorem Aa5:Ag (EF m66) [2,8] 20000 (d66 E0) t66 1=some (jl (d66 E0) [2,2]):=by kernel_rfl
theorem sR:Ag (EF m66) [2,8] 20000 (d66 E0) t66 2=some (jl (d66 E0) [2,1]):=by kernel_rfl
theorem c66:As (EF m66) [2,8] 20000 (d66 E0) t66:=dk3 rfl vq Aa5 sR
def m67 (E:Env):List Sm:=(d66 E).smL a66 (p66 E) 0 (d66 E).shs++m66 E
def a67:List AV:=[z23,iV 2]
def p67 (E:Env):Pt:=Al E 72 3 a67 [] []
def d67 (E:Env):Dec:=
 {g:=67,f:=72,p:=0,pts:=[p67 E,
  Ap E 72 43 3 5 [(1,iV 0),(2,(.ptr 0 0)),(5,iV 1),(6,iV 2)] [some z51] [] []],
  shs:=[{m:=1,res:=iV 0,post:=[],keep:=[]}]}
theorem sn:Ag (EF m67) [3] 20000 (d67 E0) t67 0=some (jl (d67 E0) [1]):=by kernel_rfl
theorem sg:Ag (EF m67) [3] 20000 (d67 E0) t67 1=some (jl (d67 E0) [1,1,1,1]):=by kernel_rfl
theorem c67:As (EF m67) [3] 20000 (d67 E0) t67:=dk2 rfl sn sg
def m68 (E:Env):List Sm:=(d67 E).smL a67 (p67 E) 0 (d67 E).shs++m67 E
def a68:List AV:=[z23]
def p68 (E:Env):Pt:=Al E 44 2 a68 [] []
def d68 (E:Env):Dec:=
 {g:=68,f:=44,p:=0,pts:=[p68 E,
  Ap E 44 19 3 4 [(1,(.ptr 0 0)),(3,iV 0),(4,iV 1)] [some z53] [] []],
  shs:=[{m:=1,res:=iV 0,post:=[],keep:=[]}]}
theorem pr:Ag (EF m68) [3] 20000 (d68 E0) t68 0=some (jl (d68 E0) [1]):=by kernel_rfl
theorem tg:Ag (EF m68) [3] 20000 (d68 E0) t68 1=some (jl (d68 E0) [1,1]):=by kernel_rfl
theorem c68:As (EF m68) [3] 20000 (d68 E0) t68:=dk2 rfl pr tg
def q69 (E:Env):Sm:={f:=35,nv:=4,args:=[z0,iV 3],pre:=[],facts:=[(.bc false,true)],res:=.undef,post:=[]}
def m69 (E:Env):List Sm:=q69 E::((d68 E).smL a68 (p68 E) 0 (d68 E).shs++m68 E)
def a69:List AV:=[z0,iV 3]
def p69 (E:Env):Pt:=Al E 35 4 a69 [] []
def d69 (E:Env):Dec:=
 {g:=69,f:=35,p:=0,pts:=[p69 E,
  Ap E 35 41 4 6 [(1,iV 0),(2,(.ptr 0 0)),(5,aV 1 1 1 2),(6,(.int .i64 0)),(7,(.int .i64 0))] [some z39,rV 9 1] [] []],
  shs:=[{m:=1,res:=iV 0,post:=[],keep:=[]}]}
theorem sB:Ag (EF m69) [4] 20000 (d69 E0) t69 0=some (jl (d69 E0) [1]):=by kernel_rfl
theorem tn:Ag (EF m69) [4] 20000 (d69 E0) t69 1=some (jl (d69 E0) []):=by kernel_rfl
theorem c69:As (EF m69) [4] 20000 (d69 E0) t69:=dk2 rfl sB tn
def m70 (E:Env):List Sm:=(d69 E).smL a69 (p69 E) 0 (d69 E).shs++m69 E
def a70:List AV:=[z0,iV 3]
def p70 (E:Env):Pt:=Al E 35 4 a70 [] []
def z54:Am:=(.cells 3 (Ai [(0,sV 5),(1,dV 44 6),(2,sV 7)]))
def d70 (E:Env):Dec:=
 {g:=70,f:=35,p:=0,pts:=[p70 E,
  Ap E 35 41 4 8 [(1,iV 0),(2,(.ptr 0 0)),(5,aV 1 1 1 2),(6,iV 3),(7,iV 4)] [some z54,rV 9 1] [] []],
  shs:=[{m:=1,res:=iV 0,post:=[],keep:=[]}]}
theorem yR:Ag (EF m70) [4] 20000 (d70 E0) t70 0=some (jl (d70 E0) [1]):=by kernel_rfl
theorem rk:Ag (EF m70) [4] 20000 (d70 E0) t70 1=some (jl (d70 E0) [1,1]):=by kernel_rfl
theorem c70:As (EF m70) [4] 20000 (d70 E0) t70:=dk2 rfl yR rk
def m71 (E:Env):List Sm:=(d70 E).smL a70 (p70 E) 0 (d70 E).shs++m69 E
def a71:List AV:=[z0,iV 3]
def p71 (E:Env):Pt:=Al E 35 4 a71 [] []
def d71 (E:Env):Dec:=
 {g:=71,f:=35,p:=0,pts:=[p71 E,
  Ap E 35 41 4 8 [(1,iV 0),(2,(.ptr 0 0)),(5,aV 1 1 1 2),(6,iV 3),(7,iV 4)] [some z54,rV 9 1] [] []],
  shs:=[{m:=1,res:=iV 0,post:=[],keep:=[]}]}
theorem su:Ag (EF m71) [4] 20000 (d71 E0) t71 0=some (jl (d71 E0) [1]):=by kernel_rfl
theorem Abz:Ag (EF m71) [4] 20000 (d71 E0) t71 1=some (jl (d71 E0) [1,1]):=by kernel_rfl
theorem c71:As (EF m71) [4] 20000 (d71 E0) t71:=dk2 rfl su Abz
def m72 (E:Env):List Sm:=(d71 E).smL a71 (p71 E) 0 (d71 E).shs++m69 E
def a72:List AV:=[z0,iV 3]
def p72 (E:Env):Pt:=Al E 35 4 a72 [] []
def d72 (E:Env):Dec:=
 {g:=72,f:=35,p:=0,pts:=[p72 E,
  Ap E 35 41 4 8 [(1,iV 0),(2,(.ptr 0 0)),(5,aV 1 1 1 2),(6,iV 3),(7,iV 4)] [some z54,rV 9 1] [] []],
  shs:=[{m:=1,res:=iV 0,post:=[],keep:=[]}]}
theorem nV:Ag (EF m72) [4] 20000 (d72 E0) t72 0=some (jl (d72 E0) [1]):=by kernel_rfl
theorem Abr:Ag (EF m72) [4] 20000 (d72 E0) t72 1=some (jl (d72 E0) [1,1]):=by kernel_rfl
theorem c72:As (EF m72) [4] 20000 (d72 E0) t72:=dk2 rfl nV Abr
def m73 (E:Env):List Sm:=(d72 E).smL a72 (p72 E) 0 (d72 E).shs++m69 E
def a73:List AV:=[z0,iV 3]
def p73 (E:Env):Pt:=Al E 35 4 a73 [] []
def d73 (E:Env):Dec:=
 {g:=73,f:=35,p:=0,pts:=[p73 E,
  Ap E 35 41 4 8 [(1,iV 0),(2,(.ptr 0 0)),(5,aV 1 1 1 2),(6,iV 3),(7,iV 4)] [some z54,rV 9 1] [] []],
  shs:=[{m:=1,res:=iV 0,post:=[],keep:=[]}]}
theorem sZ:Ag (EF m73) [4] 20000 (d73 E0) t73 0=some (jl (d73 E0) [1]):=by kernel_rfl
theorem uZ:Ag (EF m73) [4] 20000 (d73 E0) t73 1=some (jl (d73 E0) [1,1]):=by kernel_rfl
theorem c73:As (EF m73) [4] 20000 (d73 E0) t73:=dk2 rfl sZ uZ
def m74 (E:Env):List Sm:=(d73 E).smL a73 (p73 E) 0 (d73 E).shs++m69 E
def a74:List AV:=[z0,iV 3]
def p74 (E:Env):Pt:=Al E 35 4 a74 [] []
def d74 (E:Env):Dec:=
 {g:=74,f:=35,p:=0,pts:=[p74 E,
  Ap E 35 41 4 8 [(1,iV 0),(2,(.ptr 0 0)),(5,aV 1 1 1 2),(6,iV 3),(7,iV 4)] [some z54,rV 9 1] [] []],
  shs:=[{m:=1,res:=iV 0,post:=[],keep:=[]}]}
theorem pI:Ag (EF m74) [4] 20000 (d74 E0) t74 0=some (jl (d74 E0) [1]):=by kernel_rfl
theorem sY:Ag (EF m74) [4] 20000 (d74 E0) t74 1=some (jl (d74 E0) [1,1]):=by kernel_rfl
theorem c74:As (EF m74) [4] 20000 (d74 E0) t74:=dk2 rfl pI sY
def m75 (E:Env):List Sm:=(d74 E).smL a74 (p74 E) 0 (d74 E).shs++m69 E
def a75:List AV:=[z0,iV 3]
def p75 (E:Env):Pt:=Al E 35 4 a75 [] []
def d75 (E:Env):Dec:=
 {g:=75,f:=35,p:=0,pts:=[p75 E,
  Ap E 35 41 4 8 [(1,iV 0),(2,(.ptr 0 0)),(5,aV 1 1 1 2),(6,iV 3),(7,iV 4)] [some z54,rV 9 1] [] []],
  shs:=[{m:=1,res:=iV 0,post:=[],keep:=[]}]}
theorem Abs:Ag (EF m75) [4] 20000 (d75 E0) t75 0=some (jl (d75 E0) [1]):=by kernel_rfl
theorem uC:Ag (EF m75) [4] 20000 (d75 E0) t75 1=some (jl (d75 E0) [1,1]):=by kernel_rfl
theorem c75:As (EF m75) [4] 20000 (d75 E0) t75:=dk2 rfl Abs uC
def m76 (E:Env):List Sm:=(d75 E).smL a75 (p75 E) 0 (d75 E).shs++m69 E
def a76:List AV:=[z0,iV 3]
def p76 (E:Env):Pt:=Al E 35 4 a76 [] []
def d76 (E:Env):Dec:=
 {g:=76,f:=35,p:=0,pts:=[p76 E,
  Ap E 35 41 4 8 [(1,iV 0),(2,(.ptr 0 0)),(5,aV 1 1 1 2),(6,iV 3),(7,iV 4)] [some z54,rV 9 1] [] []],
  shs:=[{m:=1,res:=iV 0,post:=[],keep:=[]}]}
theorem zE:Ag (EF m76) [4] 20000 (d76 E0) t76 0=some (jl (d76 E0) [1]):=by kernel_rfl
theorem wB:Ag (EF m76) [4] 20000 (d76 E0) t76 1=some (jl (d76 E0) [1,1]):=by kernel_rfl
theorem c76:As (EF m76) [4] 20000 (d76 E0) t76:=dk2 rfl zE wB
def m77 (E:Env):List Sm:=(d76 E).smL a76 (p76 E) 0 (d76 E).shs++m69 E
def a77:List AV:=[z0,iV 3]
def p77 (E:Env):Pt:=Al E 35 4 a77 [] []
def d77 (E:Env):Dec:=
 {g:=77,f:=35,p:=0,pts:=[p77 E,
  Ap E 35 41 4 8 [(1,iV 0),(2,(.ptr 0 0)),(5,aV 1 1 1 2),(6,iV 3),(7,iV 4)] [some z54,rV 9 1] [] []],
  shs:=[{m:=1,res:=iV 0,post:=[],keep:=[]}]}
theorem ol:Ag (EF m77) [4] 20000 (d77 E0) t77 0=some (jl (d77 E0) [1]):=by kernel_rfl
theorem qh:Ag (EF m77) [4] 20000 (d77 E0) t77 1=some (jl (d77 E0) [1,1]):=by kernel_rfl
theorem c77:As (EF m77) [4] 20000 (d77 E0) t77:=dk2 rfl ol qh
def m78 (E:Env):List Sm:=(d77 E).smL a77 (p77 E) 0 (d77 E).shs++m69 E
def a78:List AV:=[z0]
def p78 (E:Env):Pt:=Al E 20 3 a78 [] []
def z55:Am:=(.cells 3 (Ai [(0,sV 6),(1,dV 44 7),(2,sV 8)]))
def d78 (E:Env):Dec:=
 {g:=78,f:=20,p:=0,pts:=[p78 E,
  Ap E 20 68 3 5 [(1,(.ptr 0 0)),(3,iV 0),(4,(.asl 1 1 (.lenL (.var 1)) (.bc false)))] [some z2,rV 9 1] [] [],
  Ap E 20 68 8 9 [(1,(.ptr 0 0)),(4,aV 1 1 0 1),(5,iV 2),(6,aV 2 1 3 4),(7,iV 5)] [some z55,rV 9 0,rV 9 3] [] []],
  shs:=[{m:=1,res:=(.asl 0 1 (.lenL (.var 0)) (.bc false)),post:=[rV 9 0],keep:=[]}]}
theorem mJ:Ag (EF m78) [3,8] 20000 (d78 E0) t78 0=some (jl (d78 E0) [1]):=by kernel_rfl
theorem tk:Ag (EF m78) [3,8] 20000 (d78 E0) t78 1=some (jl (d78 E0) [2]):=by kernel_rfl
theorem zo:Ag (EF m78) [3,8] 20000 (d78 E0) t78 2=some (jl (d78 E0) [2,1]):=by kernel_rfl
theorem c78:As (EF m78) [3,8] 20000 (d78 E0) t78:=dk3 rfl mJ tk zo
def m79 (E:Env):List Sm:=(d78 E).smL a78 (p78 E) 0 (d78 E).shs++m78 E
def a79:List AV:=[aV 0 1 0 1,aV 1 1 2 3]
def p79 (E:Env):Pt:=Al E 19 4 a79 [rV 9 0,rV 9 2] []
def d79 (E:Env):Dec:=
 {g:=79,f:=19,p:=2,pts:=[p79 E,
  Ap E 19 26 4 5 [(0,aV 0 1 0 1),(1,aV 1 1 2 3),(5,iV 4)] [rV 9 0,rV 9 2] [] []],
  shs:=[{m:=1,res:=bV 0,post:=[none,none],keep:=[0,1]}]}
theorem mL:Ag (EF m79) [4] 20000 (d79 E0) t79 0=some (jl (d79 E0) [1]):=by kernel_rfl
theorem qZ:Ag (EF m79) [4] 20000 (d79 E0) t79 1=some (jl (d79 E0) [1]):=by kernel_rfl
theorem c79:As (EF m79) [4] 20000 (d79 E0) t79:=dk2 rfl mL qZ
def m80 (E:Env):List Sm:=(d79 E).smL a79 (p79 E) 0 (d79 E).shs++m79 E
def z56:AV:=(.agg [sV 0,dV 63 1,iV 2])
def a80:List AV:=[z56,(.agg [sV 3,iV 4,iV 5,bV 6,bV 7,iV 8,iV 9,iV 10,dV 119 11,sV 12,sV 13,sV 14,dV 138 15,iV 16,iV 17]),iV 18]
def p80 (E:Env):Pt:=Al E 61 19 a80 [] []
def d80 (E:Env):Dec:=
 {g:=80,f:=61,p:=0,pts:=[p80 E],
  shs:=[{m:=1,res:=iV 0,post:=[],keep:=[]}]}
def m81 (E:Env):List Sm:=(d80 E).smL a80 (p80 E) 0 (d80 E).shs++m80 E
def a81:List AV:=[z56,(.agg [sV 3,dV 44 4,sV 5]),iV 6]
def p81 (E:Env):Pt:=Al E 31 7 a81 [] []
def d81 (E:Env):Dec:=
 {g:=81,f:=31,p:=0,pts:=[p81 E],
  shs:=[{m:=1,res:=iV 0,post:=[],keep:=[]}]}
theorem tA:Ag (EF m81) [] 20000 (d81 E0) t81 0=some (jl (d81 E0) []):=by kernel_rfl
theorem c81:As (EF m81) [] 20000 (d81 E0) t81:=dk1 rfl tA
def m82 (E:Env):List Sm:=(d81 E).smL a81 (p81 E) 0 (d81 E).shs++m81 E
def a82:List AV:=[dV 63 0,(.func (.func 30) [] [(.ptr 0 0),(.ptr 1 0),(.ptr 2 0)])]
def p82 (E:Env):Pt:=Al E 29 7 a82 [some (.cells 2 (Ai [(0,sV 1),(1,dV 63 2)])),some z27,some z40] []
def d82 (E:Env):Dec:=
 {g:=82,f:=29,p:=3,pts:=[p82 E,
  Ap E 29 22 2 9 [(1,(.func (.func 30) [] [(.ptr 0 0),(.ptr 1 0),(.ptr 2 0)])),(4,iV 0),(7,dV 63 1),(8,(.si .i64 (.lenL (.var 1)))),(9,iV 2)] [some z51,some z18,some z55] [] []],
  shs:=[{m:=1,res:=iV 0,post:=[none,none,none],keep:=[0,1,2]}]}
theorem pS:Ag (EF m82) [2] 20000 (d82 E0) t82 0=some (jl (d82 E0) [1]):=by kernel_rfl
theorem mz:Ag (EF m82) [2] 20000 (d82 E0) t82 1=some (jl (d82 E0) [1,1]):=by kernel_rfl
theorem c82:As (EF m82) [2] 20000 (d82 E0) t82:=dk2 rfl pS mz
def m83 (E:Env):List Sm:=(d82 E).smL a82 (p82 E) 0 (d82 E).shs++m82 E
def a83:List AV:=[dV 44 0,(.func (.func 28) [] [(.ptr 0 0),(.ptr 2 0)])]
def p83 (E:Env):Pt:=Al E 27 5 a83 [some z7,some (.dmap 9 3 (.var 1)),some z2] []
def d83 (E:Env):Dec:=
 {g:=83,f:=27,p:=3,pts:=[p83 E,
  Ap E 27 22 2 7 [(1,(.func (.func 28) [] [(.ptr 0 0),(.ptr 2 0)])),(4,iV 0),(7,dV 44 1),(8,(.si .i64 (.lenL (.var 1)))),(9,iV 2)] [some z7,some (.dmap 9 3 (.var 3)),some z40] [] []],
  shs:=[{m:=1,res:=iV 0,post:=[none,none,none],keep:=[0,1,2]}]}
theorem oP:Ag (EF m83) [2] 20000 (d83 E0) t83 0=some (jl (d83 E0) [1]):=by kernel_rfl
theorem tQ:Ag (EF m83) [2] 20000 (d83 E0) t83 1=some (jl (d83 E0) [1,1,1,1]):=by kernel_rfl
theorem c83:As (EF m83) [2] 20000 (d83 E0) t83:=dk2 rfl oP tQ
def m84 (E:Env):List Sm:=(d83 E).smL a83 (p83 E) 0 (d83 E).shs++m83 E
def a84:List AV:=[z0]
def p84 (E:Env):Pt:=Al E 9 3 a84 [] []
def d84 (E:Env):Dec:=
 {g:=84,f:=9,p:=0,pts:=[p84 E],
  shs:=[{m:=4,res:=(.tuple [z22,iV 3]),post:=[],keep:=[]}]}
theorem wF:Ag (EF m84) [] 20000 (d84 E0) t84 0=some (jl (d84 E0) []):=by kernel_rfl
theorem c84:As (EF m84) [] 20000 (d84 E0) t84:=dk1 rfl wF
end Go.Proofs.YtojjaeaohjlfnaaGreat.memoryChains

