/- What is proved: that the functions which the law MemoryExtends reaches are the plain functions over data whose trees of tests the text before writes out (the kernel runs the evaluator over each place). Conditions: the program is the given one. -/
import Derived.Test.YtojjaeaohjlfnaaGreatProg
import Derived.KernelRfl
import Derived.Test.YtojjaeaohjlfnaaGreatMemoryExtendsTree
import Derived.Test.YtojjaeaohjlfnaaGreatMemoryExtendsKnownA
import Derived.Test.YtojjaeaohjlfnaaGreatMemoryExtendsKnownB
import Derived.Test.YtojjaeaohjlfnaaGreatMemoryExtendsKnownC
import Derived.Test.YtojjaeaohjlfnaaGreatMemoryExtendsKnownD
import Derived.Test.YtojjaeaohjlfnaaGreatMemoryExtendsKnownE
import Derived.Test.YtojjaeaohjlfnaaGreatMemoryExtendsKnownF
import Derived.Test.YtojjaeaohjlfnaaGreatMemoryExtendsKnownG
import Derived.Test.YtojjaeaohjlfnaaGreatMemoryExtendsKnownH
import Derived.Test.YtojjaeaohjlfnaaGreatMemoryExtendsKnownI
import Derived.Test.YtojjaeaohjlfnaaGreatMemoryExtendsKnownJ
import Derived.Test.YtojjaeaohjlfnaaGreatMemoryExtendsKnownK
import Derived.Test.YtojjaeaohjlfnaaGreatMemoryExtendsKnownL
import Derived.Test.YtojjaeaohjlfnaaGreatMemoryExtendsKnownM
set_option linter.unusedVariables false
set_option linter.unusedSectionVars false
set_option linter.unusedSimpArgs false
namespace Go.Proofs.YtojjaeaohjlfnaaGreat.memoryExtends
open Go.AE Mx
def m0 (E:Env):List Sm:=[]
instance pg:Pg Tryz.prog [o18]:=⟨trivial⟩
def z0:AV:=(.agg [sV 0,dV 44 1,sV 2])
def a0:List AV:=[z0]
def p0 (E:Env):Pt:=An E 7 3 a0 [] []
def z1:Ak:=(.cells 3 (Ai [(0,sV 1),(1,dV 44 2),(2,sV 3)]))
def z2:Ak:=(.cells 3 (Ai [(0,sV 2),(1,dV 44 3),(2,sV 4)]))
def z3:Ak:=(.cells 2 (Ai [(0,sV 5),(1,dV 63 6)]))
def d0 (E:Env):Dec:=
 {g:=0,f:=7,p:=0,pts:=[p0 E,
  As E 7 80 4 4 [(1,(.ptr 0 0)),(3,iV 0)] [some z1] [] [],
  As E 7 80 10 7 [(1,(.ptr 0 0)),(3,iV 0),(4,(.ptr 1 0)),(5,iV 1)] [some z2,some z3] [] []],
  shs:=[{m:=1,res:=bV 0,post:=[],keep:=[]}]}
theorem yw:Aj (EF m0) [4,10] 20000 (d0 E0) t0 0=some (jl (d0 E0) [1]):=by kernel_rfl
theorem yE:Aj (EF m0) [4,10] 20000 (d0 E0) t0 1=some (jl (d0 E0) [2]):=by kernel_rfl
theorem zi:Aj (EF m0) [4,10] 20000 (d0 E0) t0 2=some (jl (d0 E0) [2,1]):=by kernel_rfl
theorem c0:Av (EF m0) [4,10] 20000 (d0 E0) t0:=dk3 rfl yw yE zi
def m1 (E:Env):List Sm:=(d0 E).smL a0 (p0 E) 0 (d0 E).shs++m0 E
def a1:List AV:=[aV 0 1 0 1,bV 2]
def p1 (E:Env):Pt:=An E 151 3 a1 [rV 4 0] []
def d1 (E:Env):Dec:=
 {g:=1,f:=151,p:=1,pts:=[p1 E,
  As E 151 19 2 4 [(0,aV 0 1 0 1),(1,bV 2),(7,(.si .i64 (.lenL (.var 0)))),(8,iV 3)] [rV 4 0] [] []],
  shs:=[{m:=1,res:=iV 0,post:=[none],keep:=[0]}]}
theorem zt:Aj (EF m1) [2] 20000 (d1 E0) t1 0=some (jl (d1 E0) [1]):=by kernel_rfl
theorem zk:Aj (EF m1) [2] 20000 (d1 E0) t1 1=some (jl (d1 E0) [1,1]):=by kernel_rfl
theorem c1:Av (EF m1) [2] 20000 (d1 E0) t1:=dk2 rfl zt zk
def m2 (E:Env):List Sm:=(d1 E).smL a1 (p1 E) 0 (d1 E).shs++m1 E
def a2:List AV:=[aV 0 1 0 1,(.func (.func 134) [] [])]
def p2 (E:Env):Pt:=An E 145 2 a2 [rV 5 0] []
def d2 (E:Env):Dec:=
 {g:=2,f:=145,p:=1,pts:=[p2 E,
  As E 145 19 2 3 [(0,aV 0 1 0 1),(1,(.func (.func 134) [] [])),(7,(.si .i64 (.lenL (.var 0)))),(8,iV 2)] [rV 5 0] [] []],
  shs:=[{m:=1,res:=iV 0,post:=[none],keep:=[0]}]}
theorem yf:Aj (EF m2) [2] 20000 (d2 E0) t2 0=some (jl (d2 E0) [1]):=by kernel_rfl
theorem yc:Aj (EF m2) [2] 20000 (d2 E0) t2 1=some (jl (d2 E0) [1,1,1,1]):=by kernel_rfl
theorem c2:Av (EF m2) [2] 20000 (d2 E0) t2:=dk2 rfl yf yc
def m3 (E:Env):List Sm:=(d2 E).smL a2 (p2 E) 0 (d2 E).shs++m2 E
def a3:List AV:=[sV 0]
def p3 (E:Env):Pt:=An E 116 1 a3 [] []
def d3 (E:Env):Dec:=
 {g:=3,f:=116,p:=0,pts:=[p3 E],
  shs:=[{m:=1,res:=bV 0,post:=[],keep:=[]}]}
theorem yp:Aj (EF m3) [] 20000 (d3 E0) t3 0=some (jl (d3 E0) []):=by kernel_rfl
theorem c3:Av (EF m3) [] 20000 (d3 E0) t3:=dk1 rfl yp
def m4 (E:Env):List Sm:=(d3 E).smL a3 (p3 E) 0 (d3 E).shs++m3 E
def a4:List AV:=[dV 63 0,(.func (.func 40) [] [(.ptr 0 0)])]
def z4:Ak:=(.cells 1 (Ai [(0,sV 1)]))
def p4 (E:Env):Pt:=An E 66 2 a4 [some z4] []
def z5:Ak:=(.cells 1 (Ai [(0,sV 2)]))
def d4 (E:Env):Dec:=
 {g:=4,f:=66,p:=1,pts:=[p4 E,
  As E 66 19 2 3 [(0,dV 63 0),(1,(.func (.func 40) [] [(.ptr 0 0)])),(7,(.si .i64 (.lenL (.var 0)))),(8,iV 1)] [some z5] [] []],
  shs:=[{m:=1,res:=iV 0,post:=[none],keep:=[0]}]}
theorem zf:Aj (EF m4) [2] 20000 (d4 E0) t4 0=some (jl (d4 E0) [1]):=by kernel_rfl
theorem yP:Aj (EF m4) [2] 20000 (d4 E0) t4 1=some (jl (d4 E0) [1]):=by kernel_rfl
theorem c4:Av (EF m4) [2] 20000 (d4 E0) t4:=dk2 rfl zf yP
def m5 (E:Env):List Sm:=(d4 E).smL a4 (p4 E) 0 (d4 E).shs++m4 E
def a5:List AV:=[dV 119 0,aV 0 2 1 2]
def p5 (E:Env):Pt:=An E 189 3 a5 [rV 119 1] []
def d5 (E:Env):Dec:=
 {g:=5,f:=189,p:=1,pts:=[p5 E,
  As E 189 26 4 4 [(0,dV 119 0),(1,aV 0 2 1 2),(12,(.si .i64 (.lenL (.var 0)))),(13,iV 3)] [rV 119 1] [] []],
  shs:=[{m:=1,res:=bV 0,post:=[none],keep:=[0]}]}
theorem yU:Aj (EF m5) [4] 20000 (d5 E0) t5 0=some (jl (d5 E0) [1]):=by kernel_rfl
theorem zh:Aj (EF m5) [4] 20000 (d5 E0) t5 1=some (jl (d5 E0) [1]):=by kernel_rfl
theorem c5:Av (EF m5) [4] 20000 (d5 E0) t5:=dk2 rfl yU zh
def m6 (E:Env):List Sm:=(d5 E).smL a5 (p5 E) 0 (d5 E).shs++m5 E
def a6:List AV:=[dV 138 0,aV 0 3 1 2]
def p6 (E:Env):Pt:=An E 190 3 a6 [rV 138 1] []
def d6 (E:Env):Dec:=
 {g:=6,f:=190,p:=1,pts:=[p6 E,
  As E 190 26 4 4 [(0,dV 138 0),(1,aV 0 3 1 2),(12,(.si .i64 (.lenL (.var 0)))),(13,iV 3)] [rV 138 1] [] []],
  shs:=[{m:=1,res:=bV 0,post:=[none],keep:=[0]}]}
theorem zm:Aj (EF m6) [4] 20000 (d6 E0) t6 0=some (jl (d6 E0) [1]):=by kernel_rfl
theorem yD:Aj (EF m6) [4] 20000 (d6 E0) t6 1=some (jl (d6 E0) [1]):=by kernel_rfl
theorem c6:Av (EF m6) [4] 20000 (d6 E0) t6:=dk2 rfl zm yD
def m7 (E:Env):List Sm:=(d6 E).smL a6 (p6 E) 0 (d6 E).shs++m6 E
def a7:List AV:=[(.ptr 0 0),iV 9,iV 10,aV 3 1 11 12]
def z6:Ak:=(.cells 9 (Ai [(0,sV 0),(1,dV 44 1),(2,sV 2),(3,(.map 1)),(4,(.map 2)),(5,iV 5),(6,iV 6),(7,sV 7),(8,dV 63 8)]))
def p7 (E:Env):Pt:=An E 164 13 a7 [some z6,some (.dmap 9 3 (.var 3)),some (.dmap 9 4 (.var 4)),rV 3 11] []
def d7 (E:Env):Dec:=
 {g:=7,f:=164,p:=4,pts:=[p7 E,
  As E 164 28 1 14 [(0,(.ptr 0 0)),(1,iV 0),(2,iV 1),(10,aV 3 1 2 3),(11,(.si .i64 (.lenL (.var 2)))),(12,iV 4)] [some (.cells 9 (Ai [(0,sV 5),(1,dV 44 6),(2,sV 7),(3,(.map 1)),(4,(.map 2)),(5,iV 8),(6,iV 9),(7,sV 10),(8,dV 63 11)])),some (.dmap 9 3 (.var 12)),some (.dmap 9 4 (.var 13)),rV 3 2] [] []],
  shs:=[{m:=2,res:=(.iface 78 (.agg [iV 0,iV 1,(.int .i64 7)])),post:=[none,none,none,none],keep:=[0,1,2,3],ok:=false},{m:=0,res:=(.tuple []),post:=[none,none,none,none],keep:=[0,1,2,3]}]}
theorem xZ:Aj (EF m7) [1] 20000 (d7 E0) t7 0=some (jl (d7 E0) [1]):=by kernel_rfl
theorem za:Aj (EF m7) [1] 20000 (d7 E0) t7 1=some (jl (d7 E0) [1]):=by kernel_rfl
theorem c7:Av (EF m7) [1] 20000 (d7 E0) t7:=dk2 rfl xZ za
def m8 (E:Env):List Sm:=(d7 E).smL a7 (p7 E) 0 (d7 E).shs++m7 E
def a8:List AV:=[dV 119 0,(.func (.func 152) [] [(.ptr 0 0)])]
def z7:Ak:=(.cells 1 (Ai [(0,(.map 1))]))
def p8 (E:Env):Pt:=An E 133 2 a8 [some z7,some (.dmap 9 4 (.var 1))] []
def d8 (E:Env):Dec:=
 {g:=8,f:=133,p:=2,pts:=[p8 E,
  As E 133 19 2 3 [(0,dV 119 0),(1,(.func (.func 152) [] [(.ptr 0 0)])),(7,(.si .i64 (.lenL (.var 0)))),(8,iV 1)] [some z7,some (.dmap 9 4 (.var 2))] [] []],
  shs:=[{m:=2,res:=iV 0,post:=[none,some (.dmap 9 4 (.var 1))],keep:=[0]}]}
theorem ye:Aj (EF m8) [2] 20000 (d8 E0) t8 0=some (jl (d8 E0) [1]):=by kernel_rfl
theorem zb:Aj (EF m8) [2] 20000 (d8 E0) t8 1=some (jl (d8 E0) [1,1,1,1]):=by kernel_rfl
theorem c8:Av (EF m8) [2] 20000 (d8 E0) t8:=dk2 rfl ye zb
def m9 (E:Env):List Sm:=(d8 E).smL a8 (p8 E) 0 (d8 E).shs++m8 E
def a9:List AV:=[dV 63 0]
def p9 (E:Env):Pt:=An E 126 1 a9 [] []
def d9 (E:Env):Dec:=
 {g:=9,f:=126,p:=0,pts:=[p9 E,
  As E 126 28 3 3 [(3,(.map 0)),(9,dV 63 0),(10,(.si .i64 (.lenL (.var 0)))),(11,iV 1)] [some (.dmap 9 157 (.var 2))] [] []],
  shs:=[{m:=1,res:=(.map 0),post:=[some (.dmap 9 157 (.var 0))],keep:=[]}]}
theorem yG:Aj (EF m9) [3] 20000 (d9 E0) t9 0=some (jl (d9 E0) [1]):=by kernel_rfl
theorem ze:Aj (EF m9) [3] 20000 (d9 E0) t9 1=some (jl (d9 E0) [1,1,1,1,1,1,1]):=by kernel_rfl
theorem c9:Av (EF m9) [3] 20000 (d9 E0) t9:=dk2 rfl yG ze
def m10 (E:Env):List Sm:=(d9 E).smL a9 (p9 E) 0 (d9 E).shs++m9 E
def a10:List AV:=[(.func (.yield 0) [] []),(.ptr 8 0)]
def z8:Ak:=(.cells 1 (Ai [(0,(.ptr 2 0))]))
def z9:Ak:=(.cells 9 (Ai [(0,sV 0),(1,dV 44 1),(2,sV 2),(3,(.map 3)),(4,(.map 4)),(5,iV 5),(6,iV 6),(7,sV 7),(8,dV 63 8)]))
def z10:Ak:=(.cells 1 (Ai [(0,(.map 6))]))
def p10 (E:Env):Pt:=An E 154 12 a10 [some (AB E 170 4 .ready none 52 [(2,(.ptr 1 0)),(4,(.ptr 5 0))] 7),some z8,some z9,some (.dmap 9 3 (.var 3)),some (.dmap 9 4 (.var 4)),some z10,some (.dmap 9 157 (.var 9)),some (.deferred (some [])),some (.cells 1 (Ai [(0,aV 9 2 10 11)])),rV 119 10] []
def z11:Ak:=(.cells 1 (Ai [(0,aV 9 2 0 1)]))
def d10 (E:Env):Dec:=
 {g:=10,f:=154,p:=10,pts:=[p10 E,
  As E 154 17 1 13 [(0,(.func (.yield 0) [] [])),(5,aV 9 2 0 1),(6,(.si .i64 (.lenL (.var 0)))),(7,iV 2)] [some (AB E 170 4 .ready none 52 [(2,(.ptr 1 0)),(4,(.ptr 5 0))] 7),some z8,some (.cells 9 (Ai [(0,sV 3),(1,dV 44 4),(2,sV 5),(3,(.map 3)),(4,(.map 4)),(5,iV 6),(6,iV 7),(7,sV 8),(8,dV 63 9)])),some (.dmap 9 3 (.var 10)),some (.dmap 9 4 (.var 11)),some z10,some (.dmap 9 157 (.var 12)),some (.deferred (some [])),some z11,rV 119 0] [] []],
  shs:=[{m:=2,res:=(.iface 78 (.agg [iV 0,iV 1,(.int .i64 8)])),post:=[some (AB E 170 4 .busy none 52 [] 7),none,none,none,none,none,none,none,none,none],keep:=[1,2,3,4,5,6,7,8,9],ok:=false},{m:=0,res:=(.tuple []),post:=[none,none,none,none,none,none,none,none,none,none],keep:=[0,1,2,3,4,5,6,7,8,9]}]}
theorem wj:Aj (EF m10) [1] 20000 (d10 E0) t10 0=some (jl (d10 E0) [1]):=by kernel_rfl
theorem sQ:Aj (EF m10) [1] 20000 (d10 E0) t10 1=some (jl (d10 E0) [1]):=by kernel_rfl
theorem c10:Av (EF m10) [1] 20000 (d10 E0) t10:=dk2 rfl wj sQ
def m11 (E:Env):List Sm:=(d10 E).smL a10 (p10 E) 0 (d10 E).shs++m10 E
def a11:List AV:=[(.func (.yield 0) [] []),(.ptr 8 0)]
def z12:Ak:=(.cells 1 (Ai [(0,sV 0)]))
def z13:Ak:=(.cells 1 (Ai [(0,(.map 3))]))
def z14:Ak:=(.cells 1 (Ai [(0,(.func (.func 120) [] []))]))
def z15:Ak:=(.cells 1 (Ai [(0,iV 2)]))
def z16:Ak:=(.cells 1 (Ai [(0,bV 3)]))
def p11 (E:Env):Pt:=An E 154 6 a11 [some (AB E 122 5 .ready none 38 [(5,(.ptr 1 0)),(6,(.ptr 2 0)),(7,(.ptr 4 0)),(8,(.ptr 5 0)),(9,(.ptr 6 0))] 7),some z12,some z13,some (.dmap 9 157 (.var 1)),some z14,some z15,some z16,some (.deferred (some [])),some (.cells 1 (Ai [(0,aV 9 2 4 5)])),rV 119 4] []
def z17:Ak:=(.cells 1 (Ai [(0,sV 3)]))
def z18:Ak:=(.cells 1 (Ai [(0,iV 5)]))
def z19:Ak:=(.cells 1 (Ai [(0,bV 6)]))
def z20:Ak:=(.cells 1 (Ai [(0,bV 0)]))
def d11 (E:Env):Dec:=
 {g:=11,f:=154,p:=10,pts:=[p11 E,
  As E 154 17 1 7 [(0,(.func (.yield 0) [] [])),(5,aV 9 2 0 1),(6,(.si .i64 (.lenL (.var 0)))),(7,iV 2)] [some (AB E 122 5 .ready none 38 [(5,(.ptr 1 0)),(6,(.ptr 2 0)),(7,(.ptr 4 0)),(8,(.ptr 5 0)),(9,(.ptr 6 0))] 7),some z17,some z13,some (.dmap 9 157 (.var 4)),some z14,some z18,some z19,some (.deferred (some [])),some z11,rV 119 0] [] []],
  shs:=[{m:=1,res:=(.tuple []),post:=[some (AB E 122 5 .done (some .ret) 38 [] 7),none,none,none,none,some (.cells 1 (Ai [(0,(.int .i64 2))])),some z20,none,none,none],keep:=[1,2,3,4,7,8,9]},{m:=1,res:=(.tuple []),post:=[none,none,none,none,none,none,some z20,none,none,none],keep:=[0,1,2,3,4,5,7,8,9]}]}
theorem uX:Aj (EF m11) [1] 20000 (d11 E0) t11 0=some (jl (d11 E0) [1]):=by kernel_rfl
theorem rW:Aj (EF m11) [1] 20000 (d11 E0) t11 1=some (jl (d11 E0) [1,1,1,1]):=by kernel_rfl
theorem c11:Av (EF m11) [1] 20000 (d11 E0) t11:=dk2 rfl uX rW
def m12 (E:Env):List Sm:=(d11 E).smL a11 (p11 E) 0 (d11 E).shs++m11 E
def a12:List AV:=[(.agg [iV 0,dV 119 1]),(.func (.func 125) [] [(.ptr 0 0),(.ptr 2 0)])]
def p12 (E:Env):Pt:=An E 124 4 a12 [some z7,some (.dmap 9 157 (.var 2)),some z16] []
def d12 (E:Env):Dec:=
 {g:=12,f:=124,p:=3,pts:=[p12 E,
  As E 124 27 3 5 [(1,(.func (.func 125) [] [(.ptr 0 0),(.ptr 2 0)])),(5,iV 0),(11,dV 119 1),(12,(.si .i64 (.lenL (.var 1)))),(13,iV 2)] [some z7,some (.dmap 9 157 (.var 3)),some (.cells 1 (Ai [(0,bV 4)]))] [] []],
  shs:=[{m:=1,res:=iV 0,post:=[none,none,none],keep:=[0,1,2]}]}
theorem tN:Aj (EF m12) [3] 20000 (d12 E0) t12 0=some (jl (d12 E0) [1]):=by kernel_rfl
theorem xl:Aj (EF m12) [3] 20000 (d12 E0) t12 1=some (jl (d12 E0) [1,1,1,1,1,1,1,1]):=by kernel_rfl
theorem c12:Av (EF m12) [3] 20000 (d12 E0) t12:=dk2 rfl tN xl
def m13 (E:Env):List Sm:=(d12 E).smL a12 (p12 E) 0 (d12 E).shs++m12 E
def z21:AV:=(.agg [sV 9,iV 10,iV 11,bV 12,bV 13,iV 14,iV 15,iV 16,dV 119 17,sV 18,sV 19,sV 20,dV 138 21,iV 22,iV 23])
def a13:List AV:=[(.ptr 0 0),z21]
def p13 (E:Env):Pt:=An E 170 24 a13 [some z6,some (.dmap 9 3 (.var 3)),some (.dmap 9 4 (.var 4))] []
def z22:AV:=(.agg [iV 0,iV 1,iV 2])
def d13 (E:Env):Dec:=
 {g:=13,f:=170,p:=3,pts:=[p13 E],
  shs:=[{m:=3,res:=(.iface 78 z22),post:=[none,none,none],keep:=[0,1,2],ok:=false},{m:=0,res:=(.tuple []),post:=[none,none,none],keep:=[0,1,2]}]}
theorem nA:Aj (EF m13) [] 20000 (d13 E0) t13 0=some (jl (d13 E0) []):=by kernel_rfl
theorem c13:Av (EF m13) [] 20000 (d13 E0) t13:=dk1 rfl nA
def m14 (E:Env):List Sm:=(d13 E).smL a13 (p13 E) 0 (d13 E).shs++m13 E
def a14:List AV:=[dV 63 0,(.func (.func 191) [] [(.ptr 0 0)])]
def p14 (E:Env):Pt:=An E 66 16 a14 [some (.cells 15 (Ai [(0,sV 1),(1,iV 2),(2,iV 3),(3,bV 4),(4,bV 5),(5,iV 6),(6,iV 7),(7,iV 8),(8,dV 119 9),(9,sV 10),(10,sV 11),(11,sV 12),(12,dV 138 13),(13,iV 14),(14,iV 15)]))] []
def d14 (E:Env):Dec:=
 {g:=14,f:=66,p:=1,pts:=[p14 E,
  As E 66 19 2 17 [(0,dV 63 0),(1,(.func (.func 191) [] [(.ptr 0 0)])),(7,(.si .i64 (.lenL (.var 0)))),(8,iV 1)] [some (.cells 15 (Ai [(0,sV 2),(1,iV 3),(2,iV 4),(3,bV 5),(4,bV 6),(5,iV 7),(6,iV 8),(7,iV 9),(8,dV 119 10),(9,sV 11),(10,sV 12),(11,sV 13),(12,dV 138 14),(13,iV 15),(14,iV 16)]))] [] []],
  shs:=[{m:=1,res:=iV 0,post:=[none],keep:=[0]}]}
theorem wH:Aj (EF m14) [2] 20000 (d14 E0) t14 0=some (jl (d14 E0) [1]):=by kernel_rfl
theorem nP:Aj (EF m14) [2] 20000 (d14 E0) t14 1=some (jl (d14 E0) [1,1]):=by kernel_rfl
theorem c14:Av (EF m14) [2] 20000 (d14 E0) t14:=dk2 rfl wH nP
def m15 (E:Env):List Sm:=(d14 E).smL a14 (p14 E) 0 (d14 E).shs++m14 E
def a15:List AV:=[(.ptr 0 0),z21]
def p15 (E:Env):Pt:=An E 181 24 a15 [some z6,some (.dmap 9 3 (.var 3)),some (.dmap 9 4 (.var 4))] []
def d15 (E:Env):Dec:=
 {g:=15,f:=181,p:=3,pts:=[p15 E,
  As E 181 69 7 14 [(0,(.ptr 0 0)),(4,(.ptr 3 0)),(7,iV 0),(45,dV 138 1),(46,(.si .i64 (.lenL (.var 1)))),(47,iV 2)] [some (.cells 9 (Ai [(0,sV 3),(1,dV 44 4),(2,sV 5),(3,(.map 1)),(4,(.map 2)),(5,iV 6),(6,iV 7),(7,sV 8),(8,dV 63 9)])),some (.dmap 9 3 (.var 10)),some (.dmap 9 4 (.var 11)),some (.cells 2 (Ai [(0,iV 12),(1,iV 13)]))] [] []],
  shs:=[{m:=3,res:=(.iface 78 z22),post:=[none,none,none],keep:=[0,1,2],ok:=false},{m:=0,res:=(.tuple []),post:=[none,none,none],keep:=[0,1,2]}]}
theorem pP:Aj (EF m15) [7] 20000 (d15 E0) t15 0=some (jl (d15 E0) [1]):=by kernel_rfl
theorem pf:Aj (EF m15) [7] 20000 (d15 E0) t15 1=some (jl (d15 E0) [1]):=by kernel_rfl
theorem c15:Av (EF m15) [7] 20000 (d15 E0) t15:=dk2 rfl pP pf
def m16 (E:Env):List Sm:=(d15 E).smL a15 (p15 E) 0 (d15 E).shs++m15 E
def a16:List AV:=[(.ptr 0 0),z21]
def p16 (E:Env):Pt:=An E 138 24 a16 [some z6,some (.dmap 9 3 (.var 3)),some (.dmap 9 4 (.var 4))] []
def d16 (E:Env):Dec:=
 {g:=16,f:=138,p:=3,pts:=[p16 E],
  shs:=[{m:=3,res:=(.iface 78 z22),post:=[none,none,none],keep:=[0,1,2],ok:=false},{m:=0,res:=(.tuple []),post:=[none,none,none],keep:=[0,1,2]}]}
def m17 (E:Env):List Sm:=(d16 E).smL a16 (p16 E) 0 (d16 E).shs++m16 E
def z23:AV:=(.agg [sV 0,dV 63 1])
def a17:List AV:=[z23]
def p17 (E:Env):Pt:=An E 43 2 a17 [] []
def z24:Ak:=(.cells 1 (Ai [(0,dV 9 0)]))
def d17 (E:Env):Dec:=
 {g:=17,f:=43,p:=0,pts:=[p17 E,
  As E 43 43 3 4 [(3,(.ptr 0 0)),(9,dV 63 0),(10,(.si .i64 (.lenL (.var 0)))),(11,iV 1)] [some (.cells 1 (Ai [(0,aV 1 1 2 3)])),rV 9 2] [] [],
  As E 43 43 12 7 [(3,(.ptr 0 0)),(9,dV 63 0),(10,(.si .i64 (.lenL (.var 0)))),(11,iV 1),(29,dV 138 2),(30,iV 3),(31,iV 4)] [some (.cells 1 (Ai [(0,aV 1 1 5 6)])),rV 9 5] [] []],
  shs:=[{m:=1,res:=(.func (.func 70) [] [(.ptr 0 0)]),post:=[some z24],keep:=[]}]}
theorem lM:Aj (EF m17) [3,12] 20000 (d17 E0) t17 0=some (jl (d17 E0) [1]):=by kernel_rfl
theorem mz:Aj (EF m17) [3,12] 20000 (d17 E0) t17 1=some (jl (d17 E0) [1,1,1,2,1]):=by kernel_rfl
theorem sy:Aj (EF m17) [3,12] 20000 (d17 E0) t17 2=some (jl (d17 E0) [2,1]):=by kernel_rfl
theorem c17:Av (EF m17) [3,12] 20000 (d17 E0) t17:=dk3 rfl lM mz sy
def m18 (E:Env):List Sm:=(d17 E).smL a17 (p17 E) 0 (d17 E).shs++m17 E
def a18:List AV:=[dV 9 0,sV 1]
def p18 (E:Env):Pt:=An E 107 2 a18 [] []
def d18 (E:Env):Dec:=
 {g:=18,f:=107,p:=0,pts:=[p18 E,
  As E 107 19 2 3 [(0,dV 9 0),(1,sV 1),(7,(.si .i64 (.lenL (.var 0)))),(8,iV 2)] [] [] []],
  shs:=[{m:=1,res:=iV 0,post:=[],keep:=[]}]}
theorem xG:Aj (EF m18) [2] 20000 (d18 E0) t18 0=some (jl (d18 E0) [1]):=by kernel_rfl
theorem uY:Aj (EF m18) [2] 20000 (d18 E0) t18 1=some (jl (d18 E0) [1]):=by kernel_rfl
theorem c18:Av (EF m18) [2] 20000 (d18 E0) t18:=dk2 rfl xG uY
def m19 (E:Env):List Sm:=(d18 E).smL a18 (p18 E) 0 (d18 E).shs++m18 E
def a19:List AV:=[(.func (.yield 0) [] []),(.ptr 8 0)]
def p19 (E:Env):Pt:=An E 70 12 a19 [some (AB E 117 17 .ready none 117 [(2,(.ptr 1 0)),(6,(.ptr 5 0)),(9,(.ptr 6 0))] 7),some z8,some z9,some (.dmap 9 3 (.var 3)),some (.dmap 9 4 (.var 4)),some (.cells 1 (Ai [(0,bV 9)])),some (.cells 1 (Ai [(0,iV 10)])),some (.deferred (some [])),some (.cells 1 (Ai [(0,dV 9 11)]))] []
def z25:Ak:=(.cells 1 (Ai [(0,iV 1)]))
def d19 (E:Env):Dec:=
 {g:=19,f:=70,p:=9,pts:=[p19 E,
  As E 70 25 1 13 [(0,(.func (.yield 0) [] [])),(1,(.ptr 8 0)),(5,dV 9 0),(6,(.si .i64 (.lenL (.var 0)))),(7,iV 1)] [some (AB E 117 17 .ready none 117 [(2,(.ptr 1 0)),(6,(.ptr 5 0)),(9,(.ptr 6 0))] 7),some z8,some (.cells 9 (Ai [(0,sV 2),(1,dV 44 3),(2,sV 4),(3,(.map 3)),(4,(.map 4)),(5,iV 5),(6,iV 6),(7,sV 7),(8,dV 63 8)])),some (.dmap 9 3 (.var 9)),some (.dmap 9 4 (.var 10)),some (.cells 1 (Ai [(0,bV 11)])),some (.cells 1 (Ai [(0,iV 12)])),some (.deferred (some [])),some z24] [] []],
  shs:=[{m:=2,res:=(.tuple []),post:=[none,none,none,none,none,some z20,some z25,none,none],keep:=[0,1,2,3,4,7,8]}]}
theorem ol:Aj (EF m19) [1] 20000 (d19 E0) t19 0=some (jl (d19 E0) [1]):=by kernel_rfl
theorem lK:Aj (EF m19) [1] 20000 (d19 E0) t19 1=some (jl (d19 E0) [1,1,1,1,1,1,1,1,1,1,1,1,1]):=by kernel_rfl
theorem c19:Av (EF m19) [1] 20000 (d19 E0) t19:=dk2 rfl ol lK
def m20 (E:Env):List Sm:=(d19 E).smL a19 (p19 E) 0 (d19 E).shs++m19 E
def a20:List AV:=[(.ptr 0 0),(.agg [sV 9,dV 63 10])]
def p20 (E:Env):Pt:=An E 117 11 a20 [some z6,some (.dmap 9 3 (.var 3)),some (.dmap 9 4 (.var 4))] []
def d20 (E:Env):Dec:=
 {g:=20,f:=117,p:=3,pts:=[p20 E,
  As E 117 117 8 11 [(2,(.ptr 3 0)),(3,(.ptr 4 0)),(6,(.ptr 5 0)),(50,dV 63 0),(51,(.si .i64 (.lenL (.var 0)))),(52,iV 1)] [some (.cells 9 (Ai [(0,sV 2),(1,dV 44 3),(2,sV 4),(3,(.map 1)),(4,(.map 2)),(5,iV 5),(6,iV 6),(7,sV 7),(8,dV 63 0)])),some (.dmap 9 3 (.var 8)),some (.dmap 9 4 (.var 9)),some (.cells 1 (Ai [(0,(.ptr 0 0))])),some (.cells 2 (Ai [(0,sV 7),(1,dV 63 0)])),some (.cells 1 (Ai [(0,bV 10)]))] [] []],
  shs:=[{m:=8,res:=(.iface 78 z22),post:=[some (.cells 9 (Ai [(0,.top),(1,.top),(2,.top),(3,.top),(4,.top),(5,.top),(6,iV 3),(7,sV 4),(8,dV 63 5)])),some (.dmap 9 3 (.var 6)),some (.dmap 9 4 (.var 7))],keep:=[],keepC:=[(0,[0,1,2,3,4,5])],ok:=false},{m:=4,res:=(.tuple []),post:=[some (.cells 9 (Ai [(0,.top),(1,.top),(2,.top),(3,.top),(4,.top),(5,.top),(6,(.int .i64 (-1))),(7,sV 0),(8,dV 63 1)])),some (.dmap 9 3 (.var 2)),some (.dmap 9 4 (.var 3))],keep:=[],keepC:=[(0,[0,1,2,3,4,5])]}]}
theorem wn:Aj (EF m20) [8] 20000 (d20 E0) t20 0=some (jl (d20 E0) [1]):=by kernel_rfl
theorem uR:Aj (EF m20) [8] 20000 (d20 E0) t20 1=some (jl (d20 E0) [1,1]):=by kernel_rfl
theorem c20:Av (EF m20) [8] 20000 (d20 E0) t20:=dk2 rfl wn uR
def m21 (E:Env):List Sm:=(d20 E).smL a20 (p20 E) 0 (d20 E).shs++m20 E
def a21:List AV:=[z0]
def p21 (E:Env):Pt:=An E 81 3 a21 [] []
def d21 (E:Env):Dec:=
 {g:=21,f:=81,p:=0,pts:=[p21 E,
  As E 81 66 6 9 [(1,(.ptr 0 0)),(2,(.ptr 1 0)),(3,(.ptr 2 0)),(4,(.ptr 3 0)),(33,dV 44 0),(34,(.si .i64 (.lenL (.var 0)))),(35,iV 1)] [some (.cells 3 (Ai [(0,sV 2),(1,dV 44 0),(2,sV 3)])),some (.cells 9 (Ai [(0,sV 2),(1,dV 44 0),(2,sV 3),(3,(.map 4)),(4,(.map 5)),(5,iV 4),(6,(.int .i64 (-1))),(7,sV 5),(8,dV 63 6)])),some (.cells 3 (Ai [(0,(.int .i64 0)),(1,(.int .i64 0)),(2,(.int .i64 0))])),some (.cells 1 (Ai [(0,(.bool false))])),some (.dmap 9 3 (.var 7)),some (.dmap 9 4 (.var 8))] [] [{fn:=some (.func 114),coll:=0,captured:=[(.ptr 2 0),(.ptr 3 0)],args:=[]}]],
  shs:=[{m:=4,res:=(.tuple [(.ptr 0 0),(.agg [(.int .i64 (-1)),(.int .i64 (-1)),iV 0]),(.bool true)]),post:=[some (.cells 9 (Ai [(0,sV 1),(1,dV 44 2),(2,sV 3),(3,(.map 1)),(4,(.map 2)),(5,(.int .i64 (-1))),(6,(.int .i64 (-1))),(7,(.str 0 0)),(8,.slice0)])),some (.map [] 0),some (.map [] 0)],keep:=[]},{m:=13,res:=(.tuple [(.ptr 0 0),z22,bV 3]),post:=[some (.cells 9 (Ai [(0,sV 4),(1,dV 44 5),(2,sV 6),(3,(.map 1)),(4,(.map 2)),(5,iV 7),(6,iV 8),(7,sV 9),(8,dV 63 10)])),some (.dmap 9 3 (.var 11)),some (.dmap 9 4 (.var 12))],keep:=[]}]}
theorem ul:Aj (EF m21) [6] 20000 (d21 E0) t21 0=some (jl (d21 E0) [1]):=by kernel_rfl
theorem xn:Aj (EF m21) [6] 20000 (d21 E0) t21 1=some (jl (d21 E0) [1]):=by kernel_rfl
theorem c21:Av (EF m21) [6] 20000 (d21 E0) t21:=dk2 rfl ul xn
def m22 (E:Env):List Sm:=(d21 E).smL a21 (p21 E) 0 (d21 E).shs++m21 E
def a22:List AV:=[z0]
def p22 (E:Env):Pt:=An E 62 3 a22 [] []
def d22 (E:Env):Dec:=
 {g:=22,f:=62,p:=0,pts:=[p22 E],
  shs:=[{m:=4,res:=(.tuple [z22,bV 3]),post:=[],keep:=[]}]}
theorem po:Aj (EF m22) [] 20000 (d22 E0) t22 0=some (jl (d22 E0) []):=by kernel_rfl
theorem c22:Av (EF m22) [] 20000 (d22 E0) t22:=dk1 rfl po
def m23 (E:Env):List Sm:=(d22 E).smL a22 (p22 E) 0 (d22 E).shs++m22 E
def a23:List AV:=[(.func (.yield 0) [] []),(.ptr 4 0)]
def z26:Ak:=(.cells 1 (Ai [(0,iV 0)]))
def p23 (E:Env):Pt:=An E 96 3 a23 [some (AB E 83 2 .ready none 15 [(3,(.ptr 1 0)),(4,(.ptr 2 0))] 3),some z26,some z25,some (.deferred (some [])),some (.cells 1 (Ai [(0,dV 63 2)]))] []
def z27:Ak:=(.cells 1 (Ai [(0,iV 3)]))
def z28:Ak:=(.cells 1 (Ai [(0,iV 4)]))
def z29:Ak:=(.cells 1 (Ai [(0,dV 63 1)]))
def d23 (E:Env):Dec:=
 {g:=23,f:=96,p:=5,pts:=[p23 E,
  As E 96 39 2 5 [(0,(.func (.yield 0) [] [])),(1,(.ptr 4 0)),(3,iV 0),(8,dV 63 1),(9,(.si .i64 (.lenL (.var 1)))),(10,iV 2)] [some (AB E 83 2 .ready none 15 [(3,(.ptr 1 0)),(4,(.ptr 2 0))] 3),some z27,some z28,some (.deferred (some [])),some z29] [] []],
  shs:=[{m:=1,res:=(.tuple []),post:=[some (AB E 83 2 .done (some .ret) 15 [] 3),none,some z26,none,none],keep:=[1,3,4]},{m:=0,res:=(.tuple []),post:=[none,none,none,none,none],keep:=[0,1,2,3,4]}]}
theorem wO:Aj (EF m23) [2] 20000 (d23 E0) t23 0=some (jl (d23 E0) [1]):=by kernel_rfl
theorem nq:Aj (EF m23) [2] 20000 (d23 E0) t23 1=some (jl (d23 E0) [1,1,1,1]):=by kernel_rfl
theorem c23:Av (EF m23) [2] 20000 (d23 E0) t23:=dk2 rfl wO nq
def m24 (E:Env):List Sm:=(d23 E).smL a23 (p23 E) 0 (d23 E).shs++m23 E
def a24:List AV:=[dV 63 0,iV 1,iV 2]
def p24 (E:Env):Pt:=An E 64 3 a24 [] []
def d24 (E:Env):Dec:=
 {g:=24,f:=64,p:=0,pts:=[p24 E],
  shs:=[{m:=1,res:=bV 0,post:=[],keep:=[]}]}
theorem mo:Aj (EF m24) [] 20000 (d24 E0) t24 0=some (jl (d24 E0) []):=by kernel_rfl
theorem c24:Av (EF m24) [] 20000 (d24 E0) t24:=dk1 rfl mo
def m25 (E:Env):List Sm:=(d24 E).smL a24 (p24 E) 0 (d24 E).shs++m24 E
def a25:List AV:=[(.func (.yield 0) [] []),(.ptr 6 0)]
def p25 (E:Env):Pt:=An E 96 8 a25 [some (AB E 32 8 .ready none 47 [(2,(.ptr 1 0)),(3,(.ptr 2 0)),(4,(.ptr 3 0)),(5,(.ptr 4 0))] 5),some (.cells 3 (Ai [(0,iV 0),(1,iV 1),(2,iV 2)])),some z16,some z28,some z3,some (.deferred (some [])),some (.cells 1 (Ai [(0,dV 63 7)]))] []
def d25 (E:Env):Dec:=
 {g:=25,f:=96,p:=7,pts:=[p25 E,
  As E 96 39 2 10 [(0,(.func (.yield 0) [] [])),(1,(.ptr 6 0)),(3,iV 0),(8,dV 63 1),(9,(.si .i64 (.lenL (.var 1)))),(10,iV 2)] [some (AB E 32 8 .ready none 47 [(2,(.ptr 1 0)),(3,(.ptr 2 0)),(4,(.ptr 3 0)),(5,(.ptr 4 0))] 5),some (.cells 3 (Ai [(0,iV 3),(1,iV 4),(2,iV 5)])),some z19,some (.cells 1 (Ai [(0,iV 7)])),some (.cells 2 (Ai [(0,sV 8),(1,dV 63 9)])),some (.deferred (some [])),some z29] [] []],
  shs:=[{m:=3,res:=(.tuple []),post:=[some (AB E 32 8 .done (some (.exit 0)) 47 [] 5),some (.cells 3 (Ai [(0,iV 0),(1,iV 1),(2,(.int .i64 12))])),some (.cells 1 (Ai [(0,bV 2)])),none,none,none,none],keep:=[3,4,5,6]},{m:=1,res:=(.tuple []),post:=[none,none,some z20,none,none,none,none],keep:=[0,1,3,4,5,6]}]}
theorem vD:Aj (EF m25) [2] 20000 (d25 E0) t25 0=some (jl (d25 E0) [1]):=by kernel_rfl
theorem wM:Aj (EF m25) [2] 20000 (d25 E0) t25 1=some (jl (d25 E0) [1,1,1,1]):=by kernel_rfl
theorem c25:Av (EF m25) [2] 20000 (d25 E0) t25:=dk2 rfl vD wM
def m26 (E:Env):List Sm:=(d25 E).smL a25 (p25 E) 0 (d25 E).shs++m25 E
def a26:List AV:=[z0]
def p26 (E:Env):Pt:=An E 32 3 a26 [] []
def d26 (E:Env):Dec:=
 {g:=26,f:=32,p:=0,pts:=[p26 E],
  shs:=[{m:=4,res:=(.tuple [z22,bV 3]),post:=[],keep:=[]}]}
theorem rU:Aj (EF m26) [] 560 (d26 E0) t26 0=some (jl (d26 E0) []):=by kernel_rfl
theorem c26:Av (EF m26) [] 560 (d26 E0) t26:=dk1 rfl rU
def m27 (E:Env):List Sm:=(d26 E).smL a26 (p26 E) 0 (d26 E).shs++m26 E
def a27:List AV:=[z0]
def p27 (E:Env):Pt:=An E 10 3 a27 [] []
def d27 (E:Env):Dec:=
 {g:=27,f:=10,p:=0,pts:=[p27 E],
  shs:=[{m:=1,res:=bV 0,post:=[],keep:=[]}]}
theorem se:Aj (EF m27) [] 20000 (d27 E0) t27 0=some (jl (d27 E0) []):=by kernel_rfl
theorem c27:Av (EF m27) [] 20000 (d27 E0) t27:=dk1 rfl se
def m28 (E:Env):List Sm:=(d27 E).smL a27 (p27 E) 0 (d27 E).shs++m27 E
def a28:List AV:=[dV 44 0,(.func (.func 38) [] [(.ptr 0 0)])]
def p28 (E:Env):Pt:=An E 65 2 a28 [some z4] []
def d28 (E:Env):Dec:=
 {g:=28,f:=65,p:=1,pts:=[p28 E,
  As E 65 19 2 3 [(0,dV 44 0),(1,(.func (.func 38) [] [(.ptr 0 0)])),(7,(.si .i64 (.lenL (.var 0)))),(8,iV 1)] [some z5] [] []],
  shs:=[{m:=1,res:=iV 0,post:=[none],keep:=[0]}]}
theorem sn:Aj (EF m28) [2] 20000 (d28 E0) t28 0=some (jl (d28 E0) [1]):=by kernel_rfl
theorem wU:Aj (EF m28) [2] 20000 (d28 E0) t28 1=some (jl (d28 E0) [1]):=by kernel_rfl
theorem c28:Av (EF m28) [2] 20000 (d28 E0) t28:=dk2 rfl sn wU
def m29 (E:Env):List Sm:=(d28 E).smL a28 (p28 E) 0 (d28 E).shs++m28 E
def a29:List AV:=[z0]
def p29 (E:Env):Pt:=An E 46 3 a29 [] []
def z30:Ak:=(.cells 3 (Ai [(0,(.str 0 0)),(1,.slice0),(2,(.str 0 0))]))
def d29 (E:Env):Dec:=
 {g:=29,f:=46,p:=0,pts:=[p29 E,
  As E 46 64 3 6 [(1,(.ptr 0 0)),(2,(.ptr 1 0)),(13,iV 0),(14,iV 1)] [some (.cells 3 (Ai [(0,sV 2),(1,aV 2 2 3 4),(2,sV 5)])),some z30,rV 44 3] [] [],
  As E 46 64 8 7 [(1,(.ptr 0 0)),(2,(.ptr 1 0)),(4,(.aptr 2 2 (.var 0) 0)),(13,iV 1),(14,iV 0),(33,iV 2),(34,(.int .i64 0))] [some (.cells 3 (Ai [(0,sV 3),(1,aV 2 2 4 5),(2,sV 6)])),some z30,rV 44 4] [] [],
  As E 46 64 8 10 [(1,(.ptr 0 0)),(2,(.ptr 1 0)),(4,(.aptr 2 2 (.var 0) 0)),(13,iV 1),(14,iV 0),(33,iV 2),(34,iV 3)] [some (.cells 3 (Ai [(0,sV 4),(1,aV 2 2 5 6),(2,sV 7)])),some z30,some (.hole 44 (.var 5) (.var 0) 1 (aV 3 15 8 9)),rV 63 8] [] []],
  shs:=[{m:=4,res:=(.agg [sV 0,aV 0 2 1 2,sV 3]),post:=[rV 44 1],keep:=[]}]}
theorem qO:Aj (EF m29) [3,8] 20000 (d29 E0) t29 0=some (jl (d29 E0) [1,1]):=by kernel_rfl
theorem qy:Aj (EF m29) [3,8] 20000 (d29 E0) t29 1=some (jl (d29 E0) [2,3]):=by kernel_rfl
theorem mY:Aj (EF m29) [3,8] 20000 (d29 E0) t29 2=some (jl (d29 E0) [1]):=by kernel_rfl
theorem lO:Aj (EF m29) [3,8] 20000 (d29 E0) t29 3=some (jl (d29 E0) [3,3,3,3,1]):=by kernel_rfl
theorem c29:Av (EF m29) [3,8] 20000 (d29 E0) t29:=dk4 rfl qO qy mY lO
def m30 (E:Env):List Sm:=(d29 E).smL a29 (p29 E) 0 (d29 E).shs++m29 E
def z31:AV:=(.agg [(.ptr 0 0),iV 8])
def a30:List AV:=[z31,(.agg [iV 9,iV 10,iV 11,iV 12,iV 13,iV 14])]
def z32:Ak:=(.cells 6 (Ai [(0,sV 0),(1,aV 1 2 1 2),(2,sV 3),(3,aV 2 6 4 5),(4,(.map 3)),(5,(.map 4))]))
def p30 (E:Env):Pt:=An E 47 15 a30 [some z32,rV 44 1,rV 108 4,some (.dmap 9 3 (.var 6)),some (.dmap 9 3 (.var 7))] []
def z33:Ak:=(.cells 6 (Ai [(0,.top),(1,.top),(2,.top),(3,aV 5 6 0 1),(4,.top),(5,.top)]))
def d30 (E:Env):Dec:=
 {g:=30,f:=47,p:=5,pts:=[p30 E],
  shs:=[{m:=2,res:=(.tuple []),post:=[some z33,none,none,none,none,rV 108 0],keep:=[1,3,4],keepC:=[(0,[0,1,2,4,5])]}]}
theorem nO:Aj (EF m30) [] 20000 (d30 E0) t30 0=some (jl (d30 E0) []):=by kernel_rfl
theorem c30:Av (EF m30) [] 20000 (d30 E0) t30:=dk1 rfl nO
def z34:Ak:=(.cells 1 (Ai [(0,(.func (.func 77) [] [(.ptr 0 0),(.ptr 2 0),(.ptr 3 0)]))]))
def q31 (E:Env):Sm:={f:=77,nv:=5,args:=[sV 0,(.ptr 0 0),(.ptr 2 0),(.ptr 3 0)],pre:=[some z7,some (.dmap 9 4 (.var 1)),some z2,some z34],facts:=[(.bc false,true)],res:=.undef,post:=[]}
def m31 (E:Env):List Sm:=q31 E::((d30 E).smL a30 (p30 E) 0 (d30 E).shs++m30 E)
def a31:List AV:=[(.func (.yield 0) [] []),(.ptr 6 0)]
def z35:Ak:=(.cells 1 (Ai [(0,(.func (.func 77) [] [(.ptr 2 0),(.ptr 4 0),(.ptr 1 0)]))]))
def z36:Ak:=(.cells 1 (Ai [(0,dV 9 4)]))
def p31 (E:Env):Pt:=An E 70 5 a31 [some (AB E 77 4 .ready none 29 [(3,(.ptr 1 0))] 5),some z35,some z13,some (.dmap 9 4 (.var 0)),some z1,some (.deferred (some [])),some z36] []
def z37:Ak:=(.cells 3 (Ai [(0,sV 3),(1,dV 44 4),(2,sV 5)]))
def d31 (E:Env):Dec:=
 {g:=31,f:=70,p:=7,pts:=[p31 E,
  As E 70 25 1 6 [(0,(.func (.yield 0) [] [])),(1,(.ptr 6 0)),(5,dV 9 0),(6,(.si .i64 (.lenL (.var 0)))),(7,iV 1)] [some (AB E 77 4 .ready none 29 [(3,(.ptr 1 0))] 5),some z35,some z13,some (.dmap 9 4 (.var 2)),some z37,some (.deferred (some [])),some z24] [] []],
  shs:=[{m:=0,res:=(.tuple []),post:=[none,none,none,none,none,none,none],keep:=[0,1,2,3,4,5,6]}]}
theorem wk:Aj (EF m31) [1] 20000 (d31 E0) t31 0=some (jl (d31 E0) [1]):=by kernel_rfl
theorem sE:Aj (EF m31) [1] 20000 (d31 E0) t31 1=some (jl (d31 E0) [1]):=by kernel_rfl
theorem c31:Av (EF m31) [1] 20000 (d31 E0) t31:=dk2 rfl wk sE
def m32 (E:Env):List Sm:=(d31 E).smL a31 (p31 E) 0 (d31 E).shs++m31 E
def a32:List AV:=[sV 0,(.ptr 0 0),(.ptr 2 0),(.ptr 3 0)]
def p32 (E:Env):Pt:=An E 77 5 a32 [some z7,some (.dmap 9 4 (.var 1)),some z2,some z34] []
def d32 (E:Env):Dec:=
 {g:=32,f:=77,p:=4,pts:=[p32 E],
  shs:=[{m:=1,res:=(.tuple []),post:=[none,some (.dmap 9 4 (.var 0)),none,none],keep:=[0,2,3]}]}
theorem nG:Aj (EF m32) [] 20000 (d32 E0) t32 0=some (jl (d32 E0) []):=by kernel_rfl
theorem c32:Av (EF m32) [] 20000 (d32 E0) t32:=dk1 rfl nG
def m33 (E:Env):List Sm:=(d32 E).smL a32 (p32 E) 0 (d32 E).shs++m31 E
def a33:List AV:=[(.func (.yield 0) [] []),(.ptr 6 0)]
def p33 (E:Env):Pt:=An E 70 5 a33 [some (AB E 77 4 .ready none 29 [(3,(.ptr 1 0))] 5),some z35,some z13,some (.dmap 9 4 (.var 0)),some z1,some (.deferred (some [])),some z36] []
def d33 (E:Env):Dec:=
 {g:=33,f:=70,p:=7,pts:=[p33 E,
  As E 70 25 1 6 [(0,(.func (.yield 0) [] [])),(1,(.ptr 6 0)),(5,dV 9 0),(6,(.si .i64 (.lenL (.var 0)))),(7,iV 1)] [some (AB E 77 4 .ready none 29 [(3,(.ptr 1 0))] 5),some z35,some z13,some (.dmap 9 4 (.var 2)),some z37,some (.deferred (some [])),some z24] [] []],
  shs:=[{m:=1,res:=(.tuple []),post:=[none,none,none,some (.dmap 9 4 (.var 0)),none,none,none],keep:=[0,1,2,4,5,6]}]}
theorem s7:Aj (EF m33) [1] 20000 (d33 E0) t33 0=some (jl (d33 E0) [1]):=by kernel_rfl
theorem pB:Aj (EF m33) [1] 20000 (d33 E0) t33 1=some (jl (d33 E0) [1,1]):=by kernel_rfl
theorem c33:Av (EF m33) [1] 20000 (d33 E0) t33:=dk2 rfl s7 pB
def m34 (E:Env):List Sm:=(d33 E).smL a33 (p33 E) 0 (d33 E).shs++m33 E
def a34:List AV:=[sV 0,(.ptr 0 0),(.ptr 2 0),(.ptr 3 0)]
def p34 (E:Env):Pt:=An E 77 5 a34 [some z7,some (.dmap 9 4 (.var 1)),some z2,some z34] []
def d34 (E:Env):Dec:=
 {g:=34,f:=77,p:=4,pts:=[p34 E],
  shs:=[{m:=1,res:=(.tuple []),post:=[none,some (.dmap 9 4 (.var 0)),none,none],keep:=[0,2,3]}]}
theorem pU:Aj (EF m34) [] 20000 (d34 E0) t34 0=some (jl (d34 E0) []):=by kernel_rfl
theorem c34:Av (EF m34) [] 20000 (d34 E0) t34:=dk1 rfl pU
def m35 (E:Env):List Sm:=(d34 E).smL a34 (p34 E) 0 (d34 E).shs++m31 E
def a35:List AV:=[(.func (.yield 0) [] []),(.ptr 6 0)]
def p35 (E:Env):Pt:=An E 70 5 a35 [some (AB E 77 4 .ready none 29 [(3,(.ptr 1 0))] 5),some z35,some z13,some (.dmap 9 4 (.var 0)),some z1,some (.deferred (some [])),some z36] []
def d35 (E:Env):Dec:=
 {g:=35,f:=70,p:=7,pts:=[p35 E,
  As E 70 25 1 6 [(0,(.func (.yield 0) [] [])),(1,(.ptr 6 0)),(5,dV 9 0),(6,(.si .i64 (.lenL (.var 0)))),(7,iV 1)] [some (AB E 77 4 .ready none 29 [(3,(.ptr 1 0))] 5),some z35,some z13,some (.dmap 9 4 (.var 2)),some z37,some (.deferred (some [])),some z24] [] []],
  shs:=[{m:=1,res:=(.tuple []),post:=[none,none,none,some (.dmap 9 4 (.var 0)),none,none,none],keep:=[0,1,2,4,5,6]}]}
theorem tC:Aj (EF m35) [1] 20000 (d35 E0) t35 0=some (jl (d35 E0) [1]):=by kernel_rfl
theorem uT:Aj (EF m35) [1] 20000 (d35 E0) t35 1=some (jl (d35 E0) [1,1]):=by kernel_rfl
theorem c35:Av (EF m35) [1] 20000 (d35 E0) t35:=dk2 rfl tC uT
def m36 (E:Env):List Sm:=(d35 E).smL a35 (p35 E) 0 (d35 E).shs++m35 E
def a36:List AV:=[sV 0,(.ptr 0 0),(.ptr 2 0),(.ptr 3 0)]
def p36 (E:Env):Pt:=An E 77 5 a36 [some z7,some (.dmap 9 4 (.var 1)),some z2,some z34] []
def d36 (E:Env):Dec:=
 {g:=36,f:=77,p:=4,pts:=[p36 E],
  shs:=[{m:=1,res:=(.tuple []),post:=[none,some (.dmap 9 4 (.var 0)),none,none],keep:=[0,2,3]}]}
theorem mU:Aj (EF m36) [] 20000 (d36 E0) t36 0=some (jl (d36 E0) []):=by kernel_rfl
theorem c36:Av (EF m36) [] 20000 (d36 E0) t36:=dk1 rfl mU
def m37 (E:Env):List Sm:=(d36 E).smL a36 (p36 E) 0 (d36 E).shs++m31 E
def a37:List AV:=[(.func (.yield 0) [] []),(.ptr 6 0)]
def p37 (E:Env):Pt:=An E 70 5 a37 [some (AB E 77 4 .ready none 29 [(3,(.ptr 1 0))] 5),some z35,some z13,some (.dmap 9 4 (.var 0)),some z1,some (.deferred (some [])),some z36] []
def d37 (E:Env):Dec:=
 {g:=37,f:=70,p:=7,pts:=[p37 E,
  As E 70 25 1 6 [(0,(.func (.yield 0) [] [])),(1,(.ptr 6 0)),(5,dV 9 0),(6,(.si .i64 (.lenL (.var 0)))),(7,iV 1)] [some (AB E 77 4 .ready none 29 [(3,(.ptr 1 0))] 5),some z35,some z13,some (.dmap 9 4 (.var 2)),some z37,some (.deferred (some [])),some z24] [] []],
  shs:=[{m:=1,res:=(.tuple []),post:=[none,none,none,some (.dmap 9 4 (.var 0)),none,none,none],keep:=[0,1,2,4,5,6]}]}
theorem oq:Aj (EF m37) [1] 20000 (d37 E0) t37 0=some (jl (d37 E0) [1]):=by kernel_rfl
theorem qB:Aj (EF m37) [1] 20000 (d37 E0) t37 1=some (jl (d37 E0) [1,1]):=by kernel_rfl
theorem c37:Av (EF m37) [1] 20000 (d37 E0) t37:=dk2 rfl oq qB
def m38 (E:Env):List Sm:=(d37 E).smL a37 (p37 E) 0 (d37 E).shs++m37 E
def a38:List AV:=[sV 0,(.ptr 0 0),(.ptr 2 0),(.ptr 3 0)]
def p38 (E:Env):Pt:=An E 77 5 a38 [some z7,some (.dmap 9 4 (.var 1)),some z2,some z34] []
def d38 (E:Env):Dec:=
 {g:=38,f:=77,p:=4,pts:=[p38 E],
  shs:=[{m:=1,res:=(.tuple []),post:=[none,some (.dmap 9 4 (.var 0)),none,none],keep:=[0,2,3]}]}
theorem lL:Aj (EF m38) [] 20000 (d38 E0) t38 0=some (jl (d38 E0) []):=by kernel_rfl
theorem c38:Av (EF m38) [] 20000 (d38 E0) t38:=dk1 rfl lL
def m39 (E:Env):List Sm:=(d38 E).smL a38 (p38 E) 0 (d38 E).shs++m31 E
def a39:List AV:=[(.func (.yield 0) [] []),(.ptr 6 0)]
def p39 (E:Env):Pt:=An E 70 5 a39 [some (AB E 77 4 .ready none 29 [(3,(.ptr 1 0))] 5),some z35,some z13,some (.dmap 9 4 (.var 0)),some z1,some (.deferred (some [])),some z36] []
def d39 (E:Env):Dec:=
 {g:=39,f:=70,p:=7,pts:=[p39 E,
  As E 70 25 1 6 [(0,(.func (.yield 0) [] [])),(1,(.ptr 6 0)),(5,dV 9 0),(6,(.si .i64 (.lenL (.var 0)))),(7,iV 1)] [some (AB E 77 4 .ready none 29 [(3,(.ptr 1 0))] 5),some z35,some z13,some (.dmap 9 4 (.var 2)),some z37,some (.deferred (some [])),some z24] [] []],
  shs:=[{m:=1,res:=(.tuple []),post:=[none,none,none,some (.dmap 9 4 (.var 0)),none,none,none],keep:=[0,1,2,4,5,6]}]}
theorem pC:Aj (EF m39) [1] 20000 (d39 E0) t39 0=some (jl (d39 E0) [1]):=by kernel_rfl
theorem uJ:Aj (EF m39) [1] 20000 (d39 E0) t39 1=some (jl (d39 E0) [1,1]):=by kernel_rfl
theorem c39:Av (EF m39) [1] 20000 (d39 E0) t39:=dk2 rfl pC uJ
def m40 (E:Env):List Sm:=(d39 E).smL a39 (p39 E) 0 (d39 E).shs++m39 E
def a40:List AV:=[sV 0,(.ptr 0 0),(.ptr 2 0),(.ptr 3 0)]
def p40 (E:Env):Pt:=An E 77 5 a40 [some z7,some (.dmap 9 4 (.var 1)),some z2,some z34] []
def d40 (E:Env):Dec:=
 {g:=40,f:=77,p:=4,pts:=[p40 E],
  shs:=[{m:=1,res:=(.tuple []),post:=[none,some (.dmap 9 4 (.var 0)),none,none],keep:=[0,2,3]}]}
theorem wG:Aj (EF m40) [] 20000 (d40 E0) t40 0=some (jl (d40 E0) []):=by kernel_rfl
theorem c40:Av (EF m40) [] 20000 (d40 E0) t40:=dk1 rfl wG
def m41 (E:Env):List Sm:=(d40 E).smL a40 (p40 E) 0 (d40 E).shs++m31 E
def a41:List AV:=[(.func (.yield 0) [] []),(.ptr 6 0)]
def p41 (E:Env):Pt:=An E 70 5 a41 [some (AB E 77 4 .ready none 29 [(3,(.ptr 1 0))] 5),some z35,some z13,some (.dmap 9 4 (.var 0)),some z1,some (.deferred (some [])),some z36] []
def d41 (E:Env):Dec:=
 {g:=41,f:=70,p:=7,pts:=[p41 E,
  As E 70 25 1 6 [(0,(.func (.yield 0) [] [])),(1,(.ptr 6 0)),(5,dV 9 0),(6,(.si .i64 (.lenL (.var 0)))),(7,iV 1)] [some (AB E 77 4 .ready none 29 [(3,(.ptr 1 0))] 5),some z35,some z13,some (.dmap 9 4 (.var 2)),some z37,some (.deferred (some [])),some z24] [] []],
  shs:=[{m:=1,res:=(.tuple []),post:=[none,none,none,some (.dmap 9 4 (.var 0)),none,none,none],keep:=[0,1,2,4,5,6]}]}
theorem pX:Aj (EF m41) [1] 20000 (d41 E0) t41 0=some (jl (d41 E0) [1]):=by kernel_rfl
theorem pq:Aj (EF m41) [1] 20000 (d41 E0) t41 1=some (jl (d41 E0) [1,1]):=by kernel_rfl
theorem c41:Av (EF m41) [1] 20000 (d41 E0) t41:=dk2 rfl pX pq
def m42 (E:Env):List Sm:=(d41 E).smL a41 (p41 E) 0 (d41 E).shs++m41 E
def a42:List AV:=[sV 0,(.ptr 0 0),(.ptr 2 0),(.ptr 3 0)]
def p42 (E:Env):Pt:=An E 77 5 a42 [some z7,some (.dmap 9 4 (.var 1)),some z2,some z34] []
def d42 (E:Env):Dec:=
 {g:=42,f:=77,p:=4,pts:=[p42 E],
  shs:=[{m:=1,res:=(.tuple []),post:=[none,some (.dmap 9 4 (.var 0)),none,none],keep:=[0,2,3]}]}
theorem wE:Aj (EF m42) [] 20000 (d42 E0) t42 0=some (jl (d42 E0) []):=by kernel_rfl
theorem c42:Av (EF m42) [] 20000 (d42 E0) t42:=dk1 rfl wE
def m43 (E:Env):List Sm:=(d42 E).smL a42 (p42 E) 0 (d42 E).shs++m31 E
def a43:List AV:=[(.func (.yield 0) [] []),(.ptr 6 0)]
def p43 (E:Env):Pt:=An E 70 5 a43 [some (AB E 77 4 .ready none 29 [(3,(.ptr 1 0))] 5),some z35,some z13,some (.dmap 9 4 (.var 0)),some z1,some (.deferred (some [])),some z36] []
def d43 (E:Env):Dec:=
 {g:=43,f:=70,p:=7,pts:=[p43 E,
  As E 70 25 1 6 [(0,(.func (.yield 0) [] [])),(1,(.ptr 6 0)),(5,dV 9 0),(6,(.si .i64 (.lenL (.var 0)))),(7,iV 1)] [some (AB E 77 4 .ready none 29 [(3,(.ptr 1 0))] 5),some z35,some z13,some (.dmap 9 4 (.var 2)),some z37,some (.deferred (some [])),some z24] [] []],
  shs:=[{m:=1,res:=(.tuple []),post:=[none,none,none,some (.dmap 9 4 (.var 0)),none,none,none],keep:=[0,1,2,4,5,6]}]}
theorem oV:Aj (EF m43) [1] 20000 (d43 E0) t43 0=some (jl (d43 E0) [1]):=by kernel_rfl
theorem sw:Aj (EF m43) [1] 20000 (d43 E0) t43 1=some (jl (d43 E0) [1,1]):=by kernel_rfl
theorem c43:Av (EF m43) [1] 20000 (d43 E0) t43:=dk2 rfl oV sw
def m44 (E:Env):List Sm:=(d43 E).smL a43 (p43 E) 0 (d43 E).shs++m43 E
def a44:List AV:=[sV 0,(.ptr 0 0),(.ptr 2 0),(.ptr 3 0)]
def p44 (E:Env):Pt:=An E 77 5 a44 [some z7,some (.dmap 9 4 (.var 1)),some z2,some z34] []
def d44 (E:Env):Dec:=
 {g:=44,f:=77,p:=4,pts:=[p44 E],
  shs:=[{m:=1,res:=(.tuple []),post:=[none,some (.dmap 9 4 (.var 0)),none,none],keep:=[0,2,3]}]}
theorem wT:Aj (EF m44) [] 20000 (d44 E0) t44 0=some (jl (d44 E0) []):=by kernel_rfl
theorem c44:Av (EF m44) [] 20000 (d44 E0) t44:=dk1 rfl wT
def m45 (E:Env):List Sm:=(d44 E).smL a44 (p44 E) 0 (d44 E).shs++m31 E
def a45:List AV:=[(.func (.yield 0) [] []),(.ptr 6 0)]
def p45 (E:Env):Pt:=An E 70 5 a45 [some (AB E 77 4 .ready none 29 [(3,(.ptr 1 0))] 5),some z35,some z13,some (.dmap 9 4 (.var 0)),some z1,some (.deferred (some [])),some z36] []
def d45 (E:Env):Dec:=
 {g:=45,f:=70,p:=7,pts:=[p45 E,
  As E 70 25 1 6 [(0,(.func (.yield 0) [] [])),(1,(.ptr 6 0)),(5,dV 9 0),(6,(.si .i64 (.lenL (.var 0)))),(7,iV 1)] [some (AB E 77 4 .ready none 29 [(3,(.ptr 1 0))] 5),some z35,some z13,some (.dmap 9 4 (.var 2)),some z37,some (.deferred (some [])),some z24] [] []],
  shs:=[{m:=1,res:=(.tuple []),post:=[none,none,none,some (.dmap 9 4 (.var 0)),none,none,none],keep:=[0,1,2,4,5,6]}]}
theorem vf:Aj (EF m45) [1] 20000 (d45 E0) t45 0=some (jl (d45 E0) [1]):=by kernel_rfl
theorem uA:Aj (EF m45) [1] 20000 (d45 E0) t45 1=some (jl (d45 E0) [1,1]):=by kernel_rfl
theorem c45:Av (EF m45) [1] 20000 (d45 E0) t45:=dk2 rfl vf uA
def m46 (E:Env):List Sm:=(d45 E).smL a45 (p45 E) 0 (d45 E).shs++m45 E
def a46:List AV:=[sV 0,(.ptr 0 0),(.ptr 2 0),(.ptr 3 0)]
def p46 (E:Env):Pt:=An E 77 5 a46 [some z7,some (.dmap 9 4 (.var 1)),some z2,some z34] []
def d46 (E:Env):Dec:=
 {g:=46,f:=77,p:=4,pts:=[p46 E],
  shs:=[{m:=1,res:=(.tuple []),post:=[none,some (.dmap 9 4 (.var 0)),none,none],keep:=[0,2,3]}]}
theorem wV:Aj (EF m46) [] 20000 (d46 E0) t46 0=some (jl (d46 E0) []):=by kernel_rfl
theorem c46:Av (EF m46) [] 20000 (d46 E0) t46:=dk1 rfl wV
def m47 (E:Env):List Sm:=(d46 E).smL a46 (p46 E) 0 (d46 E).shs++m31 E
def a47:List AV:=[(.func (.yield 0) [] []),(.ptr 6 0)]
def p47 (E:Env):Pt:=An E 70 5 a47 [some (AB E 77 4 .ready none 29 [(3,(.ptr 1 0))] 5),some z35,some z13,some (.dmap 9 4 (.var 0)),some z1,some (.deferred (some [])),some z36] []
def d47 (E:Env):Dec:=
 {g:=47,f:=70,p:=7,pts:=[p47 E,
  As E 70 25 1 6 [(0,(.func (.yield 0) [] [])),(1,(.ptr 6 0)),(5,dV 9 0),(6,(.si .i64 (.lenL (.var 0)))),(7,iV 1)] [some (AB E 77 4 .ready none 29 [(3,(.ptr 1 0))] 5),some z35,some z13,some (.dmap 9 4 (.var 2)),some z37,some (.deferred (some [])),some z24] [] []],
  shs:=[{m:=1,res:=(.tuple []),post:=[none,none,none,some (.dmap 9 4 (.var 0)),none,none,none],keep:=[0,1,2,4,5,6]}]}
theorem nI:Aj (EF m47) [1] 20000 (d47 E0) t47 0=some (jl (d47 E0) [1]):=by kernel_rfl
theorem og:Aj (EF m47) [1] 20000 (d47 E0) t47 1=some (jl (d47 E0) [1,1]):=by kernel_rfl
theorem c47:Av (EF m47) [1] 20000 (d47 E0) t47:=dk2 rfl nI og
def m48 (E:Env):List Sm:=(d47 E).smL a47 (p47 E) 0 (d47 E).shs++m47 E
def a48:List AV:=[sV 0,(.ptr 0 0),(.ptr 2 0),(.ptr 3 0)]
def p48 (E:Env):Pt:=An E 77 5 a48 [some z7,some (.dmap 9 4 (.var 1)),some z2,some z34] []
def d48 (E:Env):Dec:=
 {g:=48,f:=77,p:=4,pts:=[p48 E],
  shs:=[{m:=1,res:=(.tuple []),post:=[none,some (.dmap 9 4 (.var 0)),none,none],keep:=[0,2,3]}]}
theorem uF:Aj (EF m48) [] 20000 (d48 E0) t48 0=some (jl (d48 E0) []):=by kernel_rfl
theorem c48:Av (EF m48) [] 20000 (d48 E0) t48:=dk1 rfl uF
def m49 (E:Env):List Sm:=(d48 E).smL a48 (p48 E) 0 (d48 E).shs++m31 E
def a49:List AV:=[z0,aV 0 1 3 4]
def p49 (E:Env):Pt:=An E 49 5 a49 [rV 9 3] []
def z38:Ak:=(.cells 3 (Ai [(0,sV 4),(1,dV 44 5),(2,sV 6)]))
def d49 (E:Env):Dec:=
 {g:=49,f:=49,p:=1,pts:=[p49 E,
  As E 49 22 5 7 [(5,(.ptr 1 0)),(6,(.ptr 2 0)),(11,aV 0 1 0 1),(12,(.si .i64 (.lenL (.var 0)))),(13,iV 2)] [rV 9 0,some z13,some (.cells 1 (Ai [(0,(.func (.func 77) [] [(.ptr 1 0),(.ptr 4 0),(.ptr 2 0)]))])),some (.dmap 9 4 (.var 3)),some z38] [] []],
  shs:=[{m:=1,res:=(.map 1),post:=[none,some (.dmap 9 4 (.var 0))],keep:=[0]}]}
theorem uM:Aj (EF m49) [5] 20000 (d49 E0) t49 0=some (jl (d49 E0) [1]):=by kernel_rfl
theorem s8:Aj (EF m49) [5] 20000 (d49 E0) t49 1=some (jl (d49 E0) [1]):=by kernel_rfl
theorem c49:Av (EF m49) [5] 20000 (d49 E0) t49:=dk2 rfl uM s8
def m50 (E:Env):List Sm:=(d49 E).smL a49 (p49 E) 0 (d49 E).shs++m49 E
def a50:List AV:=[iV 0]
def p50 (E:Env):Pt:=An E 48 1 a50 [] []
def d50 (E:Env):Dec:=
 {g:=50,f:=48,p:=0,pts:=[p50 E],
  shs:=[{m:=1,res:=(.agg [iV 0,(.int .i64 (-1)),(.int .i64 (-1)),(.int .i64 (-1)),(.int .i64 (-1)),(.int .i64 (-1))]),post:=[],keep:=[]}]}
theorem xu:Aj (EF m50) [] 20000 (d50 E0) t50 0=some (jl (d50 E0) []):=by kernel_rfl
theorem c50:Av (EF m50) [] 20000 (d50 E0) t50:=dk1 rfl xu
def m51 (E:Env):List Sm:=(d50 E).smL a50 (p50 E) 0 (d50 E).shs++m50 E
def a51:List AV:=[z31,iV 9,iV 10,iV 11]
def p51 (E:Env):Pt:=An E 50 12 a51 [some z32,rV 44 1,rV 108 4,some (.dmap 9 3 (.var 6)),some (.dmap 9 3 (.var 7))] []
def d51 (E:Env):Dec:=
 {g:=51,f:=50,p:=5,pts:=[p51 E],
  shs:=[{m:=2,res:=(.tuple []),post:=[some z33,none,none,none,none,rV 108 0],keep:=[1,3,4],keepC:=[(0,[0,1,2,4,5])]}]}
theorem xW:Aj (EF m51) [] 20000 (d51 E0) t51 0=some (jl (d51 E0) []):=by kernel_rfl
theorem c51:Av (EF m51) [] 20000 (d51 E0) t51:=dk1 rfl xW
def m52 (E:Env):List Sm:=(d51 E).smL a51 (p51 E) 0 (d51 E).shs++m51 E
def a52:List AV:=[z31,iV 9,(.agg [sV 10,iV 11,iV 12,bV 13,bV 14,iV 15,iV 16,iV 17,dV 119 18,sV 19,sV 20,sV 21,dV 138 22,iV 23,iV 24])]
def p52 (E:Env):Pt:=An E 54 25 a52 [some z32,rV 44 1,rV 108 4,some (.dmap 9 3 (.var 6)),some (.dmap 9 3 (.var 7))] []
def d52 (E:Env):Dec:=
 {g:=52,f:=54,p:=5,pts:=[p52 E,
  As E 54 46 3 12 [(1,iV 0),(3,(.ptr 5 0)),(12,dV 138 1),(13,(.si .i64 (.lenL (.var 1)))),(14,iV 2)] [some (.cells 6 (Ai [(0,sV 3),(1,aV 1 2 4 5),(2,sV 6),(3,aV 6 6 7 8),(4,(.map 3)),(5,(.map 4))])),rV 44 4,none,some (.dmap 9 3 (.var 9)),some (.dmap 9 3 (.var 10)),some (.cells 2 (Ai [(0,(.ptr 0 0)),(1,iV 11)])),rV 108 7] [] []],
  shs:=[{m:=2,res:=(.tuple []),post:=[some z33,none,none,none,none,rV 108 0],keep:=[1,3,4],keepC:=[(0,[0,1,2,4,5])]}]}
theorem uq:Aj (EF m52) [3] 20000 (d52 E0) t52 0=some (jl (d52 E0) [1]):=by kernel_rfl
theorem tg:Aj (EF m52) [3] 20000 (d52 E0) t52 1=some (jl (d52 E0) [1,1]):=by kernel_rfl
theorem c52:Av (EF m52) [3] 20000 (d52 E0) t52:=dk2 rfl uq tg
def m53 (E:Env):List Sm:=(d52 E).smL a52 (p52 E) 0 (d52 E).shs++m52 E
def a53:List AV:=[dV 119 0,(.func (.func 113) [] [(.ptr 0 0)])]
def p53 (E:Env):Pt:=An E 133 2 a53 [some z4] []
def d53 (E:Env):Dec:=
 {g:=53,f:=133,p:=1,pts:=[p53 E,
  As E 133 19 2 3 [(0,dV 119 0),(1,(.func (.func 113) [] [(.ptr 0 0)])),(7,(.si .i64 (.lenL (.var 0)))),(8,iV 1)] [some z5] [] []],
  shs:=[{m:=1,res:=iV 0,post:=[none],keep:=[0]}]}
theorem mF:Aj (EF m53) [2] 20000 (d53 E0) t53 0=some (jl (d53 E0) [1]):=by kernel_rfl
theorem rt:Aj (EF m53) [2] 20000 (d53 E0) t53 1=some (jl (d53 E0) [1]):=by kernel_rfl
theorem c53:Av (EF m53) [2] 20000 (d53 E0) t53:=dk2 rfl mF rt
def m54 (E:Env):List Sm:=(d53 E).smL a53 (p53 E) 0 (d53 E).shs++m53 E
def a54:List AV:=[dV 63 0,(.func (.func 111) [] [(.ptr 0 0)])]
def p54 (E:Env):Pt:=An E 66 2 a54 [some z4] []
def d54 (E:Env):Dec:=
 {g:=54,f:=66,p:=1,pts:=[p54 E,
  As E 66 19 2 3 [(0,dV 63 0),(1,(.func (.func 111) [] [(.ptr 0 0)])),(7,(.si .i64 (.lenL (.var 0)))),(8,iV 1)] [some z5] [] []],
  shs:=[{m:=1,res:=iV 0,post:=[none],keep:=[0]}]}
theorem vY:Aj (EF m54) [2] 20000 (d54 E0) t54 0=some (jl (d54 E0) [1]):=by kernel_rfl
theorem nQ:Aj (EF m54) [2] 20000 (d54 E0) t54 1=some (jl (d54 E0) [1,1]):=by kernel_rfl
theorem c54:Av (EF m54) [2] 20000 (d54 E0) t54:=dk2 rfl vY nQ
def m55 (E:Env):List Sm:=(d54 E).smL a54 (p54 E) 0 (d54 E).shs++m54 E
def a55:List AV:=[z23,sV 2]
def p55 (E:Env):Pt:=An E 79 3 a55 [] []
def d55 (E:Env):Dec:=
 {g:=55,f:=79,p:=0,pts:=[p55 E],
  shs:=[{m:=1,res:=bV 0,post:=[],keep:=[]}]}
theorem xJ:Aj (EF m55) [] 20000 (d55 E0) t55 0=some (jl (d55 E0) []):=by kernel_rfl
theorem c55:Av (EF m55) [] 20000 (d55 E0) t55:=dk1 rfl xJ
def m56 (E:Env):List Sm:=(d55 E).smL a55 (p55 E) 0 (d55 E).shs++m55 E
def a56:List AV:=[z0]
def p56 (E:Env):Pt:=An E 21 3 a56 [] []
def d56 (E:Env):Dec:=
 {g:=56,f:=21,p:=0,pts:=[p56 E,
  As E 21 139 9 13 [(4,(.ptr 0 0)),(5,(.ptr 1 0)),(6,(.map 2)),(46,aV 3 2 0 1),(47,iV 2),(48,iV 3)] [some (.cells 6 (Ai [(0,sV 4),(1,aV 3 2 0 5),(2,sV 6),(3,aV 4 6 7 8),(4,(.map 5)),(5,(.map 6))])),some (.cells 2 (Ai [(0,(.ptr 0 0)),(1,iV 9)])),some (.dmap 9 4 (.var 10)),rV 44 0,rV 108 7,some (.dmap 9 3 (.var 11)),some (.dmap 9 3 (.var 12))] [] [],
  As E 21 139 17 20 [(4,(.ptr 0 0)),(5,(.ptr 1 0)),(6,(.map 2)),(9,(.map 3)),(46,aV 4 2 0 1),(47,iV 2),(48,iV 3),(94,dV 63 4),(95,iV 5),(96,iV 6)] [some (.cells 6 (Ai [(0,sV 7),(1,aV 4 2 0 8),(2,sV 9),(3,aV 5 6 10 11),(4,(.map 6)),(5,(.map 7))])),some (.cells 2 (Ai [(0,(.ptr 0 0)),(1,iV 12)])),some (.dmap 9 4 (.var 13)),some (.map [⟨(.int .i64 8),(.func (.func 51) [(.agg [(.ptr 0 0),iV 14])] []),0⟩,⟨(.int .i64 7),(.func (.func 52) [(.agg [(.ptr 0 0),iV 15])] []),1⟩,⟨(.int .i64 12),(.func (.func 53) [(.agg [(.ptr 0 0),iV 16])] []),2⟩,⟨(.int .i64 9),(.func (.func 54) [(.agg [(.ptr 0 0),iV 17])] []),3⟩] 4),rV 44 0,rV 108 10,some (.dmap 9 3 (.var 18)),some (.dmap 9 3 (.var 19))] [] []],
  shs:=[{m:=0,res:=(.tuple [.ptr0,(.int .i64 2)]),post:=[],keep:=[]},{m:=8,res:=(.tuple [(.ptr 0 0),(.int .i64 0)]),post:=[some z32,rV 44 1,rV 108 4,some (.dmap 9 3 (.var 6)),some (.dmap 9 3 (.var 7))],keep:=[]}]}
theorem ph:Aj (EF m56) [9,17] 20000 (d56 E0) t56 0=some (jl (d56 E0) [1]):=by kernel_rfl
theorem sZ:Aj (EF m56) [9,17] 20000 (d56 E0) t56 1=some (jl (d56 E0) [1,2,1]):=by kernel_rfl
theorem oD:Aj (EF m56) [9,17] 20000 (d56 E0) t56 2=some (jl (d56 E0) [2,2,2,2,2,2,2,2,2,2,2,2,2,2,2,2,2,1]):=by kernel_rfl
theorem c56:Av (EF m56) [9,17] 20000 (d56 E0) t56:=dk3 rfl ph sZ oD
def m57 (E:Env):List Sm:=(d56 E).smL a56 (p56 E) 0 (d56 E).shs++m56 E
def a57:List AV:=[.ptr0,sV 0]
def p57 (E:Env):Pt:=An E 22 1 a57 [] []
def d57 (E:Env):Dec:=
 {g:=57,f:=22,p:=0,pts:=[p57 E],
  shs:=[{m:=0,res:=(.tuple [(.int .i64 0),(.int .i64 1)]),post:=[],keep:=[]}]}
theorem tq:Aj (EF m57) [] 20000 (d57 E0) t57 0=some (jl (d57 E0) []):=by kernel_rfl
theorem c57:Av (EF m57) [] 20000 (d57 E0) t57:=dk1 rfl tq
def m58 (E:Env):List Sm:=(d57 E).smL a57 (p57 E) 0 (d57 E).shs++m57 E
def a58:List AV:=[z0,.ptr0]
def p58 (E:Env):Pt:=An E 25 3 a58 [] []
def d58 (E:Env):Dec:=
 {g:=58,f:=25,p:=0,pts:=[p58 E,
  As E 25 45 3 2 [(1,.ptr0),(4,.map0),(5,(.ptr 0 0)),(14,dV 44 0),(15,(.si .i64 (.lenL (.var 0)))),(16,iV 1)] [some z7,some (.map [] 0)] [] []],
  shs:=[{m:=0,res:=(.map 0),post:=[some (.map [] 0)],keep:=[]}]}
theorem vw:Aj (EF m58) [3] 20000 (d58 E0) t58 0=some (jl (d58 E0) [1]):=by kernel_rfl
theorem ny:Aj (EF m58) [3] 20000 (d58 E0) t58 1=some (jl (d58 E0) [1]):=by kernel_rfl
theorem c58:Av (EF m58) [3] 20000 (d58 E0) t58:=dk2 rfl vw ny
def m59 (E:Env):List Sm:=(d58 E).smL a58 (p58 E) 0 (d58 E).shs++m58 E
def z39:AV:=(.agg [sV 0,dV 63 1,iV 2])
def a59:List AV:=[z39,(.agg [sV 3,iV 4,iV 5,bV 6,bV 7,iV 8,iV 9,iV 10,dV 119 11,sV 12,sV 13,sV 14,dV 138 15,iV 16,iV 17]),iV 18]
def p59 (E:Env):Pt:=An E 61 19 a59 [] []
def d59 (E:Env):Dec:=
 {g:=59,f:=61,p:=0,pts:=[p59 E],
  shs:=[{m:=1,res:=iV 0,post:=[],keep:=[]}]}
def m60 (E:Env):List Sm:=(d59 E).smL a59 (p59 E) 0 (d59 E).shs++m59 E
def a60:List AV:=[z39,(.agg [sV 3,dV 44 4,sV 5]),iV 6]
def p60 (E:Env):Pt:=An E 31 7 a60 [] []
def d60 (E:Env):Dec:=
 {g:=60,f:=31,p:=0,pts:=[p60 E],
  shs:=[{m:=1,res:=iV 0,post:=[],keep:=[]}]}
theorem tc:Aj (EF m60) [] 20000 (d60 E0) t60 0=some (jl (d60 E0) []):=by kernel_rfl
theorem c60:Av (EF m60) [] 20000 (d60 E0) t60:=dk1 rfl tc
def m61 (E:Env):List Sm:=(d60 E).smL a60 (p60 E) 0 (d60 E).shs++m60 E
def a61:List AV:=[dV 63 0,(.func (.func 30) [] [(.ptr 0 0),(.ptr 1 0),(.ptr 2 0)])]
def p61 (E:Env):Pt:=An E 29 7 a61 [some (.cells 2 (Ai [(0,sV 1),(1,dV 63 2)])),some z27,some z38] []
def d61 (E:Env):Dec:=
 {g:=61,f:=29,p:=3,pts:=[p61 E,
  As E 29 22 2 9 [(1,(.func (.func 30) [] [(.ptr 0 0),(.ptr 1 0),(.ptr 2 0)])),(4,iV 0),(7,dV 63 1),(8,(.si .i64 (.lenL (.var 1)))),(9,iV 2)] [some (.cells 2 (Ai [(0,sV 3),(1,dV 63 4)])),some z18,some (.cells 3 (Ai [(0,sV 6),(1,dV 44 7),(2,sV 8)]))] [] []],
  shs:=[{m:=1,res:=iV 0,post:=[none,none,none],keep:=[0,1,2]}]}
theorem ve:Aj (EF m61) [2] 20000 (d61 E0) t61 0=some (jl (d61 E0) [1]):=by kernel_rfl
theorem oL:Aj (EF m61) [2] 20000 (d61 E0) t61 1=some (jl (d61 E0) [1,1]):=by kernel_rfl
theorem c61:Av (EF m61) [2] 20000 (d61 E0) t61:=dk2 rfl ve oL
def m62 (E:Env):List Sm:=(d61 E).smL a61 (p61 E) 0 (d61 E).shs++m61 E
def a62:List AV:=[dV 44 0,(.func (.func 28) [] [(.ptr 0 0),(.ptr 2 0)])]
def p62 (E:Env):Pt:=An E 27 5 a62 [some z7,some (.dmap 9 3 (.var 1)),some z2] []
def d62 (E:Env):Dec:=
 {g:=62,f:=27,p:=3,pts:=[p62 E,
  As E 27 22 2 7 [(1,(.func (.func 28) [] [(.ptr 0 0),(.ptr 2 0)])),(4,iV 0),(7,dV 44 1),(8,(.si .i64 (.lenL (.var 1)))),(9,iV 2)] [some z7,some (.dmap 9 3 (.var 3)),some z38] [] []],
  shs:=[{m:=1,res:=iV 0,post:=[none,none,none],keep:=[0,1,2]}]}
theorem vk:Aj (EF m62) [2] 20000 (d62 E0) t62 0=some (jl (d62 E0) [1]):=by kernel_rfl
theorem lF:Aj (EF m62) [2] 20000 (d62 E0) t62 1=some (jl (d62 E0) [1,1,1,1]):=by kernel_rfl
theorem c62:Av (EF m62) [2] 20000 (d62 E0) t62:=dk2 rfl vk lF
def m63 (E:Env):List Sm:=(d62 E).smL a62 (p62 E) 0 (d62 E).shs++m62 E
def a63:List AV:=[(.ptr 0 0),sV 8]
def p63 (E:Env):Pt:=An E 22 9 a63 [some z32,rV 44 1,rV 108 4,some (.dmap 9 3 (.var 6)),some (.dmap 9 3 (.var 7))] []
def d63 (E:Env):Dec:=
 {g:=63,f:=22,p:=5,pts:=[p63 E],
  shs:=[{m:=2,res:=(.tuple [iV 0,iV 1]),post:=[none,none,none,none,none],keep:=[0,1,2,3,4]}]}
theorem mO:Aj (EF m63) [] 20000 (d63 E0) t63 0=some (jl (d63 E0) []):=by kernel_rfl
theorem c63:Av (EF m63) [] 20000 (d63 E0) t63:=dk1 rfl mO
def m64 (E:Env):List Sm:=(d63 E).smL a63 (p63 E) 0 (d63 E).shs++m63 E
def a64:List AV:=[(.func (.yield 0) [] []),(.ptr 5 0)]
def z40:Ak:=(.cells 1 (Ai [(0,(.map 2))]))
def p64 (E:Env):Pt:=An E 70 3 a64 [some (AB E 25 9 .ready none 45 [(5,(.ptr 1 0)),(10,(.ptr 3 0))] 4),some z40,some (.dmap 9 3 (.var 0)),some z25,some (.deferred (some [])),some (.cells 1 (Ai [(0,dV 9 2)]))] []
def d64 (E:Env):Dec:=
 {g:=64,f:=70,p:=6,pts:=[p64 E,
  As E 70 25 1 4 [(0,(.func (.yield 0) [] [])),(1,(.ptr 5 0)),(5,dV 9 0),(6,(.si .i64 (.lenL (.var 0)))),(7,iV 1)] [some (AB E 25 9 .ready none 45 [(5,(.ptr 1 0)),(10,(.ptr 3 0))] 4),some z40,some (.dmap 9 3 (.var 2)),some z27,some (.deferred (some [])),some z24] [] []],
  shs:=[{m:=1,res:=(.tuple []),post:=[none,none,none,some z26,none,none],keep:=[0,1,2,4,5]}]}
theorem ma:Aj (EF m64) [1] 20000 (d64 E0) t64 0=some (jl (d64 E0) [1]):=by kernel_rfl
theorem ro:Aj (EF m64) [1] 20000 (d64 E0) t64 1=some (jl (d64 E0) [1,1,1,1,1]):=by kernel_rfl
theorem c64:Av (EF m64) [1] 20000 (d64 E0) t64:=dk2 rfl ma ro
def m65 (E:Env):List Sm:=(d64 E).smL a64 (p64 E) 0 (d64 E).shs++m64 E
def a65:List AV:=[z0,(.ptr 0 0)]
def p65 (E:Env):Pt:=An E 25 11 a65 [some (.cells 6 (Ai [(0,sV 3),(1,aV 1 2 4 5),(2,sV 6),(3,aV 2 6 7 8),(4,(.map 3)),(5,(.map 4))])),rV 44 4,rV 108 7,some (.dmap 9 3 (.var 9)),some (.dmap 9 3 (.var 10))] []
def z41:Ak:=(.cells 6 (Ai [(0,sV 2),(1,aV 1 2 3 4),(2,sV 5),(3,aV 2 6 6 7),(4,(.map 3)),(5,(.map 4))]))
def z42:Ak:=(.cells 1 (Ai [(0,(.map 8))]))
def z43:Ak:=(.cells 1 (Ai [(0,(.map 10))]))
def z44:Ak:=(.cells 1 (Ai [(0,(.map 11))]))
def z45:Ak:=(.cells 1 (Ai [(0,(.map 12))]))
def z46:Ak:=(.cells 1 (Ai [(0,(.map 13))]))
def z47:Ak:=(.cells 1 (Ai [(0,(.map 14))]))
def z48:Ak:=(.cells 1 (Ai [(0,(.map 15))]))
def d65 (E:Env):Dec:=
 {g:=65,f:=25,p:=5,pts:=[p65 E,
  As E 25 45 3 10 [(1,(.ptr 0 0)),(4,.map0),(5,(.ptr 5 0)),(14,dV 44 0),(15,(.si .i64 (.lenL (.var 0)))),(16,iV 1)] [some z41,rV 44 3,rV 108 6,some (.dmap 9 3 (.var 8)),some (.dmap 9 3 (.var 9)),some z10,some (.map [] 0)] [] [],
  As E 25 45 3 11 [(1,(.ptr 0 0)),(4,.map0),(5,(.ptr 5 0)),(14,dV 44 0),(15,(.si .i64 (.lenL (.var 0)))),(16,iV 1)] [some z41,rV 44 3,rV 108 6,some (.dmap 9 3 (.var 8)),some (.dmap 9 3 (.var 9)),some (.cells 1 (Ai [(0,(.map 7))])),some (.deferred (some [])),some (.dmap 9 3 (.var 10))] [] [6],
  As E 25 45 3 11 [(1,(.ptr 0 0)),(4,.map0),(5,(.ptr 5 0)),(14,dV 44 0),(15,(.si .i64 (.lenL (.var 0)))),(16,iV 1)] [some z41,rV 44 3,rV 108 6,some (.dmap 9 3 (.var 8)),some (.dmap 9 3 (.var 9)),some z42,some (.deferred (some [])),some (.deferred (some [])),some (.dmap 9 3 (.var 10))] [] [6,7],
  As E 25 45 3 11 [(1,(.ptr 0 0)),(4,.map0),(5,(.ptr 5 0)),(14,dV 44 0),(15,(.si .i64 (.lenL (.var 0)))),(16,iV 1)] [some z41,rV 44 3,rV 108 6,some (.dmap 9 3 (.var 8)),some (.dmap 9 3 (.var 9)),some (.cells 1 (Ai [(0,(.map 9))])),some (.deferred (some [])),some (.deferred (some [])),some (.deferred (some [])),some (.dmap 9 3 (.var 10))] [] [6,7,8],
  As E 25 45 3 11 [(1,(.ptr 0 0)),(4,.map0),(5,(.ptr 5 0)),(14,dV 44 0),(15,(.si .i64 (.lenL (.var 0)))),(16,iV 1)] [some z41,rV 44 3,rV 108 6,some (.dmap 9 3 (.var 8)),some (.dmap 9 3 (.var 9)),some z43,some (.deferred (some [])),some (.deferred (some [])),some (.deferred (some [])),some (.deferred (some [])),some (.dmap 9 3 (.var 10))] [] [6,7,8,9],
  As E 25 45 3 11 [(1,(.ptr 0 0)),(4,.map0),(5,(.ptr 5 0)),(14,dV 44 0),(15,(.si .i64 (.lenL (.var 0)))),(16,iV 1)] [some z41,rV 44 3,rV 108 6,some (.dmap 9 3 (.var 8)),some (.dmap 9 3 (.var 9)),some z44,some (.deferred (some [])),some (.deferred (some [])),some (.deferred (some [])),some (.deferred (some [])),some (.deferred (some [])),some (.dmap 9 3 (.var 10))] [] [6,7,8,9,10],
  As E 25 45 3 11 [(1,(.ptr 0 0)),(4,.map0),(5,(.ptr 5 0)),(14,dV 44 0),(15,(.si .i64 (.lenL (.var 0)))),(16,iV 1)] [some z41,rV 44 3,rV 108 6,some (.dmap 9 3 (.var 8)),some (.dmap 9 3 (.var 9)),some z45,some (.deferred (some [])),some (.deferred (some [])),some (.deferred (some [])),some (.deferred (some [])),some (.deferred (some [])),some (.deferred (some [])),some (.dmap 9 3 (.var 10))] [] [6,7,8,9,10,11],
  As E 25 45 3 11 [(1,(.ptr 0 0)),(4,.map0),(5,(.ptr 5 0)),(14,dV 44 0),(15,(.si .i64 (.lenL (.var 0)))),(16,iV 1)] [some z41,rV 44 3,rV 108 6,some (.dmap 9 3 (.var 8)),some (.dmap 9 3 (.var 9)),some z46,some (.deferred (some [])),some (.deferred (some [])),some (.deferred (some [])),some (.deferred (some [])),some (.deferred (some [])),some (.deferred (some [])),some (.deferred (some [])),some (.dmap 9 3 (.var 10))] [] [6,7,8,9,10,11,12],
  As E 25 45 3 11 [(1,(.ptr 0 0)),(4,.map0),(5,(.ptr 5 0)),(14,dV 44 0),(15,(.si .i64 (.lenL (.var 0)))),(16,iV 1)] [some z41,rV 44 3,rV 108 6,some (.dmap 9 3 (.var 8)),some (.dmap 9 3 (.var 9)),some z47,some (.deferred (some [])),some (.deferred (some [])),some (.deferred (some [])),some (.deferred (some [])),some (.deferred (some [])),some (.deferred (some [])),some (.deferred (some [])),some (.deferred (some [])),some (.dmap 9 3 (.var 10))] [] [6,7,8,9,10,11,12,13],
  As E 25 45 3 11 [(1,(.ptr 0 0)),(4,.map0),(5,(.ptr 5 0)),(14,dV 44 0),(15,(.si .i64 (.lenL (.var 0)))),(16,iV 1)] [some z41,rV 44 3,rV 108 6,some (.dmap 9 3 (.var 8)),some (.dmap 9 3 (.var 9)),some z48,some (.deferred (some [])),some (.deferred (some [])),some (.deferred (some [])),some (.deferred (some [])),some (.deferred (some [])),some (.deferred (some [])),some (.deferred (some [])),some (.deferred (some [])),some (.deferred (some [])),some (.dmap 9 3 (.var 10))] [] [6,7,8,9,10,11,12,13,14]],
  shs:=[{m:=1,res:=(.map 5),post:=[none,none,none,none,none,some (.dmap 9 3 (.var 0))],keep:=[0,1,2,3,4]}]}
theorem xK:Aj (EF m65) [3] 20000 (d65 E0) t65 0=some (jl (d65 E0) [1]):=by kernel_rfl
theorem mc:Aj (EF m65) [3] 20000 (d65 E0) t65 1=some (jl (d65 E0) [2,2,1]):=by kernel_rfl
theorem pY:Aj (EF m65) [3] 20000 (d65 E0) t65 2=some (jl (d65 E0) [3,3,2]):=by kernel_rfl
theorem vm:Aj (EF m65) [3] 20000 (d65 E0) t65 3=some (jl (d65 E0) [4,4,3]):=by kernel_rfl
theorem wI:Aj (EF m65) [3] 20000 (d65 E0) t65 4=some (jl (d65 E0) [5,5,4]):=by kernel_rfl
theorem vS:Aj (EF m65) [3] 20000 (d65 E0) t65 5=some (jl (d65 E0) [6,6,5]):=by kernel_rfl
theorem xc:Aj (EF m65) [3] 20000 (d65 E0) t65 6=some (jl (d65 E0) [7,7,6]):=by kernel_rfl
theorem xC:Aj (EF m65) [3] 20000 (d65 E0) t65 7=some (jl (d65 E0) [8,8,7]):=by kernel_rfl
theorem rJ:Aj (EF m65) [3] 20000 (d65 E0) t65 8=some (jl (d65 E0) [9,9,8]):=by kernel_rfl
theorem vZ:Aj (EF m65) [3] 20000 (d65 E0) t65 9=some (jl (d65 E0) [10,10,9]):=by kernel_rfl
theorem iE:Aj (EF m65) [3] 20000 (d65 E0) t65 10=some (jl (d65 E0) [10]):=by kernel_rfl
theorem c65:Av (EF m65) [3] 20000 (d65 E0) t65:=fun i a h=>match i,h with
 |0,_=>⟨_,xK⟩
 |1,_=>⟨_,mc⟩
 |2,_=>⟨_,pY⟩
 |3,_=>⟨_,vm⟩
 |4,_=>⟨_,wI⟩
 |5,_=>⟨_,vS⟩
 |6,_=>⟨_,xc⟩
 |7,_=>⟨_,xC⟩
 |8,_=>⟨_,rJ⟩
 |9,_=>⟨_,vZ⟩
 |10,_=>⟨_,iE⟩
 |i+11,h=>nomatch (show none=some a from h)
def m66 (E:Env):List Sm:=(d65 E).smL a65 (p65 E) 0 (d65 E).shs++m65 E
def a66:List AV:=[z0]
def p66 (E:Env):Pt:=An E 9 3 a66 [] []
def d66 (E:Env):Dec:=
 {g:=66,f:=9,p:=0,pts:=[p66 E],
  shs:=[{m:=4,res:=(.tuple [z22,iV 3]),post:=[],keep:=[]}]}
theorem sW:Aj (EF m66) [] 20000 (d66 E0) t66 0=some (jl (d66 E0) []):=by kernel_rfl
theorem c66:Av (EF m66) [] 20000 (d66 E0) t66:=dk1 rfl sW
def m67 (E:Env):List Sm:=(d66 E).smL a66 (p66 E) 0 (d66 E).shs++m66 E
def a67:List AV:=[(.func (.yield 0) [] []),(.ptr 6 0)]
def p67 (E:Env):Pt:=An E 70 4 a67 [some (AB E 18 15 .ready none 68 [(6,(.ptr 1 0)),(8,(.ptr 3 0)),(13,(.ptr 4 0))] 5),some z40,some (.dmap 9 3 (.var 0)),some z4,some z15,some (.deferred (some [])),some (.cells 1 (Ai [(0,dV 9 3)]))] []
def d67 (E:Env):Dec:=
 {g:=67,f:=70,p:=7,pts:=[p67 E,
  As E 70 25 1 5 [(0,(.func (.yield 0) [] [])),(1,(.ptr 6 0)),(5,dV 9 0),(6,(.si .i64 (.lenL (.var 0)))),(7,iV 1)] [some (AB E 18 15 .ready none 68 [(6,(.ptr 1 0)),(8,(.ptr 3 0)),(13,(.ptr 4 0))] 5),some z40,some (.dmap 9 3 (.var 2)),some z17,some z28,some (.deferred (some [])),some z24] [] []],
  shs:=[{m:=1,res:=(.tuple []),post:=[some (AB E 18 15 .done (some (.exit 2)) 68 [] 5),none,none,some z12,none,none,none],keep:=[1,2,4,5,6]},{m:=0,res:=(.tuple []),post:=[none,none,none,none,none,none,none],keep:=[0,1,2,3,4,5,6]}]}
theorem qi:Aj (EF m67) [1] 20000 (d67 E0) t67 0=some (jl (d67 E0) [1]):=by kernel_rfl
theorem qg:Aj (EF m67) [1] 20000 (d67 E0) t67 1=some (jl (d67 E0) [1,1,1]):=by kernel_rfl
theorem c67:Av (EF m67) [1] 20000 (d67 E0) t67:=dk2 rfl qi qg
def m68 (E:Env):List Sm:=(d67 E).smL a67 (p67 E) 0 (d67 E).shs++m67 E
def a68:List AV:=[z0]
def p68 (E:Env):Pt:=An E 18 3 a68 [] []
def z49:Ak:=(.cells 3 (Ai [(0,sV 0),(1,dV 44 1),(2,sV 2)]))
def d68 (E:Env):Dec:=
 {g:=68,f:=18,p:=0,pts:=[p68 E,
  As E 18 68 7 3 [(1,(.ptr 0 0)),(2,.slice0),(3,(.int .i64 0)),(4,.ptr0),(6,(.ptr 1 0)),(7,.slice0),(8,(.ptr 2 0))] [some z49,some z13,some z5,some (.map [] 0)] [] [],
  As E 18 68 7 12 [(1,(.ptr 0 0)),(2,.slice0),(3,(.int .i64 0)),(4,(.ptr 1 0)),(6,(.ptr 2 0)),(7,.slice0),(8,(.ptr 3 0))] [some z49,some (.cells 6 (Ai [(0,sV 3),(1,aV 4 2 4 5),(2,sV 6),(3,aV 5 6 7 8),(4,(.map 6)),(5,(.map 7))])),some z42,some z5,rV 44 4,rV 108 7,some (.dmap 9 3 (.var 9)),some (.dmap 9 3 (.var 10)),some (.dmap 9 3 (.var 11))] [] [],
  As E 18 68 7 13 [(1,(.ptr 0 0)),(2,.slice0),(3,(.int .i64 0)),(4,(.ptr 1 0)),(6,(.ptr 2 0)),(7,(.slice 3 0 1 1)),(8,(.ptr 4 0))] [some z49,some (.cells 6 (Ai [(0,sV 3),(1,aV 6 2 4 5),(2,sV 6),(3,aV 7 6 7 8),(4,(.map 8)),(5,(.map 9))])),some z43,some z5,some (.cells 1 (Ai [(0,sV 9)])),some (.deferred (some [])),rV 44 4,rV 108 7,some (.dmap 9 3 (.var 10)),some (.dmap 9 3 (.var 11)),some (.dmap 9 3 (.var 12))] [] [5],
  As E 18 68 7 14 [(1,(.ptr 0 0)),(2,.slice0),(3,(.int .i64 0)),(4,(.ptr 1 0)),(6,(.ptr 2 0)),(7,(.slice 3 0 2 1)),(8,(.ptr 4 0))] [some z49,some (.cells 6 (Ai [(0,sV 3),(1,aV 7 2 4 5),(2,sV 6),(3,aV 8 6 7 8),(4,(.map 9)),(5,(.map 10))])),some z44,some (.cells 2 (Ai [(0,sV 2),(1,sV 9)])),some (.cells 1 (Ai [(0,sV 10)])),some (.deferred (some [])),some (.deferred (some [])),rV 44 4,rV 108 7,some (.dmap 9 3 (.var 11)),some (.dmap 9 3 (.var 12)),some (.dmap 9 3 (.var 13))] [] [5,6],
  As E 18 68 7 15 [(1,(.ptr 0 0)),(2,.slice0),(3,(.int .i64 0)),(4,(.ptr 1 0)),(6,(.ptr 2 0)),(7,(.slice 3 0 3 1)),(8,(.ptr 4 0))] [some z49,some (.cells 6 (Ai [(0,sV 3),(1,aV 8 2 4 5),(2,sV 6),(3,aV 9 6 7 8),(4,(.map 10)),(5,(.map 11))])),some z45,some (.cells 3 (Ai [(0,sV 2),(1,sV 9),(2,sV 10)])),some (.cells 1 (Ai [(0,sV 11)])),some (.deferred (some [])),some (.deferred (some [])),some (.deferred (some [])),rV 44 4,rV 108 7,some (.dmap 9 3 (.var 12)),some (.dmap 9 3 (.var 13)),some (.dmap 9 3 (.var 14))] [] [5,6,7],
  As E 18 68 7 16 [(1,(.ptr 0 0)),(2,.slice0),(3,(.int .i64 0)),(4,(.ptr 1 0)),(6,(.ptr 2 0)),(7,(.slice 3 0 4 1)),(8,(.ptr 4 0))] [some z49,some (.cells 6 (Ai [(0,sV 3),(1,aV 9 2 4 5),(2,sV 6),(3,aV 10 6 7 8),(4,(.map 11)),(5,(.map 12))])),some z46,some (.cells 4 (Ai [(0,sV 2),(1,sV 9),(2,sV 10),(3,sV 11)])),some (.cells 1 (Ai [(0,sV 12)])),some (.deferred (some [])),some (.deferred (some [])),some (.deferred (some [])),some (.deferred (some [])),rV 44 4,rV 108 7,some (.dmap 9 3 (.var 13)),some (.dmap 9 3 (.var 14)),some (.dmap 9 3 (.var 15))] [] [5,6,7,8],
  As E 18 68 7 17 [(1,(.ptr 0 0)),(2,.slice0),(3,(.int .i64 0)),(4,(.ptr 1 0)),(6,(.ptr 2 0)),(7,(.slice 3 0 5 1)),(8,(.ptr 4 0))] [some z49,some (.cells 6 (Ai [(0,sV 3),(1,aV 10 2 4 5),(2,sV 6),(3,aV 11 6 7 8),(4,(.map 12)),(5,(.map 13))])),some z47,some (.cells 5 (Ai [(0,sV 2),(1,sV 9),(2,sV 10),(3,sV 11),(4,sV 12)])),some (.cells 1 (Ai [(0,sV 13)])),some (.deferred (some [])),some (.deferred (some [])),some (.deferred (some [])),some (.deferred (some [])),some (.deferred (some [])),rV 44 4,rV 108 7,some (.dmap 9 3 (.var 14)),some (.dmap 9 3 (.var 15)),some (.dmap 9 3 (.var 16))] [] [5,6,7,8,9],
  As E 18 68 7 18 [(1,(.ptr 0 0)),(2,.slice0),(3,(.int .i64 0)),(4,(.ptr 1 0)),(6,(.ptr 2 0)),(7,(.slice 3 0 6 1)),(8,(.ptr 4 0))] [some z49,some (.cells 6 (Ai [(0,sV 3),(1,aV 11 2 4 5),(2,sV 6),(3,aV 12 6 7 8),(4,(.map 13)),(5,(.map 14))])),some z48,some (.cells 6 (Ai [(0,sV 2),(1,sV 9),(2,sV 10),(3,sV 11),(4,sV 12),(5,sV 13)])),some (.cells 1 (Ai [(0,sV 14)])),some (.deferred (some [])),some (.deferred (some [])),some (.deferred (some [])),some (.deferred (some [])),some (.deferred (some [])),some (.deferred (some [])),rV 44 4,rV 108 7,some (.dmap 9 3 (.var 15)),some (.dmap 9 3 (.var 16)),some (.dmap 9 3 (.var 17))] [] [5,6,7,8,9,10],
  As E 18 68 7 19 [(1,(.ptr 0 0)),(2,.slice0),(3,(.int .i64 0)),(4,(.ptr 1 0)),(6,(.ptr 2 0)),(7,(.slice 3 0 7 1)),(8,(.ptr 4 0))] [some z49,some (.cells 6 (Ai [(0,sV 3),(1,aV 12 2 4 5),(2,sV 6),(3,aV 13 6 7 8),(4,(.map 14)),(5,(.map 15))])),some (.cells 1 (Ai [(0,(.map 16))])),some (.cells 7 (Ai [(0,sV 2),(1,sV 9),(2,sV 10),(3,sV 11),(4,sV 12),(5,sV 13),(6,sV 14)])),some (.cells 1 (Ai [(0,sV 15)])),some (.deferred (some [])),some (.deferred (some [])),some (.deferred (some [])),some (.deferred (some [])),some (.deferred (some [])),some (.deferred (some [])),some (.deferred (some [])),rV 44 4,rV 108 7,some (.dmap 9 3 (.var 16)),some (.dmap 9 3 (.var 17)),some (.dmap 9 3 (.var 18))] [] [5,6,7,8,9,10,11],
  As E 18 68 7 20 [(1,(.ptr 0 0)),(2,.slice0),(3,(.int .i64 0)),(4,(.ptr 1 0)),(6,(.ptr 2 0)),(7,(.slice 3 0 8 1)),(8,(.ptr 4 0))] [some z49,some (.cells 6 (Ai [(0,sV 3),(1,aV 13 2 4 5),(2,sV 6),(3,aV 14 6 7 8),(4,(.map 15)),(5,(.map 16))])),some (.cells 1 (Ai [(0,(.map 17))])),some (.cells 8 (Ai [(0,sV 2),(1,sV 9),(2,sV 10),(3,sV 11),(4,sV 12),(5,sV 13),(6,sV 14),(7,sV 15)])),some (.cells 1 (Ai [(0,sV 16)])),some (.deferred (some [])),some (.deferred (some [])),some (.deferred (some [])),some (.deferred (some [])),some (.deferred (some [])),some (.deferred (some [])),some (.deferred (some [])),some (.deferred (some [])),rV 44 4,rV 108 7,some (.dmap 9 3 (.var 17)),some (.dmap 9 3 (.var 18)),some (.dmap 9 3 (.var 19))] [] [5,6,7,8,9,10,11,12],
  As E 18 68 7 21 [(1,(.ptr 0 0)),(2,.slice0),(3,(.int .i64 0)),(4,(.ptr 1 0)),(6,(.ptr 2 0)),(7,(.slice 3 0 9 1)),(8,(.ptr 4 0))] [some z49,some (.cells 6 (Ai [(0,sV 3),(1,aV 14 2 4 5),(2,sV 6),(3,aV 15 6 7 8),(4,(.map 16)),(5,(.map 17))])),some (.cells 1 (Ai [(0,(.map 18))])),some (.cells 9 (Ai [(0,sV 2),(1,sV 9),(2,sV 10),(3,sV 11),(4,sV 12),(5,sV 13),(6,sV 14),(7,sV 15),(8,sV 16)])),some (.cells 1 (Ai [(0,sV 17)])),some (.deferred (some [])),some (.deferred (some [])),some (.deferred (some [])),some (.deferred (some [])),some (.deferred (some [])),some (.deferred (some [])),some (.deferred (some [])),some (.deferred (some [])),some (.deferred (some [])),rV 44 4,rV 108 7,some (.dmap 9 3 (.var 18)),some (.dmap 9 3 (.var 19)),some (.dmap 9 3 (.var 20))] [] [5,6,7,8,9,10,11,12,13]],
  shs:=[{m:=3,res:=(.tuple [aV 0 1 0 1,iV 2]),post:=[rV 9 0],keep:=[]}]}
theorem n9:Aj (EF m68) [7] 20000 (d68 E0) t68 0=some (jl (d68 E0) [1,2]):=by kernel_rfl
theorem rf:Aj (EF m68) [7] 20000 (d68 E0) t68 1=some (jl (d68 E0) []):=by kernel_rfl
theorem qV:Aj (EF m68) [7] 20000 (d68 E0) t68 2=some (jl (d68 E0) [3,3,3,3,3,3,3,3]):=by kernel_rfl
theorem tE:Aj (EF m68) [7] 20000 (d68 E0) t68 3=some (jl (d68 E0) [4,4,4,4,4,4,4,4]):=by kernel_rfl
theorem qR:Aj (EF m68) [7] 20000 (d68 E0) t68 4=some (jl (d68 E0) [5,5,5,5,5,5,5,5]):=by kernel_rfl
theorem pH:Aj (EF m68) [7] 20000 (d68 E0) t68 5=some (jl (d68 E0) [6,6,6,6,6,6,6,6]):=by kernel_rfl
theorem wq:Aj (EF m68) [7] 20000 (d68 E0) t68 6=some (jl (d68 E0) [7,7,7,7,7,7,7,7]):=by kernel_rfl
theorem tu:Aj (EF m68) [7] 20000 (d68 E0) t68 7=some (jl (d68 E0) [8,8,8,8,8,8,8,8]):=by kernel_rfl
theorem nN:Aj (EF m68) [7] 20000 (d68 E0) t68 8=some (jl (d68 E0) [9,9,9,9,9,9,9,9]):=by kernel_rfl
theorem wb:Aj (EF m68) [7] 20000 (d68 E0) t68 9=some (jl (d68 E0) [10,10,10,10,10,10,10,10]):=by kernel_rfl
theorem jB:Aj (EF m68) [7] 20000 (d68 E0) t68 10=some (jl (d68 E0) [11,11,11,11,11,11,11,11]):=by kernel_rfl
theorem il:Aj (EF m68) [7] 20000 (d68 E0) t68 11=some (jl (d68 E0) []):=by kernel_rfl
theorem c68:Av (EF m68) [7] 20000 (d68 E0) t68:=fun i a h=>match i,h with
 |0,_=>⟨_,n9⟩
 |1,_=>⟨_,rf⟩
 |2,_=>⟨_,qV⟩
 |3,_=>⟨_,tE⟩
 |4,_=>⟨_,qR⟩
 |5,_=>⟨_,pH⟩
 |6,_=>⟨_,wq⟩
 |7,_=>⟨_,tu⟩
 |8,_=>⟨_,nN⟩
 |9,_=>⟨_,wb⟩
 |10,_=>⟨_,jB⟩
 |11,_=>⟨_,il⟩
 |i+12,h=>nomatch (show none=some a from h)
def m69 (E:Env):List Sm:=(d68 E).smL a68 (p68 E) 0 (d68 E).shs++m68 E
def a69:List AV:=[aV 0 1 0 1,aV 1 1 2 3]
def p69 (E:Env):Pt:=An E 19 4 a69 [rV 9 0,rV 9 2] []
def d69 (E:Env):Dec:=
 {g:=69,f:=19,p:=2,pts:=[p69 E,
  As E 19 26 4 5 [(0,aV 0 1 0 1),(1,aV 1 1 2 3),(5,iV 4)] [rV 9 0,rV 9 2] [] []],
  shs:=[{m:=1,res:=bV 0,post:=[none,none],keep:=[0,1]}]}
theorem qp:Aj (EF m69) [4] 20000 (d69 E0) t69 0=some (jl (d69 E0) [1]):=by kernel_rfl
theorem rk:Aj (EF m69) [4] 20000 (d69 E0) t69 1=some (jl (d69 E0) [1]):=by kernel_rfl
theorem c69:Av (EF m69) [4] 20000 (d69 E0) t69:=dk2 rfl qp rk
end Go.Proofs.YtojjaeaohjlfnaaGreat.memoryExtends

