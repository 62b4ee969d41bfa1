/- What is proved: that the functions which the law MemoryFields reaches are the plain functions over data whose trees of tests the text before writes out (the kernel runs the evaluator over each place). Conditions: the program is the given one. -/
import Derived.Test.YtojjaeaohjlfnaaGreatProg
import Derived.KernelRfl
import Derived.Test.YtojjaeaohjlfnaaGreatMemoryFieldsTree
import Derived.Test.YtojjaeaohjlfnaaGreatMemoryFieldsKnownA
import Derived.Test.YtojjaeaohjlfnaaGreatMemoryFieldsKnownB
import Derived.Test.YtojjaeaohjlfnaaGreatMemoryFieldsKnownC
import Derived.Test.YtojjaeaohjlfnaaGreatMemoryFieldsKnownD
import Derived.Test.YtojjaeaohjlfnaaGreatMemoryFieldsKnownE
import Derived.Test.YtojjaeaohjlfnaaGreatMemoryFieldsKnownF
import Derived.Test.YtojjaeaohjlfnaaGreatMemoryFieldsKnownG
import Derived.Test.YtojjaeaohjlfnaaGreatMemoryFieldsKnownH
import Derived.Test.YtojjaeaohjlfnaaGreatMemoryFieldsKnownI
import Derived.Test.YtojjaeaohjlfnaaGreatMemoryFieldsKnownJ
import Derived.Test.YtojjaeaohjlfnaaGreatMemoryFieldsKnownK
import Derived.Test.YtojjaeaohjlfnaaGreatMemoryFieldsKnownL
import Derived.Test.YtojjaeaohjlfnaaGreatMemoryFieldsKnownM
set_option linter.unusedVariables false
set_option linter.unusedSectionVars false
set_option linter.unusedSimpArgs false
namespace Go.Proofs.YtojjaeaohjlfnaaGreat.memoryFields
open Go.AE Mm
def m0 (E:Env):List Sm:=[]
instance pg:Pg Tryz.prog [o18]:=⟨trivial⟩
def z0:AV:=(.agg [sV 0,dV 44 1,sV 2])
def a0:List AV:=[z0]
def p0 (E:Env):Pt:=Ar E 7 3 a0 [] []
def z1:Ag:=(.cells 2 (Al [(0,sV 5),(1,dV 63 6)]))
def d0 (E:Env):Dec:=
 {g:=0,f:=7,p:=0,pts:=[p0 E,
  AW E 7 80 4 4 [(1,(.ptr 0 0)),(3,iV 0)] [some (.cells 3 (Al [(0,sV 1),(1,dV 44 2),(2,sV 3)]))] [] [],
  AW E 7 80 10 7 [(1,(.ptr 0 0)),(3,iV 0),(4,(.ptr 1 0)),(5,iV 1)] [some (.cells 3 (Al [(0,sV 2),(1,dV 44 3),(2,sV 4)])),some z1] [] []],
  shs:=[{m:=1,res:=bV 0,post:=[],keep:=[]}]}
theorem kO:Ao (EF m0) [4,10] 20000 (d0 E0) t0 0=some (jl (d0 E0) [1]):=by kernel_rfl
theorem kU:Ao (EF m0) [4,10] 20000 (d0 E0) t0 1=some (jl (d0 E0) [2]):=by kernel_rfl
theorem lJ:Ao (EF m0) [4,10] 20000 (d0 E0) t0 2=some (jl (d0 E0) [2,1]):=by kernel_rfl
theorem c0:AO (EF m0) [4,10] 20000 (d0 E0) t0:=dk3 rfl kO kU lJ
def m1 (E:Env):List Sm:=(d0 E).smL a0 (p0 E) 0 (d0 E).shs++m0 E
def a1:List AV:=[aV 0 1 0 1,bV 2]
def p1 (E:Env):Pt:=Ar E 151 3 a1 [rV 4 0] []
def d1 (E:Env):Dec:=
 {g:=1,f:=151,p:=1,pts:=[p1 E,
  AW E 151 19 2 4 [(0,aV 0 1 0 1),(1,bV 2),(7,(.si .i64 (.lenL (.var 0)))),(8,iV 3)] [rV 4 0] [] []],
  shs:=[{m:=1,res:=iV 0,post:=[none],keep:=[0]}]}
theorem lP:Ao (EF m1) [2] 20000 (d1 E0) t1 0=some (jl (d1 E0) [1]):=by kernel_rfl
theorem lK:Ao (EF m1) [2] 20000 (d1 E0) t1 1=some (jl (d1 E0) [1,1]):=by kernel_rfl
theorem c1:AO (EF m1) [2] 20000 (d1 E0) t1:=dk2 rfl lP lK
def m2 (E:Env):List Sm:=(d1 E).smL a1 (p1 E) 0 (d1 E).shs++m1 E
def a2:List AV:=[aV 0 1 0 1,(.func (.func 134) [] [])]
def p2 (E:Env):Pt:=Ar E 145 2 a2 [rV 5 0] []
def d2 (E:Env):Dec:=
 {g:=2,f:=145,p:=1,pts:=[p2 E,
  AW E 145 19 2 3 [(0,aV 0 1 0 1),(1,(.func (.func 134) [] [])),(7,(.si .i64 (.lenL (.var 0)))),(8,iV 2)] [rV 5 0] [] []],
  shs:=[{m:=1,res:=iV 0,post:=[none],keep:=[0]}]}
theorem kB:Ao (EF m2) [2] 20000 (d2 E0) t2 0=some (jl (d2 E0) [1]):=by kernel_rfl
theorem ky:Ao (EF m2) [2] 20000 (d2 E0) t2 1=some (jl (d2 E0) [1,1,1,1]):=by kernel_rfl
theorem c2:AO (EF m2) [2] 20000 (d2 E0) t2:=dk2 rfl kB ky
def m3 (E:Env):List Sm:=(d2 E).smL a2 (p2 E) 0 (d2 E).shs++m2 E
def a3:List AV:=[sV 0]
def p3 (E:Env):Pt:=Ar E 116 1 a3 [] []
def d3 (E:Env):Dec:=
 {g:=3,f:=116,p:=0,pts:=[p3 E],
  shs:=[{m:=1,res:=bV 0,post:=[],keep:=[]}]}
theorem kK:Ao (EF m3) [] 20000 (d3 E0) t3 0=some (jl (d3 E0) []):=by kernel_rfl
theorem c3:AO (EF m3) [] 20000 (d3 E0) t3:=dk1 rfl kK
def m4 (E:Env):List Sm:=(d3 E).smL a3 (p3 E) 0 (d3 E).shs++m3 E
def a4:List AV:=[dV 63 0,(.func (.func 40) [] [(.ptr 0 0)])]
def z2:Ag:=(.cells 1 (Al [(0,sV 1)]))
def p4 (E:Env):Pt:=Ar E 66 2 a4 [some z2] []
def z3:Ag:=(.cells 1 (Al [(0,sV 2)]))
def d4 (E:Env):Dec:=
 {g:=4,f:=66,p:=1,pts:=[p4 E,
  AW E 66 19 2 3 [(0,dV 63 0),(1,(.func (.func 40) [] [(.ptr 0 0)])),(7,(.si .i64 (.lenL (.var 0)))),(8,iV 1)] [some z3] [] []],
  shs:=[{m:=1,res:=iV 0,post:=[none],keep:=[0]}]}
theorem lG:Ao (EF m4) [2] 20000 (d4 E0) t4 0=some (jl (d4 E0) [1]):=by kernel_rfl
theorem lj:Ao (EF m4) [2] 20000 (d4 E0) t4 1=some (jl (d4 E0) [1]):=by kernel_rfl
theorem c4:AO (EF m4) [2] 20000 (d4 E0) t4:=dk2 rfl lG lj
def m5 (E:Env):List Sm:=(d4 E).smL a4 (p4 E) 0 (d4 E).shs++m4 E
def a5:List AV:=[dV 119 0,aV 0 2 1 2]
def p5 (E:Env):Pt:=Ar E 189 3 a5 [rV 119 1] []
def d5 (E:Env):Dec:=
 {g:=5,f:=189,p:=1,pts:=[p5 E,
  AW E 189 26 4 4 [(0,dV 119 0),(1,aV 0 2 1 2),(12,(.si .i64 (.lenL (.var 0)))),(13,iV 3)] [rV 119 1] [] []],
  shs:=[{m:=1,res:=bV 0,post:=[none],keep:=[0]}]}
theorem lu:Ao (EF m5) [4] 20000 (d5 E0) t5 0=some (jl (d5 E0) [1]):=by kernel_rfl
theorem lI:Ao (EF m5) [4] 20000 (d5 E0) t5 1=some (jl (d5 E0) [1]):=by kernel_rfl
theorem c5:AO (EF m5) [4] 20000 (d5 E0) t5:=dk2 rfl lu lI
def m6 (E:Env):List Sm:=(d5 E).smL a5 (p5 E) 0 (d5 E).shs++m5 E
def a6:List AV:=[dV 138 0,aV 0 3 1 2]
def p6 (E:Env):Pt:=Ar E 190 3 a6 [rV 138 1] []
def d6 (E:Env):Dec:=
 {g:=6,f:=190,p:=1,pts:=[p6 E,
  AW E 190 26 4 4 [(0,dV 138 0),(1,aV 0 3 1 2),(12,(.si .i64 (.lenL (.var 0)))),(13,iV 3)] [rV 138 1] [] []],
  shs:=[{m:=1,res:=bV 0,post:=[none],keep:=[0]}]}
theorem lM:Ao (EF m6) [4] 20000 (d6 E0) t6 0=some (jl (d6 E0) [1]):=by kernel_rfl
theorem kS:Ao (EF m6) [4] 20000 (d6 E0) t6 1=some (jl (d6 E0) [1]):=by kernel_rfl
theorem c6:AO (EF m6) [4] 20000 (d6 E0) t6:=dk2 rfl lM kS
def m7 (E:Env):List Sm:=(d6 E).smL a6 (p6 E) 0 (d6 E).shs++m6 E
def a7:List AV:=[(.ptr 0 0),iV 9,iV 10,aV 3 1 11 12]
def z4:Ag:=(.cells 9 (Al [(0,sV 0),(1,dV 44 1),(2,sV 2),(3,(.map 1)),(4,(.map 2)),(5,iV 5),(6,iV 6),(7,sV 7),(8,dV 63 8)]))
def p7 (E:Env):Pt:=Ar E 164 13 a7 [some z4,some (.dmap 9 3 (.var 3)),some (.dmap 9 4 (.var 4)),rV 3 11] []
def d7 (E:Env):Dec:=
 {g:=7,f:=164,p:=4,pts:=[p7 E,
  AW E 164 28 1 14 [(0,(.ptr 0 0)),(1,iV 0),(2,iV 1),(10,aV 3 1 2 3),(11,(.si .i64 (.lenL (.var 2)))),(12,iV 4)] [some (.cells 9 (Al [(0,sV 5),(1,dV 44 6),(2,sV 7),(3,(.map 1)),(4,(.map 2)),(5,iV 8),(6,iV 9),(7,sV 10),(8,dV 63 11)])),some (.dmap 9 3 (.var 12)),some (.dmap 9 4 (.var 13)),rV 3 2] [] []],
  shs:=[{m:=2,res:=(.iface 78 (.agg [iV 0,iV 1,(.int .i64 7)])),post:=[none,none,none,none],keep:=[0,1,2,3],ok:=false},{m:=0,res:=(.tuple []),post:=[none,none,none,none],keep:=[0,1,2,3]}]}
theorem kw:Ao (EF m7) [1] 20000 (d7 E0) t7 0=some (jl (d7 E0) [1]):=by kernel_rfl
theorem lB:Ao (EF m7) [1] 20000 (d7 E0) t7 1=some (jl (d7 E0) [1]):=by kernel_rfl
theorem c7:AO (EF m7) [1] 20000 (d7 E0) t7:=dk2 rfl kw lB
def m8 (E:Env):List Sm:=(d7 E).smL a7 (p7 E) 0 (d7 E).shs++m7 E
def a8:List AV:=[dV 119 0,(.func (.func 152) [] [(.ptr 0 0)])]
def z5:Ag:=(.cells 1 (Al [(0,(.map 1))]))
def p8 (E:Env):Pt:=Ar E 133 2 a8 [some z5,some (.dmap 9 4 (.var 1))] []
def d8 (E:Env):Dec:=
 {g:=8,f:=133,p:=2,pts:=[p8 E,
  AW E 133 19 2 3 [(0,dV 119 0),(1,(.func (.func 152) [] [(.ptr 0 0)])),(7,(.si .i64 (.lenL (.var 0)))),(8,iV 1)] [some z5,some (.dmap 9 4 (.var 2))] [] []],
  shs:=[{m:=2,res:=iV 0,post:=[none,some (.dmap 9 4 (.var 1))],keep:=[0]}]}
theorem kA:Ao (EF m8) [2] 20000 (d8 E0) t8 0=some (jl (d8 E0) [1]):=by kernel_rfl
theorem lC:Ao (EF m8) [2] 20000 (d8 E0) t8 1=some (jl (d8 E0) [1,1,1,1]):=by kernel_rfl
theorem c8:AO (EF m8) [2] 20000 (d8 E0) t8:=dk2 rfl kA lC
def m9 (E:Env):List Sm:=(d8 E).smL a8 (p8 E) 0 (d8 E).shs++m8 E
def a9:List AV:=[dV 63 0]
def p9 (E:Env):Pt:=Ar E 126 1 a9 [] []
def d9 (E:Env):Dec:=
 {g:=9,f:=126,p:=0,pts:=[p9 E,
  AW E 126 28 3 3 [(3,(.map 0)),(9,dV 63 0),(10,(.si .i64 (.lenL (.var 0)))),(11,iV 1)] [some (.dmap 9 157 (.var 2))] [] []],
  shs:=[{m:=1,res:=(.map 0),post:=[some (.dmap 9 157 (.var 0))],keep:=[]}]}
theorem kW:Ao (EF m9) [3] 20000 (d9 E0) t9 0=some (jl (d9 E0) [1]):=by kernel_rfl
theorem lF:Ao (EF m9) [3] 20000 (d9 E0) t9 1=some (jl (d9 E0) [1,1,1,1,1,1,1]):=by kernel_rfl
theorem c9:AO (EF m9) [3] 20000 (d9 E0) t9:=dk2 rfl kW lF
def m10 (E:Env):List Sm:=(d9 E).smL a9 (p9 E) 0 (d9 E).shs++m9 E
def a10:List AV:=[(.func (.yield 0) [] []),(.ptr 8 0)]
def z6:Ag:=(.cells 1 (Al [(0,(.ptr 2 0))]))
def z7:Ag:=(.cells 9 (Al [(0,sV 0),(1,dV 44 1),(2,sV 2),(3,(.map 3)),(4,(.map 4)),(5,iV 5),(6,iV 6),(7,sV 7),(8,dV 63 8)]))
def z8:Ag:=(.cells 1 (Al [(0,(.map 6))]))
def p10 (E:Env):Pt:=Ar E 154 12 a10 [some (B7 E 170 4 .ready none 52 [(2,(.ptr 1 0)),(4,(.ptr 5 0))] 7),some z6,some z7,some (.dmap 9 3 (.var 3)),some (.dmap 9 4 (.var 4)),some z8,some (.dmap 9 157 (.var 9)),some (.deferred (some [])),some (.cells 1 (Al [(0,aV 9 2 10 11)])),rV 119 10] []
def z9:Ag:=(.cells 1 (Al [(0,aV 9 2 0 1)]))
def d10 (E:Env):Dec:=
 {g:=10,f:=154,p:=10,pts:=[p10 E,
  AW E 154 17 1 13 [(0,(.func (.yield 0) [] [])),(5,aV 9 2 0 1),(6,(.si .i64 (.lenL (.var 0)))),(7,iV 2)] [some (B7 E 170 4 .ready none 52 [(2,(.ptr 1 0)),(4,(.ptr 5 0))] 7),some z6,some (.cells 9 (Al [(0,sV 3),(1,dV 44 4),(2,sV 5),(3,(.map 3)),(4,(.map 4)),(5,iV 6),(6,iV 7),(7,sV 8),(8,dV 63 9)])),some (.dmap 9 3 (.var 10)),some (.dmap 9 4 (.var 11)),some z8,some (.dmap 9 157 (.var 12)),some (.deferred (some [])),some z9,rV 119 0] [] []],
  shs:=[{m:=2,res:=(.iface 78 (.agg [iV 0,iV 1,(.int .i64 8)])),post:=[some (B7 E 170 4 .busy none 52 [] 7),none,none,none,none,none,none,none,none,none],keep:=[1,2,3,4,5,6,7,8,9],ok:=false},{m:=0,res:=(.tuple []),post:=[none,none,none,none,none,none,none,none,none,none],keep:=[0,1,2,3,4,5,6,7,8,9]}]}
theorem jv:Ao (EF m10) [1] 20000 (d10 E0) t10 0=some (jl (d10 E0) [1]):=by kernel_rfl
theorem hQ:Ao (EF m10) [1] 20000 (d10 E0) t10 1=some (jl (d10 E0) [1]):=by kernel_rfl
theorem c10:AO (EF m10) [1] 20000 (d10 E0) t10:=dk2 rfl jv hQ
def m11 (E:Env):List Sm:=(d10 E).smL a10 (p10 E) 0 (d10 E).shs++m10 E
def a11:List AV:=[(.func (.yield 0) [] []),(.ptr 8 0)]
def z10:Ag:=(.cells 1 (Al [(0,(.map 3))]))
def z11:Ag:=(.cells 1 (Al [(0,(.func (.func 120) [] []))]))
def z12:Ag:=(.cells 1 (Al [(0,bV 3)]))
def p11 (E:Env):Pt:=Ar E 154 6 a11 [some (B7 E 122 5 .ready none 38 [(5,(.ptr 1 0)),(6,(.ptr 2 0)),(7,(.ptr 4 0)),(8,(.ptr 5 0)),(9,(.ptr 6 0))] 7),some (.cells 1 (Al [(0,sV 0)])),some z10,some (.dmap 9 157 (.var 1)),some z11,some (.cells 1 (Al [(0,iV 2)])),some z12,some (.deferred (some [])),some (.cells 1 (Al [(0,aV 9 2 4 5)])),rV 119 4] []
def z13:Ag:=(.cells 1 (Al [(0,bV 6)]))
def z14:Ag:=(.cells 1 (Al [(0,bV 0)]))
def d11 (E:Env):Dec:=
 {g:=11,f:=154,p:=10,pts:=[p11 E,
  AW E 154 17 1 7 [(0,(.func (.yield 0) [] [])),(5,aV 9 2 0 1),(6,(.si .i64 (.lenL (.var 0)))),(7,iV 2)] [some (B7 E 122 5 .ready none 38 [(5,(.ptr 1 0)),(6,(.ptr 2 0)),(7,(.ptr 4 0)),(8,(.ptr 5 0)),(9,(.ptr 6 0))] 7),some (.cells 1 (Al [(0,sV 3)])),some z10,some (.dmap 9 157 (.var 4)),some z11,some (.cells 1 (Al [(0,iV 5)])),some z13,some (.deferred (some [])),some z9,rV 119 0] [] []],
  shs:=[{m:=1,res:=(.tuple []),post:=[some (B7 E 122 5 .done (some .ret) 38 [] 7),none,none,none,none,some (.cells 1 (Al [(0,(.int .i64 2))])),some z14,none,none,none],keep:=[1,2,3,4,7,8,9]},{m:=1,res:=(.tuple []),post:=[none,none,none,none,none,none,some z14,none,none,none],keep:=[0,1,2,3,4,5,7,8,9]}]}
theorem i8:Ao (EF m11) [1] 20000 (d11 E0) t11 0=some (jl (d11 E0) [1]):=by kernel_rfl
theorem gH:Ao (EF m11) [1] 20000 (d11 E0) t11 1=some (jl (d11 E0) [1,1,1,1]):=by kernel_rfl
theorem c11:AO (EF m11) [1] 20000 (d11 E0) t11:=dk2 rfl i8 gH
def m12 (E:Env):List Sm:=(d11 E).smL a11 (p11 E) 0 (d11 E).shs++m11 E
def a12:List AV:=[(.agg [iV 0,dV 119 1]),(.func (.func 125) [] [(.ptr 0 0),(.ptr 2 0)])]
def p12 (E:Env):Pt:=Ar E 124 4 a12 [some z5,some (.dmap 9 157 (.var 2)),some z12] []
def d12 (E:Env):Dec:=
 {g:=12,f:=124,p:=3,pts:=[p12 E,
  AW E 124 27 3 5 [(1,(.func (.func 125) [] [(.ptr 0 0),(.ptr 2 0)])),(5,iV 0),(11,dV 119 1),(12,(.si .i64 (.lenL (.var 1)))),(13,iV 2)] [some z5,some (.dmap 9 157 (.var 3)),some (.cells 1 (Al [(0,bV 4)]))] [] []],
  shs:=[{m:=1,res:=iV 0,post:=[none,none,none],keep:=[0,1,2]}]}
theorem iA:Ao (EF m12) [3] 20000 (d12 E0) t12 0=some (jl (d12 E0) [1]):=by kernel_rfl
theorem j9:Ao (EF m12) [3] 20000 (d12 E0) t12 1=some (jl (d12 E0) [1,1,1,1,1,1,1,1]):=by kernel_rfl
theorem c12:AO (EF m12) [3] 20000 (d12 E0) t12:=dk2 rfl iA j9
def m13 (E:Env):List Sm:=(d12 E).smL a12 (p12 E) 0 (d12 E).shs++m12 E
def z15:AV:=(.agg [sV 9,iV 10,iV 11,bV 12,bV 13,iV 14,iV 15,iV 16,dV 119 17,sV 18,sV 19,sV 20,dV 138 21,iV 22,iV 23])
def a13:List AV:=[(.ptr 0 0),z15]
def p13 (E:Env):Pt:=Ar E 170 24 a13 [some z4,some (.dmap 9 3 (.var 3)),some (.dmap 9 4 (.var 4))] []
def z16:AV:=(.agg [iV 0,iV 1,iV 2])
def d13 (E:Env):Dec:=
 {g:=13,f:=170,p:=3,pts:=[p13 E],
  shs:=[{m:=3,res:=(.iface 78 z16),post:=[none,none,none],keep:=[0,1,2],ok:=false},{m:=0,res:=(.tuple []),post:=[none,none,none],keep:=[0,1,2]}]}
theorem dZ:Ao (EF m13) [] 20000 (d13 E0) t13 0=some (jl (d13 E0) []):=by kernel_rfl
theorem c13:AO (EF m13) [] 20000 (d13 E0) t13:=dk1 rfl dZ
def m14 (E:Env):List Sm:=(d13 E).smL a13 (p13 E) 0 (d13 E).shs++m13 E
def a14:List AV:=[dV 63 0,(.func (.func 191) [] [(.ptr 0 0)])]
def z17:Ag:=(.cells 15 (Al [(0,sV 1),(1,iV 2),(2,iV 3),(3,bV 4),(4,bV 5),(5,iV 6),(6,iV 7),(7,iV 8),(8,dV 119 9),(9,sV 10),(10,sV 11),(11,sV 12),(12,dV 138 13),(13,iV 14),(14,iV 15)]))
def p14 (E:Env):Pt:=Ar E 66 16 a14 [some z17] []
def z18:Ag:=(.cells 15 (Al [(0,sV 2),(1,iV 3),(2,iV 4),(3,bV 5),(4,bV 6),(5,iV 7),(6,iV 8),(7,iV 9),(8,dV 119 10),(9,sV 11),(10,sV 12),(11,sV 13),(12,dV 138 14),(13,iV 15),(14,iV 16)]))
def d14 (E:Env):Dec:=
 {g:=14,f:=66,p:=1,pts:=[p14 E,
  AW E 66 19 2 17 [(0,dV 63 0),(1,(.func (.func 191) [] [(.ptr 0 0)])),(7,(.si .i64 (.lenL (.var 0)))),(8,iV 1)] [some z18] [] []],
  shs:=[{m:=1,res:=iV 0,post:=[none],keep:=[0]}]}
theorem jL:Ao (EF m14) [2] 20000 (d14 E0) t14 0=some (jl (d14 E0) [1]):=by kernel_rfl
theorem eu:Ao (EF m14) [2] 20000 (d14 E0) t14 1=some (jl (d14 E0) [1,1]):=by kernel_rfl
theorem c14:AO (EF m14) [2] 20000 (d14 E0) t14:=dk2 rfl jL eu
def m15 (E:Env):List Sm:=(d14 E).smL a14 (p14 E) 0 (d14 E).shs++m14 E
def a15:List AV:=[(.ptr 0 0),z15]
def p15 (E:Env):Pt:=Ar E 181 24 a15 [some z4,some (.dmap 9 3 (.var 3)),some (.dmap 9 4 (.var 4))] []
def d15 (E:Env):Dec:=
 {g:=15,f:=181,p:=3,pts:=[p15 E,
  AW E 181 69 7 14 [(0,(.ptr 0 0)),(4,(.ptr 3 0)),(7,iV 0),(45,dV 138 1),(46,(.si .i64 (.lenL (.var 1)))),(47,iV 2)] [some (.cells 9 (Al [(0,sV 3),(1,dV 44 4),(2,sV 5),(3,(.map 1)),(4,(.map 2)),(5,iV 6),(6,iV 7),(7,sV 8),(8,dV 63 9)])),some (.dmap 9 3 (.var 10)),some (.dmap 9 4 (.var 11)),some (.cells 2 (Al [(0,iV 12),(1,iV 13)]))] [] []],
  shs:=[{m:=3,res:=(.iface 78 z16),post:=[none,none,none],keep:=[0,1,2],ok:=false},{m:=0,res:=(.tuple []),post:=[none,none,none],keep:=[0,1,2]}]}
theorem fH:Ao (EF m15) [7] 20000 (d15 E0) t15 0=some (jl (d15 E0) [1]):=by kernel_rfl
theorem fe:Ao (EF m15) [7] 20000 (d15 E0) t15 1=some (jl (d15 E0) [1]):=by kernel_rfl
theorem c15:AO (EF m15) [7] 20000 (d15 E0) t15:=dk2 rfl fH fe
def m16 (E:Env):List Sm:=(d15 E).smL a15 (p15 E) 0 (d15 E).shs++m15 E
def a16:List AV:=[(.ptr 0 0),z15]
def p16 (E:Env):Pt:=Ar E 138 24 a16 [some z4,some (.dmap 9 3 (.var 3)),some (.dmap 9 4 (.var 4))] []
def d16 (E:Env):Dec:=
 {g:=16,f:=138,p:=3,pts:=[p16 E],
  shs:=[{m:=3,res:=(.iface 78 z16),post:=[none,none,none],keep:=[0,1,2],ok:=false},{m:=0,res:=(.tuple []),post:=[none,none,none],keep:=[0,1,2]}]}
def m17 (E:Env):List Sm:=(d16 E).smL a16 (p16 E) 0 (d16 E).shs++m16 E
def z19:AV:=(.agg [sV 0,dV 63 1])
def a17:List AV:=[z19]
def p17 (E:Env):Pt:=Ar E 43 2 a17 [] []
def z20:Ag:=(.cells 1 (Al [(0,dV 9 0)]))
def d17 (E:Env):Dec:=
 {g:=17,f:=43,p:=0,pts:=[p17 E,
  AW E 43 43 3 4 [(3,(.ptr 0 0)),(9,dV 63 0),(10,(.si .i64 (.lenL (.var 0)))),(11,iV 1)] [some (.cells 1 (Al [(0,aV 1 1 2 3)])),rV 9 2] [] [],
  AW E 43 43 12 7 [(3,(.ptr 0 0)),(9,dV 63 0),(10,(.si .i64 (.lenL (.var 0)))),(11,iV 1),(29,dV 138 2),(30,iV 3),(31,iV 4)] [some (.cells 1 (Al [(0,aV 1 1 5 6)])),rV 9 5] [] []],
  shs:=[{m:=1,res:=(.func (.func 70) [] [(.ptr 0 0)]),post:=[some z20],keep:=[]}]}
theorem di:Ao (EF m17) [3,12] 20000 (d17 E0) t17 0=some (jl (d17 E0) [1]):=by kernel_rfl
theorem dH:Ao (EF m17) [3,12] 20000 (d17 E0) t17 1=some (jl (d17 E0) [1,1,1,2,1]):=by kernel_rfl
theorem gQ:Ao (EF m17) [3,12] 20000 (d17 E0) t17 2=some (jl (d17 E0) [2,1]):=by kernel_rfl
theorem c17:AO (EF m17) [3,12] 20000 (d17 E0) t17:=dk3 rfl di dH gQ
def m18 (E:Env):List Sm:=(d17 E).smL a17 (p17 E) 0 (d17 E).shs++m17 E
def a18:List AV:=[dV 9 0,sV 1]
def p18 (E:Env):Pt:=Ar E 107 2 a18 [] []
def d18 (E:Env):Dec:=
 {g:=18,f:=107,p:=0,pts:=[p18 E,
  AW E 107 19 2 3 [(0,dV 9 0),(1,sV 1),(7,(.si .i64 (.lenL (.var 0)))),(8,iV 2)] [] [] []],
  shs:=[{m:=1,res:=iV 0,post:=[],keep:=[]}]}
theorem kj:Ao (EF m18) [2] 20000 (d18 E0) t18 0=some (jl (d18 E0) [1]):=by kernel_rfl
theorem i9:Ao (EF m18) [2] 20000 (d18 E0) t18 1=some (jl (d18 E0) [1]):=by kernel_rfl
theorem c18:AO (EF m18) [2] 20000 (d18 E0) t18:=dk2 rfl kj i9
def m19 (E:Env):List Sm:=(d18 E).smL a18 (p18 E) 0 (d18 E).shs++m18 E
def a19:List AV:=[(.func (.yield 0) [] []),(.ptr 8 0)]
def p19 (E:Env):Pt:=Ar E 70 12 a19 [some (B7 E 117 17 .ready none 117 [(2,(.ptr 1 0)),(6,(.ptr 5 0)),(9,(.ptr 6 0))] 7),some z6,some z7,some (.dmap 9 3 (.var 3)),some (.dmap 9 4 (.var 4)),some (.cells 1 (Al [(0,bV 9)])),some (.cells 1 (Al [(0,iV 10)])),some (.deferred (some [])),some (.cells 1 (Al [(0,dV 9 11)]))] []
def z21:Ag:=(.cells 1 (Al [(0,iV 1)]))
def d19 (E:Env):Dec:=
 {g:=19,f:=70,p:=9,pts:=[p19 E,
  AW E 70 25 1 13 [(0,(.func (.yield 0) [] [])),(1,(.ptr 8 0)),(5,dV 9 0),(6,(.si .i64 (.lenL (.var 0)))),(7,iV 1)] [some (B7 E 117 17 .ready none 117 [(2,(.ptr 1 0)),(6,(.ptr 5 0)),(9,(.ptr 6 0))] 7),some z6,some (.cells 9 (Al [(0,sV 2),(1,dV 44 3),(2,sV 4),(3,(.map 3)),(4,(.map 4)),(5,iV 5),(6,iV 6),(7,sV 7),(8,dV 63 8)])),some (.dmap 9 3 (.var 9)),some (.dmap 9 4 (.var 10)),some (.cells 1 (Al [(0,bV 11)])),some (.cells 1 (Al [(0,iV 12)])),some (.deferred (some [])),some z20] [] []],
  shs:=[{m:=2,res:=(.tuple []),post:=[none,none,none,none,none,some z14,some z21,none,none],keep:=[0,1,2,3,4,7,8]}]}
theorem eJ:Ao (EF m19) [1] 20000 (d19 E0) t19 0=some (jl (d19 E0) [1]):=by kernel_rfl
theorem dg:Ao (EF m19) [1] 20000 (d19 E0) t19 1=some (jl (d19 E0) [1,1,1,1,1,1,1,1,1,1,1,1,1]):=by kernel_rfl
theorem c19:AO (EF m19) [1] 20000 (d19 E0) t19:=dk2 rfl eJ dg
def m20 (E:Env):List Sm:=(d19 E).smL a19 (p19 E) 0 (d19 E).shs++m19 E
def a20:List AV:=[(.ptr 0 0),(.agg [sV 9,dV 63 10])]
def p20 (E:Env):Pt:=Ar E 117 11 a20 [some z4,some (.dmap 9 3 (.var 3)),some (.dmap 9 4 (.var 4))] []
def d20 (E:Env):Dec:=
 {g:=20,f:=117,p:=3,pts:=[p20 E,
  AW E 117 117 8 11 [(2,(.ptr 3 0)),(3,(.ptr 4 0)),(6,(.ptr 5 0)),(50,dV 63 0),(51,(.si .i64 (.lenL (.var 0)))),(52,iV 1)] [some (.cells 9 (Al [(0,sV 2),(1,dV 44 3),(2,sV 4),(3,(.map 1)),(4,(.map 2)),(5,iV 5),(6,iV 6),(7,sV 7),(8,dV 63 0)])),some (.dmap 9 3 (.var 8)),some (.dmap 9 4 (.var 9)),some (.cells 1 (Al [(0,(.ptr 0 0))])),some (.cells 2 (Al [(0,sV 7),(1,dV 63 0)])),some (.cells 1 (Al [(0,bV 10)]))] [] []],
  shs:=[{m:=8,res:=(.iface 78 z16),post:=[some (.cells 9 (Al [(0,.top),(1,.top),(2,.top),(3,.top),(4,.top),(5,.top),(6,iV 3),(7,sV 4),(8,dV 63 5)])),some (.dmap 9 3 (.var 6)),some (.dmap 9 4 (.var 7))],keep:=[],keepC:=[(0,[0,1,2,3,4,5])],ok:=false},{m:=4,res:=(.tuple []),post:=[some (.cells 9 (Al [(0,.top),(1,.top),(2,.top),(3,.top),(4,.top),(5,.top),(6,(.int .i64 (-1))),(7,sV 0),(8,dV 63 1)])),some (.dmap 9 3 (.var 2)),some (.dmap 9 4 (.var 3))],keep:=[],keepC:=[(0,[0,1,2,3,4,5])]}]}
theorem jy:Ao (EF m20) [8] 20000 (d20 E0) t20 0=some (jl (d20 E0) [1]):=by kernel_rfl
theorem iX:Ao (EF m20) [8] 20000 (d20 E0) t20 1=some (jl (d20 E0) [1,1]):=by kernel_rfl
theorem c20:AO (EF m20) [8] 20000 (d20 E0) t20:=dk2 rfl jy iX
def m21 (E:Env):List Sm:=(d20 E).smL a20 (p20 E) 0 (d20 E).shs++m20 E
def a21:List AV:=[z0]
def p21 (E:Env):Pt:=Ar E 81 3 a21 [] []
def d21 (E:Env):Dec:=
 {g:=21,f:=81,p:=0,pts:=[p21 E,
  AW E 81 66 6 9 [(1,(.ptr 0 0)),(2,(.ptr 1 0)),(3,(.ptr 2 0)),(4,(.ptr 3 0)),(33,dV 44 0),(34,(.si .i64 (.lenL (.var 0)))),(35,iV 1)] [some (.cells 3 (Al [(0,sV 2),(1,dV 44 0),(2,sV 3)])),some (.cells 9 (Al [(0,sV 2),(1,dV 44 0),(2,sV 3),(3,(.map 4)),(4,(.map 5)),(5,iV 4),(6,(.int .i64 (-1))),(7,sV 5),(8,dV 63 6)])),some (.cells 3 (Al [(0,(.int .i64 0)),(1,(.int .i64 0)),(2,(.int .i64 0))])),some (.cells 1 (Al [(0,(.bool false))])),some (.dmap 9 3 (.var 7)),some (.dmap 9 4 (.var 8))] [] [{fn:=some (.func 114),coll:=0,captured:=[(.ptr 2 0),(.ptr 3 0)],args:=[]}]],
  shs:=[{m:=4,res:=(.tuple [(.ptr 0 0),(.agg [(.int .i64 (-1)),(.int .i64 (-1)),iV 0]),(.bool true)]),post:=[some (.cells 9 (Al [(0,sV 1),(1,dV 44 2),(2,sV 3),(3,(.map 1)),(4,(.map 2)),(5,(.int .i64 (-1))),(6,(.int .i64 (-1))),(7,(.str 0 0)),(8,.slice0)])),some (.map [] 0),some (.map [] 0)],keep:=[]},{m:=13,res:=(.tuple [(.ptr 0 0),z16,bV 3]),post:=[some (.cells 9 (Al [(0,sV 4),(1,dV 44 5),(2,sV 6),(3,(.map 1)),(4,(.map 2)),(5,iV 7),(6,iV 8),(7,sV 9),(8,dV 63 10)])),some (.dmap 9 3 (.var 11)),some (.dmap 9 4 (.var 12))],keep:=[]}]}
theorem iJ:Ao (EF m21) [6] 20000 (d21 E0) t21 0=some (jl (d21 E0) [1]):=by kernel_rfl
theorem kb:Ao (EF m21) [6] 20000 (d21 E0) t21 1=some (jl (d21 E0) [1]):=by kernel_rfl
theorem c21:AO (EF m21) [6] 20000 (d21 E0) t21:=dk2 rfl iJ kb
def m22 (E:Env):List Sm:=(d21 E).smL a21 (p21 E) 0 (d21 E).shs++m21 E
def a22:List AV:=[z0]
def p22 (E:Env):Pt:=Ar E 62 3 a22 [] []
def d22 (E:Env):Dec:=
 {g:=22,f:=62,p:=0,pts:=[p22 E],
  shs:=[{m:=4,res:=(.tuple [z16,bV 3]),post:=[],keep:=[]}]}
theorem fh:Ao (EF m22) [] 20000 (d22 E0) t22 0=some (jl (d22 E0) []):=by kernel_rfl
theorem c22:AO (EF m22) [] 20000 (d22 E0) t22:=dk1 rfl fh
def m23 (E:Env):List Sm:=(d22 E).smL a22 (p22 E) 0 (d22 E).shs++m22 E
def a23:List AV:=[(.func (.yield 0) [] []),(.ptr 4 0)]
def z22:Ag:=(.cells 1 (Al [(0,iV 0)]))
def p23 (E:Env):Pt:=Ar E 96 3 a23 [some (B7 E 83 2 .ready none 15 [(3,(.ptr 1 0)),(4,(.ptr 2 0))] 3),some z22,some z21,some (.deferred (some [])),some (.cells 1 (Al [(0,dV 63 2)]))] []
def z23:Ag:=(.cells 1 (Al [(0,iV 4)]))
def z24:Ag:=(.cells 1 (Al [(0,dV 63 1)]))
def d23 (E:Env):Dec:=
 {g:=23,f:=96,p:=5,pts:=[p23 E,
  AW E 96 39 2 5 [(0,(.func (.yield 0) [] [])),(1,(.ptr 4 0)),(3,iV 0),(8,dV 63 1),(9,(.si .i64 (.lenL (.var 1)))),(10,iV 2)] [some (B7 E 83 2 .ready none 15 [(3,(.ptr 1 0)),(4,(.ptr 2 0))] 3),some (.cells 1 (Al [(0,iV 3)])),some z23,some (.deferred (some [])),some z24] [] []],
  shs:=[{m:=1,res:=(.tuple []),post:=[some (B7 E 83 2 .done (some .ret) 15 [] 3),none,some z22,none,none],keep:=[1,3,4]},{m:=0,res:=(.tuple []),post:=[none,none,none,none,none],keep:=[0,1,2,3,4]}]}
theorem jR:Ao (EF m23) [2] 20000 (d23 E0) t23 0=some (jl (d23 E0) [1]):=by kernel_rfl
theorem dX:Ao (EF m23) [2] 20000 (d23 E0) t23 1=some (jl (d23 E0) [1,1,1,1]):=by kernel_rfl
theorem c23:AO (EF m23) [2] 20000 (d23 E0) t23:=dk2 rfl jR dX
def m24 (E:Env):List Sm:=(d23 E).smL a23 (p23 E) 0 (d23 E).shs++m23 E
def a24:List AV:=[dV 63 0,iV 1,iV 2]
def p24 (E:Env):Pt:=Ar E 64 3 a24 [] []
def d24 (E:Env):Dec:=
 {g:=24,f:=64,p:=0,pts:=[p24 E],
  shs:=[{m:=1,res:=bV 0,post:=[],keep:=[]}]}
theorem dE:Ao (EF m24) [] 20000 (d24 E0) t24 0=some (jl (d24 E0) []):=by kernel_rfl
theorem c24:AO (EF m24) [] 20000 (d24 E0) t24:=dk1 rfl dE
def m25 (E:Env):List Sm:=(d24 E).smL a24 (p24 E) 0 (d24 E).shs++m24 E
def a25:List AV:=[(.func (.yield 0) [] []),(.ptr 6 0)]
def p25 (E:Env):Pt:=Ar E 96 8 a25 [some (B7 E 32 8 .ready none 47 [(2,(.ptr 1 0)),(3,(.ptr 2 0)),(4,(.ptr 3 0)),(5,(.ptr 4 0))] 5),some (.cells 3 (Al [(0,iV 0),(1,iV 1),(2,iV 2)])),some z12,some z23,some z1,some (.deferred (some [])),some (.cells 1 (Al [(0,dV 63 7)]))] []
def d25 (E:Env):Dec:=
 {g:=25,f:=96,p:=7,pts:=[p25 E,
  AW E 96 39 2 10 [(0,(.func (.yield 0) [] [])),(1,(.ptr 6 0)),(3,iV 0),(8,dV 63 1),(9,(.si .i64 (.lenL (.var 1)))),(10,iV 2)] [some (B7 E 32 8 .ready none 47 [(2,(.ptr 1 0)),(3,(.ptr 2 0)),(4,(.ptr 3 0)),(5,(.ptr 4 0))] 5),some (.cells 3 (Al [(0,iV 3),(1,iV 4),(2,iV 5)])),some z13,some (.cells 1 (Al [(0,iV 7)])),some (.cells 2 (Al [(0,sV 8),(1,dV 63 9)])),some (.deferred (some [])),some z24] [] []],
  shs:=[{m:=3,res:=(.tuple []),post:=[some (B7 E 32 8 .done (some (.exit 0)) 47 [] 5),some (.cells 3 (Al [(0,iV 0),(1,iV 1),(2,(.int .i64 12))])),some (.cells 1 (Al [(0,bV 2)])),none,none,none,none],keep:=[3,4,5,6]},{m:=1,res:=(.tuple []),post:=[none,none,some z14,none,none,none,none],keep:=[0,1,3,4,5,6]}]}
theorem jj:Ao (EF m25) [2] 20000 (d25 E0) t25 0=some (jl (d25 E0) [1]):=by kernel_rfl
theorem jO:Ao (EF m25) [2] 20000 (d25 E0) t25 1=some (jl (d25 E0) [1,1,1,1]):=by kernel_rfl
theorem c25:AO (EF m25) [2] 20000 (d25 E0) t25:=dk2 rfl jj jO
def m26 (E:Env):List Sm:=(d25 E).smL a25 (p25 E) 0 (d25 E).shs++m25 E
def a26:List AV:=[z0]
def p26 (E:Env):Pt:=Ar E 32 3 a26 [] []
def d26 (E:Env):Dec:=
 {g:=26,f:=32,p:=0,pts:=[p26 E],
  shs:=[{m:=4,res:=(.tuple [z16,bV 3]),post:=[],keep:=[]}]}
theorem gG:Ao (EF m26) [] 560 (d26 E0) t26 0=some (jl (d26 E0) []):=by kernel_rfl
theorem c26:AO (EF m26) [] 560 (d26 E0) t26:=dk1 rfl gG
def m27 (E:Env):List Sm:=(d26 E).smL a26 (p26 E) 0 (d26 E).shs++m26 E
def a27:List AV:=[z0]
def p27 (E:Env):Pt:=Ar E 10 3 a27 [] []
def d27 (E:Env):Dec:=
 {g:=27,f:=10,p:=0,pts:=[p27 E],
  shs:=[{m:=1,res:=bV 0,post:=[],keep:=[]}]}
theorem gL:Ao (EF m27) [] 20000 (d27 E0) t27 0=some (jl (d27 E0) []):=by kernel_rfl
theorem c27:AO (EF m27) [] 20000 (d27 E0) t27:=dk1 rfl gL
def m28 (E:Env):List Sm:=(d27 E).smL a27 (p27 E) 0 (d27 E).shs++m27 E
def a28:List AV:=[dV 44 0,(.func (.func 38) [] [(.ptr 0 0)])]
def p28 (E:Env):Pt:=Ar E 65 2 a28 [some z2] []
def d28 (E:Env):Dec:=
 {g:=28,f:=65,p:=1,pts:=[p28 E,
  AW E 65 19 2 3 [(0,dV 44 0),(1,(.func (.func 38) [] [(.ptr 0 0)])),(7,(.si .i64 (.lenL (.var 0)))),(8,iV 1)] [some z3] [] []],
  shs:=[{m:=1,res:=iV 0,post:=[none],keep:=[0]}]}
theorem gN:Ao (EF m28) [2] 20000 (d28 E0) t28 0=some (jl (d28 E0) [1]):=by kernel_rfl
theorem jV:Ao (EF m28) [2] 20000 (d28 E0) t28 1=some (jl (d28 E0) [1]):=by kernel_rfl
theorem c28:AO (EF m28) [2] 20000 (d28 E0) t28:=dk2 rfl gN jV
def m29 (E:Env):List Sm:=(d28 E).smL a28 (p28 E) 0 (d28 E).shs++m28 E
def z25:AV:=(.agg [sV 0,dV 63 1,iV 2])
def a29:List AV:=[z25,(.agg [sV 3,iV 4,iV 5,bV 6,bV 7,iV 8,iV 9,iV 10,dV 119 11,sV 12,sV 13,sV 14,dV 138 15,iV 16,iV 17]),iV 18]
def p29 (E:Env):Pt:=Ar E 61 19 a29 [] []
def d29 (E:Env):Dec:=
 {g:=29,f:=61,p:=0,pts:=[p29 E],
  shs:=[{m:=1,res:=iV 0,post:=[],keep:=[]}]}
def m30 (E:Env):List Sm:=(d29 E).smL a29 (p29 E) 0 (d29 E).shs++m29 E
def a30:List AV:=[z25,(.agg [sV 3,dV 44 4,sV 5]),iV 6]
def p30 (E:Env):Pt:=Ar E 31 7 a30 [] []
def d30 (E:Env):Dec:=
 {g:=30,f:=31,p:=0,pts:=[p30 E],
  shs:=[{m:=1,res:=iV 0,post:=[],keep:=[]}]}
theorem ep:Ao (EF m30) [] 20000 (d30 E0) t30 0=some (jl (d30 E0) []):=by kernel_rfl
theorem c30:AO (EF m30) [] 20000 (d30 E0) t30:=dk1 rfl ep
def m31 (E:Env):List Sm:=(d30 E).smL a30 (p30 E) 0 (d30 E).shs++m30 E
def a31:List AV:=[z0,sV 3,sV 4]
def p31 (E:Env):Pt:=Ar E 14 5 a31 [] []
def d31 (E:Env):Dec:=
 {g:=31,f:=14,p:=0,pts:=[p31 E],
  shs:=[{m:=2,res:=(.tuple [iV 0,iV 1]),post:=[],keep:=[]}]}
theorem jw:Ao (EF m31) [] 20000 (d31 E0) t31 0=some (jl (d31 E0) []):=by kernel_rfl
theorem c31:AO (EF m31) [] 20000 (d31 E0) t31:=dk1 rfl jw
def m32 (E:Env):List Sm:=(d31 E).smL a31 (p31 E) 0 (d31 E).shs++m31 E
def a32:List AV:=[(.agg [sV 0,iV 1,iV 2,bV 3,bV 4,iV 5,iV 6,iV 7,dV 119 8,sV 9,sV 10,sV 11,dV 138 12,iV 13,iV 14]),iV 15]
def p32 (E:Env):Pt:=Ar E 67 16 a32 [] []
def d32 (E:Env):Dec:=
 {g:=32,f:=67,p:=0,pts:=[p32 E,
  AW E 67 34 7 16 [(1,iV 0),(2,(.ptr 0 0))] [some z17] [] []],
  shs:=[{m:=1,res:=iV 0,post:=[],keep:=[]}]}
theorem ei:Ao (EF m32) [7] 20000 (d32 E0) t32 0=some (jl (d32 E0) [1,1]):=by kernel_rfl
theorem fJ:Ao (EF m32) [7] 20000 (d32 E0) t32 1=some (jl (d32 E0) [1]):=by kernel_rfl
theorem c32:AO (EF m32) [7] 20000 (d32 E0) t32:=dk2 rfl ei fJ
def m33 (E:Env):List Sm:=(d32 E).smL a32 (p32 E) 0 (d32 E).shs++m32 E
def a33:List AV:=[z19]
def p33 (E:Env):Pt:=Ar E 41 2 a33 [] []
def d33 (E:Env):Dec:=
 {g:=33,f:=41,p:=0,pts:=[p33 E,
  AW E 41 27 4 6 [(1,(.ptr 0 0)),(4,aV 1 1 0 1),(5,iV 2),(6,iV 3)] [some (.cells 2 (Al [(0,sV 4),(1,dV 63 5)])),rV 3 0] [] []],
  shs:=[{m:=3,res:=(.tuple [aV 0 1 0 1,iV 2]),post:=[rV 3 0],keep:=[]}]}
theorem ia:Ao (EF m33) [4] 20000 (d33 E0) t33 0=some (jl (d33 E0) [1]):=by kernel_rfl
theorem fv:Ao (EF m33) [4] 20000 (d33 E0) t33 1=some (jl (d33 E0) [1]):=by kernel_rfl
theorem c33:AO (EF m33) [4] 20000 (d33 E0) t33:=dk2 rfl ia fv
def m34 (E:Env):List Sm:=(d33 E).smL a33 (p33 E) 0 (d33 E).shs++m33 E
def a34:List AV:=[iV 0,iV 1]
def p34 (E:Env):Pt:=Ar E 132 2 a34 [] []
def d34 (E:Env):Dec:=
 {g:=34,f:=132,p:=0,pts:=[p34 E,
  AW E 132 32 3 5 [(0,iV 0),(1,iV 1),(6,aV 0 1 2 3),(7,iV 4)] [rV 5 2] [] []],
  shs:=[{m:=3,res:=(.tuple [aV 0 1 0 1,bV 2]),post:=[rV 5 0],keep:=[]}]}
theorem fO:Ao (EF m34) [3] 20000 (d34 E0) t34 0=some (jl (d34 E0) [1]):=by kernel_rfl
theorem fS:Ao (EF m34) [3] 20000 (d34 E0) t34 1=some (jl (d34 E0) [1,1]):=by kernel_rfl
theorem c34:AO (EF m34) [3] 20000 (d34 E0) t34:=dk2 rfl fO fS
def m35 (E:Env):List Sm:=(d34 E).smL a34 (p34 E) 0 (d34 E).shs++m34 E
def a35:List AV:=[iV 0]
def p35 (E:Env):Pt:=Ar E 104 1 a35 [] []
def d35 (E:Env):Dec:=
 {g:=35,f:=104,p:=0,pts:=[p35 E,
  AW E 104 27 3 4 [(0,iV 0),(3,aV 0 1 1 2),(4,iV 3)] [rV 133 1] [] []],
  shs:=[{m:=2,res:=aV 0 1 0 1,post:=[rV 133 0],keep:=[]}]}
theorem ip:Ao (EF m35) [3] 20000 (d35 E0) t35 0=some (jl (d35 E0) [1]):=by kernel_rfl
theorem iY:Ao (EF m35) [3] 20000 (d35 E0) t35 1=some (jl (d35 E0) [1,1]):=by kernel_rfl
theorem c35:AO (EF m35) [3] 20000 (d35 E0) t35:=dk2 rfl ip iY
def m36 (E:Env):List Sm:=(d35 E).smL a35 (p35 E) 0 (d35 E).shs++m35 E
def a36:List AV:=[z19,sV 2,iV 3]
def p36 (E:Env):Pt:=Ar E 106 4 a36 [] []
def d36 (E:Env):Dec:=
 {g:=36,f:=106,p:=0,pts:=[p36 E,
  AW E 106 22 2 5 [(1,sV 0),(2,iV 1),(3,(.ptr 0 0)),(7,iV 2)] [some (.cells 2 (Al [(0,sV 3),(1,dV 63 4)]))] [] []],
  shs:=[{m:=1,res:=iV 0,post:=[],keep:=[]}]}
theorem dO:Ao (EF m36) [2] 20000 (d36 E0) t36 0=some (jl (d36 E0) [1]):=by kernel_rfl
theorem ff:Ao (EF m36) [2] 20000 (d36 E0) t36 1=some (jl (d36 E0) [1]):=by kernel_rfl
theorem c36:AO (EF m36) [2] 20000 (d36 E0) t36:=dk2 rfl dO ff
def m37 (E:Env):List Sm:=(d36 E).smL a36 (p36 E) 0 (d36 E).shs++m36 E
def a37:List AV:=[z19,(.agg [iV 2,dV 119 3])]
def p37 (E:Env):Pt:=Ar E 69 4 a37 [] []
def d37 (E:Env):Dec:=
 {g:=37,f:=69,p:=0,pts:=[p37 E,
  AW E 69 57 3 6 [(2,(.ptr 0 0)),(3,(.ptr 1 0)),(5,iV 0),(6,iV 1)] [some (.cells 2 (Al [(0,sV 2),(1,dV 63 3)])),some (.cells 2 (Al [(0,iV 4),(1,dV 119 5)]))] [] []],
  shs:=[{m:=1,res:=iV 0,post:=[],keep:=[]}]}
theorem eO:Ao (EF m37) [3] 20000 (d37 E0) t37 0=some (jl (d37 E0) [1]):=by kernel_rfl
theorem fZ:Ao (EF m37) [3] 20000 (d37 E0) t37 1=some (jl (d37 E0) [1,1,1,1]):=by kernel_rfl
theorem c37:AO (EF m37) [3] 20000 (d37 E0) t37:=dk2 rfl eO fZ
def m38 (E:Env):List Sm:=(d37 E).smL a37 (p37 E) 0 (d37 E).shs++m37 E
def a38:List AV:=[z19,(.agg [sV 2,iV 3,iV 4,bV 5,bV 6,iV 7,iV 8,iV 9,dV 119 10,sV 11,sV 12,sV 13,dV 138 14,iV 15,iV 16]),iV 17]
def p38 (E:Env):Pt:=Ar E 42 18 a38 [] []
def d38 (E:Env):Dec:=
 {g:=38,f:=42,p:=0,pts:=[p38 E,
  AW E 42 71 18 17 [(2,iV 0),(4,(.ptr 0 0)),(9,iV 1)] [some z18] [] []],
  shs:=[{m:=1,res:=iV 0,post:=[],keep:=[]}]}
theorem dh:Ao (EF m38) [18] 20000 (d38 E0) t38 0=some (jl (d38 E0) [1]):=by kernel_rfl
theorem jx:Ao (EF m38) [18] 20000 (d38 E0) t38 1=some (jl (d38 E0) [1,1]):=by kernel_rfl
theorem c38:AO (EF m38) [18] 20000 (d38 E0) t38:=dk2 rfl dh jx
def m39 (E:Env):List Sm:=(d38 E).smL a38 (p38 E) 0 (d38 E).shs++m38 E
def a39:List AV:=[z19,iV 2]
def p39 (E:Env):Pt:=Ar E 17 3 a39 [] []
def d39 (E:Env):Dec:=
 {g:=39,f:=17,p:=0,pts:=[p39 E],
  shs:=[{m:=1,res:=iV 0,post:=[],keep:=[]}]}
theorem fy:Ao (EF m39) [] 20000 (d39 E0) t39 0=some (jl (d39 E0) []):=by kernel_rfl
theorem c39:AO (EF m39) [] 20000 (d39 E0) t39:=dk1 rfl fy
end Go.Proofs.YtojjaeaohjlfnaaGreat.memoryFields

