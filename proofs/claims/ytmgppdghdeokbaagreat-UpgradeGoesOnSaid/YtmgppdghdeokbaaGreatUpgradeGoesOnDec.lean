/- What is proved: that the functions which the law UpgradeGoesOn reaches are the plain functions over data whose trees of tests the text before writes out (the kernel runs the evaluator over each place). Conditions: the program is the given one. -/
import Derived.Test.YtmgppdghdeokbaaGreatProg
import Derived.KernelRfl
import Derived.Test.YtmgppdghdeokbaaGreatUpgradeGoesOnTree
import Derived.Test.YtmgppdghdeokbaaGreatUpgradeGoesOnKnownD
namespace Go.Proofs.YtmgppdghdeokbaaGreat.upgradeGoesOn
open Go.AE Ug
def m0 (E:Env):List Sm:=[]
instance pg:Pg Tryz.prog l41:=⟨trivial⟩
def z0:AV:=(.agg [sV 0,dV 98 1,dV 96 2,dV 101 3])
def a0:List AV:=[z0]
def p0 (E:Env):Pt:=Am E 8 4 a0 [] []
def z1:Aj:=(.cells 4 (Ac [(0,sV 2),(1,dV 98 3),(2,dV 96 4),(3,dV 101 5)]))
def d0 (E:Env):Dec:=
 {g:=0,f:=8,p:=0,pts:=[p0 E,
  Ax E 8 112 5 6 [(1,(.ptr 0 0)),(3,iV 0),(4,iV 1)] [some z1] [] [],
  Ax E 8 112 11 6 [(1,(.ptr 0 0)),(3,iV 0),(5,iV 1)] [some z1] [] [],
  Ax E 8 112 16 6 [(1,(.ptr 0 0)),(3,iV 0),(6,iV 1)] [some z1] [] []],
  shs:=[{m:=1,res:=bV 0,post:=[],keep:=[]}]}
theorem yQ:Ag (EF m0) [5,11,16] 20000 (d0 E0) t0 0=some (jl (d0 E0) [1]):=by kernel_rfl
theorem yW:Ag (EF m0) [5,11,16] 20000 (d0 E0) t0 1=some (jl (d0 E0) [1,1,1,2]):=by kernel_rfl
theorem zF:Ag (EF m0) [5,11,16] 20000 (d0 E0) t0 2=some (jl (d0 E0) [2,3]):=by kernel_rfl
theorem zI:Ag (EF m0) [5,11,16] 20000 (d0 E0) t0 3=some (jl (d0 E0) [3]):=by kernel_rfl
theorem c0:Av (EF m0) [5,11,16] 20000 (d0 E0) t0:=dk4 rfl yQ yW zF zI
def m1 (E:Env):List Sm:=(d0 E).smL a0 (p0 E) 0 (d0 E).shs++m0 E
def a1:List AV:=[(.agg [dV 103 0,dV 188 1])]
def p1 (E:Env):Pt:=Am E 9 2 a1 [] []
def d1 (E:Env):Dec:=
 {g:=1,f:=9,p:=0,pts:=[p1 E],
  shs:=[{m:=1,res:=bV 0,post:=[],keep:=[]}]}
theorem zN:Ag (EF m1) [] 20000 (d1 E0) t1 0=some (jl (d1 E0) []):=by kernel_rfl
theorem c1:Av (EF m1) [] 20000 (d1 E0) t1:=dk1 rfl zN
def m2 (E:Env):List Sm:=(d1 E).smL a1 (p1 E) 0 (d1 E).shs++m1 E
def a2:List AV:=[]
def p2 (E:Env):Pt:=Am E 10 0 a2 [] []
def d2 (E:Env):Dec:=
 {g:=2,f:=10,p:=0,pts:=[p2 E],
  shs:=[{m:=0,res:=(.bool true),post:=[],keep:=[]}]}
theorem yE:Ag (EF m2) [] 20000 (d2 E0) t2 0=some (jl (d2 E0) []):=by kernel_rfl
theorem c2:Av (EF m2) [] 20000 (d2 E0) t2:=dk1 rfl yE
def m3 (E:Env):List Sm:=(d2 E).smL a2 (p2 E) 0 (d2 E).shs++m2 E
def a3:List AV:=[aV 0 6 0 1,dV 72 2,iV 3,iV 4]
def p3 (E:Env):Pt:=Am E 18 5 a3 [rV 32 0] []
def d3 (E:Env):Dec:=
 {g:=3,f:=18,p:=1,pts:=[p3 E,
  Ax E 18 65 4 4 [(0,aV 0 6 0 1),(1,dV 72 2),(9,iV 3)] [rV 32 0] [] [],
  Ax E 18 65 9 3 [(1,dV 72 0),(10,iV 1)] [rV 32 2] [] []],
  shs:=[{m:=1,res:=bV 0,post:=[none],keep:=[0]}]}
theorem yN:Ag (EF m3) [4,9] 20000 (d3 E0) t3 0=some (jl (d3 E0) [1]):=by kernel_rfl
theorem zm:Ag (EF m3) [4,9] 20000 (d3 E0) t3 1=some (jl (d3 E0) [1,2]):=by kernel_rfl
theorem zj:Ag (EF m3) [4,9] 20000 (d3 E0) t3 2=some (jl (d3 E0) [2]):=by kernel_rfl
theorem c3:Av (EF m3) [4,9] 20000 (d3 E0) t3:=dk3 rfl yN zm zj
def m4 (E:Env):List Sm:=(d3 E).smL a3 (p3 E) 0 (d3 E).shs++m3 E
def a4:List AV:=[sV 0]
def p4 (E:Env):Pt:=Am E 102 1 a4 [] []
def d4 (E:Env):Dec:=
 {g:=4,f:=102,p:=0,pts:=[p4 E,
  Ax E 102 55 4 3 [(15,(.asl 0 1 (.lenL (.var 0)) (.bc false))),(16,iV 1),(17,iV 2)] [rV 5 0] [] []],
  shs:=[{m:=1,res:=bV 0,post:=[],keep:=[]}]}
theorem zB:Ag (EF m4) [4] 20000 (d4 E0) t4 0=some (jl (d4 E0) [1]):=by kernel_rfl
theorem zl:Ag (EF m4) [4] 20000 (d4 E0) t4 1=some (jl (d4 E0) [1,1,1,1]):=by kernel_rfl
theorem c4:Av (EF m4) [4] 20000 (d4 E0) t4:=dk2 rfl zB zl
def m5 (E:Env):List Sm:=(d4 E).smL a4 (p4 E) 0 (d4 E).shs++m4 E
def a5:List AV:=[dV 96 0,(.func (.func 168) [] [(.ptr 0 0)])]
def z2:Aj:=(.cells 1 (Ac [(0,sV 1)]))
def p5 (E:Env):Pt:=Am E 185 2 a5 [some z2] []
def z3:Aj:=(.cells 1 (Ac [(0,sV 2)]))
def d5 (E:Env):Dec:=
 {g:=5,f:=185,p:=1,pts:=[p5 E,
  Ax E 185 19 2 3 [(0,dV 96 0),(1,(.func (.func 168) [] [(.ptr 0 0)])),(7,(.si .i64 (.lenL (.var 0)))),(8,iV 1)] [some z3] [] []],
  shs:=[{m:=1,res:=iV 0,post:=[none],keep:=[0]}]}
theorem zr:Ag (EF m5) [2] 20000 (d5 E0) t5 0=some (jl (d5 E0) [1]):=by kernel_rfl
theorem zD:Ag (EF m5) [2] 20000 (d5 E0) t5 1=some (jl (d5 E0) [1]):=by kernel_rfl
theorem c5:Av (EF m5) [2] 20000 (d5 E0) t5:=dk2 rfl zr zD
def m6 (E:Env):List Sm:=(d5 E).smL a5 (p5 E) 0 (d5 E).shs++m5 E
def a6:List AV:=[iV 0,iV 1,iV 2,(.func (.func 104) [] [(.ptr 0 0)])]
def z4:Aj:=(.cells 4 (Ac [(0,sV 3),(1,dV 98 4),(2,dV 96 5),(3,dV 101 6)]))
def p6 (E:Env):Pt:=Am E 103 7 a6 [some z4] []
def d6 (E:Env):Dec:=
 {g:=6,f:=103,p:=1,pts:=[p6 E,
  Ax E 103 28 6 6 [(3,(.func (.func 104) [] [(.ptr 0 0)])),(19,iV 0),(20,iV 1)] [some z1] [] []],
  shs:=[{m:=1,res:=iV 0,post:=[none],keep:=[0]}]}
theorem zH:Ag (EF m6) [6] 20000 (d6 E0) t6 0=some (jl (d6 E0) [1]):=by kernel_rfl
theorem yU:Ag (EF m6) [6] 20000 (d6 E0) t6 1=some (jl (d6 E0) [1]):=by kernel_rfl
theorem c6:Av (EF m6) [6] 20000 (d6 E0) t6:=dk2 rfl zH yU
def m7 (E:Env):List Sm:=(d6 E).smL a6 (p6 E) 0 (d6 E).shs++m6 E
def a7:List AV:=[dV 98 0,(.func (.func 170) [] [(.ptr 0 0)])]
def p7 (E:Env):Pt:=Am E 151 2 a7 [some z2] []
def d7 (E:Env):Dec:=
 {g:=7,f:=151,p:=1,pts:=[p7 E,
  Ax E 151 19 2 3 [(0,dV 98 0),(1,(.func (.func 170) [] [(.ptr 0 0)])),(7,(.si .i64 (.lenL (.var 0)))),(8,iV 1)] [some z3] [] []],
  shs:=[{m:=1,res:=iV 0,post:=[none],keep:=[0]}]}
theorem yC:Ag (EF m7) [2] 20000 (d7 E0) t7 0=some (jl (d7 E0) [1]):=by kernel_rfl
theorem zx:Ag (EF m7) [2] 20000 (d7 E0) t7 1=some (jl (d7 E0) [1]):=by kernel_rfl
theorem c7:Av (EF m7) [2] 20000 (d7 E0) t7:=dk2 rfl yC zx
def m8 (E:Env):List Sm:=(d7 E).smL a7 (p7 E) 0 (d7 E).shs++m7 E
def a8:List AV:=[iV 0,iV 1,iV 2,(.func (.func 106) [] [(.ptr 0 0)])]
def p8 (E:Env):Pt:=Am E 103 7 a8 [some z4] []
def d8 (E:Env):Dec:=
 {g:=8,f:=103,p:=1,pts:=[p8 E,
  Ax E 103 28 6 6 [(3,(.func (.func 106) [] [(.ptr 0 0)])),(19,iV 0),(20,iV 1)] [some z1] [] []],
  shs:=[{m:=1,res:=iV 0,post:=[none],keep:=[0]}]}
theorem yD:Ag (EF m8) [6] 20000 (d8 E0) t8 0=some (jl (d8 E0) [1]):=by kernel_rfl
theorem zy:Ag (EF m8) [6] 20000 (d8 E0) t8 1=some (jl (d8 E0) [1]):=by kernel_rfl
theorem c8:Av (EF m8) [6] 20000 (d8 E0) t8:=dk2 rfl yD zy
def m9 (E:Env):List Sm:=(d8 E).smL a8 (p8 E) 0 (d8 E).shs++m8 E
def a9:List AV:=[dV 101 0,(.agg [sV 1,sV 2,iV 3,sV 4,sV 5,sV 6,iV 7,iV 8,iV 9])]
def p9 (E:Env):Pt:=Am E 200 10 a9 [] []
def d9 (E:Env):Dec:=
 {g:=9,f:=200,p:=0,pts:=[p9 E,
  Ax E 200 19 2 11 [(0,dV 101 0),(3,(.ptr 0 0)),(7,(.si .i64 (.lenL (.var 0)))),(8,iV 1)] [some (.cells 9 (Ac [(0,sV 2),(1,sV 3),(2,iV 4),(3,sV 5),(4,sV 6),(5,sV 7),(6,iV 8),(7,iV 9),(8,iV 10)]))] [] []],
  shs:=[{m:=1,res:=iV 0,post:=[],keep:=[]}]}
theorem yZ:Ag (EF m9) [2] 20000 (d9 E0) t9 0=some (jl (d9 E0) [1]):=by kernel_rfl
theorem zA:Ag (EF m9) [2] 20000 (d9 E0) t9 1=some (jl (d9 E0) [1]):=by kernel_rfl
theorem c9:Av (EF m9) [2] 20000 (d9 E0) t9:=dk2 rfl yZ zA
def m10 (E:Env):List Sm:=(d9 E).smL a9 (p9 E) 0 (d9 E).shs++m9 E
def a10:List AV:=[iV 0,iV 1,iV 2,(.func (.func 108) [] [(.ptr 0 0)])]
def p10 (E:Env):Pt:=Am E 103 7 a10 [some z4] []
def d10 (E:Env):Dec:=
 {g:=10,f:=103,p:=1,pts:=[p10 E,
  Ax E 103 28 6 6 [(3,(.func (.func 108) [] [(.ptr 0 0)])),(19,iV 0),(20,iV 1)] [some z1] [] []],
  shs:=[{m:=1,res:=iV 0,post:=[none],keep:=[0]}]}
theorem wK:Ag (EF m10) [6] 20000 (d10 E0) t10 0=some (jl (d10 E0) [1]):=by kernel_rfl
theorem tD:Ag (EF m10) [6] 20000 (d10 E0) t10 1=some (jl (d10 E0) [1,1,1,1,1,1,1,1]):=by kernel_rfl
theorem c10:Av (EF m10) [6] 20000 (d10 E0) t10:=dk2 rfl wK tD
def m11 (E:Env):List Sm:=(d10 E).smL a10 (p10 E) 0 (d10 E).shs++m10 E
def a11:List AV:=[z0]
def p11 (E:Env):Pt:=Am E 43 4 a11 [] []
def d11 (E:Env):Dec:=
 {g:=11,f:=43,p:=0,pts:=[p11 E],
  shs:=[{m:=2,res:=(.tuple [iV 0,iV 1]),post:=[],keep:=[]}]}
theorem vq:Ag (EF m11) [] 20000 (d11 E0) t11 0=some (jl (d11 E0) []):=by kernel_rfl
theorem c11:Av (EF m11) [] 20000 (d11 E0) t11:=dk1 rfl vq
def m12 (E:Env):List Sm:=(d11 E).smL a11 (p11 E) 0 (d11 E).shs++m11 E
def a12:List AV:=[aV 0 3 0 1,(.func (.func 174) [] [(.ptr 1 0)])]
def p12 (E:Env):Pt:=Am E 173 3 a12 [rV 215 0,some z3] []
def z5:Aj:=(.cells 1 (Ac [(0,sV 3)]))
def d12 (E:Env):Dec:=
 {g:=12,f:=173,p:=2,pts:=[p12 E,
  Ax E 173 19 2 4 [(0,aV 0 3 0 1),(1,(.func (.func 174) [] [(.ptr 1 0)])),(7,(.si .i64 (.lenL (.var 0)))),(8,iV 2)] [rV 215 0,some z5] [] []],
  shs:=[{m:=1,res:=iV 0,post:=[none,none],keep:=[0,1]}]}
theorem uu:Ag (EF m12) [2] 20000 (d12 E0) t12 0=some (jl (d12 E0) [1]):=by kernel_rfl
theorem xT:Ag (EF m12) [2] 20000 (d12 E0) t12 1=some (jl (d12 E0) [1]):=by kernel_rfl
theorem c12:Av (EF m12) [2] 20000 (d12 E0) t12:=dk2 rfl uu xT
def m13 (E:Env):List Sm:=(d12 E).smL a12 (p12 E) 0 (d12 E).shs++m12 E
def a13:List AV:=[dV 96 0]
def p13 (E:Env):Pt:=Am E 44 1 a13 [] []
def z6:Aj:=(.cells 2 (Ac [(0,(.bool true)),(1,aV 1 3 2 3)]))
def z7:Aj:=(.cells 2 (Ac [(0,(.bool true)),(1,aV 1 3 0 1)]))
def d13 (E:Env):Dec:=
 {g:=13,f:=44,p:=0,pts:=[p13 E,
  Ax E 44 51 5 4 [(4,(.ptr 0 0)),(12,dV 96 0),(13,(.si .i64 (.lenL (.var 0)))),(14,iV 1)] [some z6,rV 215 2] [] []],
  shs:=[{m:=2,res:=(.tuple [(.ptr 0 0),(.int .i64 0)]),post:=[some z7,rV 215 0],keep:=[]}]}
theorem oG:Ag (EF m13) [5] 20000 (d13 E0) t13 0=some (jl (d13 E0) [1]):=by kernel_rfl
theorem xH:Ag (EF m13) [5] 20000 (d13 E0) t13 1=some (jl (d13 E0) [1]):=by kernel_rfl
theorem c13:Av (EF m13) [5] 20000 (d13 E0) t13:=dk2 rfl oG xH
def m14 (E:Env):List Sm:=(d13 E).smL a13 (p13 E) 0 (d13 E).shs++m13 E
def a14:List AV:=[dV 98 0]
def p14 (E:Env):Pt:=Am E 111 1 a14 [] []
def d14 (E:Env):Dec:=
 {g:=14,f:=111,p:=0,pts:=[p14 E],
  shs:=[{m:=2,res:=aV 0 3 0 1,post:=[rV 98 0],keep:=[]}]}
theorem xh:Ag (EF m14) [] 20000 (d14 E0) t14 0=some (jl (d14 E0) []):=by kernel_rfl
theorem c14:Av (EF m14) [] 20000 (d14 E0) t14:=dk1 rfl xh
def m15 (E:Env):List Sm:=(d14 E).smL a14 (p14 E) 0 (d14 E).shs++m14 E
def a15:List AV:=[dV 96 0]
def p15 (E:Env):Pt:=Am E 112 1 a15 [] []
def d15 (E:Env):Dec:=
 {g:=15,f:=112,p:=0,pts:=[p15 E],
  shs:=[{m:=2,res:=aV 0 2 0 1,post:=[rV 96 0],keep:=[]}]}
theorem qG:Ag (EF m15) [] 20000 (d15 E0) t15 0=some (jl (d15 E0) []):=by kernel_rfl
theorem c15:Av (EF m15) [] 20000 (d15 E0) t15:=dk1 rfl qG
def m16 (E:Env):List Sm:=(d15 E).smL a15 (p15 E) 0 (d15 E).shs++m15 E
def a16:List AV:=[dV 101 0]
def p16 (E:Env):Pt:=Am E 113 1 a16 [] []
def d16 (E:Env):Dec:=
 {g:=16,f:=113,p:=0,pts:=[p16 E],
  shs:=[{m:=2,res:=aV 0 9 0 1,post:=[rV 101 0],keep:=[]}]}
theorem sX:Ag (EF m16) [] 20000 (d16 E0) t16 0=some (jl (d16 E0) []):=by kernel_rfl
theorem c16:Av (EF m16) [] 20000 (d16 E0) t16:=dk1 rfl sX
def m17 (E:Env):List Sm:=(d16 E).smL a16 (p16 E) 0 (d16 E).shs++m16 E
def a17:List AV:=[aV 0 3 0 1,(.func (.func 115) [] [(.ptr 1 0)])]
def p17 (E:Env):Pt:=Am E 114 3 a17 [rV 98 0,some z3] []
def d17 (E:Env):Dec:=
 {g:=17,f:=114,p:=2,pts:=[p17 E,
  Ax E 114 22 2 6 [(1,(.func (.func 115) [] [(.ptr 1 0)])),(4,aV 2 3 0 1),(7,aV 0 3 2 3),(8,(.si .i64 (.lenL (.var 2)))),(9,iV 4)] [rV 98 2,some (.cells 1 (Ac [(0,sV 5)])),rV 98 0] [] []],
  shs:=[{m:=2,res:=aV 2 3 0 1,post:=[none,none,rV 98 0],keep:=[0,1]}]}
theorem mD:Ag (EF m17) [2] 20000 (d17 E0) t17 0=some (jl (d17 E0) [1]):=by kernel_rfl
theorem nL:Ag (EF m17) [2] 20000 (d17 E0) t17 1=some (jl (d17 E0) [1,1]):=by kernel_rfl
theorem c17:Av (EF m17) [2] 20000 (d17 E0) t17:=dk2 rfl mD nL
def m18 (E:Env):List Sm:=(d17 E).smL a17 (p17 E) 0 (d17 E).shs++m17 E
def a18:List AV:=[(.ptr 0 0),iV 5]
def z8:Aj:=(.cells 3 (Ac [(0,iV 0),(1,(.nmap 1 (.var 2))),(2,aV 2 2 3 4)]))
def p18 (E:Env):Pt:=Am E 175 6 a18 [some z8,some (.dmap 3 3 (.var 1)),rV 256 3] []
def d18 (E:Env):Dec:=
 {g:=18,f:=175,p:=3,pts:=[p18 E],
  shs:=[{m:=2,res:=(.tuple [iV 0,iV 1]),post:=[none,none,none],keep:=[0,1,2]}]}
theorem yg:Ag (EF m18) [] 20000 (d18 E0) t18 0=some (jl (d18 E0) []):=by kernel_rfl
theorem c18:Av (EF m18) [] 20000 (d18 E0) t18:=dk1 rfl yg
def m19 (E:Env):List Sm:=(d18 E).smL a18 (p18 E) 0 (d18 E).shs++m18 E
def a19:List AV:=[(.ptr 0 0),iV 5]
def p19 (E:Env):Pt:=Am E 116 6 a19 [some z8,some (.dmap 3 3 (.var 1)),rV 256 3] []
def d19 (E:Env):Dec:=
 {g:=19,f:=116,p:=3,pts:=[p19 E],
  shs:=[{m:=2,res:=iV 0,post:=[none,some (.dmap 3 3 (.var 1)),none],keep:=[0,2]}]}
theorem ph:Ag (EF m19) [] 20000 (d19 E0) t19 0=some (jl (d19 E0) []):=by kernel_rfl
theorem c19:Av (EF m19) [] 20000 (d19 E0) t19:=dk1 rfl ph
def m20 (E:Env):List Sm:=(d19 E).smL a19 (p19 E) 0 (d19 E).shs++m19 E
def a20:List AV:=[(.ptr 0 0),(.agg [iV 5,iV 6])]
def p20 (E:Env):Pt:=Am E 177 7 a20 [some z8,some (.dmap 3 3 (.var 1)),rV 256 3] []
def d20 (E:Env):Dec:=
 {g:=20,f:=177,p:=3,pts:=[p20 E,
  Ax E 177 70 3 6 [(0,(.ptr 0 0)),(4,iV 0)] [some (.cells 3 (Ac [(0,iV 1),(1,(.nmap 1 (.var 2))),(2,aV 3 2 3 4)])),some (.dmap 3 3 (.var 5)),none,rV 256 3] [] []],
  shs:=[{m:=2,res:=(.tuple []),post:=[some (.cells 3 (Ac [(0,.top),(1,.top),(2,aV 3 2 0 1)])),none,none,rV 256 0],keep:=[1],keepC:=[(0,[0,1])]}]}
theorem wO:Ag (EF m20) [3] 20000 (d20 E0) t20 0=some (jl (d20 E0) [1]):=by kernel_rfl
theorem vo:Ag (EF m20) [3] 20000 (d20 E0) t20 1=some (jl (d20 E0) [1,1,1,1]):=by kernel_rfl
theorem c20:Av (EF m20) [3] 20000 (d20 E0) t20:=dk2 rfl wO vo
def m21 (E:Env):List Sm:=(d20 E).smL a20 (p20 E) 0 (d20 E).shs++m20 E
def a21:List AV:=[(.ptr 0 0),iV 5,iV 6]
def p21 (E:Env):Pt:=Am E 117 7 a21 [some z8,some (.dmap 3 3 (.var 1)),rV 256 3] []
def d21 (E:Env):Dec:=
 {g:=21,f:=117,p:=3,pts:=[p21 E],
  shs:=[{m:=5,res:=iV 0,post:=[some (.cells 3 (Ac [(0,.top),(1,(.nmap 3 (.var 1))),(2,aV 4 2 2 3)])),none,none,some (.dmap 3 3 (.var 4)),rV 256 2],keep:=[],keepC:=[(0,[0])]}]}
theorem uP:Ag (EF m21) [] 20000 (d21 E0) t21 0=some (jl (d21 E0) []):=by kernel_rfl
theorem c21:Av (EF m21) [] 20000 (d21 E0) t21:=dk1 rfl uP
def m22 (E:Env):List Sm:=(d21 E).smL a21 (p21 E) 0 (d21 E).shs++m21 E
def a22:List AV:=[(.ptr 0 0),sV 20]
def z9:Aj:=(.cells 11 (Ac [(0,(.ptr 1 0)),(1,sV 2),(2,aV 3 3 3 4),(3,aV 4 2 5 6),(4,aV 5 9 7 8),(5,sV 9),(6,bV 10),(7,iV 11),(8,(.ptr 6 0)),(9,bV 17),(10,aV 9 2 18 19)]))
def z10:Aj:=(.cells 2 (Ac [(0,(.bool true)),(1,aV 2 3 0 1)]))
def z11:Aj:=(.cells 3 (Ac [(0,iV 12),(1,(.nmap 7 (.var 14))),(2,aV 8 2 15 16)]))
def p22 (E:Env):Pt:=Am E 46 21 a22 [some z9,some z10,rV 215 0,rV 98 3,rV 96 5,rV 101 7,some z11,some (.dmap 3 3 (.var 13)),rV 256 15,rV 225 18] []
def d22 (E:Env):Dec:=
 {g:=22,f:=46,p:=10,pts:=[p22 E],
  shs:=[{m:=7,res:=(.tuple []),post:=[some (.cells 11 (Ac [(0,.top),(1,.top),(2,.top),(3,.top),(4,.top),(5,sV 0),(6,bV 1),(7,iV 2),(8,.top),(9,(.bool false)),(10,.top)])),none,none,none,none,none,some (.cells 3 (Ac [(0,.top),(1,(.nmap 10 (.var 3))),(2,aV 11 2 4 5)])),none,none,none,some (.dmap 3 3 (.var 6)),rV 256 4],keep:=[1,2,3,4,5,9],keepC:=[(0,[0,1,2,3,4,8,10]),(6,[0])]}]}
theorem qi:Ag (EF m22) [] 20000 (d22 E0) t22 0=some (jl (d22 E0) []):=by kernel_rfl
theorem c22:Av (EF m22) [] 20000 (d22 E0) t22:=dk1 rfl qi
def m23 (E:Env):List Sm:=(d22 E).smL a22 (p22 E) 0 (d22 E).shs++m22 E
def a23:List AV:=[z0]
def p23 (E:Env):Pt:=Am E 11 4 a23 [] []
def z12:Aj:=(.cells 1 (Ac [(0,(.ptr 1 0))]))
def z13:Aj:=(.cells 11 (Ac [(0,(.ptr 2 0)),(1,sV 0),(2,aV 3 3 1 2),(3,aV 4 2 3 4),(4,aV 5 9 5 6),(5,sV 7),(6,bV 8),(7,iV 9),(8,(.ptr 6 0)),(9,(.bool false)),(10,(.asl 7 2 (.lenL (.var 10)) (.bc true)))]))
def z14:Aj:=(.cells 2 (Ac [(0,(.bool true)),(1,aV 8 3 11 12)]))
def d23 (E:Env):Dec:=
 {g:=23,f:=11,p:=0,pts:=[p23 E],
  shs:=[{m:=17,res:=(.tuple [(.ptr 0 0),(.int .i64 0)]),post:=[some z12,some z13,some z14,rV 98 1,rV 96 3,rV 101 5,some (.cells 3 (Ac [(0,(.int .i64 0)),(1,(.nmap 9 (.var 13))),(2,aV 10 2 14 15)])),rV 225 10,rV 215 11,some (.dmap 3 3 (.var 16)),rV 256 14],keep:=[]},{m:=1,res:=(.tuple [.ptr0,iV 0]),post:=[],keep:=[]}]}
theorem xp:Ag (EF m23) [] 20000 (d23 E0) t23 0=some (jl (d23 E0) []):=by kernel_rfl
theorem c23:Av (EF m23) [] 20000 (d23 E0) t23:=dk1 rfl xp
def m24 (E:Env):List Sm:=(d23 E).smL a23 (p23 E) 0 (d23 E).shs++m23 E
def a24:List AV:=[z0]
def p24 (E:Env):Pt:=Am E 19 4 a24 [] []
def d24 (E:Env):Dec:=
 {g:=24,f:=19,p:=0,pts:=[p24 E],
  shs:=[{m:=17,res:=(.tuple [(.ptr 0 0),(.int .i64 0)]),post:=[some (.cells 3 (Ac [(0,(.ptr 1 0)),(1,.ptr0),(2,.slice0)])),some (.cells 1 (Ac [(0,(.ptr 2 0))])),some (.cells 11 (Ac [(0,(.ptr 3 0)),(1,sV 0),(2,aV 4 3 1 2),(3,aV 5 2 3 4),(4,aV 6 9 5 6),(5,sV 7),(6,bV 8),(7,iV 9),(8,(.ptr 7 0)),(9,(.bool false)),(10,(.asl 8 2 (.lenL (.var 10)) (.bc true)))])),some (.cells 2 (Ac [(0,(.bool true)),(1,aV 9 3 11 12)])),rV 98 1,rV 96 3,rV 101 5,some (.cells 3 (Ac [(0,(.int .i64 0)),(1,(.nmap 10 (.var 13))),(2,aV 11 2 14 15)])),rV 225 10,rV 215 11,some (.dmap 3 3 (.var 16)),rV 256 14],keep:=[]},{m:=1,res:=(.tuple [.ptr0,iV 0]),post:=[],keep:=[]}]}
theorem nC:Ag (EF m24) [] 20000 (d24 E0) t24 0=some (jl (d24 E0) []):=by kernel_rfl
theorem c24:Av (EF m24) [] 20000 (d24 E0) t24:=dk1 rfl nC
def m25 (E:Env):List Sm:=(d24 E).smL a24 (p24 E) 0 (d24 E).shs++m24 E
def a25:List AV:=[aV 0 2 0 1]
def p25 (E:Env):Pt:=Am E 180 2 a25 [rV 256 0] []
def d25 (E:Env):Dec:=
 {g:=25,f:=180,p:=1,pts:=[p25 E],
  shs:=[{m:=2,res:=aV 1 2 0 1,post:=[none,rV 256 0],keep:=[0]}]}
theorem vU:Ag (EF m25) [] 20000 (d25 E0) t25 0=some (jl (d25 E0) []):=by kernel_rfl
theorem c25:Av (EF m25) [] 20000 (d25 E0) t25:=dk1 rfl vU
def m26 (E:Env):List Sm:=(d25 E).smL a25 (p25 E) 0 (d25 E).shs++m25 E
def a26:List AV:=[(.ptr 0 0)]
def p26 (E:Env):Pt:=Am E 122 5 a26 [some z8,some (.dmap 3 3 (.var 1)),rV 256 3] []
def d26 (E:Env):Dec:=
 {g:=26,f:=122,p:=3,pts:=[p26 E],
  shs:=[{m:=5,res:=(.ptr 3 0),post:=[none,none,none,some (.cells 3 (Ac [(0,iV 0),(1,(.nmap 4 (.var 1))),(2,aV 5 2 2 3)])),some (.dmap 3 3 (.var 4)),rV 256 2],keep:=[0,1,2]}]}
theorem sW:Ag (EF m26) [] 20000 (d26 E0) t26 0=some (jl (d26 E0) []):=by kernel_rfl
theorem c26:Av (EF m26) [] 20000 (d26 E0) t26:=dk1 rfl sW
def m27 (E:Env):List Sm:=(d26 E).smL a26 (p26 E) 0 (d26 E).shs++m26 E
def a27:List AV:=[(.ptr 0 0)]
def p27 (E:Env):Pt:=Am E 191 5 a27 [some z8,some (.dmap 3 3 (.var 1)),rV 256 3] []
def d27 (E:Env):Dec:=
 {g:=27,f:=191,p:=3,pts:=[p27 E,
  Ax E 191 100 4 7 [(0,(.ptr 0 0)),(2,iV 0),(3,iV 1)] [some (.cells 3 (Ac [(0,iV 2),(1,(.nmap 1 (.var 3))),(2,aV 2 2 4 5)])),some (.dmap 3 3 (.var 6)),rV 256 4] [] [],
  Ax E 191 100 6 11 [(0,(.ptr 0 0)),(2,iV 0),(3,iV 1),(4,iV 2),(41,(.slice 3 0 2 1)),(42,(.int .i64 2)),(43,iV 3)] [some (.cells 3 (Ac [(0,iV 4),(1,(.nmap 1 (.var 5))),(2,aV 2 2 6 7)])),some (.dmap 3 3 (.var 8)),rV 256 6,some (.cells 2 (Ac [(0,iV 9),(1,iV 10)]))] [] []],
  shs:=[{m:=2,res:=(.tuple []),post:=[some (.cells 3 (Ac [(0,.top),(1,.top),(2,aV 2 2 0 1)])),none,rV 256 0],keep:=[1],keepC:=[(0,[0,1])]}]}
theorem s8:Ag (EF m27) [4,6] 20000 (d27 E0) t27 0=some (jl (d27 E0) [1]):=by kernel_rfl
theorem wz:Ag (EF m27) [4,6] 20000 (d27 E0) t27 1=some (jl (d27 E0) [2]):=by kernel_rfl
theorem vM:Ag (EF m27) [4,6] 20000 (d27 E0) t27 2=some (jl (d27 E0) [2,2,2,2,2,2,2,2,2,2,2,2,2,2,2,2,2,2,2,2,1]):=by kernel_rfl
theorem c27:Av (EF m27) [4,6] 20000 (d27 E0) t27:=dk3 rfl s8 wz vM
def m28 (E:Env):List Sm:=(d27 E).smL a27 (p27 E) 0 (d27 E).shs++m27 E
def a28:List AV:=[(.ptr 0 0)]
def p28 (E:Env):Pt:=Am E 153 5 a28 [some z8,some (.dmap 3 3 (.var 1)),rV 256 3] []
def d28 (E:Env):Dec:=
 {g:=28,f:=153,p:=3,pts:=[p28 E,
  Ax E 153 40 1 5 [(0,(.ptr 0 0)),(2,(.ptr 3 0))] [some (.cells 3 (Ac [(0,iV 0),(1,(.nmap 1 (.var 1))),(2,aV 2 2 2 3)])),some (.dmap 3 3 (.var 4)),rV 256 2,some (.cells 2 (Ac [(0,(.int .i64 0)),(1,(.int .i64 0))]))] [] []],
  shs:=[{m:=5,res:=(.tuple [(.agg [iV 0,iV 1]),bV 2]),post:=[some (.cells 3 (Ac [(0,.top),(1,.top),(2,aV 2 2 3 4)])),none,rV 256 3],keep:=[1],keepC:=[(0,[0,1])]}]}
theorem ta:Ag (EF m28) [1] 20000 (d28 E0) t28 0=some (jl (d28 E0) [1]):=by kernel_rfl
theorem xz:Ag (EF m28) [1] 20000 (d28 E0) t28 1=some (jl (d28 E0) [1,1,1]):=by kernel_rfl
theorem c28:Av (EF m28) [1] 20000 (d28 E0) t28:=dk2 rfl ta xz
def m29 (E:Env):List Sm:=(d28 E).smL a28 (p28 E) 0 (d28 E).shs++m28 E
def a29:List AV:=[(.ptr 0 0),iV 5]
def p29 (E:Env):Pt:=Am E 83 6 a29 [some z8,some (.dmap 3 3 (.var 1)),rV 256 3] []
def d29 (E:Env):Dec:=
 {g:=29,f:=83,p:=3,pts:=[p29 E,
  Ax E 83 56 7 10 [(0,(.ptr 0 0)),(4,aV 4 1 0 1),(6,(.ptr 3 0)),(7,bV 2)] [some (.cells 3 (Ac [(0,iV 3),(1,(.nmap 1 (.var 4))),(2,aV 2 2 5 6)])),some (.dmap 3 3 (.var 7)),rV 256 5,some (.cells 2 (Ac [(0,iV 8),(1,iV 9)])),rV 3 0] [] []],
  shs:=[{m:=7,res:=(.tuple [aV 3 1 0 1,iV 2]),post:=[some (.cells 3 (Ac [(0,iV 3),(1,.top),(2,aV 2 2 4 5)])),some (.dmap 3 3 (.var 6)),rV 256 4,rV 3 0],keep:=[],keepC:=[(0,[1])]}]}
theorem rE:Ag (EF m29) [7] 20000 (d29 E0) t29 0=some (jl (d29 E0) [1,1]):=by kernel_rfl
theorem ru:Ag (EF m29) [7] 20000 (d29 E0) t29 1=some (jl (d29 E0) [1,1,1]):=by kernel_rfl
theorem c29:Av (EF m29) [7] 20000 (d29 E0) t29:=dk2 rfl rE ru
def m30 (E:Env):List Sm:=(d29 E).smL a29 (p29 E) 0 (d29 E).shs++m29 E
def a30:List AV:=[(.ptr 0 0),sV 2]
def p30 (E:Env):Pt:=Am E 203 3 a30 [some z7,rV 215 0] []
def d30 (E:Env):Dec:=
 {g:=30,f:=203,p:=2,pts:=[p30 E],
  shs:=[{m:=2,res:=(.tuple [iV 0,iV 1]),post:=[none,none],keep:=[0,1]}]}
theorem oQ:Ag (EF m30) [] 20000 (d30 E0) t30 0=some (jl (d30 E0) []):=by kernel_rfl
theorem c30:Av (EF m30) [] 20000 (d30 E0) t30:=dk1 rfl oQ
def m31 (E:Env):List Sm:=(d30 E).smL a30 (p30 E) 0 (d30 E).shs++m30 E
def z15:AV:=(.agg [sV 2,sV 3,iV 4,sV 5,sV 6,sV 7,iV 8,iV 9,iV 10])
def a31:List AV:=[(.ptr 0 0),z15]
def p31 (E:Env):Pt:=Am E 181 11 a31 [some z7,rV 215 0] []
def d31 (E:Env):Dec:=
 {g:=31,f:=181,p:=2,pts:=[p31 E],
  shs:=[{m:=2,res:=(.tuple [bV 0,iV 1]),post:=[none,none],keep:=[0,1]}]}
theorem wL:Ag (EF m31) [] 20000 (d31 E0) t31 0=some (jl (d31 E0) []):=by kernel_rfl
theorem c31:Av (EF m31) [] 20000 (d31 E0) t31:=dk1 rfl wL
def m32 (E:Env):List Sm:=(d31 E).smL a31 (p31 E) 0 (d31 E).shs++m31 E
def z16:AV:=(.agg [(.ptr 0 0),(.ptr 10 0),bV 25])
def a32:List AV:=[z16,(.agg [sV 26,sV 27,iV 28,sV 29,sV 30,sV 31,iV 32,iV 33,iV 34])]
def z17:Aj:=(.cells 3 (Ac [(0,iV 20),(1,(.nmap 11 (.var 22))),(2,aV 12 2 23 24)]))
def p32 (E:Env):Pt:=Am E 53 35 a32 [some z9,some z10,rV 215 0,rV 98 3,rV 96 5,rV 101 7,some z11,some (.dmap 3 3 (.var 13)),rV 256 15,rV 225 18,some z17,some (.dmap 3 3 (.var 21)),rV 256 23] []
def z18:Aj:=(.cells 11 (Ac [(0,(.ptr 1 0)),(1,sV 1),(2,aV 3 3 2 3),(3,aV 4 2 4 5),(4,aV 5 9 6 7),(5,sV 8),(6,bV 9),(7,iV 10),(8,(.ptr 6 0)),(9,bV 11),(10,aV 9 2 12 13)]))
def z19:Aj:=(.cells 2 (Ac [(0,(.bool true)),(1,aV 2 3 14 15)]))
def z20:Aj:=(.cells 3 (Ac [(0,iV 16),(1,(.nmap 7 (.var 17))),(2,aV 8 2 18 19)]))
def z21:Aj:=(.cells 3 (Ac [(0,iV 21),(1,(.nmap 11 (.var 22))),(2,aV 12 2 23 24)]))
def z22:AV:=(.agg [(.ptr 0 0),(.ptr 10 0),bV 35])
def d32 (E:Env):Dec:=
 {g:=32,f:=53,p:=13,pts:=[p32 E,
  Ax E 53 24 2 36 [(3,(.ptr 13 0)),(13,(.slice 14 0 3 1)),(14,(.int .i64 3)),(15,iV 0)] [some z18,some z19,rV 215 14,rV 98 2,rV 96 4,rV 101 6,some z20,some (.dmap 3 3 (.var 20)),rV 256 18,rV 225 12,some z21,some (.dmap 3 3 (.var 25)),rV 256 23,some (.cells 9 (Ac [(0,sV 26),(1,sV 27),(2,iV 28),(3,sV 29),(4,sV 30),(5,sV 31),(6,iV 32),(7,iV 33),(8,iV 34)])),some (.cells 3 (Ac [(0,(.func (.func 123) [z22] [])),(1,(.func (.func 124) [z22] [])),(2,(.func (.func 125) [z22] []))]))] [] []],
  shs:=[{m:=1,res:=bV 0,post:=[none,none,none,none,none,none,none,none,none,none,none,none,none],keep:=[0,1,2,3,4,5,6,7,8,9,10,11,12]}]}
theorem oI:Ag (EF m32) [2] 20000 (d32 E0) t32 0=some (jl (d32 E0) [1]):=by kernel_rfl
theorem qJ:Ag (EF m32) [2] 20000 (d32 E0) t32 1=some (jl (d32 E0) [1,1,1,1]):=by kernel_rfl
theorem c32:Av (EF m32) [2] 20000 (d32 E0) t32:=dk2 rfl oI qJ
def m33 (E:Env):List Sm:=(d32 E).smL a32 (p32 E) 0 (d32 E).shs++m32 E
def a33:List AV:=[(.ptr 0 0),z15]
def p33 (E:Env):Pt:=Am E 126 11 a33 [some z7,rV 215 0] []
def d33 (E:Env):Dec:=
 {g:=33,f:=126,p:=2,pts:=[p33 E],
  shs:=[{m:=2,res:=iV 0,post:=[none,rV 215 1],keep:=[0]}]}
theorem tM:Ag (EF m33) [] 20000 (d33 E0) t33 0=some (jl (d33 E0) []):=by kernel_rfl
theorem c33:Av (EF m33) [] 20000 (d33 E0) t33:=dk1 rfl tM
def m34 (E:Env):List Sm:=(d33 E).smL a33 (p33 E) 0 (d33 E).shs++m33 E
def a34:List AV:=[z16,iV 26,iV 27]
def p34 (E:Env):Pt:=Am E 54 28 a34 [some z9,some z10,rV 215 0,rV 98 3,rV 96 5,rV 101 7,some z11,some (.dmap 3 3 (.var 13)),rV 256 15,rV 225 18,some z17,some (.dmap 3 3 (.var 21)),rV 256 23] []
def d34 (E:Env):Dec:=
 {g:=34,f:=54,p:=13,pts:=[p34 E],
  shs:=[{m:=17,res:=(.tuple []),post:=[some (.cells 11 (Ac [(0,.top),(1,.top),(2,.top),(3,.top),(4,.top),(5,sV 0),(6,bV 1),(7,iV 2),(8,(.ptr 10 0)),(9,(.bool false)),(10,aV 13 2 3 4)])),some (.cells 2 (Ac [(0,.top),(1,aV 2 3 5 6)])),rV 215 5,none,none,none,some (.cells 3 (Ac [(0,iV 7),(1,(.nmap 7 (.var 8))),(2,aV 8 2 9 10)])),some (.dmap 3 3 (.var 11)),rV 256 9,none,some (.cells 3 (Ac [(0,iV 12),(1,(.nmap 14 (.var 13))),(2,aV 15 2 14 15)])),none,none,rV 225 3,some (.dmap 3 3 (.var 16)),rV 256 14],keep:=[3,4,5],keepC:=[(0,[0,1,2,3,4]),(1,[0])]}]}
theorem qO:Ag (EF m34) [] 20000 (d34 E0) t34 0=some (jl (d34 E0) []):=by kernel_rfl
theorem c34:Av (EF m34) [] 20000 (d34 E0) t34:=dk1 rfl qO
def m35 (E:Env):List Sm:=(d34 E).smL a34 (p34 E) 0 (d34 E).shs++m34 E
def a35:List AV:=[(.ptr 0 0),iV 20,iV 21]
def z23:Aj:=(.cells 11 (Ac [(0,(.ptr 2 0)),(1,sV 2),(2,aV 4 3 3 4),(3,aV 5 2 5 6),(4,aV 6 9 7 8),(5,sV 9),(6,bV 10),(7,iV 11),(8,(.ptr 7 0)),(9,bV 17),(10,aV 10 2 18 19)]))
def z24:Aj:=(.cells 2 (Ac [(0,(.bool true)),(1,aV 3 3 0 1)]))
def z25:Aj:=(.cells 3 (Ac [(0,iV 12),(1,(.nmap 8 (.var 14))),(2,aV 9 2 15 16)]))
def p35 (E:Env):Pt:=Am E 13 22 a35 [some z12,some z23,some z24,rV 215 0,rV 98 3,rV 96 5,rV 101 7,some z25,some (.dmap 3 3 (.var 13)),rV 256 15,rV 225 18] []
def d35 (E:Env):Dec:=
 {g:=35,f:=13,p:=11,pts:=[p35 E],
  shs:=[{m:=14,res:=iV 0,post:=[none,some (.cells 11 (Ac [(0,.top),(1,.top),(2,.top),(3,.top),(4,.top),(5,sV 1),(6,bV 2),(7,iV 3),(8,(.ptr 13 0)),(9,bV 4),(10,aV 14 2 5 6)])),some (.cells 2 (Ac [(0,.top),(1,aV 3 3 7 8)])),rV 215 7,none,none,none,none,none,none,none,some (.dmap 3 3 (.var 9)),rV 256 10,some (.cells 3 (Ac [(0,iV 11),(1,(.nmap 11 (.var 12))),(2,aV 12 2 10 13)])),rV 225 5],keep:=[0,4,5,6],keepC:=[(1,[0,1,2,3,4]),(2,[0])]}]}
theorem uk:Ag (EF m35) [] 20000 (d35 E0) t35 0=some (jl (d35 E0) []):=by kernel_rfl
theorem c35:Av (EF m35) [] 20000 (d35 E0) t35:=dk1 rfl uk
def m36 (E:Env):List Sm:=(d35 E).smL a35 (p35 E) 0 (d35 E).shs++m35 E
def a36:List AV:=[aV 0 3 0 1]
def p36 (E:Env):Pt:=Am E 183 2 a36 [rV 215 0] []
def d36 (E:Env):Dec:=
 {g:=36,f:=183,p:=1,pts:=[p36 E],
  shs:=[{m:=2,res:=aV 1 3 0 1,post:=[none,rV 215 0],keep:=[0]}]}
theorem oe:Ag (EF m36) [] 20000 (d36 E0) t36 0=some (jl (d36 E0) []):=by kernel_rfl
theorem c36:Av (EF m36) [] 20000 (d36 E0) t36:=dk1 rfl oe
def m37 (E:Env):List Sm:=(d36 E).smL a36 (p36 E) 0 (d36 E).shs++m36 E
def a37:List AV:=[(.ptr 0 0)]
def p37 (E:Env):Pt:=Am E 130 2 a37 [some z7,rV 215 0] []
def d37 (E:Env):Dec:=
 {g:=37,f:=130,p:=2,pts:=[p37 E],
  shs:=[{m:=2,res:=(.ptr 2 0),post:=[none,none,some z24,rV 215 0],keep:=[0,1]}]}
theorem px:Ag (EF m37) [] 20000 (d37 E0) t37 0=some (jl (d37 E0) []):=by kernel_rfl
theorem c37:Av (EF m37) [] 20000 (d37 E0) t37:=dk1 rfl px
def m38 (E:Env):List Sm:=(d37 E).smL a37 (p37 E) 0 (d37 E).shs++m37 E
def a38:List AV:=[aV 0 2 0 1]
def p38 (E:Env):Pt:=Am E 131 2 a38 [rV 225 0] []
def d38 (E:Env):Dec:=
 {g:=38,f:=131,p:=1,pts:=[p38 E],
  shs:=[{m:=2,res:=aV 1 2 0 1,post:=[none,rV 225 0],keep:=[0]}]}
theorem mC:Ag (EF m38) [] 20000 (d38 E0) t38 0=some (jl (d38 E0) []):=by kernel_rfl
theorem c38:Av (EF m38) [] 20000 (d38 E0) t38:=dk1 rfl mC
def m39 (E:Env):List Sm:=(d38 E).smL a38 (p38 E) 0 (d38 E).shs++m38 E
def a39:List AV:=[(.ptr 0 0)]
def p39 (E:Env):Pt:=Am E 58 20 a39 [some z12,some z23,some z24,rV 215 0,rV 98 3,rV 96 5,rV 101 7,some z25,some (.dmap 3 3 (.var 13)),rV 256 15,rV 225 18] []
def d39 (E:Env):Dec:=
 {g:=39,f:=58,p:=11,pts:=[p39 E],
  shs:=[{m:=20,res:=(.ptr 11 0),post:=[none,none,none,none,rV 98 0,rV 96 1,rV 101 2,none,none,none,none,some (.cells 1 (Ac [(0,(.ptr 12 0))])),some (.cells 11 (Ac [(0,(.ptr 13 0)),(1,sV 3),(2,aV 4 3 0 4),(3,aV 5 2 1 5),(4,aV 6 9 2 6),(5,sV 7),(6,bV 8),(7,iV 9),(8,(.ptr 14 0)),(9,bV 10),(10,aV 15 2 11 12)])),some (.cells 2 (Ac [(0,(.bool true)),(1,aV 16 3 13 14)])),some (.cells 3 (Ac [(0,iV 15),(1,(.nmap 17 (.var 16))),(2,aV 18 2 17 18)])),rV 225 11,rV 215 13,some (.dmap 3 3 (.var 19)),rV 256 17],keep:=[0,1,2,3,7,8,9,10]}]}
theorem qw:Ag (EF m39) [] 20000 (d39 E0) t39 0=some (jl (d39 E0) []):=by kernel_rfl
theorem c39:Av (EF m39) [] 20000 (d39 E0) t39:=dk1 rfl qw
def m40 (E:Env):List Sm:=(d39 E).smL a39 (p39 E) 0 (d39 E).shs++m39 E
def a40:List AV:=[(.asl 0 3 (.var 2) (.var 1))]
def p40 (E:Env):Pt:=Am E 111 3 a40 [rV 98 0] []
def d40 (E:Env):Dec:=
 {g:=40,f:=111,p:=1,pts:=[p40 E],
  shs:=[{m:=2,res:=aV 1 3 0 1,post:=[none,rV 98 0],keep:=[0]}]}
theorem xg:Ag (EF m40) [] 20000 (d40 E0) t40 0=some (jl (d40 E0) []):=by kernel_rfl
theorem c40:Av (EF m40) [] 20000 (d40 E0) t40:=dk1 rfl xg
def m41 (E:Env):List Sm:=(d40 E).smL a40 (p40 E) 0 (d40 E).shs++m40 E
def a41:List AV:=[(.asl 0 2 (.var 2) (.var 1))]
def p41 (E:Env):Pt:=Am E 112 3 a41 [rV 96 0] []
def d41 (E:Env):Dec:=
 {g:=41,f:=112,p:=1,pts:=[p41 E],
  shs:=[{m:=2,res:=aV 1 2 0 1,post:=[none,rV 96 0],keep:=[0]}]}
theorem qU:Ag (EF m41) [] 20000 (d41 E0) t41 0=some (jl (d41 E0) []):=by kernel_rfl
theorem c41:Av (EF m41) [] 20000 (d41 E0) t41:=dk1 rfl qU
def m42 (E:Env):List Sm:=(d41 E).smL a41 (p41 E) 0 (d41 E).shs++m41 E
def a42:List AV:=[(.asl 0 9 (.var 2) (.var 1))]
def p42 (E:Env):Pt:=Am E 113 3 a42 [rV 101 0] []
def d42 (E:Env):Dec:=
 {g:=42,f:=113,p:=1,pts:=[p42 E],
  shs:=[{m:=2,res:=aV 1 9 0 1,post:=[none,rV 101 0],keep:=[0]}]}
theorem xc:Ag (EF m42) [] 20000 (d42 E0) t42 0=some (jl (d42 E0) []):=by kernel_rfl
theorem c42:Av (EF m42) [] 20000 (d42 E0) t42:=dk1 rfl xc
def m43 (E:Env):List Sm:=(d42 E).smL a42 (p42 E) 0 (d42 E).shs++m42 E
def a43:List AV:=[(.ptr 0 0)]
def z26:Aj:=(.cells 11 (Ac [(0,(.ptr 2 0)),(1,sV 2),(2,(.asl 4 3 (.var 5) (.var 4))),(3,(.asl 5 2 (.var 8) (.var 7))),(4,(.asl 6 9 (.var 11) (.var 10))),(5,sV 12),(6,bV 13),(7,iV 14),(8,(.ptr 7 0)),(9,bV 20),(10,aV 10 2 21 22)]))
def z27:Aj:=(.cells 3 (Ac [(0,iV 15),(1,(.nmap 8 (.var 17))),(2,aV 9 2 18 19)]))
def p43 (E:Env):Pt:=Am E 59 23 a43 [some z12,some z26,some z24,rV 215 0,rV 98 3,rV 96 6,rV 101 9,some z27,some (.dmap 3 3 (.var 16)),rV 256 18,rV 225 21] []
def d43 (E:Env):Dec:=
 {g:=43,f:=59,p:=11,pts:=[p43 E],
  shs:=[{m:=4,res:=z0,post:=[none,none,none,none,none,none,none,none,none,none,none],keep:=[0,1,2,3,4,5,6,7,8,9,10]}]}
theorem pW:Ag (EF m43) [] 20000 (d43 E0) t43 0=some (jl (d43 E0) []):=by kernel_rfl
theorem c43:Av (EF m43) [] 20000 (d43 E0) t43:=dk1 rfl pW
def m44 (E:Env):List Sm:=(d43 E).smL a43 (p43 E) 0 (d43 E).shs++m43 E
def a44:List AV:=[dV 98 0,(.func (.func 184) [] [(.ptr 0 0)])]
def p44 (E:Env):Pt:=Am E 151 2 a44 [some z2] []
def d44 (E:Env):Dec:=
 {g:=44,f:=151,p:=1,pts:=[p44 E,
  Ax E 151 19 2 3 [(0,dV 98 0),(1,(.func (.func 184) [] [(.ptr 0 0)])),(7,(.si .i64 (.lenL (.var 0)))),(8,iV 1)] [some z3] [] []],
  shs:=[{m:=1,res:=iV 0,post:=[none],keep:=[0]}]}
theorem xw:Ag (EF m44) [2] 20000 (d44 E0) t44 0=some (jl (d44 E0) [1]):=by kernel_rfl
theorem nB:Ag (EF m44) [2] 20000 (d44 E0) t44 1=some (jl (d44 E0) [1]):=by kernel_rfl
theorem c44:Av (EF m44) [2] 20000 (d44 E0) t44:=dk2 rfl xw nB
def m45 (E:Env):List Sm:=(d44 E).smL a44 (p44 E) 0 (d44 E).shs++m44 E
def a45:List AV:=[dV 96 0,(.func (.func 186) [] [(.ptr 0 0)])]
def p45 (E:Env):Pt:=Am E 185 2 a45 [some z2] []
def d45 (E:Env):Dec:=
 {g:=45,f:=185,p:=1,pts:=[p45 E,
  Ax E 185 19 2 3 [(0,dV 96 0),(1,(.func (.func 186) [] [(.ptr 0 0)])),(7,(.si .i64 (.lenL (.var 0)))),(8,iV 1)] [some z3] [] []],
  shs:=[{m:=1,res:=iV 0,post:=[none],keep:=[0]}]}
theorem vD:Ag (EF m45) [2] 20000 (d45 E0) t45 0=some (jl (d45 E0) [1]):=by kernel_rfl
theorem uX:Ag (EF m45) [2] 20000 (d45 E0) t45 1=some (jl (d45 E0) [1]):=by kernel_rfl
theorem c45:Av (EF m45) [2] 20000 (d45 E0) t45:=dk2 rfl vD uX
def m46 (E:Env):List Sm:=(d45 E).smL a45 (p45 E) 0 (d45 E).shs++m45 E
def z28:AV:=(.agg [sV 4,dV 98 5,dV 96 6,dV 101 7])
def z29:AV:=(.agg [dV 103 8,dV 188 9])
def a46:List AV:=[z0,z28,z29]
def p46 (E:Env):Pt:=Am E 60 10 a46 [] []
def z30:Aj:=(.cells 4 (Ac [(0,sV 0),(1,dV 98 1),(2,dV 96 2),(3,dV 101 3)]))
def z31:Aj:=(.cells 4 (Ac [(0,sV 4),(1,dV 98 5),(2,dV 96 6),(3,dV 101 7)]))
def z32:Aj:=(.cells 2 (Ac [(0,dV 103 8),(1,dV 188 9)]))
def d46 (E:Env):Dec:=
 {g:=46,f:=60,p:=0,pts:=[p46 E,
  Ax E 60 114 7 19 [(0,z0),(1,z28),(2,z29),(3,(.ptr 0 0)),(4,(.ptr 1 0)),(5,(.ptr 2 0)),(7,(.int .i64 490)),(8,(.map 3)),(13,(.map 3)),(14,z0),(15,bV 10),(16,bV 11),(17,bV 12),(18,z28),(19,bV 13),(20,bV 14),(21,bV 15),(22,(.ptr 2 0)),(23,dV 103 8),(24,(.si .i64 (.lenL (.var 8)))),(25,bV 16),(26,(.ptr 2 0)),(27,dV 103 8),(28,(.si .i64 (.lenL (.var 8)))),(29,iV 17)] [some z30,some z31,some z32,some (.dmap 9 4 (.var 18))] [] [],
  Ax E 60 114 17 22 [(0,z0),(1,z28),(2,z29),(3,(.ptr 0 0)),(4,(.ptr 1 0)),(5,(.ptr 2 0)),(7,(.int .i64 491)),(8,(.map 3)),(13,(.map 3)),(14,z0),(15,bV 10),(16,bV 11),(17,bV 12),(18,z28),(19,bV 13),(20,bV 14),(21,bV 15),(22,(.ptr 2 0)),(23,dV 103 8),(24,(.si .i64 (.lenL (.var 8)))),(25,bV 16),(26,(.ptr 2 0)),(27,dV 103 8),(28,(.si .i64 (.lenL (.var 8)))),(29,iV 17),(30,bV 18),(57,(.map 3)),(58,(.ptr 2 1)),(59,dV 188 9),(60,(.si .i64 (.lenL (.var 9)))),(61,bV 19),(62,(.ptr 2 1)),(63,dV 188 9),(64,(.si .i64 (.lenL (.var 9)))),(65,iV 20)] [some z30,some z31,some z32,some (.dmap 9 4 (.var 21))] [] []],
  shs:=[{m:=2,res:=(.tuple [iV 0,iV 1]),post:=[],keep:=[]}]}
theorem xB:Ag (EF m46) [7,17] 20000 (d46 E0) t46 0=some (jl (d46 E0) [1]):=by kernel_rfl
theorem tV:Ag (EF m46) [7,17] 20000 (d46 E0) t46 1=some (jl (d46 E0) [1,1,2]):=by kernel_rfl
theorem pJ:Ag (EF m46) [7,17] 20000 (d46 E0) t46 2=some (jl (d46 E0) [2,2,2,2,2,2,2,2]):=by kernel_rfl
theorem c46:Av (EF m46) [7,17] 20000 (d46 E0) t46:=dk3 rfl xB tV pJ
def m47 (E:Env):List Sm:=(d46 E).smL a46 (p46 E) 0 (d46 E).shs++m46 E
def a47:List AV:=[(.func (.yield 0) [] []),(.ptr 4 0)]
def z33:Aj:=(.cells 1 (Ac [(0,aV 2 1 0 1)]))
def p47 (E:Env):Pt:=Am E 187 4 a47 [some (GE E 71 2 .ready none 14 [(2,(.ptr 1 0))] 3),some z33,rV 3 0,some (.deferred (some [])),some (.cells 1 (Ac [(0,aV 5 3 2 3)])),rV 215 2] []
def d47 (E:Env):Dec:=
 {g:=47,f:=187,p:=6,pts:=[p47 E,
  Ax E 187 20 1 5 [(0,(.func (.yield 0) [] [])),(5,aV 5 3 0 1),(6,(.si .i64 (.lenL (.var 0)))),(7,iV 2)] [some (GE E 71 2 .ready none 14 [(2,(.ptr 1 0))] 3),some (.cells 1 (Ac [(0,aV 6 1 3 4)])),none,some (.deferred (some [])),some (.cells 1 (Ac [(0,aV 5 3 0 1)])),rV 215 0,rV 3 3] [] []],
  shs:=[{m:=2,res:=(.tuple []),post:=[none,some (.cells 1 (Ac [(0,aV 6 1 0 1)])),none,none,none,none,rV 3 0],keep:=[0,3,4,5]}]}
theorem oJ:Ag (EF m47) [1] 20000 (d47 E0) t47 0=some (jl (d47 E0) [1]):=by kernel_rfl
theorem pb:Ag (EF m47) [1] 20000 (d47 E0) t47 1=some (jl (d47 E0) [1]):=by kernel_rfl
theorem c47:Av (EF m47) [1] 20000 (d47 E0) t47:=dk2 rfl oJ pb
def m48 (E:Env):List Sm:=(d47 E).smL a47 (p47 E) 0 (d47 E).shs++m47 E
def a48:List AV:=[(.ptr 0 0)]
def p48 (E:Env):Pt:=Am E 71 2 a48 [some z7,rV 215 0] []
def d48 (E:Env):Dec:=
 {g:=48,f:=71,p:=2,pts:=[p48 E],
  shs:=[{m:=2,res:=aV 2 1 0 1,post:=[none,none,rV 3 0],keep:=[0,1]}]}
theorem vf:Ag (EF m48) [] 20000 (d48 E0) t48 0=some (jl (d48 E0) []):=by kernel_rfl
theorem c48:Av (EF m48) [] 20000 (d48 E0) t48:=dk1 rfl vf
def m49 (E:Env):List Sm:=(d48 E).smL a48 (p48 E) 0 (d48 E).shs++m48 E
def a49:List AV:=[(.ptr 0 0)]
def p49 (E:Env):Pt:=Am E 22 23 a49 [some z12,some z26,some z24,rV 215 0,rV 98 3,rV 96 6,rV 101 9,some z27,some (.dmap 3 3 (.var 16)),rV 256 18,rV 225 21] []
def z34:AV:=(.agg [sV 0,dV 3 1])
def d49 (E:Env):Dec:=
 {g:=49,f:=22,p:=11,pts:=[p49 E],
  shs:=[{m:=2,res:=z34,post:=[none,none,none,none,none,none,none,none,none,none,none],keep:=[0,1,2,3,4,5,6,7,8,9,10]}]}
theorem vi:Ag (EF m49) [] 20000 (d49 E0) t49 0=some (jl (d49 E0) []):=by kernel_rfl
theorem c49:Av (EF m49) [] 20000 (d49 E0) t49:=dk1 rfl vi
def m50 (E:Env):List Sm:=(d49 E).smL a49 (p49 E) 0 (d49 E).shs++m49 E
def z35:AV:=(.agg [sV 4,dV 3 5])
def a50:List AV:=[z0,z35]
def p50 (E:Env):Pt:=Am E 73 6 a50 [] []
def z36:AV:=(.agg [iV 0,iV 1,iV 2,iV 3,iV 4])
def d50 (E:Env):Dec:=
 {g:=50,f:=73,p:=0,pts:=[p50 E,
  Ax E 73 54 5 8 [(2,(.ptr 0 0)),(3,(.ptr 1 0)),(4,(.ptr 2 0)),(27,dV 3 0),(28,(.si .i64 (.lenL (.var 0)))),(29,iV 1)] [some z1,some (.cells 2 (Ac [(0,sV 6),(1,dV 3 0)])),some (.cells 5 (Ac [(0,iV 7),(1,(.int .i64 0)),(2,(.int .i64 0)),(3,(.int .i64 0)),(4,(.int .i64 0))]))] [] []],
  shs:=[{m:=6,res:=(.tuple [z36,bV 5]),post:=[],keep:=[]}]}
theorem xY:Ag (EF m50) [5] 20000 (d50 E0) t50 0=some (jl (d50 E0) [1]):=by kernel_rfl
theorem tA:Ag (EF m50) [5] 20000 (d50 E0) t50 1=some (jl (d50 E0) [1]):=by kernel_rfl
theorem c50:Av (EF m50) [5] 20000 (d50 E0) t50:=dk2 rfl xY tA
def m51 (E:Env):List Sm:=(d50 E).smL a50 (p50 E) 0 (d50 E).shs++m50 E
def a51:List AV:=[dV 103 0,(.func (.func 147) [] [(.ptr 0 0),(.ptr 1 0)])]
def p51 (E:Env):Pt:=Am E 88 10 a51 [some (.cells 4 (Ac [(0,sV 1),(1,dV 98 2),(2,dV 96 3),(3,dV 101 4)])),some (.cells 5 (Ac [(0,iV 5),(1,iV 6),(2,iV 7),(3,iV 8),(4,iV 9)]))] []
def d51 (E:Env):Dec:=
 {g:=51,f:=88,p:=2,pts:=[p51 E,
  Ax E 88 19 2 11 [(0,dV 103 0),(1,(.func (.func 147) [] [(.ptr 0 0),(.ptr 1 0)])),(7,(.si .i64 (.lenL (.var 0)))),(8,iV 1)] [some z1,some (.cells 5 (Ac [(0,iV 6),(1,iV 7),(2,iV 8),(3,iV 9),(4,iV 10)]))] [] []],
  shs:=[{m:=1,res:=iV 0,post:=[none,none],keep:=[0,1]}]}
theorem yx:Ag (EF m51) [2] 20000 (d51 E0) t51 0=some (jl (d51 E0) [1]):=by kernel_rfl
theorem wG:Ag (EF m51) [2] 20000 (d51 E0) t51 1=some (jl (d51 E0) [1]):=by kernel_rfl
theorem c51:Av (EF m51) [2] 20000 (d51 E0) t51:=dk2 rfl yx wG
def m52 (E:Env):List Sm:=(d51 E).smL a51 (p51 E) 0 (d51 E).shs++m51 E
def a52:List AV:=[z0,z28,z29,(.agg [iV 10,iV 11,iV 12,iV 13,iV 14])]
def p52 (E:Env):Pt:=Am E 76 15 a52 [] []
def z37:Aj:=(.cells 4 (Ac [(0,sV 6),(1,dV 98 7),(2,dV 96 8),(3,dV 101 9)]))
def d52 (E:Env):Dec:=
 {g:=52,f:=76,p:=0,pts:=[p52 E,
  Ax E 76 76 6 20 [(4,(.ptr 0 0)),(5,(.ptr 1 0)),(7,(.ptr 2 0)),(8,(.ptr 3 0)),(33,dV 188 0),(34,(.si .i64 (.lenL (.var 0)))),(35,iV 1)] [some z1,some z37,some (.cells 5 (Ac [(0,iV 10),(1,iV 11),(2,iV 12),(3,iV 13),(4,iV 14)])),some (.cells 5 (Ac [(0,iV 15),(1,iV 16),(2,iV 17),(3,iV 18),(4,iV 19)]))] [] []],
  shs:=[{m:=6,res:=(.tuple [z36,iV 5]),post:=[],keep:=[]}]}
theorem uT:Ag (EF m52) [6] 20000 (d52 E0) t52 0=some (jl (d52 E0) [1]):=by kernel_rfl
theorem tU:Ag (EF m52) [6] 20000 (d52 E0) t52 1=some (jl (d52 E0) [1,1,1,1,1,1,1,1,1,1,1,1,1,1,1,1,1,1,1,1]):=by kernel_rfl
theorem c52:Av (EF m52) [6] 20000 (d52 E0) t52:=dk2 rfl uT tU
def m53 (E:Env):List Sm:=(d52 E).smL a52 (p52 E) 0 (d52 E).shs++m52 E
def z38:AV:=(.agg [sV 5,dV 98 6,dV 96 7,dV 101 8])
def a53:List AV:=[z36,z38]
def p53 (E:Env):Pt:=Am E 75 9 a53 [] []
def d53 (E:Env):Dec:=
 {g:=53,f:=75,p:=0,pts:=[p53 E],
  shs:=[{m:=2,res:=z34,post:=[],keep:=[]}]}
theorem nP:Ag (EF m53) [] 20000 (d53 E0) t53 0=some (jl (d53 E0) []):=by kernel_rfl
theorem c53:Av (EF m53) [] 20000 (d53 E0) t53:=dk1 rfl nP
def m54 (E:Env):List Sm:=(d53 E).smL a53 (p53 E) 0 (d53 E).shs++m53 E
def a54:List AV:=[z0,z28,z29,(.agg [sV 10,dV 3 11])]
def p54 (E:Env):Pt:=Am E 24 12 a54 [] []
def d54 (E:Env):Dec:=
 {g:=54,f:=24,p:=0,pts:=[p54 E],
  shs:=[{m:=3,res:=(.tuple [z34,iV 2]),post:=[],keep:=[]}]}
theorem wD:Ag (EF m54) [] 20000 (d54 E0) t54 0=some (jl (d54 E0) []):=by kernel_rfl
theorem c54:Av (EF m54) [] 20000 (d54 E0) t54:=dk1 rfl wD
def m55 (E:Env):List Sm:=(d54 E).smL a54 (p54 E) 0 (d54 E).shs++m54 E
def a55:List AV:=[(.ptr 0 0),dV 3 2]
def p55 (E:Env):Pt:=Am E 82 3 a55 [some z7,rV 215 0] []
def d55 (E:Env):Dec:=
 {g:=55,f:=82,p:=2,pts:=[p55 E,
  Ax E 82 60 6 4 [(0,(.ptr 0 0)),(1,dV 3 0),(21,dV 3 0),(22,(.si .i64 (.lenL (.var 0)))),(23,iV 1)] [some z6,rV 215 2] [] [],
  Ax E 82 60 12 5 [(0,(.ptr 0 0)),(44,dV 3 0),(45,iV 1),(46,iV 2)] [some (.cells 2 (Ac [(0,(.bool true)),(1,aV 1 3 3 4)])),rV 215 3] [] []],
  shs:=[{m:=2,res:=iV 0,post:=[none,rV 215 1],keep:=[0]}]}
theorem yj:Ag (EF m55) [6,12] 20000 (d55 E0) t55 0=some (jl (d55 E0) [1]):=by kernel_rfl
theorem mM:Ag (EF m55) [6,12] 20000 (d55 E0) t55 1=some (jl (d55 E0) [1,2]):=by kernel_rfl
theorem sR:Ag (EF m55) [6,12] 20000 (d55 E0) t55 2=some (jl (d55 E0) [2]):=by kernel_rfl
theorem c55:Av (EF m55) [6,12] 20000 (d55 E0) t55:=dk3 rfl yj mM sR
def m56 (E:Env):List Sm:=(d55 E).smL a55 (p55 E) 0 (d55 E).shs++m55 E
def a56:List AV:=[z36,z38]
def p56 (E:Env):Pt:=Am E 146 9 a56 [] []
def d56 (E:Env):Dec:=
 {g:=56,f:=146,p:=0,pts:=[p56 E],
  shs:=[{m:=3,res:=(.ptr 0 0),post:=[some (.cells 2 (Ac [(0,(.bool true)),(1,(.asl 1 3 (.var 0) (.var 1)))])),rV 215 2],keep:=[]}]}
theorem qg:Ag (EF m56) [] 20000 (d56 E0) t56 0=some (jl (d56 E0) []):=by kernel_rfl
theorem c56:Av (EF m56) [] 20000 (d56 E0) t56:=dk1 rfl qg
def m57 (E:Env):List Sm:=(d56 E).smL a56 (p56 E) 0 (d56 E).shs++m56 E
def a57:List AV:=[z36,z38]
def p57 (E:Env):Pt:=Am E 135 9 a57 [] []
def d57 (E:Env):Dec:=
 {g:=57,f:=135,p:=0,pts:=[p57 E,
  Ax E 135 46 3 15 [(2,(.ptr 0 0)),(3,(.ptr 1 0)),(4,aV 4 1 0 1),(5,(.ptr 2 0)),(14,dV 101 2),(15,(.si .i64 (.lenL (.var 2)))),(16,iV 3)] [some (.cells 5 (Ac [(0,iV 4),(1,iV 5),(2,iV 6),(3,iV 7),(4,iV 8)])),some (.cells 4 (Ac [(0,sV 9),(1,dV 98 10),(2,dV 96 11),(3,dV 101 2)])),some (.cells 2 (Ac [(0,(.bool true)),(1,(.asl 3 3 (.var 12) (.var 13)))])),rV 215 14,rV 3 0] [] []],
  shs:=[{m:=2,res:=aV 0 1 0 1,post:=[rV 3 0],keep:=[]}]}
theorem ub:Ag (EF m57) [3] 20000 (d57 E0) t57 0=some (jl (d57 E0) [1]):=by kernel_rfl
theorem sn:Ag (EF m57) [3] 20000 (d57 E0) t57 1=some (jl (d57 E0) [1,1,1]):=by kernel_rfl
theorem c57:Av (EF m57) [3] 20000 (d57 E0) t57:=dk2 rfl ub sn
def m58 (E:Env):List Sm:=(d57 E).smL a57 (p57 E) 0 (d57 E).shs++m57 E
def a58:List AV:=[z0,z35]
def p58 (E:Env):Pt:=Am E 61 6 a58 [] []
def d58 (E:Env):Dec:=
 {g:=58,f:=61,p:=0,pts:=[p58 E],
  shs:=[{m:=3,res:=(.tuple [aV 0 1 0 1,iV 2]),post:=[rV 3 0],keep:=[]}]}
theorem vO:Ag (EF m58) [] 20000 (d58 E0) t58 0=some (jl (d58 E0) []):=by kernel_rfl
theorem c58:Av (EF m58) [] 20000 (d58 E0) t58:=dk1 rfl vO
def m59 (E:Env):List Sm:=(d58 E).smL a58 (p58 E) 0 (d58 E).shs++m58 E
def a59:List AV:=[aV 0 1 0 1,iV 2]
def p59 (E:Env):Pt:=Am E 145 3 a59 [rV 3 0] []
def d59 (E:Env):Dec:=
 {g:=59,f:=145,p:=1,pts:=[p59 E,
  Ax E 145 19 2 4 [(0,aV 0 1 0 1),(1,iV 2),(7,(.si .i64 (.lenL (.var 0)))),(8,iV 3)] [rV 3 0] [] []],
  shs:=[{m:=1,res:=iV 0,post:=[none],keep:=[0]}]}
theorem wF:Ag (EF m59) [2] 20000 (d59 E0) t59 0=some (jl (d59 E0) [1]):=by kernel_rfl
theorem sa:Ag (EF m59) [2] 20000 (d59 E0) t59 1=some (jl (d59 E0) [1]):=by kernel_rfl
theorem c59:Av (EF m59) [2] 20000 (d59 E0) t59:=dk2 rfl wF sa
def m60 (E:Env):List Sm:=(d59 E).smL a59 (p59 E) 0 (d59 E).shs++m59 E
def a60:List AV:=[z36,z38,iV 9]
def p60 (E:Env):Pt:=Am E 74 10 a60 [] []
def d60 (E:Env):Dec:=
 {g:=60,f:=74,p:=0,pts:=[p60 E],
  shs:=[{m:=5,res:=z36,post:=[],keep:=[]}]}
theorem tR:Ag (EF m60) [] 20000 (d60 E0) t60 0=some (jl (d60 E0) []):=by kernel_rfl
theorem c60:Av (EF m60) [] 20000 (d60 E0) t60:=dk1 rfl tR
def m61 (E:Env):List Sm:=(d60 E).smL a60 (p60 E) 0 (d60 E).shs++m60 E
def a61:List AV:=[z0,z35,iV 6]
def p61 (E:Env):Pt:=Am E 23 7 a61 [] []
def d61 (E:Env):Dec:=
 {g:=61,f:=23,p:=0,pts:=[p61 E],
  shs:=[{m:=3,res:=(.tuple [z34,iV 2]),post:=[],keep:=[]}]}
theorem vC:Ag (EF m61) [] 20000 (d61 E0) t61 0=some (jl (d61 E0) []):=by kernel_rfl
theorem c61:Av (EF m61) [] 20000 (d61 E0) t61:=dk1 rfl vC
def m62 (E:Env):List Sm:=(d61 E).smL a61 (p61 E) 0 (d61 E).shs++m61 E
def a62:List AV:=[dV 3 0,dV 3 1]
def p62 (E:Env):Pt:=Am E 63 2 a62 [] []
def d62 (E:Env):Dec:=
 {g:=62,f:=63,p:=0,pts:=[p62 E,
  Ax E 63 26 4 3 [(0,dV 3 0),(1,dV 3 1),(12,(.si .i64 (.lenL (.var 0)))),(13,iV 2)] [] [] []],
  shs:=[{m:=1,res:=bV 0,post:=[],keep:=[]}]}
theorem vK:Ag (EF m62) [4] 20000 (d62 E0) t62 0=some (jl (d62 E0) [1]):=by kernel_rfl
theorem mt:Ag (EF m62) [4] 20000 (d62 E0) t62 1=some (jl (d62 E0) [1]):=by kernel_rfl
theorem c62:Av (EF m62) [4] 20000 (d62 E0) t62:=dk2 rfl vK mt
def m63 (E:Env):List Sm:=(d62 E).smL a62 (p62 E) 0 (d62 E).shs++m62 E
def a63:List AV:=[aV 0 3 0 1,(.func (.func 62) [] [(.ptr 1 0)])]
def z39:Aj:=(.cells 2 (Ac [(0,sV 2),(1,dV 3 3)]))
def p63 (E:Env):Pt:=Am E 136 4 a63 [rV 143 0,some z39] []
def z40:Aj:=(.cells 2 (Ac [(0,sV 3),(1,dV 3 4)]))
def d63 (E:Env):Dec:=
 {g:=63,f:=136,p:=2,pts:=[p63 E,
  Ax E 136 19 2 5 [(0,aV 0 3 0 1),(1,(.func (.func 62) [] [(.ptr 1 0)])),(7,(.si .i64 (.lenL (.var 0)))),(8,iV 2)] [rV 143 0,some z40] [] []],
  shs:=[{m:=1,res:=iV 0,post:=[none,none],keep:=[0,1]}]}
theorem nW:Ag (EF m63) [2] 20000 (d63 E0) t63 0=some (jl (d63 E0) [1]):=by kernel_rfl
theorem qD:Ag (EF m63) [2] 20000 (d63 E0) t63 1=some (jl (d63 E0) [1,1]):=by kernel_rfl
theorem c63:Av (EF m63) [2] 20000 (d63 E0) t63:=dk2 rfl nW qD
def m64 (E:Env):List Sm:=(d63 E).smL a63 (p63 E) 0 (d63 E).shs++m63 E
def a64:List AV:=[aV 0 3 0 1,(.func (.func 62) [] [(.ptr 1 0)])]
def p64 (E:Env):Pt:=Am E 64 4 a64 [rV 143 0,some z39] []
def d64 (E:Env):Dec:=
 {g:=64,f:=64,p:=2,pts:=[p64 E],
  shs:=[{m:=1,res:=bV 0,post:=[none,none],keep:=[0,1]}]}
theorem nf:Ag (EF m64) [] 20000 (d64 E0) t64 0=some (jl (d64 E0) []):=by kernel_rfl
theorem c64:Av (EF m64) [] 20000 (d64 E0) t64:=dk1 rfl nf
def m65 (E:Env):List Sm:=(d64 E).smL a64 (p64 E) 0 (d64 E).shs++m64 E
def a65:List AV:=[(.ptr 0 0),(.agg [sV 20,dV 98 21,dV 96 22,dV 101 23]),(.agg [dV 103 24,dV 188 25])]
def p65 (E:Env):Pt:=Am E 15 26 a65 [some z12,some z23,some z24,rV 215 0,rV 98 3,rV 96 5,rV 101 7,some z25,some (.dmap 3 3 (.var 13)),rV 256 15,rV 225 18] []
def d65 (E:Env):Dec:=
 {g:=65,f:=15,p:=11,pts:=[p65 E,
  Ax E 15 129 10 37 [(4,(.ptr 11 0)),(5,(.ptr 12 0)),(8,(.ptr 13 0)),(11,aV 14 3 0 1),(12,iV 2),(13,iV 3)] [some z12,some (.cells 11 (Ac [(0,(.ptr 2 0)),(1,sV 4),(2,(.asl 4 3 (.var 5) (.var 6))),(3,(.asl 5 2 (.var 7) (.var 8))),(4,(.asl 6 9 (.var 9) (.var 10))),(5,sV 11),(6,bV 12),(7,iV 13),(8,(.ptr 7 0)),(9,bV 14),(10,aV 10 2 15 16)])),some (.cells 2 (Ac [(0,(.bool true)),(1,aV 3 3 17 18)])),rV 215 17,rV 98 19,rV 96 20,rV 101 21,some (.cells 3 (Ac [(0,iV 22),(1,(.nmap 8 (.var 23))),(2,aV 9 2 24 25)])),some (.dmap 3 3 (.var 26)),rV 256 24,rV 225 15,some (.cells 4 (Ac [(0,sV 27),(1,dV 98 28),(2,dV 96 29),(3,dV 101 30)])),some (.cells 2 (Ac [(0,dV 103 31),(1,dV 188 32)])),some (.cells 4 (Ac [(0,sV 33),(1,dV 98 34),(2,dV 96 35),(3,dV 101 36)])),rV 143 0] [] [],
  Ax E 15 129 17 41 [(4,(.ptr 11 0)),(5,(.ptr 12 0)),(8,(.ptr 13 0)),(11,aV 14 3 0 1),(12,iV 2),(13,iV 3),(77,aV 15 1 4 5),(78,iV 6),(79,iV 7)] [some z12,some (.cells 11 (Ac [(0,(.ptr 2 0)),(1,sV 8),(2,(.asl 4 3 (.var 9) (.var 10))),(3,(.asl 5 2 (.var 11) (.var 12))),(4,(.asl 6 9 (.var 13) (.var 14))),(5,sV 15),(6,bV 16),(7,iV 17),(8,(.ptr 7 0)),(9,bV 18),(10,aV 10 2 19 20)])),some (.cells 2 (Ac [(0,(.bool true)),(1,aV 3 3 21 22)])),rV 215 21,rV 98 23,rV 96 24,rV 101 25,some (.cells 3 (Ac [(0,iV 26),(1,(.nmap 8 (.var 27))),(2,aV 9 2 28 29)])),some (.dmap 3 3 (.var 30)),rV 256 28,rV 225 19,some (.cells 4 (Ac [(0,sV 31),(1,dV 98 32),(2,dV 96 33),(3,dV 101 34)])),some (.cells 2 (Ac [(0,dV 103 35),(1,dV 188 36)])),some (.cells 4 (Ac [(0,sV 37),(1,dV 98 38),(2,dV 96 39),(3,dV 101 40)])),rV 143 0,rV 3 4] [] []],
  shs:=[{m:=4,res:=(.tuple [.slice0,iV 0]),post:=[none,none,none,none,rV 98 1,rV 96 2,rV 101 3,none,none,none,none],keep:=[0,1,2,3,7,8,9,10]},{m:=4,res:=(.tuple [dV 3 0,(.int .i64 0)]),post:=[none,none,none,none,rV 98 1,rV 96 2,rV 101 3,none,none,none,none],keep:=[0,1,2,3,7,8,9,10]}]}
theorem yk:Ag (EF m65) [10,17] 20000 (d65 E0) t65 0=some (jl (d65 E0) [1]):=by kernel_rfl
theorem nh:Ag (EF m65) [10,17] 20000 (d65 E0) t65 1=some (jl (d65 E0) [2,2,2]):=by kernel_rfl
theorem qV:Ag (EF m65) [10,17] 20000 (d65 E0) t65 2=some (jl (d65 E0) [2,2,2,1]):=by kernel_rfl
theorem c65:Av (EF m65) [10,17] 20000 (d65 E0) t65:=dk3 rfl yk nh qV
def m66 (E:Env):List Sm:=(d65 E).smL a65 (p65 E) 0 (d65 E).shs++m65 E
def a66:List AV:=[(.ptr 0 0)]
def p66 (E:Env):Pt:=Am E 32 23 a66 [some z12,some z26,some z24,rV 215 0,rV 98 3,rV 96 6,rV 101 9,some z27,some (.dmap 3 3 (.var 16)),rV 256 18,rV 225 21] []
def d66 (E:Env):Dec:=
 {g:=66,f:=32,p:=11,pts:=[p66 E],
  shs:=[{m:=1,res:=iV 0,post:=[none,none,none,none,none,none,none,none,none,none,none],keep:=[0,1,2,3,4,5,6,7,8,9,10]}]}
theorem tJ:Ag (EF m66) [] 20000 (d66 E0) t66 0=some (jl (d66 E0) []):=by kernel_rfl
theorem c66:Av (EF m66) [] 20000 (d66 E0) t66:=dk1 rfl tJ
def m67 (E:Env):List Sm:=(d66 E).smL a66 (p66 E) 0 (d66 E).shs++m66 E
def a67:List AV:=[(.ptr 0 0),(.agg [iV 3,iV 4,iV 5,iV 6,iV 7])]
def p67 (E:Env):Pt:=Am E 220 8 a67 [some (.cells 2 (Ac [(0,aV 1 5 0 1),(1,(.map 2))])),rV 166 0,some (.dmap 166 4 (.var 2))] []
def d67 (E:Env):Dec:=
 {g:=67,f:=220,p:=3,pts:=[p67 E],
  shs:=[{m:=3,res:=(.tuple []),post:=[some (.cells 2 (Ac [(0,aV 3 5 0 1),(1,.top)])),none,some (.dmap 166 4 (.var 2)),rV 166 0],keep:=[],keepC:=[(0,[1])]}]}
theorem ri:Ag (EF m67) [] 20000 (d67 E0) t67 0=some (jl (d67 E0) []):=by kernel_rfl
theorem c67:Av (EF m67) [] 20000 (d67 E0) t67:=dk1 rfl ri
def m68 (E:Env):List Sm:=(d67 E).smL a67 (p67 E) 0 (d67 E).shs++m67 E
def a68:List AV:=[z36,(.func (.func 220) [(.ptr 0 0)] []),(.ptr 3 0)]
def p68 (E:Env):Pt:=Am E 206 12 a68 [some (.cells 2 (Ac [(0,aV 1 5 5 6),(1,(.map 2))])),rV 166 5,some (.dmap 166 4 (.var 7)),some (.cells 4 (Ac [(0,sV 8),(1,dV 98 9),(2,dV 96 10),(3,dV 101 11)]))] []
def z41:Aj:=(.cells 4 (Ac [(0,sV 7),(1,dV 98 8),(2,dV 96 9),(3,dV 101 10)]))
def d68 (E:Env):Dec:=
 {g:=68,f:=206,p:=4,pts:=[p68 E,
  Ax E 206 23 2 16 [(1,(.func (.func 220) [(.ptr 0 0)] [])),(2,(.ptr 3 0)),(3,(.ptr 4 0)),(10,aV 5 1 0 1),(11,iV 2),(12,iV 3)] [some (.cells 2 (Ac [(0,aV 6 5 4 5),(1,(.map 2))])),none,some (.dmap 166 4 (.var 6)),some z41,some (.cells 5 (Ac [(0,iV 11),(1,iV 12),(2,iV 13),(3,iV 14),(4,iV 15)])),rV 3 0,rV 166 4] [] []],
  shs:=[{m:=3,res:=(.bool false),post:=[some (.cells 2 (Ac [(0,aV 4 5 0 1),(1,.top)])),none,some (.dmap 166 4 (.var 2)),none,rV 166 0],keep:=[3],keepC:=[(0,[1])]}]}
theorem oX:Ag (EF m68) [2] 20000 (d68 E0) t68 0=some (jl (d68 E0) [1]):=by kernel_rfl
theorem rQ:Ag (EF m68) [2] 20000 (d68 E0) t68 1=some (jl (d68 E0) [1]):=by kernel_rfl
theorem c68:Av (EF m68) [2] 20000 (d68 E0) t68:=dk2 rfl oX rQ
def m69 (E:Env):List Sm:=(d68 E).smL a68 (p68 E) 0 (d68 E).shs++m68 E
def a69:List AV:=[aV 0 5 0 1,iV 2,(.func (.func 206) [] [(.ptr 1 0)])]
def p69 (E:Env):Pt:=Am E 205 7 a69 [rV 166 0,some z4] []
def d69 (E:Env):Dec:=
 {g:=69,f:=205,p:=2,pts:=[p69 E,
  Ax E 205 65 3 11 [(1,iV 0),(2,(.func (.func 206) [] [(.ptr 1 0)])),(8,(.ptr 2 0)),(15,aV 0 5 1 2),(16,(.si .i64 (.lenL (.var 1)))),(17,iV 3)] [rV 166 1,some z31,some (.cells 2 (Ac [(0,aV 4 5 8 9),(1,(.map 3))])),some (.dmap 166 4 (.var 10)),rV 166 8] [] [],
  Ax E 205 65 8 10 [(1,iV 0),(2,(.func (.func 206) [] [(.ptr 1 0)])),(8,(.ptr 2 0)),(11,iV 1)] [rV 166 2,some z4,some (.cells 2 (Ac [(0,aV 4 5 7 8),(1,(.map 3))])),some (.dmap 166 4 (.var 9)),rV 166 7] [] []],
  shs:=[{m:=3,res:=(.tuple [aV 2 5 0 1,bV 2]),post:=[none,none,rV 166 0],keep:=[0,1]}]}
theorem ro:Ag (EF m69) [3,8] 20000 (d69 E0) t69 0=some (jl (d69 E0) [1]):=by kernel_rfl
theorem rW:Ag (EF m69) [3,8] 20000 (d69 E0) t69 1=some (jl (d69 E0) [1,2]):=by kernel_rfl
theorem uN:Ag (EF m69) [3,8] 20000 (d69 E0) t69 2=some (jl (d69 E0) [2]):=by kernel_rfl
theorem c69:Av (EF m69) [3,8] 20000 (d69 E0) t69:=dk3 rfl ro rW uN
def m70 (E:Env):List Sm:=(d69 E).smL a69 (p69 E) 0 (d69 E).shs++m69 E
def a70:List AV:=[(.ptr 0 0),(.agg [iV 3,iV 4,iV 5,iV 6,iV 7,iV 8,iV 9,iV 10,iV 11,iV 12])]
def p70 (E:Env):Pt:=Am E 207 13 a70 [some (.cells 2 (Ac [(0,aV 1 10 0 1),(1,(.map 2))])),rV 300 0,some (.dmap 300 4 (.var 2))] []
def d70 (E:Env):Dec:=
 {g:=70,f:=207,p:=3,pts:=[p70 E],
  shs:=[{m:=3,res:=(.tuple []),post:=[some (.cells 2 (Ac [(0,aV 3 10 0 1),(1,.top)])),none,some (.dmap 300 4 (.var 2)),rV 300 0],keep:=[],keepC:=[(0,[1])]}]}
theorem wk:Ag (EF m70) [] 20000 (d70 E0) t70 0=some (jl (d70 E0) []):=by kernel_rfl
theorem c70:Av (EF m70) [] 20000 (d70 E0) t70:=dk1 rfl wk
def m71 (E:Env):List Sm:=(d70 E).smL a70 (p70 E) 0 (d70 E).shs++m70 E
def a71:List AV:=[aV 0 1 0 1,(.func (.func 224) [] [(.ptr 1 0),(.ptr 2 0)])]
def z42:Aj:=(.cells 1 (Ac [(0,bV 6)]))
def p71 (E:Env):Pt:=Am E 232 7 a71 [rV 3 0,some z1,some z42] []
def d71 (E:Env):Dec:=
 {g:=71,f:=232,p:=3,pts:=[p71 E,
  Ax E 232 19 2 8 [(0,aV 0 1 0 1),(1,(.func (.func 224) [] [(.ptr 1 0),(.ptr 2 0)])),(7,(.si .i64 (.lenL (.var 0)))),(8,iV 2)] [rV 3 0,some z4,some (.cells 1 (Ac [(0,bV 7)]))] [] []],
  shs:=[{m:=1,res:=iV 0,post:=[none,none,none],keep:=[0,1,2]}]}
theorem rm:Ag (EF m71) [2] 20000 (d71 E0) t71 0=some (jl (d71 E0) [1]):=by kernel_rfl
theorem yA:Ag (EF m71) [2] 20000 (d71 E0) t71 1=some (jl (d71 E0) [1,1]):=by kernel_rfl
theorem c71:Av (EF m71) [2] 20000 (d71 E0) t71:=dk2 rfl rm yA
def m72 (E:Env):List Sm:=(d71 E).smL a71 (p71 E) 0 (d71 E).shs++m71 E
def a72:List AV:=[aV 0 1 0 1,(.func (.func 224) [] [(.ptr 1 0),(.ptr 2 0)])]
def p72 (E:Env):Pt:=Am E 223 7 a72 [rV 3 0,some z1,some z42] []
def d72 (E:Env):Dec:=
 {g:=72,f:=223,p:=3,pts:=[p72 E,
  Ax E 223 42 5 9 [(0,aV 0 1 0 1),(1,(.func (.func 224) [] [(.ptr 1 0),(.ptr 2 0)])),(5,iV 2),(6,iV 3)] [rV 3 0,some z31,some (.cells 1 (Ac [(0,bV 8)]))] [] []],
  shs:=[{m:=2,res:=aV 0 1 0 1,post:=[rV 3 0,none,none],keep:=[1,2]}]}
theorem nZ:Ag (EF m72) [5] 20000 (d72 E0) t72 0=some (jl (d72 E0) [1]):=by kernel_rfl
theorem yp:Ag (EF m72) [5] 20000 (d72 E0) t72 1=some (jl (d72 E0) [1,1,1,1]):=by kernel_rfl
theorem c72:Av (EF m72) [5] 20000 (d72 E0) t72:=dk2 rfl nZ yp
def m73 (E:Env):List Sm:=(d72 E).smL a72 (p72 E) 0 (d72 E).shs++m72 E
def a73:List AV:=[aV 0 1 0 1,(.func (.func 230) [] [(.ptr 1 0),(.ptr 2 0),(.ptr 3 0)])]
def p73 (E:Env):Pt:=Am E 232 11 a73 [rV 3 0,some z1,some z37,some (.cells 1 (Ac [(0,iV 10)]))] []
def d73 (E:Env):Dec:=
 {g:=73,f:=232,p:=4,pts:=[p73 E,
  Ax E 232 19 2 12 [(0,aV 0 1 0 1),(1,(.func (.func 230) [] [(.ptr 1 0),(.ptr 2 0),(.ptr 3 0)])),(7,(.si .i64 (.lenL (.var 0)))),(8,iV 2)] [rV 3 0,some z4,some z41,some (.cells 1 (Ac [(0,iV 11)]))] [] []],
  shs:=[{m:=1,res:=iV 0,post:=[none,none,none,none],keep:=[0,1,2,3]}]}
theorem rK:Ag (EF m73) [2] 20000 (d73 E0) t73 0=some (jl (d73 E0) [1]):=by kernel_rfl
theorem tt:Ag (EF m73) [2] 20000 (d73 E0) t73 1=some (jl (d73 E0) [1]):=by kernel_rfl
theorem c73:Av (EF m73) [2] 20000 (d73 E0) t73:=dk2 rfl rK tt
def m74 (E:Env):List Sm:=(d73 E).smL a73 (p73 E) 0 (d73 E).shs++m73 E
def a74:List AV:=[z0,aV 0 1 4 5,(.agg [sV 6,dV 98 7,dV 96 8,dV 101 9]),aV 1 1 10 11]
def p74 (E:Env):Pt:=Am E 221 12 a74 [rV 3 4,rV 3 10] []
def d74 (E:Env):Dec:=
 {g:=74,f:=221,p:=2,pts:=[p74 E,
  Ax E 221 26 2 13 [(3,aV 1 1 0 1),(4,(.ptr 2 0)),(6,(.ptr 3 0)),(13,aV 0 1 2 3),(14,(.si .i64 (.lenL (.var 2)))),(15,iV 4)] [rV 3 2,rV 3 0,some (.cells 4 (Ac [(0,sV 5),(1,dV 98 6),(2,dV 96 7),(3,dV 101 8)])),some (.cells 4 (Ac [(0,sV 9),(1,dV 98 10),(2,dV 96 11),(3,dV 101 12)]))] [] []],
  shs:=[{m:=2,res:=(.tuple [iV 0,bV 1]),post:=[none,none],keep:=[0,1]}]}
theorem pr:Ag (EF m74) [2] 20000 (d74 E0) t74 0=some (jl (d74 E0) [1]):=by kernel_rfl
theorem rI:Ag (EF m74) [2] 20000 (d74 E0) t74 1=some (jl (d74 E0) [1]):=by kernel_rfl
theorem c74:Av (EF m74) [2] 20000 (d74 E0) t74:=dk2 rfl pr rI
def m75 (E:Env):List Sm:=(d74 E).smL a74 (p74 E) 0 (d74 E).shs++m74 E
def z43:AV:=(.agg [iV 14,iV 15,iV 16,iV 17,iV 18,iV 19,iV 20,iV 21,iV 22,iV 23])
def a75:List AV:=[(.ptr 0 0),z43,bV 24]
def z44:Aj:=(.cells 14 (Ac [(0,sV 0),(1,dV 98 1),(2,dV 96 2),(3,dV 101 3),(4,sV 4),(5,dV 98 5),(6,dV 96 6),(7,dV 101 7),(8,sV 8),(9,dV 3 9),(10,sV 10),(11,dV 3 11),(12,iV 12),(13,iV 13)]))
def p75 (E:Env):Pt:=Am E 211 25 a75 [some z44] []
def d75 (E:Env):Dec:=
 {g:=75,f:=211,p:=1,pts:=[p75 E],
  shs:=[{m:=4,res:=(.tuple [aV 1 1 0 1,aV 2 1 2 3]),post:=[none,rV 3 0,rV 3 2],keep:=[0]}]}
theorem yq:Ag (EF m75) [] 20000 (d75 E0) t75 0=some (jl (d75 E0) []):=by kernel_rfl
theorem c75:Av (EF m75) [] 20000 (d75 E0) t75:=dk1 rfl yq
def m76 (E:Env):List Sm:=(d75 E).smL a75 (p75 E) 0 (d75 E).shs++m75 E
def a76:List AV:=[(.ptr 0 0),z43]
def p76 (E:Env):Pt:=Am E 208 24 a76 [some z44] []
def d76 (E:Env):Dec:=
 {g:=76,f:=208,p:=1,pts:=[p76 E],
  shs:=[{m:=2,res:=(.tuple [iV 0,iV 1]),post:=[none],keep:=[0]}]}
theorem wW:Ag (EF m76) [] 20000 (d76 E0) t76 0=some (jl (d76 E0) []):=by kernel_rfl
theorem c76:Av (EF m76) [] 20000 (d76 E0) t76:=dk1 rfl wW
def m77 (E:Env):List Sm:=(d76 E).smL a76 (p76 E) 0 (d76 E).shs++m76 E
def a77:List AV:=[(.ptr 0 0),z43,(.func (.func 207) [(.ptr 1 0)] [])]
def p77 (E:Env):Pt:=Am E 190 27 a77 [some z44,some (.cells 2 (Ac [(0,aV 2 10 24 25),(1,(.map 3))])),rV 300 24,some (.dmap 300 4 (.var 26))] []
def z45:Aj:=(.cells 14 (Ac [(0,sV 6),(1,dV 98 7),(2,dV 96 8),(3,dV 101 9),(4,sV 10),(5,dV 98 11),(6,dV 96 12),(7,dV 101 13),(8,sV 14),(9,dV 3 15),(10,sV 16),(11,dV 3 17),(12,iV 18),(13,iV 19)]))
def z46:Aj:=(.cells 2 (Ac [(0,aV 9 10 20 21),(1,(.map 3))]))
def z47:Aj:=(.cells 1 (Ac [(0,(.ptr 0 0))]))
def z48:Aj:=(.cells 10 (Ac [(0,iV 23),(1,iV 24),(2,iV 25),(3,iV 26),(4,iV 27),(5,iV 28),(6,iV 29),(7,iV 30),(8,iV 31),(9,iV 32)]))
def z49:Aj:=(.cells 1 (Ac [(0,(.func (.func 207) [(.ptr 1 0)] []))]))
def z50:Aj:=(.cells 14 (Ac [(0,sV 8),(1,dV 98 9),(2,dV 96 10),(3,dV 101 11),(4,sV 12),(5,dV 98 13),(6,dV 96 14),(7,dV 101 15),(8,sV 16),(9,dV 3 17),(10,sV 18),(11,dV 3 19),(12,iV 20),(13,iV 21)]))
def z51:Aj:=(.cells 2 (Ac [(0,aV 9 10 22 23),(1,(.map 3))]))
def z52:Aj:=(.cells 10 (Ac [(0,iV 25),(1,iV 26),(2,iV 27),(3,iV 28),(4,iV 29),(5,iV 30),(6,iV 31),(7,iV 32),(8,iV 33),(9,iV 34)]))
def d77 (E:Env):Dec:=
 {g:=77,f:=190,p:=4,pts:=[p77 E,
  Ax E 190 97 8 33 [(3,(.ptr 4 0)),(4,(.ptr 5 0)),(9,(.func (.func 209) [] [(.ptr 4 0),(.ptr 6 0),(.ptr 5 0)])),(11,aV 7 1 0 1),(55,aV 8 1 2 3),(56,iV 4),(57,iV 5)] [some z45,some z46,none,some (.dmap 300 4 (.var 22)),some z47,some z48,some z49,rV 3 0,rV 3 2,rV 300 20] [] [],
  Ax E 190 97 11 35 [(3,(.ptr 4 0)),(4,(.ptr 5 0)),(9,(.func (.func 209) [] [(.ptr 4 0),(.ptr 6 0),(.ptr 5 0)])),(11,aV 7 1 0 1),(13,iV 2),(55,aV 8 1 3 4),(56,iV 5),(57,iV 6),(61,aV 7 1 0 1),(62,(.si .i64 (.lenL (.var 0)))),(63,iV 7)] [some z50,some z51,none,some (.dmap 300 4 (.var 24)),some z47,some z52,some z49,rV 3 0,rV 3 3,rV 300 22] [] [],
  Ax E 190 97 18 33 [(9,(.func (.func 209) [] [(.ptr 4 0),(.ptr 5 0),(.ptr 6 0)])),(10,aV 7 1 0 1),(79,aV 8 1 2 3),(80,iV 4),(81,iV 5)] [some z45,some z46,none,some (.dmap 300 4 (.var 22)),some z47,some z49,some z48,rV 3 0,rV 3 2,rV 300 20] [] [],
  Ax E 190 97 21 35 [(9,(.func (.func 209) [] [(.ptr 4 0),(.ptr 5 0),(.ptr 6 0)])),(10,aV 7 1 0 1),(17,iV 2),(79,aV 8 1 3 4),(80,iV 5),(81,iV 6),(85,aV 7 1 0 1),(86,(.si .i64 (.lenL (.var 0)))),(87,iV 7)] [some z50,some z51,none,some (.dmap 300 4 (.var 24)),some z47,some z49,some z52,rV 3 0,rV 3 3,rV 300 22] [] []],
  shs:=[{m:=10,res:=bV 0,post:=[some (.cells 14 (Ac [(0,.top),(1,.top),(2,.top),(3,.top),(4,.top),(5,.top),(6,.top),(7,.top),(8,sV 1),(9,dV 3 2),(10,sV 3),(11,dV 3 4),(12,iV 5),(13,iV 6)])),some (.cells 2 (Ac [(0,aV 4 10 7 8),(1,.top)])),none,some (.dmap 300 4 (.var 9)),rV 300 7],keep:=[],keepC:=[(0,[0,1,2,3,4,5,6,7]),(1,[1])]}]}
theorem oo:Ag (EF m77) [8,11,18,21] 20000 (d77 E0) t77 0=some (jl (d77 E0) [1]):=by kernel_rfl
theorem pK:Ag (EF m77) [8,11,18,21] 20000 (d77 E0) t77 1=some (jl (d77 E0) [2,3]):=by kernel_rfl
theorem yo:Ag (EF m77) [8,11,18,21] 20000 (d77 E0) t77 2=some (jl (d77 E0) [2,2,1]):=by kernel_rfl
theorem pN:Ag (EF m77) [8,11,18,21] 20000 (d77 E0) t77 3=some (jl (d77 E0) [4]):=by kernel_rfl
theorem nD:Ag (EF m77) [8,11,18,21] 20000 (d77 E0) t77 4=some (jl (d77 E0) [4,4,3]):=by kernel_rfl
theorem c77:Av (EF m77) [8,11,18,21] 20000 (d77 E0) t77:=dk5 rfl oo pK yo pN nD
def m78 (E:Env):List Sm:=(d77 E).smL a77 (p77 E) 0 (d77 E).shs++m77 E
def a78:List AV:=[aV 0 10 0 1,iV 2,(.func (.func 190) [(.ptr 1 0)] [])]
def p78 (E:Env):Pt:=Am E 189 19 a78 [rV 300 0,some (.cells 14 (Ac [(0,sV 3),(1,dV 98 4),(2,dV 96 5),(3,dV 101 6),(4,sV 7),(5,dV 98 8),(6,dV 96 9),(7,dV 101 10),(8,sV 11),(9,aV 2 1 12 13),(10,sV 14),(11,aV 3 1 15 16),(12,iV 17),(13,iV 18)])),rV 3 12,rV 3 15] []
def d78 (E:Env):Dec:=
 {g:=78,f:=189,p:=4,pts:=[p78 E,
  Ax E 189 65 3 23 [(1,iV 0),(2,(.func (.func 190) [(.ptr 1 0)] [])),(8,(.ptr 4 0)),(15,aV 0 10 1 2),(16,(.si .i64 (.lenL (.var 1)))),(17,iV 3)] [rV 300 1,some (.cells 14 (Ac [(0,sV 4),(1,dV 98 5),(2,dV 96 6),(3,dV 101 7),(4,sV 8),(5,dV 98 9),(6,dV 96 10),(7,dV 101 11),(8,sV 12),(9,aV 2 1 13 14),(10,sV 15),(11,aV 3 1 16 17),(12,iV 18),(13,iV 19)])),rV 3 13,rV 3 16,some (.cells 2 (Ac [(0,aV 6 10 20 21),(1,(.map 5))])),some (.dmap 300 4 (.var 22)),rV 300 20] [] [],
  Ax E 189 65 8 20 [(1,iV 0),(2,(.func (.func 190) [(.ptr 1 0)] [])),(8,(.ptr 4 0)),(11,iV 1)] [rV 300 2,some (.cells 14 (Ac [(0,sV 3),(1,dV 98 4),(2,dV 96 5),(3,dV 101 6),(4,sV 7),(5,dV 98 8),(6,dV 96 9),(7,dV 101 10),(8,sV 11),(9,dV 3 12),(10,sV 13),(11,dV 3 14),(12,iV 15),(13,iV 16)])),none,none,some (.cells 2 (Ac [(0,aV 6 10 17 18),(1,(.map 5))])),some (.dmap 300 4 (.var 19)),rV 300 17] [] []],
  shs:=[{m:=9,res:=(.tuple [aV 4 10 0 1,bV 2]),post:=[none,some (.cells 14 (Ac [(0,.top),(1,.top),(2,.top),(3,.top),(4,.top),(5,.top),(6,.top),(7,.top),(8,sV 3),(9,dV 3 4),(10,sV 5),(11,dV 3 6),(12,iV 7),(13,iV 8)])),none,none,rV 300 0],keep:=[0],keepC:=[(1,[0,1,2,3,4,5,6,7])]}]}
theorem mX:Ag (EF m78) [3,8] 20000 (d78 E0) t78 0=some (jl (d78 E0) [1]):=by kernel_rfl
theorem rS:Ag (EF m78) [3,8] 20000 (d78 E0) t78 1=some (jl (d78 E0) [1,2]):=by kernel_rfl
theorem wN:Ag (EF m78) [3,8] 20000 (d78 E0) t78 2=some (jl (d78 E0) [2]):=by kernel_rfl
theorem c78:Av (EF m78) [3,8] 20000 (d78 E0) t78:=dk3 rfl mX rS wN
def m79 (E:Env):List Sm:=(d78 E).smL a78 (p78 E) 0 (d78 E).shs++m78 E
def a79:List AV:=[z0,z28,z29]
def p79 (E:Env):Pt:=Am E 148 10 a79 [] []
def d79 (E:Env):Dec:=
 {g:=79,f:=148,p:=0,pts:=[p79 E,
  Ax E 148 83 9 16 [(3,(.ptr 0 0)),(4,(.ptr 1 0)),(5,(.ptr 2 0)),(6,(.ptr 3 0)),(13,aV 5 10 0 1),(37,aV 4 5 2 3),(38,iV 4),(39,iV 5)] [some z37,some (.cells 4 (Ac [(0,sV 10),(1,dV 98 11),(2,dV 96 12),(3,dV 101 13)])),some (.cells 2 (Ac [(0,dV 103 14),(1,dV 188 15)])),some (.cells 6 (Ac [(0,(.str 0 0)),(1,.slice0),(2,(.str 0 0)),(3,.slice0),(4,(.int .i64 0)),(5,(.int .i64 0))])),rV 166 2,rV 300 0] [] []],
  shs:=[{m:=8,res:=(.tuple [(.agg [sV 0,dV 3 1,sV 2,dV 3 3,iV 4,iV 5]),bV 6,iV 7]),post:=[],keep:=[]}]}
theorem mZ:Ag (EF m79) [9] 20000 (d79 E0) t79 0=some (jl (d79 E0) [1]):=by kernel_rfl
theorem qu:Ag (EF m79) [9] 20000 (d79 E0) t79 1=some (jl (d79 E0) [1,1]):=by kernel_rfl
theorem c79:Av (EF m79) [9] 20000 (d79 E0) t79:=dk2 rfl mZ qu
def m80 (E:Env):List Sm:=(d79 E).smL a79 (p79 E) 0 (d79 E).shs++m79 E
def a80:List AV:=[z0,(.agg [dV 103 4,dV 188 5])]
def p80 (E:Env):Pt:=Am E 79 6 a80 [] []
def d80 (E:Env):Dec:=
 {g:=80,f:=79,p:=0,pts:=[p80 E],
  shs:=[{m:=6,res:=(.agg [sV 0,dV 98 1,dV 96 2,dV 101 3,dV 103 4,dV 188 5]),post:=[],keep:=[]}]}
theorem oc:Ag (EF m80) [] 20000 (d80 E0) t80 0=some (jl (d80 E0) []):=by kernel_rfl
theorem c80:Av (EF m80) [] 20000 (d80 E0) t80:=dk1 rfl oc
def m81 (E:Env):List Sm:=(d80 E).smL a80 (p80 E) 0 (d80 E).shs++m80 E
def a81:List AV:=[dV 98 0,(.func (.func 81) [] [(.ptr 0 0)])]
def z53:Aj:=(.cells 2 (Ac [(0,sV 1),(1,dV 3 2)]))
def p81 (E:Env):Pt:=Am E 151 3 a81 [some z53] []
def d81 (E:Env):Dec:=
 {g:=81,f:=151,p:=1,pts:=[p81 E,
  Ax E 151 19 2 4 [(0,dV 98 0),(1,(.func (.func 81) [] [(.ptr 0 0)])),(7,(.si .i64 (.lenL (.var 0)))),(8,iV 1)] [some z39] [] []],
  shs:=[{m:=1,res:=iV 0,post:=[none],keep:=[0]}]}
theorem se:Ag (EF m81) [2] 20000 (d81 E0) t81 0=some (jl (d81 E0) [1]):=by kernel_rfl
theorem vE:Ag (EF m81) [2] 20000 (d81 E0) t81 1=some (jl (d81 E0) [1]):=by kernel_rfl
theorem c81:Av (EF m81) [2] 20000 (d81 E0) t81:=dk2 rfl se vE
def m82 (E:Env):List Sm:=(d81 E).smL a81 (p81 E) 0 (d81 E).shs++m81 E
def a82:List AV:=[z0,z35,iV 6]
def p82 (E:Env):Pt:=Am E 26 7 a82 [] []
def d82 (E:Env):Dec:=
 {g:=82,f:=26,p:=0,pts:=[p82 E],
  shs:=[{m:=0,res:=(.tuple [.ptr0,(.int .i64 2)]),post:=[],keep:=[]},{m:=18,res:=(.tuple [(.ptr 0 0),(.int .i64 0)]),post:=[some z12,some z13,some z14,rV 98 1,rV 96 3,rV 101 5,some (.cells 3 (Ac [(0,iV 13),(1,(.nmap 9 (.var 14))),(2,aV 10 2 15 16)])),rV 225 10,rV 215 11,some (.dmap 3 3 (.var 17)),rV 256 15],keep:=[]}]}
theorem pz:Ag (EF m82) [] 20000 (d82 E0) t82 0=some (jl (d82 E0) []):=by kernel_rfl
theorem c82:Av (EF m82) [] 20000 (d82 E0) t82:=dk1 rfl pz
def m83 (E:Env):List Sm:=(d82 E).smL a82 (p82 E) 0 (d82 E).shs++m82 E
def a83:List AV:=[(.agg [(.ptr 0 0),(.ptr 6 0),bV 20]),(.agg [sV 21,sV 22,iV 23,sV 24,sV 25,sV 26,iV 27,iV 28,iV 29])]
def p83 (E:Env):Pt:=Am E 53 30 a83 [some z9,some z10,rV 215 0,rV 98 3,rV 96 5,rV 101 7,some z11,some (.dmap 3 3 (.var 13)),rV 256 15,rV 225 18] []
def z54:AV:=(.agg [(.ptr 0 0),(.ptr 6 0),bV 30])
def d83 (E:Env):Dec:=
 {g:=83,f:=53,p:=10,pts:=[p83 E,
  Ax E 53 24 2 31 [(3,(.ptr 10 0)),(13,(.slice 11 0 3 1)),(14,(.int .i64 3)),(15,iV 0)] [some z18,some z19,rV 215 14,rV 98 2,rV 96 4,rV 101 6,some z20,some (.dmap 3 3 (.var 20)),rV 256 18,rV 225 12,some (.cells 9 (Ac [(0,sV 21),(1,sV 22),(2,iV 23),(3,sV 24),(4,sV 25),(5,sV 26),(6,iV 27),(7,iV 28),(8,iV 29)])),some (.cells 3 (Ac [(0,(.func (.func 123) [z54] [])),(1,(.func (.func 124) [z54] [])),(2,(.func (.func 125) [z54] []))]))] [] []],
  shs:=[{m:=1,res:=bV 0,post:=[none,none,none,none,none,none,none,none,none,none],keep:=[0,1,2,3,4,5,6,7,8,9]}]}
theorem oL:Ag (EF m83) [2] 20000 (d83 E0) t83 0=some (jl (d83 E0) [1]):=by kernel_rfl
theorem sF:Ag (EF m83) [2] 20000 (d83 E0) t83 1=some (jl (d83 E0) [1,1,1,1]):=by kernel_rfl
theorem c83:Av (EF m83) [2] 20000 (d83 E0) t83:=dk2 rfl oL sF
def m84 (E:Env):List Sm:=(d83 E).smL a83 (p83 E) 0 (d83 E).shs++m83 E
def a84:List AV:=[(.func (.yield 0) [] []),(.ptr 15 0),(.ptr 17 0)]
def p84 (E:Env):Pt:=Am E 154 26 a84 [some (GE E 28 5 .ready none 36 [(4,(.ptr 1 0)),(6,(.ptr 3 0))] 14),some z33,rV 3 0,some (.cells 3 (Ac [(0,(.ptr 4 0)),(1,(.ptr 10 0)),(2,bV 22)])),some (.cells 11 (Ac [(0,(.ptr 5 0)),(1,sV 4),(2,aV 7 3 5 6),(3,aV 8 2 7 8),(4,aV 9 9 9 10),(5,sV 11),(6,bV 12),(7,iV 13),(8,(.ptr 10 0)),(9,bV 19),(10,aV 13 2 20 21)])),some (.cells 2 (Ac [(0,(.bool true)),(1,aV 6 3 2 3)])),rV 215 2,rV 98 5,rV 96 7,rV 101 9,some (.cells 3 (Ac [(0,iV 14),(1,(.nmap 11 (.var 16))),(2,aV 12 2 17 18)])),some (.dmap 3 3 (.var 15)),rV 256 17,rV 225 20,some (.deferred (some [])),some (.cells 1 (Ac [(0,aV 16 9 23 24)])),rV 101 23,some (.cells 1 (Ac [(0,sV 25)]))] []
def d84 (E:Env):Dec:=
 {g:=84,f:=154,p:=18,pts:=[p84 E,
  Ax E 154 25 1 27 [(0,(.func (.yield 0) [] [])),(2,(.ptr 17 0)),(6,aV 16 9 0 1),(7,(.si .i64 (.lenL (.var 0)))),(8,iV 2)] [some (GE E 28 5 .ready none 36 [(4,(.ptr 1 0)),(6,(.ptr 3 0))] 14),some (.cells 1 (Ac [(0,aV 18 1 3 4)])),none,some (.cells 3 (Ac [(0,(.ptr 4 0)),(1,(.ptr 10 0)),(2,bV 5)])),some (.cells 11 (Ac [(0,(.ptr 5 0)),(1,sV 6),(2,aV 7 3 7 8),(3,aV 8 2 9 10),(4,aV 9 9 11 12),(5,sV 13),(6,bV 14),(7,iV 15),(8,(.ptr 10 0)),(9,bV 16),(10,aV 13 2 17 18)])),some (.cells 2 (Ac [(0,(.bool true)),(1,aV 6 3 19 20)])),rV 215 19,rV 98 7,rV 96 9,rV 101 11,some z21,some (.dmap 3 3 (.var 25)),rV 256 23,rV 225 17,some (.deferred (some [])),some (.cells 1 (Ac [(0,aV 16 9 0 1)])),rV 101 0,some (.cells 1 (Ac [(0,sV 26)])),rV 3 3] [] []],
  shs:=[{m:=2,res:=(.tuple []),post:=[none,some (.cells 1 (Ac [(0,aV 18 1 0 1)])),none,none,none,none,none,none,none,none,none,none,none,none,none,none,none,none,rV 3 0],keep:=[0,3,4,5,6,7,8,9,10,11,12,13,14,15,16,17]}]}
theorem uC:Ag (EF m84) [1] 20000 (d84 E0) t84 0=some (jl (d84 E0) [1]):=by kernel_rfl
theorem tF:Ag (EF m84) [1] 20000 (d84 E0) t84 1=some (jl (d84 E0) [1,1,1]):=by kernel_rfl
theorem c84:Av (EF m84) [1] 20000 (d84 E0) t84:=dk2 rfl uC tF
def m85 (E:Env):List Sm:=(d84 E).smL a84 (p84 E) 0 (d84 E).shs++m84 E
def a85:List AV:=[(.ptr 0 0),iV 20]
def p85 (E:Env):Pt:=Am E 28 21 a85 [some z12,some z23,some z24,rV 215 0,rV 98 3,rV 96 5,rV 101 7,some z25,some (.dmap 3 3 (.var 13)),rV 256 15,rV 225 18] []
def d85 (E:Env):Dec:=
 {g:=85,f:=28,p:=11,pts:=[p85 E],
  shs:=[{m:=9,res:=(.tuple [aV 11 1 0 1,iV 2]),post:=[none,some (.cells 11 (Ac [(0,.top),(1,.top),(2,.top),(3,.top),(4,.top),(5,.top),(6,.top),(7,.top),(8,(.ptr 14 0)),(9,bV 3),(10,.top)])),none,none,none,none,none,none,none,none,none,rV 3 0,some (.dmap 3 3 (.var 4)),rV 256 5,some (.cells 3 (Ac [(0,iV 6),(1,(.nmap 12 (.var 7))),(2,aV 13 2 5 8)]))],keep:=[0,2,3,4,5,6,10],keepC:=[(1,[0,1,2,3,4,5,6,7,10])]}]}
theorem qK:Ag (EF m85) [] 20000 (d85 E0) t85 0=some (jl (d85 E0) []):=by kernel_rfl
theorem c85:Av (EF m85) [] 20000 (d85 E0) t85:=dk1 rfl qK
def m86 (E:Env):List Sm:=(d85 E).smL a85 (p85 E) 0 (d85 E).shs++m85 E
def a86:List AV:=[(.func (.yield 0) [] []),(.ptr 19 0),(.ptr 21 0)]
def p86 (E:Env):Pt:=Am E 154 32 a86 [some (GE E 30 5 .ready none 60 [(6,(.ptr 1 0)),(7,(.ptr 2 0)),(8,(.ptr 3 0)),(10,(.ptr 4 0))] 18),some (.cells 1 (Ac [(0,sV 0)])),some z2,some (.cells 1 (Ac [(0,iV 2)])),some (.cells 3 (Ac [(0,(.ptr 5 0)),(1,(.ptr 15 0)),(2,bV 28)])),some (.cells 11 (Ac [(0,(.ptr 6 0)),(1,sV 5),(2,aV 8 3 6 7),(3,aV 9 2 8 9),(4,aV 10 9 10 11),(5,sV 12),(6,bV 13),(7,iV 14),(8,(.ptr 11 0)),(9,bV 20),(10,aV 14 2 21 22)])),some (.cells 2 (Ac [(0,(.bool true)),(1,aV 7 3 3 4)])),rV 215 3,rV 98 6,rV 96 8,rV 101 10,some (.cells 3 (Ac [(0,iV 15),(1,(.nmap 12 (.var 17))),(2,aV 13 2 18 19)])),some (.dmap 3 3 (.var 16)),rV 256 18,rV 225 21,some (.cells 3 (Ac [(0,iV 23),(1,(.nmap 16 (.var 25))),(2,aV 17 2 26 27)])),some (.dmap 3 3 (.var 24)),rV 256 26,some (.deferred (some [])),some (.cells 1 (Ac [(0,aV 20 9 29 30)])),rV 101 29,some (.cells 1 (Ac [(0,sV 31)]))] []
def d86 (E:Env):Dec:=
 {g:=86,f:=154,p:=22,pts:=[p86 E,
  Ax E 154 25 1 33 [(0,(.func (.yield 0) [] [])),(2,(.ptr 21 0)),(6,aV 20 9 0 1),(7,(.si .i64 (.lenL (.var 0)))),(8,iV 2)] [some (GE E 30 5 .ready none 60 [(6,(.ptr 1 0)),(7,(.ptr 2 0)),(8,(.ptr 3 0)),(10,(.ptr 4 0))] 18),some z5,some (.cells 1 (Ac [(0,sV 4)])),some (.cells 1 (Ac [(0,iV 5)])),some (.cells 3 (Ac [(0,(.ptr 5 0)),(1,(.ptr 15 0)),(2,bV 6)])),some (.cells 11 (Ac [(0,(.ptr 6 0)),(1,sV 7),(2,aV 8 3 8 9),(3,aV 9 2 10 11),(4,aV 10 9 12 13),(5,sV 14),(6,bV 15),(7,iV 16),(8,(.ptr 11 0)),(9,bV 17),(10,aV 14 2 18 19)])),some (.cells 2 (Ac [(0,(.bool true)),(1,aV 7 3 20 21)])),rV 215 20,rV 98 8,rV 96 10,rV 101 12,some (.cells 3 (Ac [(0,iV 22),(1,(.nmap 12 (.var 23))),(2,aV 13 2 24 25)])),some (.dmap 3 3 (.var 26)),rV 256 24,rV 225 18,some (.cells 3 (Ac [(0,iV 27),(1,(.nmap 16 (.var 28))),(2,aV 17 2 29 30)])),some (.dmap 3 3 (.var 31)),rV 256 29,some (.deferred (some [])),some (.cells 1 (Ac [(0,aV 20 9 0 1)])),rV 101 0,some (.cells 1 (Ac [(0,sV 32)]))] [] []],
  shs:=[{m:=1,res:=(.tuple []),post:=[some (GE E 30 5 .done (some (.exit 0)) 60 [] 18),none,none,some (.cells 1 (Ac [(0,iV 0)])),none,none,none,none,none,none,none,none,none,none,none,none,none,none,none,none,none,none],keep:=[1,2,4,5,6,7,8,9,10,11,12,13,14,15,16,17,18,19,20,21]},{m:=0,res:=(.tuple []),post:=[none,none,none,none,none,none,none,none,none,none,none,none,none,none,none,none,none,none,none,none,none,none],keep:=[0,1,2,3,4,5,6,7,8,9,10,11,12,13,14,15,16,17,18,19,20,21]}]}
theorem oq:Ag (EF m86) [1] 20000 (d86 E0) t86 0=some (jl (d86 E0) [1]):=by kernel_rfl
theorem uW:Ag (EF m86) [1] 20000 (d86 E0) t86 1=some (jl (d86 E0) [1,1,1,1,1]):=by kernel_rfl
theorem c86:Av (EF m86) [1] 20000 (d86 E0) t86:=dk2 rfl oq uW
def m87 (E:Env):List Sm:=(d86 E).smL a86 (p86 E) 0 (d86 E).shs++m86 E
def a87:List AV:=[(.ptr 0 0),iV 20,sV 21,sV 22]
def p87 (E:Env):Pt:=Am E 30 23 a87 [some z12,some z23,some z24,rV 215 0,rV 98 3,rV 96 5,rV 101 7,some z25,some (.dmap 3 3 (.var 13)),rV 256 15,rV 225 18] []
def d87 (E:Env):Dec:=
 {g:=87,f:=30,p:=11,pts:=[p87 E],
  shs:=[{m:=15,res:=(.tuple [iV 0,iV 1]),post:=[none,some (.cells 11 (Ac [(0,.top),(1,.top),(2,.top),(3,.top),(4,.top),(5,sV 2),(6,bV 3),(7,iV 4),(8,(.ptr 13 0)),(9,bV 5),(10,aV 14 2 6 7)])),some (.cells 2 (Ac [(0,.top),(1,aV 3 3 8 9)])),rV 215 8,none,none,none,none,none,none,none,some (.dmap 3 3 (.var 10)),rV 256 11,some (.cells 3 (Ac [(0,iV 12),(1,(.nmap 11 (.var 13))),(2,aV 12 2 11 14)])),rV 225 6],keep:=[0,4,5,6],keepC:=[(1,[0,1,2,3,4]),(2,[0])]}]}
theorem rG:Ag (EF m87) [] 20000 (d87 E0) t87 0=some (jl (d87 E0) []):=by kernel_rfl
theorem c87:Av (EF m87) [] 20000 (d87 E0) t87:=dk1 rfl rG
def m88 (E:Env):List Sm:=(d87 E).smL a87 (p87 E) 0 (d87 E).shs++m87 E
def a88:List AV:=[(.ptr 0 0)]
def p88 (E:Env):Pt:=Am E 31 20 a88 [some z12,some z23,some z24,rV 215 0,rV 98 3,rV 96 5,rV 101 7,some z25,some (.dmap 3 3 (.var 13)),rV 256 15,rV 225 18] []
def d88 (E:Env):Dec:=
 {g:=88,f:=31,p:=11,pts:=[p88 E],
  shs:=[{m:=1,res:=sV 0,post:=[none,none,none,none,none,none,none,none,none,none,none],keep:=[0,1,2,3,4,5,6,7,8,9,10]}]}
theorem wo:Ag (EF m88) [] 20000 (d88 E0) t88 0=some (jl (d88 E0) []):=by kernel_rfl
theorem c88:Av (EF m88) [] 20000 (d88 E0) t88:=dk1 rfl wo
def m89 (E:Env):List Sm:=(d88 E).smL a88 (p88 E) 0 (d88 E).shs++m88 E
def a89:List AV:=[z34,(.agg [sV 2,dV 3 3])]
def p89 (E:Env):Pt:=Am E 33 4 a89 [] []
def d89 (E:Env):Dec:=
 {g:=89,f:=33,p:=0,pts:=[p89 E,
  Ax E 33 38 4 5 [(2,(.ptr 0 0)),(3,(.ptr 1 0)),(5,iV 0)] [some z53,some z40] [] []],
  shs:=[{m:=1,res:=bV 0,post:=[],keep:=[]}]}
theorem mF:Ag (EF m89) [4] 20000 (d89 E0) t89 0=some (jl (d89 E0) [1]):=by kernel_rfl
theorem pY:Ag (EF m89) [4] 20000 (d89 E0) t89 1=some (jl (d89 E0) [1]):=by kernel_rfl
theorem c89:Av (EF m89) [4] 20000 (d89 E0) t89:=dk2 rfl mF pY
end Go.Proofs.YtmgppdghdeokbaaGreat.upgradeGoesOn

