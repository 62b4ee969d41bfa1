/- What is proved: that the functions which the law UpgradeSoon reaches are the plain functions over data whose trees of tests the text before writes out (the kernel runs the evaluator over each place). Conditions: the program is the given one. -/
import Derived.Test.YtmgppdghdeokbaaGreatProg
import Derived.KernelRfl
import Derived.Test.YtmgppdghdeokbaaGreatUpgradeSoonTree
import Derived.Test.YtmgppdghdeokbaaGreatUpgradeSoonKnownD
set_option linter.unusedVariables false
set_option linter.unusedSectionVars false
set_option linter.unusedSimpArgs false
namespace Go.Proofs.YtmgppdghdeokbaaGreat.upgradeSoon
open Go.AE Us
def m0 (E:Env):List Sm:=[]
instance pg:Pg Tryz.prog l41:=⟨trivial⟩
def z0:AV:=(.agg [sV 0,dV 98 1,dV 96 2,dV 101 3])
def a0:List AV:=[z0]
def p0 (E:Env):Pt:=Aj E 8 4 a0 [] []
def z1:Am:=(.cells 4 (Ak [(0,sV 2),(1,dV 98 3),(2,dV 96 4),(3,dV 101 5)]))
def d0 (E:Env):Dec:=
 {g:=0,f:=8,p:=0,pts:=[p0 E,
  Ax E 8 112 5 6 [(1,(.ptr 0 0)),(3,iV 0),(4,iV 1)] [some z1] [] [],
  Ax E 8 112 11 6 [(1,(.ptr 0 0)),(3,iV 0),(5,iV 1)] [some z1] [] [],
  Ax E 8 112 16 6 [(1,(.ptr 0 0)),(3,iV 0),(6,iV 1)] [some z1] [] []],
  shs:=[{m:=1,res:=bV 0,post:=[],keep:=[]}]}
theorem uj:Af (EF m0) [5,11,16] 20000 (d0 E0) t0 0=some (jl (d0 E0) [1]):=by kernel_rfl
theorem uY:Af (EF m0) [5,11,16] 20000 (d0 E0) t0 1=some (jl (d0 E0) [1,1,1,2]):=by kernel_rfl
theorem uk:Af (EF m0) [5,11,16] 20000 (d0 E0) t0 2=some (jl (d0 E0) [2,3]):=by kernel_rfl
theorem vj:Af (EF m0) [5,11,16] 20000 (d0 E0) t0 3=some (jl (d0 E0) [3]):=by kernel_rfl
theorem c0:Au (EF m0) [5,11,16] 20000 (d0 E0) t0:=dk4 rfl uj uY uk vj
def m1 (E:Env):List Sm:=(d0 E).smL a0 (p0 E) 0 (d0 E).shs ++ m0 E
def a1:List AV:=[(.agg [dV 103 0,dV 188 1])]
def p1 (E:Env):Pt:=Aj E 9 2 a1 [] []
def d1 (E:Env):Dec:=
 {g:=1,f:=9,p:=0,pts:=[p1 E],
  shs:=[{m:=1,res:=bV 0,post:=[],keep:=[]}]}
theorem up:Af (EF m1) [] 20000 (d1 E0) t1 0=some (jl (d1 E0) []):=by kernel_rfl
theorem c1:Au (EF m1) [] 20000 (d1 E0) t1:=dk1 rfl up
def m2 (E:Env):List Sm:=(d1 E).smL a1 (p1 E) 0 (d1 E).shs ++ m1 E
def a2:List AV:=[]
def p2 (E:Env):Pt:=Aj E 10 0 a2 [] []
def d2 (E:Env):Dec:=
 {g:=2,f:=10,p:=0,pts:=[p2 E],
  shs:=[{m:=0,res:=(.bool true),post:=[],keep:=[]}]}
theorem uB:Af (EF m2) [] 20000 (d2 E0) t2 0=some (jl (d2 E0) []):=by kernel_rfl
theorem c2:Au (EF m2) [] 20000 (d2 E0) t2:=dk1 rfl uB
def m3 (E:Env):List Sm:=(d2 E).smL a2 (p2 E) 0 (d2 E).shs ++ m2 E
def a3:List AV:=[sV 0]
def p3 (E:Env):Pt:=Aj E 102 1 a3 [] []
def d3 (E:Env):Dec:=
 {g:=3,f:=102,p:=0,pts:=[p3 E,
  Ax E 102 55 4 3 [(15,(.asl 0 1 (.lenL (.var 0)) (.bc false))),(16,iV 1),(17,iV 2)] [rV 5 0] [] []],
  shs:=[{m:=1,res:=bV 0,post:=[],keep:=[]}]}
theorem uR:Af (EF m3) [4] 20000 (d3 E0) t3 0=some (jl (d3 E0) [1]):=by kernel_rfl
theorem uz:Af (EF m3) [4] 20000 (d3 E0) t3 1=some (jl (d3 E0) [1,1,1,1]):=by kernel_rfl
theorem c3:Au (EF m3) [4] 20000 (d3 E0) t3:=dk2 rfl uR uz
def m4 (E:Env):List Sm:=(d3 E).smL a3 (p3 E) 0 (d3 E).shs ++ m3 E
def a4:List AV:=[dV 96 0,(.func (.func 168) [] [(.ptr 0 0)])]
def z2:Am:=(.cells 1 (Ak [(0,sV 1)]))
def p4 (E:Env):Pt:=Aj E 185 2 a4 [some z2] []
def z3:Am:=(.cells 1 (Ak [(0,sV 2)]))
def d4 (E:Env):Dec:=
 {g:=4,f:=185,p:=1,pts:=[p4 E,
  Ax E 185 19 2 3 [(0,dV 96 0),(1,(.func (.func 168) [] [(.ptr 0 0)])),(7,(.si .i64 (.lenL (.var 0)))),(8,iV 1)] [some z3] [] []],
  shs:=[{m:=1,res:=iV 0,post:=[none],keep:=[0]}]}
theorem va:Af (EF m4) [2] 20000 (d4 E0) t4 0=some (jl (d4 E0) [1]):=by kernel_rfl
theorem uE:Af (EF m4) [2] 20000 (d4 E0) t4 1=some (jl (d4 E0) [1]):=by kernel_rfl
theorem c4:Au (EF m4) [2] 20000 (d4 E0) t4:=dk2 rfl va uE
def m5 (E:Env):List Sm:=(d4 E).smL a4 (p4 E) 0 (d4 E).shs ++ m4 E
def a5:List AV:=[iV 0,iV 1,iV 2,(.func (.func 104) [] [(.ptr 0 0)])]
def z4:Am:=(.cells 4 (Ak [(0,sV 3),(1,dV 98 4),(2,dV 96 5),(3,dV 101 6)]))
def p5 (E:Env):Pt:=Aj E 103 7 a5 [some z4] []
def d5 (E:Env):Dec:=
 {g:=5,f:=103,p:=1,pts:=[p5 E,
  Ax E 103 28 6 6 [(3,(.func (.func 104) [] [(.ptr 0 0)])),(19,iV 0),(20,iV 1)] [some z1] [] []],
  shs:=[{m:=1,res:=iV 0,post:=[none],keep:=[0]}]}
theorem uJ:Af (EF m5) [6] 20000 (d5 E0) t5 0=some (jl (d5 E0) [1]):=by kernel_rfl
theorem uZ:Af (EF m5) [6] 20000 (d5 E0) t5 1=some (jl (d5 E0) [1]):=by kernel_rfl
theorem c5:Au (EF m5) [6] 20000 (d5 E0) t5:=dk2 rfl uJ uZ
def m6 (E:Env):List Sm:=(d5 E).smL a5 (p5 E) 0 (d5 E).shs ++ m5 E
def a6:List AV:=[dV 98 0,(.func (.func 170) [] [(.ptr 0 0)])]
def p6 (E:Env):Pt:=Aj E 151 2 a6 [some z2] []
def d6 (E:Env):Dec:=
 {g:=6,f:=151,p:=1,pts:=[p6 E,
  Ax E 151 19 2 3 [(0,dV 98 0),(1,(.func (.func 170) [] [(.ptr 0 0)])),(7,(.si .i64 (.lenL (.var 0)))),(8,iV 1)] [some z3] [] []],
  shs:=[{m:=1,res:=iV 0,post:=[none],keep:=[0]}]}
theorem uT:Af (EF m6) [2] 20000 (d6 E0) t6 0=some (jl (d6 E0) [1]):=by kernel_rfl
theorem ug:Af (EF m6) [2] 20000 (d6 E0) t6 1=some (jl (d6 E0) [1]):=by kernel_rfl
theorem c6:Au (EF m6) [2] 20000 (d6 E0) t6:=dk2 rfl uT ug
def m7 (E:Env):List Sm:=(d6 E).smL a6 (p6 E) 0 (d6 E).shs ++ m6 E
def a7:List AV:=[iV 0,iV 1,iV 2,(.func (.func 106) [] [(.ptr 0 0)])]
def p7 (E:Env):Pt:=Aj E 103 7 a7 [some z4] []
def d7 (E:Env):Dec:=
 {g:=7,f:=103,p:=1,pts:=[p7 E,
  Ax E 103 28 6 6 [(3,(.func (.func 106) [] [(.ptr 0 0)])),(19,iV 0),(20,iV 1)] [some z1] [] []],
  shs:=[{m:=1,res:=iV 0,post:=[none],keep:=[0]}]}
theorem uA:Af (EF m7) [6] 20000 (d7 E0) t7 0=some (jl (d7 E0) [1]):=by kernel_rfl
theorem uw:Af (EF m7) [6] 20000 (d7 E0) t7 1=some (jl (d7 E0) [1]):=by kernel_rfl
theorem c7:Au (EF m7) [6] 20000 (d7 E0) t7:=dk2 rfl uA uw
def m8 (E:Env):List Sm:=(d7 E).smL a7 (p7 E) 0 (d7 E).shs ++ m7 E
def a8:List AV:=[dV 101 0,(.agg [sV 1,sV 2,iV 3,sV 4,sV 5,sV 6,iV 7,iV 8,iV 9])]
def p8 (E:Env):Pt:=Aj E 200 10 a8 [] []
def d8 (E:Env):Dec:=
 {g:=8,f:=200,p:=0,pts:=[p8 E,
  Ax E 200 19 2 11 [(0,dV 101 0),(3,(.ptr 0 0)),(7,(.si .i64 (.lenL (.var 0)))),(8,iV 1)] [some (.cells 9 (Ak [(0,sV 2),(1,sV 3),(2,iV 4),(3,sV 5),(4,sV 6),(5,sV 7),(6,iV 8),(7,iV 9),(8,iV 10)]))] [] []],
  shs:=[{m:=1,res:=iV 0,post:=[],keep:=[]}]}
theorem vk:Af (EF m8) [2] 20000 (d8 E0) t8 0=some (jl (d8 E0) [1]):=by kernel_rfl
theorem um:Af (EF m8) [2] 20000 (d8 E0) t8 1=some (jl (d8 E0) [1]):=by kernel_rfl
theorem c8:Au (EF m8) [2] 20000 (d8 E0) t8:=dk2 rfl vk um
def m9 (E:Env):List Sm:=(d8 E).smL a8 (p8 E) 0 (d8 E).shs ++ m8 E
def a9:List AV:=[iV 0,iV 1,iV 2,(.func (.func 108) [] [(.ptr 0 0)])]
def p9 (E:Env):Pt:=Aj E 103 7 a9 [some z4] []
def d9 (E:Env):Dec:=
 {g:=9,f:=103,p:=1,pts:=[p9 E,
  Ax E 103 28 6 6 [(3,(.func (.func 108) [] [(.ptr 0 0)])),(19,iV 0),(20,iV 1)] [some z1] [] []],
  shs:=[{m:=1,res:=iV 0,post:=[none],keep:=[0]}]}
theorem uq:Af (EF m9) [6] 20000 (d9 E0) t9 0=some (jl (d9 E0) [1]):=by kernel_rfl
theorem un:Af (EF m9) [6] 20000 (d9 E0) t9 1=some (jl (d9 E0) [1,1,1,1,1,1,1,1]):=by kernel_rfl
theorem c9:Au (EF m9) [6] 20000 (d9 E0) t9:=dk2 rfl uq un
def m10 (E:Env):List Sm:=(d9 E).smL a9 (p9 E) 0 (d9 E).shs ++ m9 E
def a10:List AV:=[z0]
def p10 (E:Env):Pt:=Aj E 43 4 a10 [] []
def d10 (E:Env):Dec:=
 {g:=10,f:=43,p:=0,pts:=[p10 E],
  shs:=[{m:=2,res:=(.tuple [iV 0,iV 1]),post:=[],keep:=[]}]}
theorem pE:Af (EF m10) [] 20000 (d10 E0) t10 0=some (jl (d10 E0) []):=by kernel_rfl
theorem c10:Au (EF m10) [] 20000 (d10 E0) t10:=dk1 rfl pE
def m11 (E:Env):List Sm:=(d10 E).smL a10 (p10 E) 0 (d10 E).shs ++ m10 E
def a11:List AV:=[aV 0 3 0 1,(.func (.func 174) [] [(.ptr 1 0)])]
def p11 (E:Env):Pt:=Aj E 173 3 a11 [rV 215 0,some z3] []
def d11 (E:Env):Dec:=
 {g:=11,f:=173,p:=2,pts:=[p11 E,
  Ax E 173 19 2 4 [(0,aV 0 3 0 1),(1,(.func (.func 174) [] [(.ptr 1 0)])),(7,(.si .i64 (.lenL (.var 0)))),(8,iV 2)] [rV 215 0,some (.cells 1 (Ak [(0,sV 3)]))] [] []],
  shs:=[{m:=1,res:=iV 0,post:=[none,none],keep:=[0,1]}]}
theorem gV:Af (EF m11) [2] 20000 (d11 E0) t11 0=some (jl (d11 E0) [1]):=by kernel_rfl
theorem jt:Af (EF m11) [2] 20000 (d11 E0) t11 1=some (jl (d11 E0) [1]):=by kernel_rfl
theorem c11:Au (EF m11) [2] 20000 (d11 E0) t11:=dk2 rfl gV jt
def m12 (E:Env):List Sm:=(d11 E).smL a11 (p11 E) 0 (d11 E).shs ++ m11 E
def a12:List AV:=[dV 96 0]
def p12 (E:Env):Pt:=Aj E 44 1 a12 [] []
def z5:Am:=(.cells 2 (Ak [(0,(.bool true)),(1,aV 1 3 2 3)]))
def z6:Am:=(.cells 2 (Ak [(0,(.bool true)),(1,aV 1 3 0 1)]))
def d12 (E:Env):Dec:=
 {g:=12,f:=44,p:=0,pts:=[p12 E,
  Ax E 44 51 5 4 [(4,(.ptr 0 0)),(12,dV 96 0),(13,(.si .i64 (.lenL (.var 0)))),(14,iV 1)] [some z5,rV 215 2] [] []],
  shs:=[{m:=2,res:=(.tuple [(.ptr 0 0),(.int .i64 0)]),post:=[some z6,rV 215 0],keep:=[]}]}
theorem jH:Af (EF m12) [5] 20000 (d12 E0) t12 0=some (jl (d12 E0) [1]):=by kernel_rfl
theorem tf:Af (EF m12) [5] 20000 (d12 E0) t12 1=some (jl (d12 E0) [1]):=by kernel_rfl
theorem c12:Au (EF m12) [5] 20000 (d12 E0) t12:=dk2 rfl jH tf
def m13 (E:Env):List Sm:=(d12 E).smL a12 (p12 E) 0 (d12 E).shs ++ m12 E
def a13:List AV:=[dV 98 0]
def p13 (E:Env):Pt:=Aj E 111 1 a13 [] []
def d13 (E:Env):Dec:=
 {g:=13,f:=111,p:=0,pts:=[p13 E],
  shs:=[{m:=2,res:=aV 0 3 0 1,post:=[rV 98 0],keep:=[]}]}
theorem qS:Af (EF m13) [] 20000 (d13 E0) t13 0=some (jl (d13 E0) []):=by kernel_rfl
theorem c13:Au (EF m13) [] 20000 (d13 E0) t13:=dk1 rfl qS
def m14 (E:Env):List Sm:=(d13 E).smL a13 (p13 E) 0 (d13 E).shs ++ m13 E
def a14:List AV:=[dV 96 0]
def p14 (E:Env):Pt:=Aj E 112 1 a14 [] []
def d14 (E:Env):Dec:=
 {g:=14,f:=112,p:=0,pts:=[p14 E],
  shs:=[{m:=2,res:=aV 0 2 0 1,post:=[rV 96 0],keep:=[]}]}
theorem rn:Af (EF m14) [] 20000 (d14 E0) t14 0=some (jl (d14 E0) []):=by kernel_rfl
theorem c14:Au (EF m14) [] 20000 (d14 E0) t14:=dk1 rfl rn
def m15 (E:Env):List Sm:=(d14 E).smL a14 (p14 E) 0 (d14 E).shs ++ m14 E
def a15:List AV:=[dV 101 0]
def p15 (E:Env):Pt:=Aj E 113 1 a15 [] []
def d15 (E:Env):Dec:=
 {g:=15,f:=113,p:=0,pts:=[p15 E],
  shs:=[{m:=2,res:=aV 0 9 0 1,post:=[rV 101 0],keep:=[]}]}
theorem nh:Af (EF m15) [] 20000 (d15 E0) t15 0=some (jl (d15 E0) []):=by kernel_rfl
theorem c15:Au (EF m15) [] 20000 (d15 E0) t15:=dk1 rfl nh
def m16 (E:Env):List Sm:=(d15 E).smL a15 (p15 E) 0 (d15 E).shs ++ m15 E
def a16:List AV:=[aV 0 3 0 1,(.func (.func 115) [] [(.ptr 1 0)])]
def p16 (E:Env):Pt:=Aj E 114 3 a16 [rV 98 0,some z3] []
def d16 (E:Env):Dec:=
 {g:=16,f:=114,p:=2,pts:=[p16 E,
  Ax E 114 22 2 6 [(1,(.func (.func 115) [] [(.ptr 1 0)])),(4,aV 2 3 0 1),(7,aV 0 3 2 3),(8,(.si .i64 (.lenL (.var 2)))),(9,iV 4)] [rV 98 2,some (.cells 1 (Ak [(0,sV 5)])),rV 98 0] [] []],
  shs:=[{m:=2,res:=aV 2 3 0 1,post:=[none,none,rV 98 0],keep:=[0,1]}]}
theorem pb:Af (EF m16) [2] 20000 (d16 E0) t16 0=some (jl (d16 E0) [1]):=by kernel_rfl
theorem oR:Af (EF m16) [2] 20000 (d16 E0) t16 1=some (jl (d16 E0) [1,1]):=by kernel_rfl
theorem c16:Au (EF m16) [2] 20000 (d16 E0) t16:=dk2 rfl pb oR
def m17 (E:Env):List Sm:=(d16 E).smL a16 (p16 E) 0 (d16 E).shs ++ m16 E
def a17:List AV:=[(.ptr 0 0),iV 5]
def z7:Am:=(.cells 3 (Ak [(0,iV 0),(1,(.nmap 1 (.var 2))),(2,aV 2 2 3 4)]))
def p17 (E:Env):Pt:=Aj E 175 6 a17 [some z7,some (.dmap 3 3 (.var 1)),rV 256 3] []
def d17 (E:Env):Dec:=
 {g:=17,f:=175,p:=3,pts:=[p17 E],
  shs:=[{m:=2,res:=(.tuple [iV 0,iV 1]),post:=[none,none,none],keep:=[0,1,2]}]}
theorem ju:Af (EF m17) [] 20000 (d17 E0) t17 0=some (jl (d17 E0) []):=by kernel_rfl
theorem c17:Au (EF m17) [] 20000 (d17 E0) t17:=dk1 rfl ju
def m18 (E:Env):List Sm:=(d17 E).smL a17 (p17 E) 0 (d17 E).shs ++ m17 E
def a18:List AV:=[(.ptr 0 0),iV 5]
def p18 (E:Env):Pt:=Aj E 116 6 a18 [some z7,some (.dmap 3 3 (.var 1)),rV 256 3] []
def d18 (E:Env):Dec:=
 {g:=18,f:=116,p:=3,pts:=[p18 E],
  shs:=[{m:=2,res:=iV 0,post:=[none,some (.dmap 3 3 (.var 1)),none],keep:=[0,2]}]}
theorem kM:Af (EF m18) [] 20000 (d18 E0) t18 0=some (jl (d18 E0) []):=by kernel_rfl
theorem c18:Au (EF m18) [] 20000 (d18 E0) t18:=dk1 rfl kM
def m19 (E:Env):List Sm:=(d18 E).smL a18 (p18 E) 0 (d18 E).shs ++ m18 E
def a19:List AV:=[(.ptr 0 0),(.agg [iV 4,iV 5])]
def p19 (E:Env):Pt:=Aj E 177 6 a19 [some (.cells 3 (Ak [(0,iV 0),(1,(.map 1)),(2,aV 2 2 2 3)])),some (.dmap 3 3 (.var 1)),rV 256 2] []
def z8:Am:=(.cells 3 (Ak [(0,.top),(1,.top),(2,aV 3 2 0 1)]))
def d19 (E:Env):Dec:=
 {g:=19,f:=177,p:=3,pts:=[p19 E,
  Ax E 177 70 3 5 [(0,(.ptr 0 0)),(4,iV 0)] [some (.cells 3 (Ak [(0,iV 1),(1,(.map 1)),(2,aV 3 2 2 3)])),some (.dmap 3 3 (.var 4)),none,rV 256 2] [] []],
  shs:=[{m:=2,res:=(.tuple []),post:=[some z8,none,none,rV 256 0],keep:=[1],keepC:=[(0,[0,1])]}]}
theorem kI:Af (EF m19) [3] 20000 (d19 E0) t19 0=some (jl (d19 E0) [1]):=by kernel_rfl
theorem jS:Af (EF m19) [3] 20000 (d19 E0) t19 1=some (jl (d19 E0) [1,1,1,1]):=by kernel_rfl
theorem c19:Au (EF m19) [3] 20000 (d19 E0) t19:=dk2 rfl kI jS
def m20 (E:Env):List Sm:=(d19 E).smL a19 (p19 E) 0 (d19 E).shs ++ m19 E
def a20:List AV:=[(.ptr 0 0),(.agg [iV 5,iV 6])]
def p20 (E:Env):Pt:=Aj E 177 7 a20 [some z7,some (.dmap 3 3 (.var 1)),rV 256 3] []
def d20 (E:Env):Dec:=
 {g:=20,f:=177,p:=3,pts:=[p20 E,
  Ax E 177 70 3 6 [(0,(.ptr 0 0)),(4,iV 0)] [some (.cells 3 (Ak [(0,iV 1),(1,(.nmap 1 (.var 2))),(2,aV 3 2 3 4)])),some (.dmap 3 3 (.var 5)),none,rV 256 3] [] []],
  shs:=[{m:=2,res:=(.tuple []),post:=[some z8,none,none,rV 256 0],keep:=[1],keepC:=[(0,[0,1])]}]}
theorem rz:Af (EF m20) [3] 20000 (d20 E0) t20 0=some (jl (d20 E0) [1]):=by kernel_rfl
theorem ra:Af (EF m20) [3] 20000 (d20 E0) t20 1=some (jl (d20 E0) [1,1,1,1]):=by kernel_rfl
theorem c20:Au (EF m20) [3] 20000 (d20 E0) t20:=dk2 rfl rz ra
def m21 (E:Env):List Sm:=(d20 E).smL a20 (p20 E) 0 (d20 E).shs ++ m20 E
def a21:List AV:=[(.ptr 0 0),iV 5,iV 6]
def p21 (E:Env):Pt:=Aj E 117 7 a21 [some z7,some (.dmap 3 3 (.var 1)),rV 256 3] []
def d21 (E:Env):Dec:=
 {g:=21,f:=117,p:=3,pts:=[p21 E],
  shs:=[{m:=5,res:=iV 0,post:=[some (.cells 3 (Ak [(0,.top),(1,(.nmap 3 (.var 1))),(2,aV 4 2 2 3)])),none,none,some (.dmap 3 3 (.var 4)),rV 256 2],keep:=[],keepC:=[(0,[0])]}]}
theorem nF:Af (EF m21) [] 20000 (d21 E0) t21 0=some (jl (d21 E0) []):=by kernel_rfl
theorem c21:Au (EF m21) [] 20000 (d21 E0) t21:=dk1 rfl nF
def m22 (E:Env):List Sm:=(d21 E).smL a21 (p21 E) 0 (d21 E).shs ++ m21 E
def a22:List AV:=[(.ptr 0 0),sV 20]
def z9:Am:=(.cells 11 (Ak [(0,(.ptr 1 0)),(1,sV 2),(2,aV 3 3 3 4),(3,aV 4 2 5 6),(4,aV 5 9 7 8),(5,sV 9),(6,bV 10),(7,iV 11),(8,(.ptr 6 0)),(9,bV 17),(10,aV 9 2 18 19)]))
def z10:Am:=(.cells 2 (Ak [(0,(.bool true)),(1,aV 2 3 0 1)]))
def z11:Am:=(.cells 3 (Ak [(0,iV 12),(1,(.nmap 7 (.var 14))),(2,aV 8 2 15 16)]))
def p22 (E:Env):Pt:=Aj E 46 21 a22 [some z9,some z10,rV 215 0,rV 98 3,rV 96 5,rV 101 7,some z11,some (.dmap 3 3 (.var 13)),rV 256 15,rV 225 18] []
def d22 (E:Env):Dec:=
 {g:=22,f:=46,p:=10,pts:=[p22 E],
  shs:=[{m:=7,res:=(.tuple []),post:=[some (.cells 11 (Ak [(0,.top),(1,.top),(2,.top),(3,.top),(4,.top),(5,sV 0),(6,bV 1),(7,iV 2),(8,.top),(9,(.bool false)),(10,.top)])),none,none,none,none,none,some (.cells 3 (Ak [(0,.top),(1,(.nmap 10 (.var 3))),(2,aV 11 2 4 5)])),none,none,none,some (.dmap 3 3 (.var 6)),rV 256 4],keep:=[1,2,3,4,5,9],keepC:=[(0,[0,1,2,3,4,8,10]),(6,[0])]}]}
theorem tk:Af (EF m22) [] 20000 (d22 E0) t22 0=some (jl (d22 E0) []):=by kernel_rfl
theorem c22:Au (EF m22) [] 20000 (d22 E0) t22:=dk1 rfl tk
def m23 (E:Env):List Sm:=(d22 E).smL a22 (p22 E) 0 (d22 E).shs ++ m22 E
def a23:List AV:=[z0]
def p23 (E:Env):Pt:=Aj E 11 4 a23 [] []
def z12:Am:=(.cells 1 (Ak [(0,(.ptr 1 0))]))
def d23 (E:Env):Dec:=
 {g:=23,f:=11,p:=0,pts:=[p23 E],
  shs:=[{m:=17,res:=(.tuple [(.ptr 0 0),(.int .i64 0)]),post:=[some z12,some (.cells 11 (Ak [(0,(.ptr 2 0)),(1,sV 0),(2,aV 3 3 1 2),(3,aV 4 2 3 4),(4,aV 5 9 5 6),(5,sV 7),(6,bV 8),(7,iV 9),(8,(.ptr 6 0)),(9,(.bool false)),(10,(.asl 7 2 (.lenL (.var 10)) (.bc true)))])),some (.cells 2 (Ak [(0,(.bool true)),(1,aV 8 3 11 12)])),rV 98 1,rV 96 3,rV 101 5,some (.cells 3 (Ak [(0,(.int .i64 0)),(1,(.nmap 9 (.var 13))),(2,aV 10 2 14 15)])),rV 225 10,rV 215 11,some (.dmap 3 3 (.var 16)),rV 256 14],keep:=[]},{m:=1,res:=(.tuple [.ptr0,iV 0]),post:=[],keep:=[]}]}
theorem jF:Af (EF m23) [] 20000 (d23 E0) t23 0=some (jl (d23 E0) []):=by kernel_rfl
theorem c23:Au (EF m23) [] 20000 (d23 E0) t23:=dk1 rfl jF
def m24 (E:Env):List Sm:=(d23 E).smL a23 (p23 E) 0 (d23 E).shs ++ m23 E
def a24:List AV:=[sV 0]
def p24 (E:Env):Pt:=Aj E 118 1 a24 [] []
def d24 (E:Env):Dec:=
 {g:=24,f:=118,p:=0,pts:=[p24 E,
  Ax E 118 64 4 2 [(0,sV 0),(3,iV 1)] [] [] []],
  shs:=[{m:=1,res:=bV 0,post:=[],keep:=[]}]}
theorem rt:Af (EF m24) [4] 20000 (d24 E0) t24 0=some (jl (d24 E0) [1,1]):=by kernel_rfl
theorem po:Af (EF m24) [4] 20000 (d24 E0) t24 1=some (jl (d24 E0) [1,1,1,1]):=by kernel_rfl
theorem c24:Au (EF m24) [4] 20000 (d24 E0) t24:=dk2 rfl rt po
def m25 (E:Env):List Sm:=(d24 E).smL a24 (p24 E) 0 (d24 E).shs ++ m24 E
def a25:List AV:=[z0,sV 4]
def p25 (E:Env):Pt:=Aj E 119 5 a25 [] []
def d25 (E:Env):Dec:=
 {g:=25,f:=119,p:=0,pts:=[p25 E,
  Ax E 119 22 2 6 [(1,sV 0),(2,(.ptr 0 0)),(5,iV 1)] [some z1] [] []],
  shs:=[{m:=1,res:=iV 0,post:=[],keep:=[]}]}
theorem gM:Af (EF m25) [2] 20000 (d25 E0) t25 0=some (jl (d25 E0) [1]):=by kernel_rfl
theorem ij:Af (EF m25) [2] 20000 (d25 E0) t25 1=some (jl (d25 E0) [1]):=by kernel_rfl
theorem c25:Au (EF m25) [2] 20000 (d25 E0) t25:=dk2 rfl gM ij
def m26 (E:Env):List Sm:=(d25 E).smL a25 (p25 E) 0 (d25 E).shs ++ m25 E
def a26:List AV:=[z0,sV 4]
def p26 (E:Env):Pt:=Aj E 120 5 a26 [] []
def d26 (E:Env):Dec:=
 {g:=26,f:=120,p:=0,pts:=[p26 E,
  Ax E 120 22 2 6 [(1,sV 0),(2,(.ptr 0 0)),(5,iV 1)] [some z1] [] []],
  shs:=[{m:=1,res:=iV 0,post:=[],keep:=[]}]}
theorem hU:Af (EF m26) [2] 20000 (d26 E0) t26 0=some (jl (d26 E0) [1]):=by kernel_rfl
theorem lj:Af (EF m26) [2] 20000 (d26 E0) t26 1=some (jl (d26 E0) [1]):=by kernel_rfl
theorem c26:Au (EF m26) [2] 20000 (d26 E0) t26:=dk2 rfl hU lj
def m27 (E:Env):List Sm:=(d26 E).smL a26 (p26 E) 0 (d26 E).shs ++ m26 E
def a27:List AV:=[z0,iV 4]
def p27 (E:Env):Pt:=Aj E 121 5 a27 [] []
def d27 (E:Env):Dec:=
 {g:=27,f:=121,p:=0,pts:=[p27 E,
  Ax E 121 93 6 16 [(1,iV 0),(2,(.ptr 0 0)),(5,(.ptr 1 0)),(6,iV 1),(7,iV 2)] [some z4,some (.cells 9 (Ak [(0,sV 7),(1,sV 8),(2,iV 9),(3,sV 10),(4,sV 11),(5,sV 12),(6,iV 13),(7,iV 14),(8,iV 15)]))] [] []],
  shs:=[{m:=1,res:=bV 0,post:=[],keep:=[]}]}
theorem iJ:Af (EF m27) [6] 20000 (d27 E0) t27 0=some (jl (d27 E0) [1,1]):=by kernel_rfl
theorem mO:Af (EF m27) [6] 20000 (d27 E0) t27 1=some (jl (d27 E0) [1]):=by kernel_rfl
theorem c27:Au (EF m27) [6] 20000 (d27 E0) t27:=dk2 rfl iJ mO
def m28 (E:Env):List Sm:=(d27 E).smL a27 (p27 E) 0 (d27 E).shs ++ m27 E
def a28:List AV:=[z0]
def p28 (E:Env):Pt:=Aj E 47 4 a28 [] []
def z13:Am:=(.cells 4 (Ak [(0,sV 1),(1,dV 98 2),(2,dV 96 3),(3,dV 101 4)]))
def d28 (E:Env):Dec:=
 {g:=28,f:=47,p:=0,pts:=[p28 E,
  Ax E 47 131 6 5 [(1,(.ptr 0 0)),(4,iV 0)] [some z13] [] [],
  Ax E 47 131 15 5 [(1,(.ptr 0 0)),(5,iV 0)] [some z13] [] [],
  Ax E 47 131 22 5 [(1,(.ptr 0 0)),(6,iV 0)] [some z13] [] []],
  shs:=[{m:=2,res:=(.tuple [iV 0,iV 1]),post:=[],keep:=[]}]}
theorem kn:Af (EF m28) [6,15,22] 20000 (d28 E0) t28 0=some (jl (d28 E0) [1]):=by kernel_rfl
theorem jL:Af (EF m28) [6,15,22] 20000 (d28 E0) t28 1=some (jl (d28 E0) [1,2]):=by kernel_rfl
theorem lp:Af (EF m28) [6,15,22] 20000 (d28 E0) t28 2=some (jl (d28 E0) [2,3]):=by kernel_rfl
theorem mH:Af (EF m28) [6,15,22] 20000 (d28 E0) t28 3=some (jl (d28 E0) [3]):=by kernel_rfl
theorem c28:Au (EF m28) [6,15,22] 20000 (d28 E0) t28:=dk4 rfl kn jL lp mH
def m29 (E:Env):List Sm:=(d28 E).smL a28 (p28 E) 0 (d28 E).shs ++ m28 E
def a29:List AV:=[dV 96 0]
def p29 (E:Env):Pt:=Aj E 48 1 a29 [] []
def z14:Am:=(.cells 2 (Ak [(0,.slice0),(1,.slice0)]))
def z15:AV:=(.agg [dV 96 0,dV 3 1])
def d29 (E:Env):Dec:=
 {g:=29,f:=48,p:=0,pts:=[p29 E,
  Ax E 48 72 5 6 [(0,dV 96 0),(2,(.ptr 0 0)),(4,(.ptr 1 0)),(5,iV 1)] [some z14,some (.cells 2 (Ak [(0,aV 2 2 2 3),(1,aV 3 1 4 5)])),rV 96 2,rV 3 4] [] [],
  Ax E 48 72 10 7 [(0,dV 96 0),(2,(.ptr 0 0)),(4,(.ptr 1 0)),(5,iV 1),(6,iV 2)] [some z14,some (.cells 2 (Ak [(0,aV 2 2 3 4),(1,aV 3 1 5 6)])),rV 96 3,rV 3 5] [] []],
  shs:=[{m:=3,res:=(.tuple [z15,iV 2]),post:=[],keep:=[]}]}
theorem lR:Af (EF m29) [5,10] 20000 (d29 E0) t29 0=some (jl (d29 E0) [1]):=by kernel_rfl
theorem gN:Af (EF m29) [5,10] 20000 (d29 E0) t29 1=some (jl (d29 E0) [2]):=by kernel_rfl
theorem sw:Af (EF m29) [5,10] 20000 (d29 E0) t29 2=some (jl (d29 E0) [2,1]):=by kernel_rfl
theorem c29:Au (EF m29) [5,10] 20000 (d29 E0) t29:=dk3 rfl lR gN sw
def m30 (E:Env):List Sm:=(d29 E).smL a29 (p29 E) 0 (d29 E).shs ++ m29 E
def a30:List AV:=[z0]
def p30 (E:Env):Pt:=Aj E 12 4 a30 [] []
def d30 (E:Env):Dec:=
 {g:=30,f:=12,p:=0,pts:=[p30 E],
  shs:=[{m:=8,res:=(.tuple [(.agg [sV 0,dV 98 1,dV 96 2,dV 101 3,sV 4,(.int .i64 0),dV 96 5,dV 3 6,(.int .i64 0),(.dat 140 .nilL)]),iV 7]),post:=[],keep:=[]}]}
theorem gJ:Af (EF m30) [] 20000 (d30 E0) t30 0=some (jl (d30 E0) []):=by kernel_rfl
theorem c30:Au (EF m30) [] 20000 (d30 E0) t30:=dk1 rfl gJ
def m31 (E:Env):List Sm:=(d30 E).smL a30 (p30 E) 0 (d30 E).shs ++ m30 E
def a31:List AV:=[(.nmap 0 (.var 1))]
def p31 (E:Env):Pt:=Aj E 179 2 a31 [some (.dmap 3 3 (.var 0))] []
def d31 (E:Env):Dec:=
 {g:=31,f:=179,p:=1,pts:=[p31 E],
  shs:=[{m:=2,res:=(.nmap 1 (.var 0)),post:=[none,some (.dmap 3 3 (.var 1))],keep:=[0]}]}
theorem tw:Af (EF m31) [] 20000 (d31 E0) t31 0=some (jl (d31 E0) []):=by kernel_rfl
theorem c31:Au (EF m31) [] 20000 (d31 E0) t31:=dk1 rfl tw
def m32 (E:Env):List Sm:=(d31 E).smL a31 (p31 E) 0 (d31 E).shs ++ m31 E
def a32:List AV:=[aV 0 2 0 1]
def p32 (E:Env):Pt:=Aj E 180 2 a32 [rV 256 0] []
def d32 (E:Env):Dec:=
 {g:=32,f:=180,p:=1,pts:=[p32 E],
  shs:=[{m:=2,res:=aV 1 2 0 1,post:=[none,rV 256 0],keep:=[0]}]}
theorem kk:Af (EF m32) [] 20000 (d32 E0) t32 0=some (jl (d32 E0) []):=by kernel_rfl
theorem c32:Au (EF m32) [] 20000 (d32 E0) t32:=dk1 rfl kk
def m33 (E:Env):List Sm:=(d32 E).smL a32 (p32 E) 0 (d32 E).shs ++ m32 E
def a33:List AV:=[(.ptr 0 0)]
def p33 (E:Env):Pt:=Aj E 122 5 a33 [some z7,some (.dmap 3 3 (.var 1)),rV 256 3] []
def d33 (E:Env):Dec:=
 {g:=33,f:=122,p:=3,pts:=[p33 E],
  shs:=[{m:=5,res:=(.ptr 3 0),post:=[none,none,none,some (.cells 3 (Ak [(0,iV 0),(1,(.nmap 4 (.var 1))),(2,aV 5 2 2 3)])),some (.dmap 3 3 (.var 4)),rV 256 2],keep:=[0,1,2]}]}
theorem tv:Af (EF m33) [] 20000 (d33 E0) t33 0=some (jl (d33 E0) []):=by kernel_rfl
theorem c33:Au (EF m33) [] 20000 (d33 E0) t33:=dk1 rfl tv
def m34 (E:Env):List Sm:=(d33 E).smL a33 (p33 E) 0 (d33 E).shs ++ m33 E
def a34:List AV:=[(.ptr 0 0)]
def p34 (E:Env):Pt:=Aj E 191 5 a34 [some z7,some (.dmap 3 3 (.var 1)),rV 256 3] []
def d34 (E:Env):Dec:=
 {g:=34,f:=191,p:=3,pts:=[p34 E,
  Ax E 191 100 4 7 [(0,(.ptr 0 0)),(2,iV 0),(3,iV 1)] [some (.cells 3 (Ak [(0,iV 2),(1,(.nmap 1 (.var 3))),(2,aV 2 2 4 5)])),some (.dmap 3 3 (.var 6)),rV 256 4] [] [],
  Ax E 191 100 6 11 [(0,(.ptr 0 0)),(2,iV 0),(3,iV 1),(4,iV 2),(41,(.slice 3 0 2 1)),(42,(.int .i64 2)),(43,iV 3)] [some (.cells 3 (Ak [(0,iV 4),(1,(.nmap 1 (.var 5))),(2,aV 2 2 6 7)])),some (.dmap 3 3 (.var 8)),rV 256 6,some (.cells 2 (Ak [(0,iV 9),(1,iV 10)]))] [] []],
  shs:=[{m:=2,res:=(.tuple []),post:=[some (.cells 3 (Ak [(0,.top),(1,.top),(2,aV 2 2 0 1)])),none,rV 256 0],keep:=[1],keepC:=[(0,[0,1])]}]}
theorem iS:Af (EF m34) [4,6] 20000 (d34 E0) t34 0=some (jl (d34 E0) [1]):=by kernel_rfl
theorem mX:Af (EF m34) [4,6] 20000 (d34 E0) t34 1=some (jl (d34 E0) [2]):=by kernel_rfl
theorem tK:Af (EF m34) [4,6] 20000 (d34 E0) t34 2=some (jl (d34 E0) [2,2,2,2,2,2,2,2,2,2,2,2,2,2,2,2,2,2,2,2,1]):=by kernel_rfl
theorem c34:Au (EF m34) [4,6] 20000 (d34 E0) t34:=dk3 rfl iS mX tK
def m35 (E:Env):List Sm:=(d34 E).smL a34 (p34 E) 0 (d34 E).shs ++ m34 E
def a35:List AV:=[(.ptr 0 0)]
def p35 (E:Env):Pt:=Aj E 153 5 a35 [some z7,some (.dmap 3 3 (.var 1)),rV 256 3] []
def d35 (E:Env):Dec:=
 {g:=35,f:=153,p:=3,pts:=[p35 E,
  Ax E 153 40 1 5 [(0,(.ptr 0 0)),(2,(.ptr 3 0))] [some (.cells 3 (Ak [(0,iV 0),(1,(.nmap 1 (.var 1))),(2,aV 2 2 2 3)])),some (.dmap 3 3 (.var 4)),rV 256 2,some (.cells 2 (Ak [(0,(.int .i64 0)),(1,(.int .i64 0))]))] [] []],
  shs:=[{m:=5,res:=(.tuple [(.agg [iV 0,iV 1]),bV 2]),post:=[some (.cells 3 (Ak [(0,.top),(1,.top),(2,aV 2 2 3 4)])),none,rV 256 3],keep:=[1],keepC:=[(0,[0,1])]}]}
theorem li:Af (EF m35) [1] 20000 (d35 E0) t35 0=some (jl (d35 E0) [1]):=by kernel_rfl
theorem ia:Af (EF m35) [1] 20000 (d35 E0) t35 1=some (jl (d35 E0) [1,1,1]):=by kernel_rfl
theorem c35:Au (EF m35) [1] 20000 (d35 E0) t35:=dk2 rfl li ia
def m36 (E:Env):List Sm:=(d35 E).smL a35 (p35 E) 0 (d35 E).shs ++ m35 E
def a36:List AV:=[(.ptr 0 0),iV 5]
def p36 (E:Env):Pt:=Aj E 83 6 a36 [some z7,some (.dmap 3 3 (.var 1)),rV 256 3] []
def d36 (E:Env):Dec:=
 {g:=36,f:=83,p:=3,pts:=[p36 E,
  Ax E 83 56 7 10 [(0,(.ptr 0 0)),(4,aV 4 1 0 1),(6,(.ptr 3 0)),(7,bV 2)] [some (.cells 3 (Ak [(0,iV 3),(1,(.nmap 1 (.var 4))),(2,aV 2 2 5 6)])),some (.dmap 3 3 (.var 7)),rV 256 5,some (.cells 2 (Ak [(0,iV 8),(1,iV 9)])),rV 3 0] [] []],
  shs:=[{m:=7,res:=(.tuple [aV 3 1 0 1,iV 2]),post:=[some (.cells 3 (Ak [(0,iV 3),(1,.top),(2,aV 2 2 4 5)])),some (.dmap 3 3 (.var 6)),rV 256 4,rV 3 0],keep:=[],keepC:=[(0,[1])]}]}
theorem qO:Af (EF m36) [7] 20000 (d36 E0) t36 0=some (jl (d36 E0) [1,1]):=by kernel_rfl
theorem qF:Af (EF m36) [7] 20000 (d36 E0) t36 1=some (jl (d36 E0) [1,1,1]):=by kernel_rfl
theorem c36:Au (EF m36) [7] 20000 (d36 E0) t36:=dk2 rfl qO qF
def m37 (E:Env):List Sm:=(d36 E).smL a36 (p36 E) 0 (d36 E).shs ++ m36 E
def a37:List AV:=[(.ptr 0 0),sV 2]
def p37 (E:Env):Pt:=Aj E 203 3 a37 [some z6,rV 215 0] []
def d37 (E:Env):Dec:=
 {g:=37,f:=203,p:=2,pts:=[p37 E],
  shs:=[{m:=2,res:=(.tuple [iV 0,iV 1]),post:=[none,none],keep:=[0,1]}]}
theorem px:Af (EF m37) [] 20000 (d37 E0) t37 0=some (jl (d37 E0) []):=by kernel_rfl
theorem c37:Au (EF m37) [] 20000 (d37 E0) t37:=dk1 rfl px
def m38 (E:Env):List Sm:=(d37 E).smL a37 (p37 E) 0 (d37 E).shs ++ m37 E
def z16:AV:=(.agg [sV 2,sV 3,iV 4,sV 5,sV 6,sV 7,iV 8,iV 9,iV 10])
def a38:List AV:=[(.ptr 0 0),z16]
def p38 (E:Env):Pt:=Aj E 181 11 a38 [some z6,rV 215 0] []
def d38 (E:Env):Dec:=
 {g:=38,f:=181,p:=2,pts:=[p38 E],
  shs:=[{m:=2,res:=(.tuple [bV 0,iV 1]),post:=[none,none],keep:=[0,1]}]}
theorem nT:Af (EF m38) [] 20000 (d38 E0) t38 0=some (jl (d38 E0) []):=by kernel_rfl
theorem c38:Au (EF m38) [] 20000 (d38 E0) t38:=dk1 rfl nT
def m39 (E:Env):List Sm:=(d38 E).smL a38 (p38 E) 0 (d38 E).shs ++ m38 E
def z17:AV:=(.agg [(.ptr 0 0),(.ptr 10 0),bV 25])
def a39:List AV:=[z17,(.agg [sV 26,sV 27,iV 28,sV 29,sV 30,sV 31,iV 32,iV 33,iV 34])]
def z18:Am:=(.cells 3 (Ak [(0,iV 20),(1,(.nmap 11 (.var 22))),(2,aV 12 2 23 24)]))
def p39 (E:Env):Pt:=Aj E 53 35 a39 [some z9,some z10,rV 215 0,rV 98 3,rV 96 5,rV 101 7,some z11,some (.dmap 3 3 (.var 13)),rV 256 15,rV 225 18,some z18,some (.dmap 3 3 (.var 21)),rV 256 23] []
def z19:AV:=(.agg [(.ptr 0 0),(.ptr 10 0),bV 35])
def d39 (E:Env):Dec:=
 {g:=39,f:=53,p:=13,pts:=[p39 E,
  Ax E 53 24 2 36 [(3,(.ptr 13 0)),(13,(.slice 14 0 3 1)),(14,(.int .i64 3)),(15,iV 0)] [some (.cells 11 (Ak [(0,(.ptr 1 0)),(1,sV 1),(2,aV 3 3 2 3),(3,aV 4 2 4 5),(4,aV 5 9 6 7),(5,sV 8),(6,bV 9),(7,iV 10),(8,(.ptr 6 0)),(9,bV 11),(10,aV 9 2 12 13)])),some (.cells 2 (Ak [(0,(.bool true)),(1,aV 2 3 14 15)])),rV 215 14,rV 98 2,rV 96 4,rV 101 6,some (.cells 3 (Ak [(0,iV 16),(1,(.nmap 7 (.var 17))),(2,aV 8 2 18 19)])),some (.dmap 3 3 (.var 20)),rV 256 18,rV 225 12,some (.cells 3 (Ak [(0,iV 21),(1,(.nmap 11 (.var 22))),(2,aV 12 2 23 24)])),some (.dmap 3 3 (.var 25)),rV 256 23,some (.cells 9 (Ak [(0,sV 26),(1,sV 27),(2,iV 28),(3,sV 29),(4,sV 30),(5,sV 31),(6,iV 32),(7,iV 33),(8,iV 34)])),some (.cells 3 (Ak [(0,(.func (.func 123) [z19] [])),(1,(.func (.func 124) [z19] [])),(2,(.func (.func 125) [z19] []))]))] [] []],
  shs:=[{m:=1,res:=bV 0,post:=[none,none,none,none,none,none,none,none,none,none,none,none,none],keep:=[0,1,2,3,4,5,6,7,8,9,10,11,12]}]}
theorem lJ:Af (EF m39) [2] 20000 (d39 E0) t39 0=some (jl (d39 E0) [1]):=by kernel_rfl
theorem nf:Af (EF m39) [2] 20000 (d39 E0) t39 1=some (jl (d39 E0) [1,1,1,1]):=by kernel_rfl
theorem c39:Au (EF m39) [2] 20000 (d39 E0) t39:=dk2 rfl lJ nf
def m40 (E:Env):List Sm:=(d39 E).smL a39 (p39 E) 0 (d39 E).shs ++ m39 E
def a40:List AV:=[(.ptr 0 0),z16]
def p40 (E:Env):Pt:=Aj E 126 11 a40 [some z6,rV 215 0] []
def d40 (E:Env):Dec:=
 {g:=40,f:=126,p:=2,pts:=[p40 E],
  shs:=[{m:=2,res:=iV 0,post:=[none,rV 215 1],keep:=[0]}]}
theorem pp:Af (EF m40) [] 20000 (d40 E0) t40 0=some (jl (d40 E0) []):=by kernel_rfl
theorem c40:Au (EF m40) [] 20000 (d40 E0) t40:=dk1 rfl pp
def m41 (E:Env):List Sm:=(d40 E).smL a40 (p40 E) 0 (d40 E).shs ++ m40 E
def a41:List AV:=[z17,iV 26,iV 27]
def p41 (E:Env):Pt:=Aj E 54 28 a41 [some z9,some z10,rV 215 0,rV 98 3,rV 96 5,rV 101 7,some z11,some (.dmap 3 3 (.var 13)),rV 256 15,rV 225 18,some z18,some (.dmap 3 3 (.var 21)),rV 256 23] []
def d41 (E:Env):Dec:=
 {g:=41,f:=54,p:=13,pts:=[p41 E],
  shs:=[{m:=17,res:=(.tuple []),post:=[some (.cells 11 (Ak [(0,.top),(1,.top),(2,.top),(3,.top),(4,.top),(5,sV 0),(6,bV 1),(7,iV 2),(8,(.ptr 10 0)),(9,(.bool false)),(10,aV 13 2 3 4)])),some (.cells 2 (Ak [(0,.top),(1,aV 2 3 5 6)])),rV 215 5,none,none,none,some (.cells 3 (Ak [(0,iV 7),(1,(.nmap 7 (.var 8))),(2,aV 8 2 9 10)])),some (.dmap 3 3 (.var 11)),rV 256 9,none,some (.cells 3 (Ak [(0,iV 12),(1,(.nmap 14 (.var 13))),(2,aV 15 2 14 15)])),none,none,rV 225 3,some (.dmap 3 3 (.var 16)),rV 256 14],keep:=[3,4,5],keepC:=[(0,[0,1,2,3,4]),(1,[0])]}]}
theorem oT:Af (EF m41) [] 20000 (d41 E0) t41 0=some (jl (d41 E0) []):=by kernel_rfl
theorem c41:Au (EF m41) [] 20000 (d41 E0) t41:=dk1 rfl oT
def m42 (E:Env):List Sm:=(d41 E).smL a41 (p41 E) 0 (d41 E).shs ++ m41 E
def a42:List AV:=[(.ptr 0 0),iV 20,iV 21]
def z20:Am:=(.cells 11 (Ak [(0,(.ptr 2 0)),(1,sV 2),(2,aV 4 3 3 4),(3,aV 5 2 5 6),(4,aV 6 9 7 8),(5,sV 9),(6,bV 10),(7,iV 11),(8,(.ptr 7 0)),(9,bV 17),(10,aV 10 2 18 19)]))
def z21:Am:=(.cells 2 (Ak [(0,(.bool true)),(1,aV 3 3 0 1)]))
def z22:Am:=(.cells 3 (Ak [(0,iV 12),(1,(.nmap 8 (.var 14))),(2,aV 9 2 15 16)]))
def p42 (E:Env):Pt:=Aj E 13 22 a42 [some z12,some z20,some z21,rV 215 0,rV 98 3,rV 96 5,rV 101 7,some z22,some (.dmap 3 3 (.var 13)),rV 256 15,rV 225 18] []
def d42 (E:Env):Dec:=
 {g:=42,f:=13,p:=11,pts:=[p42 E],
  shs:=[{m:=14,res:=iV 0,post:=[none,some (.cells 11 (Ak [(0,.top),(1,.top),(2,.top),(3,.top),(4,.top),(5,sV 1),(6,bV 2),(7,iV 3),(8,(.ptr 13 0)),(9,bV 4),(10,aV 14 2 5 6)])),some (.cells 2 (Ak [(0,.top),(1,aV 3 3 7 8)])),rV 215 7,none,none,none,none,none,none,none,some (.dmap 3 3 (.var 9)),rV 256 10,some (.cells 3 (Ak [(0,iV 11),(1,(.nmap 11 (.var 12))),(2,aV 12 2 10 13)])),rV 225 5],keep:=[0,4,5,6],keepC:=[(1,[0,1,2,3,4]),(2,[0])]}]}
theorem jQ:Af (EF m42) [] 20000 (d42 E0) t42 0=some (jl (d42 E0) []):=by kernel_rfl
theorem c42:Au (EF m42) [] 20000 (d42 E0) t42:=dk1 rfl jQ
def m43 (E:Env):List Sm:=(d42 E).smL a42 (p42 E) 0 (d42 E).shs ++ m42 E
def a43:List AV:=[z15,sV 2]
def p43 (E:Env):Pt:=Aj E 129 3 a43 [] []
def d43 (E:Env):Dec:=
 {g:=43,f:=129,p:=0,pts:=[p43 E,
  Ax E 129 22 2 4 [(1,sV 0),(2,(.ptr 0 0)),(5,iV 1)] [some (.cells 2 (Ak [(0,dV 96 2),(1,dV 3 3)]))] [] []],
  shs:=[{m:=1,res:=iV 0,post:=[],keep:=[]}]}
theorem sG:Af (EF m43) [2] 20000 (d43 E0) t43 0=some (jl (d43 E0) [1]):=by kernel_rfl
theorem ka:Af (EF m43) [2] 20000 (d43 E0) t43 1=some (jl (d43 E0) [1]):=by kernel_rfl
theorem c43:Au (EF m43) [2] 20000 (d43 E0) t43:=dk2 rfl sG ka
def m44 (E:Env):List Sm:=(d43 E).smL a43 (p43 E) 0 (d43 E).shs ++ m43 E
def a44:List AV:=[z15,z16]
def p44 (E:Env):Pt:=Aj E 127 11 a44 [] []
def d44 (E:Env):Dec:=
 {g:=44,f:=127,p:=0,pts:=[p44 E],
  shs:=[{m:=2,res:=(.tuple [bV 0,iV 1]),post:=[],keep:=[]}]}
theorem rI:Af (EF m44) [] 20000 (d44 E0) t44 0=some (jl (d44 E0) []):=by kernel_rfl
theorem c44:Au (EF m44) [] 20000 (d44 E0) t44:=dk1 rfl rI
def m45 (E:Env):List Sm:=(d44 E).smL a44 (p44 E) 0 (d44 E).shs ++ m44 E
def a45:List AV:=[z0,sV 4]
def p45 (E:Env):Pt:=Aj E 128 5 a45 [] []
def d45 (E:Env):Dec:=
 {g:=45,f:=128,p:=0,pts:=[p45 E,
  Ax E 128 27 2 6 [(1,sV 0),(2,(.ptr 0 0)),(4,(.ptr 1 0)),(5,iV 1)] [some z1,some (.cells 3 (Ak [(0,(.str 0 0)),(1,(.bool false)),(2,(.int .i64 0))]))] [] []],
  shs:=[{m:=3,res:=(.agg [sV 0,bV 1,iV 2]),post:=[],keep:=[]}]}
theorem iU:Af (EF m45) [2] 20000 (d45 E0) t45 0=some (jl (d45 E0) [1]):=by kernel_rfl
theorem su:Af (EF m45) [2] 20000 (d45 E0) t45 1=some (jl (d45 E0) [1]):=by kernel_rfl
theorem c45:Au (EF m45) [2] 20000 (d45 E0) t45:=dk2 rfl iU su
def m46 (E:Env):List Sm:=(d45 E).smL a45 (p45 E) 0 (d45 E).shs ++ m45 E
def z23:AV:=(.agg [sV 0,dV 98 1,dV 96 2,dV 101 3,sV 4,iV 5,dV 96 6,dV 3 7,iV 8,dV 140 9])
def a46:List AV:=[z23,iV 10,iV 11]
def p46 (E:Env):Pt:=Aj E 56 12 a46 [] []
def d46 (E:Env):Dec:=
 {g:=46,f:=56,p:=0,pts:=[p46 E],
  shs:=[{m:=1,res:=bV 0,post:=[],keep:=[]}]}
theorem tp:Af (EF m46) [] 20000 (d46 E0) t46 0=some (jl (d46 E0) []):=by kernel_rfl
theorem c46:Au (EF m46) [] 20000 (d46 E0) t46:=dk1 rfl tp
def m47 (E:Env):List Sm:=(d46 E).smL a46 (p46 E) 0 (d46 E).shs ++ m46 E
def a47:List AV:=[z15,z16]
def p47 (E:Env):Pt:=Aj E 57 11 a47 [] []
def d47 (E:Env):Dec:=
 {g:=47,f:=57,p:=0,pts:=[p47 E],
  shs:=[{m:=3,res:=(.tuple [z15,iV 2]),post:=[],keep:=[]}]}
theorem kx:Af (EF m47) [] 20000 (d47 E0) t47 0=some (jl (d47 E0) []):=by kernel_rfl
theorem c47:Au (EF m47) [] 20000 (d47 E0) t47:=dk1 rfl kx
def m48 (E:Env):List Sm:=(d47 E).smL a47 (p47 E) 0 (d47 E).shs ++ m47 E
def a48:List AV:=[z23,iV 10,iV 11]
def p48 (E:Env):Pt:=Aj E 14 12 a48 [] []
def d48 (E:Env):Dec:=
 {g:=48,f:=14,p:=0,pts:=[p48 E],
  shs:=[{m:=11,res:=(.tuple [z23,iV 10]),post:=[],keep:=[]}]}
theorem rh:Af (EF m48) [] 20000 (d48 E0) t48 0=some (jl (d48 E0) []):=by kernel_rfl
theorem c48:Au (EF m48) [] 20000 (d48 E0) t48:=dk1 rfl rh
def m49 (E:Env):List Sm:=(d48 E).smL a48 (p48 E) 0 (d48 E).shs ++ m48 E
def a49:List AV:=[aV 0 3 0 1]
def p49 (E:Env):Pt:=Aj E 183 2 a49 [rV 215 0] []
def d49 (E:Env):Dec:=
 {g:=49,f:=183,p:=1,pts:=[p49 E],
  shs:=[{m:=2,res:=aV 1 3 0 1,post:=[none,rV 215 0],keep:=[0]}]}
theorem qA:Af (EF m49) [] 20000 (d49 E0) t49 0=some (jl (d49 E0) []):=by kernel_rfl
theorem c49:Au (EF m49) [] 20000 (d49 E0) t49:=dk1 rfl qA
def m50 (E:Env):List Sm:=(d49 E).smL a49 (p49 E) 0 (d49 E).shs ++ m49 E
def a50:List AV:=[(.ptr 0 0)]
def p50 (E:Env):Pt:=Aj E 130 2 a50 [some z6,rV 215 0] []
def d50 (E:Env):Dec:=
 {g:=50,f:=130,p:=2,pts:=[p50 E],
  shs:=[{m:=2,res:=(.ptr 2 0),post:=[none,none,some z21,rV 215 0],keep:=[0,1]}]}
theorem nY:Af (EF m50) [] 20000 (d50 E0) t50 0=some (jl (d50 E0) []):=by kernel_rfl
theorem c50:Au (EF m50) [] 20000 (d50 E0) t50:=dk1 rfl nY
def m51 (E:Env):List Sm:=(d50 E).smL a50 (p50 E) 0 (d50 E).shs ++ m50 E
def a51:List AV:=[aV 0 2 0 1]
def p51 (E:Env):Pt:=Aj E 131 2 a51 [rV 225 0] []
def d51 (E:Env):Dec:=
 {g:=51,f:=131,p:=1,pts:=[p51 E],
  shs:=[{m:=2,res:=aV 1 2 0 1,post:=[none,rV 225 0],keep:=[0]}]}
theorem n9:Af (EF m51) [] 20000 (d51 E0) t51 0=some (jl (d51 E0) []):=by kernel_rfl
theorem c51:Au (EF m51) [] 20000 (d51 E0) t51:=dk1 rfl n9
def m52 (E:Env):List Sm:=(d51 E).smL a51 (p51 E) 0 (d51 E).shs ++ m51 E
def a52:List AV:=[(.ptr 0 0)]
def p52 (E:Env):Pt:=Aj E 58 20 a52 [some z12,some z20,some z21,rV 215 0,rV 98 3,rV 96 5,rV 101 7,some z22,some (.dmap 3 3 (.var 13)),rV 256 15,rV 225 18] []
def d52 (E:Env):Dec:=
 {g:=52,f:=58,p:=11,pts:=[p52 E],
  shs:=[{m:=20,res:=(.ptr 11 0),post:=[none,none,none,none,rV 98 0,rV 96 1,rV 101 2,none,none,none,none,some (.cells 1 (Ak [(0,(.ptr 12 0))])),some (.cells 11 (Ak [(0,(.ptr 13 0)),(1,sV 3),(2,aV 4 3 0 4),(3,aV 5 2 1 5),(4,aV 6 9 2 6),(5,sV 7),(6,bV 8),(7,iV 9),(8,(.ptr 14 0)),(9,bV 10),(10,aV 15 2 11 12)])),some (.cells 2 (Ak [(0,(.bool true)),(1,aV 16 3 13 14)])),some (.cells 3 (Ak [(0,iV 15),(1,(.nmap 17 (.var 16))),(2,aV 18 2 17 18)])),rV 225 11,rV 215 13,some (.dmap 3 3 (.var 19)),rV 256 17],keep:=[0,1,2,3,7,8,9,10]}]}
theorem rm:Af (EF m52) [] 20000 (d52 E0) t52 0=some (jl (d52 E0) []):=by kernel_rfl
theorem c52:Au (EF m52) [] 20000 (d52 E0) t52:=dk1 rfl rm
def m53 (E:Env):List Sm:=(d52 E).smL a52 (p52 E) 0 (d52 E).shs ++ m52 E
def a53:List AV:=[(.asl 0 3 (.var 2) (.var 1))]
def p53 (E:Env):Pt:=Aj E 111 3 a53 [rV 98 0] []
def d53 (E:Env):Dec:=
 {g:=53,f:=111,p:=1,pts:=[p53 E],
  shs:=[{m:=2,res:=aV 1 3 0 1,post:=[none,rV 98 0],keep:=[0]}]}
theorem rR:Af (EF m53) [] 20000 (d53 E0) t53 0=some (jl (d53 E0) []):=by kernel_rfl
theorem c53:Au (EF m53) [] 20000 (d53 E0) t53:=dk1 rfl rR
def m54 (E:Env):List Sm:=(d53 E).smL a53 (p53 E) 0 (d53 E).shs ++ m53 E
def a54:List AV:=[(.asl 0 2 (.var 2) (.var 1))]
def p54 (E:Env):Pt:=Aj E 112 3 a54 [rV 96 0] []
def d54 (E:Env):Dec:=
 {g:=54,f:=112,p:=1,pts:=[p54 E],
  shs:=[{m:=2,res:=aV 1 2 0 1,post:=[none,rV 96 0],keep:=[0]}]}
theorem jf:Af (EF m54) [] 20000 (d54 E0) t54 0=some (jl (d54 E0) []):=by kernel_rfl
theorem c54:Au (EF m54) [] 20000 (d54 E0) t54:=dk1 rfl jf
def m55 (E:Env):List Sm:=(d54 E).smL a54 (p54 E) 0 (d54 E).shs ++ m54 E
def a55:List AV:=[(.asl 0 9 (.var 2) (.var 1))]
def p55 (E:Env):Pt:=Aj E 113 3 a55 [rV 101 0] []
def d55 (E:Env):Dec:=
 {g:=55,f:=113,p:=1,pts:=[p55 E],
  shs:=[{m:=2,res:=aV 1 9 0 1,post:=[none,rV 101 0],keep:=[0]}]}
theorem j7:Af (EF m55) [] 20000 (d55 E0) t55 0=some (jl (d55 E0) []):=by kernel_rfl
theorem c55:Au (EF m55) [] 20000 (d55 E0) t55:=dk1 rfl j7
def m56 (E:Env):List Sm:=(d55 E).smL a55 (p55 E) 0 (d55 E).shs ++ m55 E
def a56:List AV:=[(.ptr 0 0)]
def z24:Am:=(.cells 11 (Ak [(0,(.ptr 2 0)),(1,sV 2),(2,(.asl 4 3 (.var 5) (.var 4))),(3,(.asl 5 2 (.var 8) (.var 7))),(4,(.asl 6 9 (.var 11) (.var 10))),(5,sV 12),(6,bV 13),(7,iV 14),(8,(.ptr 7 0)),(9,bV 20),(10,aV 10 2 21 22)]))
def z25:Am:=(.cells 3 (Ak [(0,iV 15),(1,(.nmap 8 (.var 17))),(2,aV 9 2 18 19)]))
def p56 (E:Env):Pt:=Aj E 59 23 a56 [some z12,some z24,some z21,rV 215 0,rV 98 3,rV 96 6,rV 101 9,some z25,some (.dmap 3 3 (.var 16)),rV 256 18,rV 225 21] []
def d56 (E:Env):Dec:=
 {g:=56,f:=59,p:=11,pts:=[p56 E],
  shs:=[{m:=4,res:=z0,post:=[none,none,none,none,none,none,none,none,none,none,none],keep:=[0,1,2,3,4,5,6,7,8,9,10]}]}
theorem nG:Af (EF m56) [] 20000 (d56 E0) t56 0=some (jl (d56 E0) []):=by kernel_rfl
theorem c56:Au (EF m56) [] 20000 (d56 E0) t56:=dk1 rfl nG
def m57 (E:Env):List Sm:=(d56 E).smL a56 (p56 E) 0 (d56 E).shs ++ m56 E
def a57:List AV:=[dV 98 0,(.func (.func 184) [] [(.ptr 0 0)])]
def p57 (E:Env):Pt:=Aj E 151 2 a57 [some z2] []
def d57 (E:Env):Dec:=
 {g:=57,f:=151,p:=1,pts:=[p57 E,
  Ax E 151 19 2 3 [(0,dV 98 0),(1,(.func (.func 184) [] [(.ptr 0 0)])),(7,(.si .i64 (.lenL (.var 0)))),(8,iV 1)] [some z3] [] []],
  shs:=[{m:=1,res:=iV 0,post:=[none],keep:=[0]}]}
theorem ir:Af (EF m57) [2] 20000 (d57 E0) t57 0=some (jl (d57 E0) [1]):=by kernel_rfl
theorem se:Af (EF m57) [2] 20000 (d57 E0) t57 1=some (jl (d57 E0) [1]):=by kernel_rfl
theorem c57:Au (EF m57) [2] 20000 (d57 E0) t57:=dk2 rfl ir se
def m58 (E:Env):List Sm:=(d57 E).smL a57 (p57 E) 0 (d57 E).shs ++ m57 E
def a58:List AV:=[dV 96 0,(.func (.func 186) [] [(.ptr 0 0)])]
def p58 (E:Env):Pt:=Aj E 185 2 a58 [some z2] []
def d58 (E:Env):Dec:=
 {g:=58,f:=185,p:=1,pts:=[p58 E,
  Ax E 185 19 2 3 [(0,dV 96 0),(1,(.func (.func 186) [] [(.ptr 0 0)])),(7,(.si .i64 (.lenL (.var 0)))),(8,iV 1)] [some z3] [] []],
  shs:=[{m:=1,res:=iV 0,post:=[none],keep:=[0]}]}
theorem lU:Af (EF m58) [2] 20000 (d58 E0) t58 0=some (jl (d58 E0) [1]):=by kernel_rfl
theorem nB:Af (EF m58) [2] 20000 (d58 E0) t58 1=some (jl (d58 E0) [1]):=by kernel_rfl
theorem c58:Au (EF m58) [2] 20000 (d58 E0) t58:=dk2 rfl lU nB
def m59 (E:Env):List Sm:=(d58 E).smL a58 (p58 E) 0 (d58 E).shs ++ m58 E
def z26:AV:=(.agg [sV 4,dV 98 5,dV 96 6,dV 101 7])
def z27:AV:=(.agg [dV 103 8,dV 188 9])
def a59:List AV:=[z0,z26,z27]
def p59 (E:Env):Pt:=Aj E 60 10 a59 [] []
def z28:Am:=(.cells 4 (Ak [(0,sV 0),(1,dV 98 1),(2,dV 96 2),(3,dV 101 3)]))
def z29:Am:=(.cells 4 (Ak [(0,sV 4),(1,dV 98 5),(2,dV 96 6),(3,dV 101 7)]))
def z30:Am:=(.cells 2 (Ak [(0,dV 103 8),(1,dV 188 9)]))
def d59 (E:Env):Dec:=
 {g:=59,f:=60,p:=0,pts:=[p59 E,
  Ax E 60 114 7 19 [(0,z0),(1,z26),(2,z27),(3,(.ptr 0 0)),(4,(.ptr 1 0)),(5,(.ptr 2 0)),(7,(.int .i64 490)),(8,(.map 3)),(13,(.map 3)),(14,z0),(15,bV 10),(16,bV 11),(17,bV 12),(18,z26),(19,bV 13),(20,bV 14),(21,bV 15),(22,(.ptr 2 0)),(23,dV 103 8),(24,(.si .i64 (.lenL (.var 8)))),(25,bV 16),(26,(.ptr 2 0)),(27,dV 103 8),(28,(.si .i64 (.lenL (.var 8)))),(29,iV 17)] [some z28,some z29,some z30,some (.dmap 9 4 (.var 18))] [] [],
  Ax E 60 114 17 22 [(0,z0),(1,z26),(2,z27),(3,(.ptr 0 0)),(4,(.ptr 1 0)),(5,(.ptr 2 0)),(7,(.int .i64 491)),(8,(.map 3)),(13,(.map 3)),(14,z0),(15,bV 10),(16,bV 11),(17,bV 12),(18,z26),(19,bV 13),(20,bV 14),(21,bV 15),(22,(.ptr 2 0)),(23,dV 103 8),(24,(.si .i64 (.lenL (.var 8)))),(25,bV 16),(26,(.ptr 2 0)),(27,dV 103 8),(28,(.si .i64 (.lenL (.var 8)))),(29,iV 17),(30,bV 18),(57,(.map 3)),(58,(.ptr 2 1)),(59,dV 188 9),(60,(.si .i64 (.lenL (.var 9)))),(61,bV 19),(62,(.ptr 2 1)),(63,dV 188 9),(64,(.si .i64 (.lenL (.var 9)))),(65,iV 20)] [some z28,some z29,some z30,some (.dmap 9 4 (.var 21))] [] []],
  shs:=[{m:=2,res:=(.tuple [iV 0,iV 1]),post:=[],keep:=[]}]}
theorem tM:Af (EF m59) [7,17] 20000 (d59 E0) t59 0=some (jl (d59 E0) [1]):=by kernel_rfl
theorem rP:Af (EF m59) [7,17] 20000 (d59 E0) t59 1=some (jl (d59 E0) [1,1,2]):=by kernel_rfl
theorem rL:Af (EF m59) [7,17] 20000 (d59 E0) t59 2=some (jl (d59 E0) [2,2,2,2,2,2,2,2]):=by kernel_rfl
theorem c59:Au (EF m59) [7,17] 20000 (d59 E0) t59:=dk3 rfl tM rP rL
def m60 (E:Env):List Sm:=(d59 E).smL a59 (p59 E) 0 (d59 E).shs ++ m59 E
def a60:List AV:=[(.func (.yield 0) [] []),(.ptr 4 0)]
def p60 (E:Env):Pt:=Aj E 187 4 a60 [some (Uc E 71 2 .ready none 14 [(2,(.ptr 1 0))] 3),some (.cells 1 (Ak [(0,aV 2 1 0 1)])),rV 3 0,some (.deferred (some [])),some (.cells 1 (Ak [(0,aV 5 3 2 3)])),rV 215 2] []
def d60 (E:Env):Dec:=
 {g:=60,f:=187,p:=6,pts:=[p60 E,
  Ax E 187 20 1 5 [(0,(.func (.yield 0) [] [])),(5,aV 5 3 0 1),(6,(.si .i64 (.lenL (.var 0)))),(7,iV 2)] [some (Uc E 71 2 .ready none 14 [(2,(.ptr 1 0))] 3),some (.cells 1 (Ak [(0,aV 6 1 3 4)])),none,some (.deferred (some [])),some (.cells 1 (Ak [(0,aV 5 3 0 1)])),rV 215 0,rV 3 3] [] []],
  shs:=[{m:=2,res:=(.tuple []),post:=[none,some (.cells 1 (Ak [(0,aV 6 1 0 1)])),none,none,none,none,rV 3 0],keep:=[0,3,4,5]}]}
theorem qp:Af (EF m60) [1] 20000 (d60 E0) t60 0=some (jl (d60 E0) [1]):=by kernel_rfl
theorem tz:Af (EF m60) [1] 20000 (d60 E0) t60 1=some (jl (d60 E0) [1]):=by kernel_rfl
theorem c60:Au (EF m60) [1] 20000 (d60 E0) t60:=dk2 rfl qp tz
def m61 (E:Env):List Sm:=(d60 E).smL a60 (p60 E) 0 (d60 E).shs ++ m60 E
def a61:List AV:=[(.ptr 0 0)]
def p61 (E:Env):Pt:=Aj E 71 2 a61 [some z6,rV 215 0] []
def d61 (E:Env):Dec:=
 {g:=61,f:=71,p:=2,pts:=[p61 E],
  shs:=[{m:=2,res:=aV 2 1 0 1,post:=[none,none,rV 3 0],keep:=[0,1]}]}
theorem pi:Af (EF m61) [] 20000 (d61 E0) t61 0=some (jl (d61 E0) []):=by kernel_rfl
theorem c61:Au (EF m61) [] 20000 (d61 E0) t61:=dk1 rfl pi
def m62 (E:Env):List Sm:=(d61 E).smL a61 (p61 E) 0 (d61 E).shs ++ m61 E
def a62:List AV:=[(.ptr 0 0)]
def p62 (E:Env):Pt:=Aj E 22 23 a62 [some z12,some z24,some z21,rV 215 0,rV 98 3,rV 96 6,rV 101 9,some z25,some (.dmap 3 3 (.var 16)),rV 256 18,rV 225 21] []
def z31:AV:=(.agg [sV 0,dV 3 1])
def d62 (E:Env):Dec:=
 {g:=62,f:=22,p:=11,pts:=[p62 E],
  shs:=[{m:=2,res:=z31,post:=[none,none,none,none,none,none,none,none,none,none,none],keep:=[0,1,2,3,4,5,6,7,8,9,10]}]}
theorem nr:Af (EF m62) [] 20000 (d62 E0) t62 0=some (jl (d62 E0) []):=by kernel_rfl
theorem c62:Au (EF m62) [] 20000 (d62 E0) t62:=dk1 rfl nr
def m63 (E:Env):List Sm:=(d62 E).smL a62 (p62 E) 0 (d62 E).shs ++ m62 E
def z32:AV:=(.agg [sV 4,dV 3 5])
def a63:List AV:=[z0,z32]
def p63 (E:Env):Pt:=Aj E 73 6 a63 [] []
def z33:AV:=(.agg [iV 0,iV 1,iV 2,iV 3,iV 4])
def d63 (E:Env):Dec:=
 {g:=63,f:=73,p:=0,pts:=[p63 E,
  Ax E 73 54 5 8 [(2,(.ptr 0 0)),(3,(.ptr 1 0)),(4,(.ptr 2 0)),(27,dV 3 0),(28,(.si .i64 (.lenL (.var 0)))),(29,iV 1)] [some z1,some (.cells 2 (Ak [(0,sV 6),(1,dV 3 0)])),some (.cells 5 (Ak [(0,iV 7),(1,(.int .i64 0)),(2,(.int .i64 0)),(3,(.int .i64 0)),(4,(.int .i64 0))]))] [] []],
  shs:=[{m:=6,res:=(.tuple [z33,bV 5]),post:=[],keep:=[]}]}
theorem nD:Af (EF m63) [5] 20000 (d63 E0) t63 0=some (jl (d63 E0) [1]):=by kernel_rfl
theorem pD:Af (EF m63) [5] 20000 (d63 E0) t63 1=some (jl (d63 E0) [1]):=by kernel_rfl
theorem c63:Au (EF m63) [5] 20000 (d63 E0) t63:=dk2 rfl nD pD
def m64 (E:Env):List Sm:=(d63 E).smL a63 (p63 E) 0 (d63 E).shs ++ m63 E
def a64:List AV:=[dV 103 0,(.func (.func 147) [] [(.ptr 0 0),(.ptr 1 0)])]
def p64 (E:Env):Pt:=Aj E 88 10 a64 [some z13,some (.cells 5 (Ak [(0,iV 5),(1,iV 6),(2,iV 7),(3,iV 8),(4,iV 9)]))] []
def d64 (E:Env):Dec:=
 {g:=64,f:=88,p:=2,pts:=[p64 E,
  Ax E 88 19 2 11 [(0,dV 103 0),(1,(.func (.func 147) [] [(.ptr 0 0),(.ptr 1 0)])),(7,(.si .i64 (.lenL (.var 0)))),(8,iV 1)] [some z1,some (.cells 5 (Ak [(0,iV 6),(1,iV 7),(2,iV 8),(3,iV 9),(4,iV 10)]))] [] []],
  shs:=[{m:=1,res:=iV 0,post:=[none,none],keep:=[0,1]}]}
theorem gK:Af (EF m64) [2] 20000 (d64 E0) t64 0=some (jl (d64 E0) [1]):=by kernel_rfl
theorem iM:Af (EF m64) [2] 20000 (d64 E0) t64 1=some (jl (d64 E0) [1]):=by kernel_rfl
theorem c64:Au (EF m64) [2] 20000 (d64 E0) t64:=dk2 rfl gK iM
def m65 (E:Env):List Sm:=(d64 E).smL a64 (p64 E) 0 (d64 E).shs ++ m64 E
def a65:List AV:=[z0,z26,z27,(.agg [iV 10,iV 11,iV 12,iV 13,iV 14])]
def p65 (E:Env):Pt:=Aj E 76 15 a65 [] []
def z34:Am:=(.cells 4 (Ak [(0,sV 6),(1,dV 98 7),(2,dV 96 8),(3,dV 101 9)]))
def d65 (E:Env):Dec:=
 {g:=65,f:=76,p:=0,pts:=[p65 E,
  Ax E 76 76 6 20 [(4,(.ptr 0 0)),(5,(.ptr 1 0)),(7,(.ptr 2 0)),(8,(.ptr 3 0)),(33,dV 188 0),(34,(.si .i64 (.lenL (.var 0)))),(35,iV 1)] [some z1,some z34,some (.cells 5 (Ak [(0,iV 10),(1,iV 11),(2,iV 12),(3,iV 13),(4,iV 14)])),some (.cells 5 (Ak [(0,iV 15),(1,iV 16),(2,iV 17),(3,iV 18),(4,iV 19)]))] [] []],
  shs:=[{m:=6,res:=(.tuple [z33,iV 5]),post:=[],keep:=[]}]}
theorem mW:Af (EF m65) [6] 20000 (d65 E0) t65 0=some (jl (d65 E0) [1]):=by kernel_rfl
theorem tF:Af (EF m65) [6] 20000 (d65 E0) t65 1=some (jl (d65 E0) [1,1,1,1,1,1,1,1,1,1,1,1,1,1,1,1,1,1,1,1]):=by kernel_rfl
theorem c65:Au (EF m65) [6] 20000 (d65 E0) t65:=dk2 rfl mW tF
def m66 (E:Env):List Sm:=(d65 E).smL a65 (p65 E) 0 (d65 E).shs ++ m65 E
def z35:AV:=(.agg [sV 5,dV 98 6,dV 96 7,dV 101 8])
def a66:List AV:=[z33,z35]
def p66 (E:Env):Pt:=Aj E 75 9 a66 [] []
def d66 (E:Env):Dec:=
 {g:=66,f:=75,p:=0,pts:=[p66 E],
  shs:=[{m:=2,res:=z31,post:=[],keep:=[]}]}
theorem kT:Af (EF m66) [] 20000 (d66 E0) t66 0=some (jl (d66 E0) []):=by kernel_rfl
theorem c66:Au (EF m66) [] 20000 (d66 E0) t66:=dk1 rfl kT
def m67 (E:Env):List Sm:=(d66 E).smL a66 (p66 E) 0 (d66 E).shs ++ m66 E
def z36:AV:=(.agg [sV 10,dV 3 11])
def a67:List AV:=[z0,z26,z27,z36]
def p67 (E:Env):Pt:=Aj E 24 12 a67 [] []
def d67 (E:Env):Dec:=
 {g:=67,f:=24,p:=0,pts:=[p67 E],
  shs:=[{m:=3,res:=(.tuple [z31,iV 2]),post:=[],keep:=[]}]}
theorem ly:Af (EF m67) [] 20000 (d67 E0) t67 0=some (jl (d67 E0) []):=by kernel_rfl
theorem c67:Au (EF m67) [] 20000 (d67 E0) t67:=dk1 rfl ly
def m68 (E:Env):List Sm:=(d67 E).smL a67 (p67 E) 0 (d67 E).shs ++ m67 E
def a68:List AV:=[(.ptr 0 0),dV 3 2]
def p68 (E:Env):Pt:=Aj E 82 3 a68 [some z6,rV 215 0] []
def d68 (E:Env):Dec:=
 {g:=68,f:=82,p:=2,pts:=[p68 E,
  Ax E 82 60 6 4 [(0,(.ptr 0 0)),(1,dV 3 0),(21,dV 3 0),(22,(.si .i64 (.lenL (.var 0)))),(23,iV 1)] [some z5,rV 215 2] [] [],
  Ax E 82 60 12 5 [(0,(.ptr 0 0)),(44,dV 3 0),(45,iV 1),(46,iV 2)] [some (.cells 2 (Ak [(0,(.bool true)),(1,aV 1 3 3 4)])),rV 215 3] [] []],
  shs:=[{m:=2,res:=iV 0,post:=[none,rV 215 1],keep:=[0]}]}
theorem tc:Af (EF m68) [6,12] 20000 (d68 E0) t68 0=some (jl (d68 E0) [1]):=by kernel_rfl
theorem kZ:Af (EF m68) [6,12] 20000 (d68 E0) t68 1=some (jl (d68 E0) [1,2]):=by kernel_rfl
theorem lw:Af (EF m68) [6,12] 20000 (d68 E0) t68 2=some (jl (d68 E0) [2]):=by kernel_rfl
theorem c68:Au (EF m68) [6,12] 20000 (d68 E0) t68:=dk3 rfl tc kZ lw
def m69 (E:Env):List Sm:=(d68 E).smL a68 (p68 E) 0 (d68 E).shs ++ m68 E
def a69:List AV:=[z33,z35]
def p69 (E:Env):Pt:=Aj E 146 9 a69 [] []
def d69 (E:Env):Dec:=
 {g:=69,f:=146,p:=0,pts:=[p69 E],
  shs:=[{m:=3,res:=(.ptr 0 0),post:=[some (.cells 2 (Ak [(0,(.bool true)),(1,(.asl 1 3 (.var 0) (.var 1)))])),rV 215 2],keep:=[]}]}
theorem jd:Af (EF m69) [] 20000 (d69 E0) t69 0=some (jl (d69 E0) []):=by kernel_rfl
theorem c69:Au (EF m69) [] 20000 (d69 E0) t69:=dk1 rfl jd
def m70 (E:Env):List Sm:=(d69 E).smL a69 (p69 E) 0 (d69 E).shs ++ m69 E
def a70:List AV:=[z33,z35]
def p70 (E:Env):Pt:=Aj E 135 9 a70 [] []
def d70 (E:Env):Dec:=
 {g:=70,f:=135,p:=0,pts:=[p70 E,
  Ax E 135 46 3 15 [(2,(.ptr 0 0)),(3,(.ptr 1 0)),(4,aV 4 1 0 1),(5,(.ptr 2 0)),(14,dV 101 2),(15,(.si .i64 (.lenL (.var 2)))),(16,iV 3)] [some (.cells 5 (Ak [(0,iV 4),(1,iV 5),(2,iV 6),(3,iV 7),(4,iV 8)])),some (.cells 4 (Ak [(0,sV 9),(1,dV 98 10),(2,dV 96 11),(3,dV 101 2)])),some (.cells 2 (Ak [(0,(.bool true)),(1,(.asl 3 3 (.var 12) (.var 13)))])),rV 215 14,rV 3 0] [] []],
  shs:=[{m:=2,res:=aV 0 1 0 1,post:=[rV 3 0],keep:=[]}]}
theorem mT:Af (EF m70) [3] 20000 (d70 E0) t70 0=some (jl (d70 E0) [1]):=by kernel_rfl
theorem kW:Af (EF m70) [3] 20000 (d70 E0) t70 1=some (jl (d70 E0) [1,1,1]):=by kernel_rfl
theorem c70:Au (EF m70) [3] 20000 (d70 E0) t70:=dk2 rfl mT kW
def m71 (E:Env):List Sm:=(d70 E).smL a70 (p70 E) 0 (d70 E).shs ++ m70 E
def a71:List AV:=[z0,z32]
def p71 (E:Env):Pt:=Aj E 61 6 a71 [] []
def d71 (E:Env):Dec:=
 {g:=71,f:=61,p:=0,pts:=[p71 E],
  shs:=[{m:=3,res:=(.tuple [aV 0 1 0 1,iV 2]),post:=[rV 3 0],keep:=[]}]}
theorem nI:Af (EF m71) [] 20000 (d71 E0) t71 0=some (jl (d71 E0) []):=by kernel_rfl
theorem c71:Au (EF m71) [] 20000 (d71 E0) t71:=dk1 rfl nI
def m72 (E:Env):List Sm:=(d71 E).smL a71 (p71 E) 0 (d71 E).shs ++ m71 E
def a72:List AV:=[aV 0 1 0 1,iV 2]
def p72 (E:Env):Pt:=Aj E 145 3 a72 [rV 3 0] []
def d72 (E:Env):Dec:=
 {g:=72,f:=145,p:=1,pts:=[p72 E,
  Ax E 145 19 2 4 [(0,aV 0 1 0 1),(1,iV 2),(7,(.si .i64 (.lenL (.var 0)))),(8,iV 3)] [rV 3 0] [] []],
  shs:=[{m:=1,res:=iV 0,post:=[none],keep:=[0]}]}
theorem pz:Af (EF m72) [2] 20000 (d72 E0) t72 0=some (jl (d72 E0) [1]):=by kernel_rfl
theorem iO:Af (EF m72) [2] 20000 (d72 E0) t72 1=some (jl (d72 E0) [1]):=by kernel_rfl
theorem c72:Au (EF m72) [2] 20000 (d72 E0) t72:=dk2 rfl pz iO
def m73 (E:Env):List Sm:=(d72 E).smL a72 (p72 E) 0 (d72 E).shs ++ m72 E
def a73:List AV:=[z33,z35,iV 9]
def p73 (E:Env):Pt:=Aj E 74 10 a73 [] []
def d73 (E:Env):Dec:=
 {g:=73,f:=74,p:=0,pts:=[p73 E],
  shs:=[{m:=5,res:=z33,post:=[],keep:=[]}]}
theorem od:Af (EF m73) [] 20000 (d73 E0) t73 0=some (jl (d73 E0) []):=by kernel_rfl
theorem c73:Au (EF m73) [] 20000 (d73 E0) t73:=dk1 rfl od
def m74 (E:Env):List Sm:=(d73 E).smL a73 (p73 E) 0 (d73 E).shs ++ m73 E
def a74:List AV:=[z0,z32,iV 6]
def p74 (E:Env):Pt:=Aj E 23 7 a74 [] []
def d74 (E:Env):Dec:=
 {g:=74,f:=23,p:=0,pts:=[p74 E],
  shs:=[{m:=3,res:=(.tuple [z31,iV 2]),post:=[],keep:=[]}]}
theorem mc:Af (EF m74) [] 20000 (d74 E0) t74 0=some (jl (d74 E0) []):=by kernel_rfl
theorem c74:Au (EF m74) [] 20000 (d74 E0) t74:=dk1 rfl mc
def m75 (E:Env):List Sm:=(d74 E).smL a74 (p74 E) 0 (d74 E).shs ++ m74 E
def a75:List AV:=[dV 3 0,dV 3 1]
def p75 (E:Env):Pt:=Aj E 63 2 a75 [] []
def d75 (E:Env):Dec:=
 {g:=75,f:=63,p:=0,pts:=[p75 E,
  Ax E 63 26 4 3 [(0,dV 3 0),(1,dV 3 1),(12,(.si .i64 (.lenL (.var 0)))),(13,iV 2)] [] [] []],
  shs:=[{m:=1,res:=bV 0,post:=[],keep:=[]}]}
theorem pf:Af (EF m75) [4] 20000 (d75 E0) t75 0=some (jl (d75 E0) [1]):=by kernel_rfl
theorem qH:Af (EF m75) [4] 20000 (d75 E0) t75 1=some (jl (d75 E0) [1]):=by kernel_rfl
theorem c75:Au (EF m75) [4] 20000 (d75 E0) t75:=dk2 rfl pf qH
def m76 (E:Env):List Sm:=(d75 E).smL a75 (p75 E) 0 (d75 E).shs ++ m75 E
def a76:List AV:=[aV 0 3 0 1,(.func (.func 62) [] [(.ptr 1 0)])]
def z37:Am:=(.cells 2 (Ak [(0,sV 2),(1,dV 3 3)]))
def p76 (E:Env):Pt:=Aj E 136 4 a76 [rV 143 0,some z37] []
def z38:Am:=(.cells 2 (Ak [(0,sV 3),(1,dV 3 4)]))
def d76 (E:Env):Dec:=
 {g:=76,f:=136,p:=2,pts:=[p76 E,
  Ax E 136 19 2 5 [(0,aV 0 3 0 1),(1,(.func (.func 62) [] [(.ptr 1 0)])),(7,(.si .i64 (.lenL (.var 0)))),(8,iV 2)] [rV 143 0,some z38] [] []],
  shs:=[{m:=1,res:=iV 0,post:=[none,none],keep:=[0,1]}]}
theorem tC:Af (EF m76) [2] 20000 (d76 E0) t76 0=some (jl (d76 E0) [1]):=by kernel_rfl
theorem pQ:Af (EF m76) [2] 20000 (d76 E0) t76 1=some (jl (d76 E0) [1,1]):=by kernel_rfl
theorem c76:Au (EF m76) [2] 20000 (d76 E0) t76:=dk2 rfl tC pQ
def m77 (E:Env):List Sm:=(d76 E).smL a76 (p76 E) 0 (d76 E).shs ++ m76 E
def a77:List AV:=[aV 0 3 0 1,(.func (.func 62) [] [(.ptr 1 0)])]
def p77 (E:Env):Pt:=Aj E 64 4 a77 [rV 143 0,some z37] []
def d77 (E:Env):Dec:=
 {g:=77,f:=64,p:=2,pts:=[p77 E],
  shs:=[{m:=1,res:=bV 0,post:=[none,none],keep:=[0,1]}]}
theorem mZ:Af (EF m77) [] 20000 (d77 E0) t77 0=some (jl (d77 E0) []):=by kernel_rfl
theorem c77:Au (EF m77) [] 20000 (d77 E0) t77:=dk1 rfl mZ
def m78 (E:Env):List Sm:=(d77 E).smL a77 (p77 E) 0 (d77 E).shs ++ m77 E
def a78:List AV:=[(.ptr 0 0),(.agg [sV 20,dV 98 21,dV 96 22,dV 101 23]),(.agg [dV 103 24,dV 188 25])]
def p78 (E:Env):Pt:=Aj E 15 26 a78 [some z12,some z20,some z21,rV 215 0,rV 98 3,rV 96 5,rV 101 7,some z22,some (.dmap 3 3 (.var 13)),rV 256 15,rV 225 18] []
def d78 (E:Env):Dec:=
 {g:=78,f:=15,p:=11,pts:=[p78 E,
  Ax E 15 129 10 37 [(4,(.ptr 11 0)),(5,(.ptr 12 0)),(8,(.ptr 13 0)),(11,aV 14 3 0 1),(12,iV 2),(13,iV 3)] [some z12,some (.cells 11 (Ak [(0,(.ptr 2 0)),(1,sV 4),(2,(.asl 4 3 (.var 5) (.var 6))),(3,(.asl 5 2 (.var 7) (.var 8))),(4,(.asl 6 9 (.var 9) (.var 10))),(5,sV 11),(6,bV 12),(7,iV 13),(8,(.ptr 7 0)),(9,bV 14),(10,aV 10 2 15 16)])),some (.cells 2 (Ak [(0,(.bool true)),(1,aV 3 3 17 18)])),rV 215 17,rV 98 19,rV 96 20,rV 101 21,some (.cells 3 (Ak [(0,iV 22),(1,(.nmap 8 (.var 23))),(2,aV 9 2 24 25)])),some (.dmap 3 3 (.var 26)),rV 256 24,rV 225 15,some (.cells 4 (Ak [(0,sV 27),(1,dV 98 28),(2,dV 96 29),(3,dV 101 30)])),some (.cells 2 (Ak [(0,dV 103 31),(1,dV 188 32)])),some (.cells 4 (Ak [(0,sV 33),(1,dV 98 34),(2,dV 96 35),(3,dV 101 36)])),rV 143 0] [] [],
  Ax E 15 129 17 41 [(4,(.ptr 11 0)),(5,(.ptr 12 0)),(8,(.ptr 13 0)),(11,aV 14 3 0 1),(12,iV 2),(13,iV 3),(77,aV 15 1 4 5),(78,iV 6),(79,iV 7)] [some z12,some (.cells 11 (Ak [(0,(.ptr 2 0)),(1,sV 8),(2,(.asl 4 3 (.var 9) (.var 10))),(3,(.asl 5 2 (.var 11) (.var 12))),(4,(.asl 6 9 (.var 13) (.var 14))),(5,sV 15),(6,bV 16),(7,iV 17),(8,(.ptr 7 0)),(9,bV 18),(10,aV 10 2 19 20)])),some (.cells 2 (Ak [(0,(.bool true)),(1,aV 3 3 21 22)])),rV 215 21,rV 98 23,rV 96 24,rV 101 25,some (.cells 3 (Ak [(0,iV 26),(1,(.nmap 8 (.var 27))),(2,aV 9 2 28 29)])),some (.dmap 3 3 (.var 30)),rV 256 28,rV 225 19,some (.cells 4 (Ak [(0,sV 31),(1,dV 98 32),(2,dV 96 33),(3,dV 101 34)])),some (.cells 2 (Ak [(0,dV 103 35),(1,dV 188 36)])),some (.cells 4 (Ak [(0,sV 37),(1,dV 98 38),(2,dV 96 39),(3,dV 101 40)])),rV 143 0,rV 3 4] [] []],
  shs:=[{m:=4,res:=(.tuple [.slice0,iV 0]),post:=[none,none,none,none,rV 98 1,rV 96 2,rV 101 3,none,none,none,none],keep:=[0,1,2,3,7,8,9,10]},{m:=4,res:=(.tuple [dV 3 0,(.int .i64 0)]),post:=[none,none,none,none,rV 98 1,rV 96 2,rV 101 3,none,none,none,none],keep:=[0,1,2,3,7,8,9,10]}]}
theorem oV:Af (EF m78) [10,17] 20000 (d78 E0) t78 0=some (jl (d78 E0) [1]):=by kernel_rfl
theorem oC:Af (EF m78) [10,17] 20000 (d78 E0) t78 1=some (jl (d78 E0) [2,2,2]):=by kernel_rfl
theorem rX:Af (EF m78) [10,17] 20000 (d78 E0) t78 2=some (jl (d78 E0) [2,2,2,1]):=by kernel_rfl
theorem c78:Au (EF m78) [10,17] 20000 (d78 E0) t78:=dk3 rfl oV oC rX
def m79 (E:Env):List Sm:=(d78 E).smL a78 (p78 E) 0 (d78 E).shs ++ m78 E
def a79:List AV:=[z23]
def p79 (E:Env):Pt:=Aj E 17 10 a79 [] []
def d79 (E:Env):Dec:=
 {g:=79,f:=17,p:=0,pts:=[p79 E],
  shs:=[{m:=2,res:=z31,post:=[],keep:=[]}]}
theorem pr:Af (EF m79) [] 20000 (d79 E0) t79 0=some (jl (d79 E0) []):=by kernel_rfl
theorem c79:Au (EF m79) [] 20000 (d79 E0) t79:=dk1 rfl pr
def m80 (E:Env):List Sm:=(d79 E).smL a79 (p79 E) 0 (d79 E).shs ++ m79 E
def a80:List AV:=[z0,sV 4]
def p80 (E:Env):Pt:=Aj E 138 5 a80 [] []
def d80 (E:Env):Dec:=
 {g:=80,f:=138,p:=0,pts:=[p80 E,
  Ax E 138 22 2 6 [(1,sV 0),(2,(.ptr 0 0)),(5,iV 1)] [some z1] [] []],
  shs:=[{m:=1,res:=iV 0,post:=[],keep:=[]}]}
theorem sx:Af (EF m80) [2] 20000 (d80 E0) t80 0=some (jl (d80 E0) [1]):=by kernel_rfl
theorem lH:Af (EF m80) [2] 20000 (d80 E0) t80 1=some (jl (d80 E0) [1]):=by kernel_rfl
theorem c80:Au (EF m80) [2] 20000 (d80 E0) t80:=dk2 rfl sx lH
def m81 (E:Env):List Sm:=(d80 E).smL a80 (p80 E) 0 (d80 E).shs ++ m80 E
def a81:List AV:=[z0,sV 4]
def p81 (E:Env):Pt:=Aj E 139 5 a81 [] []
def d81 (E:Env):Dec:=
 {g:=81,f:=139,p:=0,pts:=[p81 E,
  Ax E 139 22 2 6 [(1,sV 0),(2,(.ptr 0 0)),(5,iV 1)] [some z1] [] []],
  shs:=[{m:=1,res:=iV 0,post:=[],keep:=[]}]}
theorem tH:Af (EF m81) [2] 20000 (d81 E0) t81 0=some (jl (d81 E0) [1]):=by kernel_rfl
theorem pT:Af (EF m81) [2] 20000 (d81 E0) t81 1=some (jl (d81 E0) [1]):=by kernel_rfl
theorem c81:Au (EF m81) [2] 20000 (d81 E0) t81:=dk2 rfl tH pT
def m82 (E:Env):List Sm:=(d81 E).smL a81 (p81 E) 0 (d81 E).shs ++ m81 E
def a82:List AV:=[z0,z26,z27]
def p82 (E:Env):Pt:=Aj E 66 10 a82 [] []
def z39:Am:=(.cells 4 (Ak [(0,sV 5),(1,dV 98 6),(2,dV 96 7),(3,dV 101 8)]))
def z40:Am:=(.cells 2 (Ak [(0,dV 103 9),(1,dV 188 10)]))
def z41:Am:=(.cells 4 (Ak [(0,sV 7),(1,dV 98 8),(2,dV 96 9),(3,dV 101 10)]))
def z42:Am:=(.cells 2 (Ak [(0,dV 103 11),(1,dV 188 12)]))
def d82 (E:Env):Dec:=
 {g:=82,f:=66,p:=0,pts:=[p82 E,
  Ax E 66 139 6 11 [(3,(.ptr 0 0)),(4,(.ptr 1 0)),(5,(.ptr 2 0)),(8,iV 0)] [some z13,some z39,some z40] [] [],
  Ax E 66 139 10 13 [(3,(.ptr 0 0)),(4,(.ptr 1 0)),(5,(.ptr 2 0)),(8,iV 0),(9,bV 1),(10,iV 2)] [some z4,some z41,some z42] [] [],
  Ax E 66 139 18 11 [(3,(.ptr 0 0)),(4,(.ptr 1 0)),(5,(.ptr 2 0)),(11,iV 0)] [some z13,some z39,some z40] [] [],
  Ax E 66 139 23 16 [(3,(.ptr 0 0)),(4,(.ptr 1 0)),(5,(.ptr 2 0)),(11,iV 0),(12,(.ptr 3 0)),(13,bV 1),(14,iV 2)] [some z4,some z41,some z42,some (.cells 3 (Ak [(0,sV 13),(1,sV 14),(2,iV 15)]))] [] []],
  shs:=[{m:=2,res:=(.tuple [iV 0,iV 1]),post:=[],keep:=[]}]}
theorem ji:Af (EF m82) [6,10,18,23] 20000 (d82 E0) t82 0=some (jl (d82 E0) [1]):=by kernel_rfl
theorem sQ:Af (EF m82) [6,10,18,23] 20000 (d82 E0) t82 1=some (jl (d82 E0) [2,2,3]):=by kernel_rfl
theorem sI:Af (EF m82) [6,10,18,23] 20000 (d82 E0) t82 2=some (jl (d82 E0) [2,2,1]):=by kernel_rfl
theorem ix:Af (EF m82) [6,10,18,23] 20000 (d82 E0) t82 3=some (jl (d82 E0) [4,4,4,4,4,4]):=by kernel_rfl
theorem kC:Af (EF m82) [6,10,18,23] 20000 (d82 E0) t82 4=some (jl (d82 E0) [4,4,3]):=by kernel_rfl
theorem c82:Au (EF m82) [6,10,18,23] 20000 (d82 E0) t82:=dk5 rfl ji sQ sI ix kC
def m83 (E:Env):List Sm:=(d82 E).smL a82 (p82 E) 0 (d82 E).shs ++ m82 E
def a83:List AV:=[z0,z32]
def p83 (E:Env):Pt:=Aj E 140 6 a83 [] []
def d83 (E:Env):Dec:=
 {g:=83,f:=140,p:=0,pts:=[p83 E,
  Ax E 140 59 3 9 [(2,(.ptr 0 0)),(3,(.ptr 1 0)),(5,aV 2 1 0 1),(6,iV 2)] [some z4,some (.cells 2 (Ak [(0,sV 7),(1,dV 3 8)])),rV 3 0] [] []],
  shs:=[{m:=2,res:=aV 0 1 0 1,post:=[rV 3 0],keep:=[]}]}
theorem gZ:Af (EF m83) [3] 20000 (d83 E0) t83 0=some (jl (d83 E0) [1]):=by kernel_rfl
theorem md:Af (EF m83) [3] 20000 (d83 E0) t83 1=some (jl (d83 E0) [1,1,1,1,1]):=by kernel_rfl
theorem c83:Au (EF m83) [3] 20000 (d83 E0) t83:=dk2 rfl gZ md
def m84 (E:Env):List Sm:=(d83 E).smL a83 (p83 E) 0 (d83 E).shs ++ m83 E
def a84:List AV:=[z0,z32,iV 6]
def p84 (E:Env):Pt:=Aj E 141 7 a84 [] []
def d84 (E:Env):Dec:=
 {g:=84,f:=141,p:=0,pts:=[p84 E],
  shs:=[{m:=2,res:=z31,post:=[],keep:=[]}]}
theorem qw:Af (EF m84) [] 20000 (d84 E0) t84 0=some (jl (d84 E0) []):=by kernel_rfl
theorem c84:Au (EF m84) [] 20000 (d84 E0) t84:=dk1 rfl qw
def m85 (E:Env):List Sm:=(d84 E).smL a84 (p84 E) 0 (d84 E).shs ++ m84 E
def z43:AV:=(.agg [sV 2,dV 3 3])
def a85:List AV:=[z31,z43]
def p85 (E:Env):Pt:=Aj E 33 4 a85 [] []
def d85 (E:Env):Dec:=
 {g:=85,f:=33,p:=0,pts:=[p85 E,
  Ax E 33 38 4 5 [(2,(.ptr 0 0)),(3,(.ptr 1 0)),(5,iV 0)] [some (.cells 2 (Ak [(0,sV 1),(1,dV 3 2)])),some z38] [] []],
  shs:=[{m:=1,res:=bV 0,post:=[],keep:=[]}]}
theorem gP:Af (EF m85) [4] 20000 (d85 E0) t85 0=some (jl (d85 E0) [1]):=by kernel_rfl
theorem tU:Af (EF m85) [4] 20000 (d85 E0) t85 1=some (jl (d85 E0) [1]):=by kernel_rfl
theorem c85:Au (EF m85) [4] 20000 (d85 E0) t85:=dk2 rfl gP tU
def m86 (E:Env):List Sm:=(d85 E).smL a85 (p85 E) 0 (d85 E).shs ++ m85 E
def a86:List AV:=[aV 0 2 0 1,z43]
def p86 (E:Env):Pt:=Aj E 142 4 a86 [rV 55 0] []
def d86 (E:Env):Dec:=
 {g:=86,f:=142,p:=1,pts:=[p86 E,
  Ax E 142 18 2 5 [(0,aV 0 2 0 1),(3,(.ptr 1 0)),(5,iV 2)] [rV 55 0,some z38] [] []],
  shs:=[{m:=1,res:=bV 0,post:=[none],keep:=[0]}]}
theorem th:Af (EF m86) [2] 20000 (d86 E0) t86 0=some (jl (d86 E0) [1]):=by kernel_rfl
theorem sj:Af (EF m86) [2] 20000 (d86 E0) t86 1=some (jl (d86 E0) [1]):=by kernel_rfl
theorem c86:Au (EF m86) [2] 20000 (d86 E0) t86:=dk2 rfl th sj
def m87 (E:Env):List Sm:=(d86 E).smL a86 (p86 E) 0 (d86 E).shs ++ m86 E
def a87:List AV:=[z0,z32]
def p87 (E:Env):Pt:=Aj E 67 6 a87 [] []
def d87 (E:Env):Dec:=
 {g:=87,f:=67,p:=0,pts:=[p87 E,
  Ax E 67 71 3 9 [(2,(.ptr 0 0)),(7,aV 1 2 0 1),(8,aV 2 1 2 3),(9,iV 4)] [some z39,rV 55 0,rV 33 2] [] [],
  Ax E 67 71 7 12 [(2,(.ptr 0 0)),(7,aV 1 2 0 1),(8,aV 2 1 2 3),(9,iV 4),(10,aV 3 1 5 6),(11,iV 7)] [some (.cells 4 (Ak [(0,sV 8),(1,dV 98 9),(2,dV 96 10),(3,dV 101 11)])),rV 55 0,rV 33 2,rV 3 5] [] []],
  shs:=[{m:=5,res:=(.tuple [aV 0 2 0 1,aV 1 1 2 3,bV 4]),post:=[rV 55 0,rV 33 2],keep:=[]}]}
theorem og:Af (EF m87) [3,7] 20000 (d87 E0) t87 0=some (jl (d87 E0) [1]):=by kernel_rfl
theorem kK:Af (EF m87) [3,7] 20000 (d87 E0) t87 1=some (jl (d87 E0) [2]):=by kernel_rfl
theorem qx:Af (EF m87) [3,7] 20000 (d87 E0) t87 2=some (jl (d87 E0) [2,2,1]):=by kernel_rfl
theorem c87:Au (EF m87) [3,7] 20000 (d87 E0) t87:=dk3 rfl og kK qx
def m88 (E:Env):List Sm:=(d87 E).smL a87 (p87 E) 0 (d87 E).shs ++ m87 E
def a88:List AV:=[z0,z32]
def p88 (E:Env):Pt:=Aj E 143 6 a88 [] []
def d88 (E:Env):Dec:=
 {g:=88,f:=143,p:=0,pts:=[p88 E,
  Ax E 143 47 4 7 [(2,(.ptr 0 0)),(3,(.ptr 1 0)),(5,iV 0)] [some z13,some (.cells 2 (Ak [(0,sV 5),(1,dV 3 6)]))] [] []],
  shs:=[{m:=1,res:=bV 0,post:=[],keep:=[]}]}
theorem pP:Af (EF m88) [4] 20000 (d88 E0) t88 0=some (jl (d88 E0) [1]):=by kernel_rfl
theorem oh:Af (EF m88) [4] 20000 (d88 E0) t88 1=some (jl (d88 E0) [1]):=by kernel_rfl
theorem c88:Au (EF m88) [4] 20000 (d88 E0) t88:=dk2 rfl pP oh
def m89 (E:Env):List Sm:=(d88 E).smL a88 (p88 E) 0 (d88 E).shs ++ m88 E
def a89:List AV:=[z0,z26,z27,z36]
def p89 (E:Env):Pt:=Aj E 68 12 a89 [] []
def z44:Am:=(.cells 2 (Ak [(0,(.str 0 0)),(1,.slice0)]))
def d89 (E:Env):Dec:=
 {g:=89,f:=68,p:=0,pts:=[p89 E,
  Ax E 68 95 4 16 [(4,(.ptr 0 0)),(5,(.ptr 1 0)),(6,(.ptr 2 0)),(7,(.ptr 3 0)),(8,(.ptr 4 0)),(10,(.ptr 5 0)),(11,bV 0),(12,iV 1)] [some z1,some z34,some (.cells 2 (Ak [(0,dV 103 10),(1,dV 188 11)])),some (.cells 2 (Ak [(0,sV 12),(1,dV 3 13)])),some z44,some (.cells 2 (Ak [(0,sV 14),(1,(.asl 6 1 (.lenL (.var 15)) (.bc false)))])),rV 3 15] [] [],
  Ax E 68 95 11 15 [(4,(.ptr 0 0)),(5,(.ptr 1 0)),(6,(.ptr 2 0)),(7,(.ptr 3 0)),(8,(.ptr 4 0)),(10,(.ptr 5 0)),(13,iV 0)] [some z13,some z39,some z40,some (.cells 2 (Ak [(0,sV 11),(1,dV 3 12)])),some z44,some (.cells 2 (Ak [(0,sV 13),(1,(.asl 6 1 (.lenL (.var 14)) (.bc false)))])),rV 3 14] [] []],
  shs:=[{m:=3,res:=(.tuple [z31,iV 2]),post:=[],keep:=[]}]}
theorem oQ:Af (EF m89) [4,11] 20000 (d89 E0) t89 0=some (jl (d89 E0) [1]):=by kernel_rfl
theorem sZ:Af (EF m89) [4,11] 20000 (d89 E0) t89 1=some (jl (d89 E0) [1,1,2]):=by kernel_rfl
theorem ry:Af (EF m89) [4,11] 20000 (d89 E0) t89 2=some (jl (d89 E0) [2,2]):=by kernel_rfl
theorem c89:Au (EF m89) [4,11] 20000 (d89 E0) t89:=dk3 rfl oQ sZ ry
def m90 (E:Env):List Sm:=(d89 E).smL a89 (p89 E) 0 (d89 E).shs ++ m89 E
def a90:List AV:=[z0,z32,(.agg [sV 6,dV 98 7,dV 96 8,dV 101 9,dV 103 10,dV 188 11])]
def p90 (E:Env):Pt:=Aj E 16 12 a90 [] []
def d90 (E:Env):Dec:=
 {g:=90,f:=16,p:=0,pts:=[p90 E,
  Ax E 16 62 8 15 [(3,(.ptr 0 0)),(5,(.ptr 1 0)),(10,aV 2 2 0 1),(11,aV 3 1 2 3),(13,iV 4)] [some z39,some (.cells 6 (Ak [(0,sV 9),(1,dV 98 10),(2,dV 96 11),(3,dV 101 12),(4,dV 103 13),(5,dV 188 14)])),rV 55 0,rV 33 2] [] []],
  shs:=[{m:=1,res:=(.tuple [.slice0,iV 0]),post:=[],keep:=[]},{m:=1,res:=(.tuple [dV 3 0,(.int .i64 0)]),post:=[],keep:=[]}]}
theorem mA:Af (EF m90) [8] 20000 (d90 E0) t90 0=some (jl (d90 E0) [1]):=by kernel_rfl
theorem pW:Af (EF m90) [8] 20000 (d90 E0) t90 1=some (jl (d90 E0) [1]):=by kernel_rfl
theorem c90:Au (EF m90) [8] 20000 (d90 E0) t90:=dk2 rfl mA pW
end Go.Proofs.YtmgppdghdeokbaaGreat.upgradeSoon

