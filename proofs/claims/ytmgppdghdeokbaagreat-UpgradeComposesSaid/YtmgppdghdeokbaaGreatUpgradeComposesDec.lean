/- What is proved: that the functions which the law UpgradeComposes reaches are the plain functions over data whose trees of tests the text before writes out (the kernel runs the evaluator over each place). Conditions: the program is the given one. -/
import Derived.Test.YtmgppdghdeokbaaGreatProg
import Derived.KernelRfl
import Derived.Test.YtmgppdghdeokbaaGreatUpgradeComposesTree
import Derived.Test.YtmgppdghdeokbaaGreatUpgradeComposesKnownD
set_option linter.unusedVariables false
set_option linter.unusedSectionVars false
set_option linter.unusedSimpArgs false
namespace Go.Proofs.YtmgppdghdeokbaaGreat.upgradeComposes
open Go.AE Uc
def m0 (E : Env) : List Sm := []
instance pg : Pg Tryz.prog l41 := ⟨trivial⟩
def z0 : AV := (.agg [sV 0, dV 98 1, dV 96 2, dV 101 3])
def a0 : List AV := [z0]
def p0 (E : Env) : Pt := Ap E 8 4 a0 [] []
def z1 : Ah := (.cells 4 (AL [(0, sV 2), (1, dV 98 3), (2, dV 96 4), (3, dV 101 5)]))
def d0 (E : Env) : Dec :=
 {g := 0, f := 8, p := 0, pts := [p0 E,
  AH E 8 112 5 6 [(1, (.ptr 0 0)), (3, iV 0), (4, iV 1)] [some z1] [] [],
  AH E 8 112 11 6 [(1, (.ptr 0 0)), (3, iV 0), (5, iV 1)] [some z1] [] [],
  AH E 8 112 16 6 [(1, (.ptr 0 0)), (3, iV 0), (6, iV 1)] [some z1] [] []],
  shs := [{ m := 1, res := bV 0, post := [], keep := [] }] }
theorem YX : Aj (EF m0) [5, 11, 16] 20000 (d0 E0) t0 0 = some (jl (d0 E0) [1]) := by kernel_rfl
theorem ZV : Aj (EF m0) [5, 11, 16] 20000 (d0 E0) t0 1 = some (jl (d0 E0) [1, 1, 1, 2]) := by kernel_rfl
theorem Y5 : Aj (EF m0) [5, 11, 16] 20000 (d0 E0) t0 2 = some (jl (d0 E0) [2, 3]) := by kernel_rfl
theorem Zk : Aj (EF m0) [5, 11, 16] 20000 (d0 E0) t0 3 = some (jl (d0 E0) [3]) := by kernel_rfl
theorem c0 : AP (EF m0) [5, 11, 16] 20000 (d0 E0) t0 := dk4 rfl YX ZV Y5 Zk
def m1 (E : Env) : List Sm := (d0 E).smL a0 (p0 E) 0 (d0 E).shs ++ m0 E
def a1 : List AV := []
def p1 (E : Env) : Pt := Ap E 10 0 a1 [] []
def d1 (E : Env) : Dec :=
 {g := 1, f := 10, p := 0, pts := [p1 E],
  shs := [{ m := 0, res := (.bool true), post := [], keep := [] }] }
theorem ZM : Aj (EF m1) [] 20000 (d1 E0) t1 0 = some (jl (d1 E0) []) := by kernel_rfl
theorem c1 : AP (EF m1) [] 20000 (d1 E0) t1 := dk1 rfl ZM
def m2 (E : Env) : List Sm := (d1 E).smL a1 (p1 E) 0 (d1 E).shs ++ m1 E
def a2 : List AV := [sV 0]
def p2 (E : Env) : Pt := Ap E 102 1 a2 [] []
def d2 (E : Env) : Dec :=
 {g := 2, f := 102, p := 0, pts := [p2 E,
  AH E 102 55 4 3 [(15, (.asl 0 1 (.lenL (.var 0)) (.bc false))), (16, iV 1), (17, iV 2)] [rV 5 0] [] []],
  shs := [{ m := 1, res := bV 0, post := [], keep := [] }] }
theorem Zi : Aj (EF m2) [4] 20000 (d2 E0) t2 0 = some (jl (d2 E0) [1]) := by kernel_rfl
theorem ZF : Aj (EF m2) [4] 20000 (d2 E0) t2 1 = some (jl (d2 E0) [1, 1, 1, 1]) := by kernel_rfl
theorem c2 : AP (EF m2) [4] 20000 (d2 E0) t2 := dk2 rfl Zi ZF
def m3 (E : Env) : List Sm := (d2 E).smL a2 (p2 E) 0 (d2 E).shs ++ m2 E
def a3 : List AV := [dV 96 0, (.func (.func 168) [] [(.ptr 0 0)])]
def z2 : Ah := (.cells 1 (AL [(0, sV 1)]))
def p3 (E : Env) : Pt := Ap E 185 2 a3 [some z2] []
def z3 : Ah := (.cells 1 (AL [(0, sV 2)]))
def d3 (E : Env) : Dec :=
 {g := 3, f := 185, p := 1, pts := [p3 E,
  AH E 185 19 2 3 [(0, dV 96 0), (1, (.func (.func 168) [] [(.ptr 0 0)])), (7, (.si .i64 (.lenL (.var 0)))), (8, iV 1)] [some z3] [] []],
  shs := [{ m := 1, res := iV 0, post := [none], keep := [0] }] }
theorem Y0 : Aj (EF m3) [2] 20000 (d3 E0) t3 0 = some (jl (d3 E0) [1]) := by kernel_rfl
theorem Y9 : Aj (EF m3) [2] 20000 (d3 E0) t3 1 = some (jl (d3 E0) [1]) := by kernel_rfl
theorem c3 : AP (EF m3) [2] 20000 (d3 E0) t3 := dk2 rfl Y0 Y9
def m4 (E : Env) : List Sm := (d3 E).smL a3 (p3 E) 0 (d3 E).shs ++ m3 E
def a4 : List AV := [iV 0, iV 1, iV 2, (.func (.func 104) [] [(.ptr 0 0)])]
def z4 : Ah := (.cells 4 (AL [(0, sV 3), (1, dV 98 4), (2, dV 96 5), (3, dV 101 6)]))
def p4 (E : Env) : Pt := Ap E 103 7 a4 [some z4] []
def d4 (E : Env) : Dec :=
 {g := 4, f := 103, p := 1, pts := [p4 E,
  AH E 103 28 6 6 [(3, (.func (.func 104) [] [(.ptr 0 0)])), (19, iV 0), (20, iV 1)] [some z1] [] []],
  shs := [{ m := 1, res := iV 0, post := [none], keep := [0] }] }
theorem ZG : Aj (EF m4) [6] 20000 (d4 E0) t4 0 = some (jl (d4 E0) [1]) := by kernel_rfl
theorem Y2 : Aj (EF m4) [6] 20000 (d4 E0) t4 1 = some (jl (d4 E0) [1]) := by kernel_rfl
theorem c4 : AP (EF m4) [6] 20000 (d4 E0) t4 := dk2 rfl ZG Y2
def m5 (E : Env) : List Sm := (d4 E).smL a4 (p4 E) 0 (d4 E).shs ++ m4 E
def a5 : List AV := [dV 98 0, (.func (.func 170) [] [(.ptr 0 0)])]
def p5 (E : Env) : Pt := Ap E 151 2 a5 [some z2] []
def d5 (E : Env) : Dec :=
 {g := 5, f := 151, p := 1, pts := [p5 E,
  AH E 151 19 2 3 [(0, dV 98 0), (1, (.func (.func 170) [] [(.ptr 0 0)])), (7, (.si .i64 (.lenL (.var 0)))), (8, iV 1)] [some z3] [] []],
  shs := [{ m := 1, res := iV 0, post := [none], keep := [0] }] }
theorem Zl : Aj (EF m5) [2] 20000 (d5 E0) t5 0 = some (jl (d5 E0) [1]) := by kernel_rfl
theorem YY : Aj (EF m5) [2] 20000 (d5 E0) t5 1 = some (jl (d5 E0) [1]) := by kernel_rfl
theorem c5 : AP (EF m5) [2] 20000 (d5 E0) t5 := dk2 rfl Zl YY
def m6 (E : Env) : List Sm := (d5 E).smL a5 (p5 E) 0 (d5 E).shs ++ m5 E
def a6 : List AV := [iV 0, iV 1, iV 2, (.func (.func 106) [] [(.ptr 0 0)])]
def p6 (E : Env) : Pt := Ap E 103 7 a6 [some z4] []
def d6 (E : Env) : Dec :=
 {g := 6, f := 103, p := 1, pts := [p6 E,
  AH E 103 28 6 6 [(3, (.func (.func 106) [] [(.ptr 0 0)])), (19, iV 0), (20, iV 1)] [some z1] [] []],
  shs := [{ m := 1, res := iV 0, post := [none], keep := [0] }] }
theorem ZT : Aj (EF m6) [6] 20000 (d6 E0) t6 0 = some (jl (d6 E0) [1]) := by kernel_rfl
theorem YR : Aj (EF m6) [6] 20000 (d6 E0) t6 1 = some (jl (d6 E0) [1]) := by kernel_rfl
theorem c6 : AP (EF m6) [6] 20000 (d6 E0) t6 := dk2 rfl ZT YR
def m7 (E : Env) : List Sm := (d6 E).smL a6 (p6 E) 0 (d6 E).shs ++ m6 E
def a7 : List AV := [dV 101 0, (.agg [sV 1, sV 2, iV 3, sV 4, sV 5, sV 6, iV 7, iV 8, iV 9])]
def p7 (E : Env) : Pt := Ap E 200 10 a7 [] []
def d7 (E : Env) : Dec :=
 {g := 7, f := 200, p := 0, pts := [p7 E,
  AH E 200 19 2 11 [(0, dV 101 0), (3, (.ptr 0 0)), (7, (.si .i64 (.lenL (.var 0)))), (8, iV 1)] [some (.cells 9 (AL [(0, sV 2), (1, sV 3), (2, iV 4), (3, sV 5), (4, sV 6), (5, sV 7), (6, iV 8), (7, iV 9), (8, iV 10)]))] [] []],
  shs := [{ m := 1, res := iV 0, post := [], keep := [] }] }
theorem Zd : Aj (EF m7) [2] 20000 (d7 E0) t7 0 = some (jl (d7 E0) [1]) := by kernel_rfl
theorem YU : Aj (EF m7) [2] 20000 (d7 E0) t7 1 = some (jl (d7 E0) [1]) := by kernel_rfl
theorem c7 : AP (EF m7) [2] 20000 (d7 E0) t7 := dk2 rfl Zd YU
def m8 (E : Env) : List Sm := (d7 E).smL a7 (p7 E) 0 (d7 E).shs ++ m7 E
def a8 : List AV := [iV 0, iV 1, iV 2, (.func (.func 108) [] [(.ptr 0 0)])]
def p8 (E : Env) : Pt := Ap E 103 7 a8 [some z4] []
def d8 (E : Env) : Dec :=
 {g := 8, f := 103, p := 1, pts := [p8 E,
  AH E 103 28 6 6 [(3, (.func (.func 108) [] [(.ptr 0 0)])), (19, iV 0), (20, iV 1)] [some z1] [] []],
  shs := [{ m := 1, res := iV 0, post := [none], keep := [0] }] }
theorem ZB : Aj (EF m8) [6] 20000 (d8 E0) t8 0 = some (jl (d8 E0) [1]) := by kernel_rfl
theorem Y1 : Aj (EF m8) [6] 20000 (d8 E0) t8 1 = some (jl (d8 E0) [1, 1, 1, 1, 1, 1, 1, 1]) := by kernel_rfl
theorem c8 : AP (EF m8) [6] 20000 (d8 E0) t8 := dk2 rfl ZB Y1
def m9 (E : Env) : List Sm := (d8 E).smL a8 (p8 E) 0 (d8 E).shs ++ m8 E
def a9 : List AV := [dV 98 0, (.func (.func 184) [] [(.ptr 0 0)])]
def p9 (E : Env) : Pt := Ap E 151 2 a9 [some z2] []
def d9 (E : Env) : Dec :=
 {g := 9, f := 151, p := 1, pts := [p9 E,
  AH E 151 19 2 3 [(0, dV 98 0), (1, (.func (.func 184) [] [(.ptr 0 0)])), (7, (.si .i64 (.lenL (.var 0)))), (8, iV 1)] [some z3] [] []],
  shs := [{ m := 1, res := iV 0, post := [none], keep := [0] }] }
theorem YZ : Aj (EF m9) [2] 20000 (d9 E0) t9 0 = some (jl (d9 E0) [1]) := by kernel_rfl
theorem Zs : Aj (EF m9) [2] 20000 (d9 E0) t9 1 = some (jl (d9 E0) [1]) := by kernel_rfl
theorem c9 : AP (EF m9) [2] 20000 (d9 E0) t9 := dk2 rfl YZ Zs
def m10 (E : Env) : List Sm := (d9 E).smL a9 (p9 E) 0 (d9 E).shs ++ m9 E
def a10 : List AV := [dV 96 0, (.func (.func 186) [] [(.ptr 0 0)])]
def p10 (E : Env) : Pt := Ap E 185 2 a10 [some z2] []
def d10 (E : Env) : Dec :=
 {g := 10, f := 185, p := 1, pts := [p10 E,
  AH E 185 19 2 3 [(0, dV 96 0), (1, (.func (.func 186) [] [(.ptr 0 0)])), (7, (.si .i64 (.lenL (.var 0)))), (8, iV 1)] [some z3] [] []],
  shs := [{ m := 1, res := iV 0, post := [none], keep := [0] }] }
theorem Wh : Aj (EF m10) [2] 20000 (d10 E0) t10 0 = some (jl (d10 E0) [1]) := by kernel_rfl
theorem WL : Aj (EF m10) [2] 20000 (d10 E0) t10 1 = some (jl (d10 E0) [1]) := by kernel_rfl
theorem c10 : AP (EF m10) [2] 20000 (d10 E0) t10 := dk2 rfl Wh WL
def m11 (E : Env) : List Sm := (d10 E).smL a10 (p10 E) 0 (d10 E).shs ++ m10 E
def z5 : AV := (.agg [sV 4, dV 98 5, dV 96 6, dV 101 7])
def z6 : AV := (.agg [dV 103 8, dV 188 9])
def a11 : List AV := [z0, z5, z6]
def p11 (E : Env) : Pt := Ap E 60 10 a11 [] []
def z7 : Ah := (.cells 4 (AL [(0, sV 0), (1, dV 98 1), (2, dV 96 2), (3, dV 101 3)]))
def z8 : Ah := (.cells 4 (AL [(0, sV 4), (1, dV 98 5), (2, dV 96 6), (3, dV 101 7)]))
def z9 : Ah := (.cells 2 (AL [(0, dV 103 8), (1, dV 188 9)]))
def d11 (E : Env) : Dec :=
 {g := 11, f := 60, p := 0, pts := [p11 E,
  AH E 60 114 7 13 [(0, z0), (1, z5), (2, z6), (3, (.ptr 0 0)), (4, (.ptr 1 0)), (5, (.ptr 2 0)), (7, (.int .i64 490)), (8, (.map 3)), (13, (.map 3)), (14, z0), (15, (.bool true)), (16, (.bool false)), (17, (.bool false)), (18, z5), (19, (.bool true)), (20, (.bool false)), (21, (.bool false)), (22, (.ptr 2 0)), (23, dV 103 8), (24, (.si .i64 (.lenL (.var 8)))), (25, bV 10), (26, (.ptr 2 0)), (27, dV 103 8), (28, (.si .i64 (.lenL (.var 8)))), (29, iV 11)] [some z7, some z8, some z9, some (.dmap 9 4 (.var 12))] [] [],
  AH E 60 114 17 16 [(0, z0), (1, z5), (2, z6), (3, (.ptr 0 0)), (4, (.ptr 1 0)), (5, (.ptr 2 0)), (7, (.int .i64 491)), (8, (.map 3)), (13, (.map 3)), (14, z0), (15, (.bool true)), (16, (.bool false)), (17, (.bool false)), (18, z5), (19, (.bool true)), (20, (.bool false)), (21, (.bool false)), (22, (.ptr 2 0)), (23, dV 103 8), (24, (.si .i64 (.lenL (.var 8)))), (25, bV 10), (26, (.ptr 2 0)), (27, dV 103 8), (28, (.si .i64 (.lenL (.var 8)))), (29, iV 11), (30, bV 12), (57, (.map 3)), (58, (.ptr 2 1)), (59, dV 188 9), (60, (.si .i64 (.lenL (.var 9)))), (61, bV 13), (62, (.ptr 2 1)), (63, dV 188 9), (64, (.si .i64 (.lenL (.var 9)))), (65, iV 14)] [some z7, some z8, some z9, some (.dmap 9 4 (.var 15))] [] []],
  shs := [{ m := 2, res := (.tuple [iV 0, iV 1]), post := [], keep := [] }] }
theorem Yk : Aj (EF m11) [7, 17] 20000 (d11 E0) t11 0 = some (jl (d11 E0) [1]) := by kernel_rfl
theorem Wp : Aj (EF m11) [7, 17] 20000 (d11 E0) t11 1 = some (jl (d11 E0) [1, 1, 2]) := by kernel_rfl
theorem Wj : Aj (EF m11) [7, 17] 20000 (d11 E0) t11 2 = some (jl (d11 E0) [2, 2, 2, 2, 2, 2, 2, 2]) := by kernel_rfl
theorem c11 : AP (EF m11) [7, 17] 20000 (d11 E0) t11 := dk3 rfl Yk Wp Wj
def m12 (E : Env) : List Sm := (d11 E).smL a11 (p11 E) 0 (d11 E).shs ++ m11 E
def a12 : List AV := [dV 188 0, (.func (.func 156) [] [(.ptr 0 0)])]
def p12 (E : Env) : Pt := Ap E 155 4 a12 [some (.cells 3 (AL [(0, sV 1), (1, sV 2), (2, iV 3)]))] []
def d12 (E : Env) : Dec :=
 {g := 12, f := 155, p := 1, pts := [p12 E,
  AH E 155 19 2 5 [(0, dV 188 0), (1, (.func (.func 156) [] [(.ptr 0 0)])), (7, (.si .i64 (.lenL (.var 0)))), (8, iV 1)] [some (.cells 3 (AL [(0, sV 2), (1, sV 3), (2, iV 4)]))] [] []],
  shs := [{ m := 1, res := iV 0, post := [none], keep := [0] }] }
theorem Ym : Aj (EF m12) [2] 20000 (d12 E0) t12 0 = some (jl (d12 E0) [1]) := by kernel_rfl
theorem XU : Aj (EF m12) [2] 20000 (d12 E0) t12 1 = some (jl (d12 E0) [1]) := by kernel_rfl
theorem c12 : AP (EF m12) [2] 20000 (d12 E0) t12 := dk2 rfl Ym XU
def m13 (E : Env) : List Sm := (d12 E).smL a12 (p12 E) 0 (d12 E).shs ++ m12 E
def a13 : List AV := [dV 188 0, dV 188 1]
def p13 (E : Env) : Pt := Ap E 87 2 a13 [] []
def d13 (E : Env) : Dec :=
 {g := 13, f := 87, p := 0, pts := [p13 E,
  AH E 87 46 2 5 [(0, dV 188 0), (4, aV 0 3 1 2), (9, dV 188 3), (10, (.si .i64 (.lenL (.var 3)))), (11, iV 4)] [rV 188 1] [] []],
  shs := [{ m := 2, res := aV 0 3 0 1, post := [rV 188 0], keep := [] }] }
theorem Wt : Aj (EF m13) [2] 20000 (d13 E0) t13 0 = some (jl (d13 E0) [1]) := by kernel_rfl
theorem Yn : Aj (EF m13) [2] 20000 (d13 E0) t13 1 = some (jl (d13 E0) [1, 1]) := by kernel_rfl
theorem c13 : AP (EF m13) [2] 20000 (d13 E0) t13 := dk2 rfl Wt Yn
def m14 (E : Env) : List Sm := (d13 E).smL a13 (p13 E) 0 (d13 E).shs ++ m13 E
def a14 : List AV := [dV 103 0, (.func (.func 89) [] [(.ptr 0 0)])]
def p14 (E : Env) : Pt := Ap E 88 3 a14 [some (.cells 2 (AL [(0, sV 1), (1, sV 2)]))] []
def d14 (E : Env) : Dec :=
 {g := 14, f := 88, p := 1, pts := [p14 E,
  AH E 88 19 2 4 [(0, dV 103 0), (1, (.func (.func 89) [] [(.ptr 0 0)])), (7, (.si .i64 (.lenL (.var 0)))), (8, iV 1)] [some (.cells 2 (AL [(0, sV 2), (1, sV 3)]))] [] []],
  shs := [{ m := 1, res := iV 0, post := [none], keep := [0] }] }
theorem VH : Aj (EF m14) [2] 20000 (d14 E0) t14 0 = some (jl (d14 E0) [1]) := by kernel_rfl
theorem Xb : Aj (EF m14) [2] 20000 (d14 E0) t14 1 = some (jl (d14 E0) [1]) := by kernel_rfl
theorem c14 : AP (EF m14) [2] 20000 (d14 E0) t14 := dk2 rfl VH Xb
def m15 (E : Env) : List Sm := (d14 E).smL a14 (p14 E) 0 (d14 E).shs ++ m14 E
def a15 : List AV := [aV 0 3 0 1, (.func (.func 91) [] [])]
def p15 (E : Env) : Pt := Ap E 155 2 a15 [rV 188 0] []
def d15 (E : Env) : Dec :=
 {g := 15, f := 155, p := 1, pts := [p15 E,
  AH E 155 19 2 3 [(0, aV 0 3 0 1), (1, (.func (.func 91) [] [])), (7, (.si .i64 (.lenL (.var 0)))), (8, iV 2)] [rV 188 0] [] []],
  shs := [{ m := 1, res := iV 0, post := [none], keep := [0] }] }
theorem Yc : Aj (EF m15) [2] 20000 (d15 E0) t15 0 = some (jl (d15 E0) [1]) := by kernel_rfl
theorem Wc : Aj (EF m15) [2] 20000 (d15 E0) t15 1 = some (jl (d15 E0) [1, 1]) := by kernel_rfl
theorem c15 : AP (EF m15) [2] 20000 (d15 E0) t15 := dk2 rfl Yc Wc
def m16 (E : Env) : List Sm := (d15 E).smL a15 (p15 E) 0 (d15 E).shs ++ m15 E
def z10 : AV := (.agg [sV 8, dV 98 9, dV 96 10, dV 101 11])
def z11 : AV := (.agg [dV 103 12, dV 188 13])
def z12 : AV := (.agg [dV 103 14, dV 188 15])
def a16 : List AV := [z0, z5, z10, z11, z12]
def p16 (E : Env) : Pt := Ap E 34 16 a16 [] []
def z13 : Ah := (.cells 2 (AL [(0, dV 103 2), (1, dV 188 3)]))
def z14 : Ah := (.cells 2 (AL [(0, .slice0), (1, .slice0)]))
def z15 : AV := (.agg [aV 0 2 0 1, aV 1 3 2 3])
def d16 (E : Env) : Dec :=
 {g := 16, f := 34, p := 0, pts := [p16 E,
  AH E 34 81 9 8 [(9, (.ptr 0 0)), (10, (.ptr 1 0)), (16, (.ptr 2 0)), (49, dV 103 0), (50, (.si .i64 (.lenL (.var 0)))), (51, iV 1)] [some z13, some z14, some (.cells 2 (AL [(0, aV 4 2 4 5), (1, aV 3 3 6 7)])), rV 188 6, rV 103 4] [] []],
  shs := [{ m := 5, res := (.tuple [z15, iV 4]), post := [rV 103 0, rV 188 2], keep := [] }] }
theorem Wl : Aj (EF m16) [9] 20000 (d16 E0) t16 0 = some (jl (d16 E0) [1]) := by kernel_rfl
theorem Xh : Aj (EF m16) [9] 20000 (d16 E0) t16 1 = some (jl (d16 E0) [1, 1]) := by kernel_rfl
theorem c16 : AP (EF m16) [9] 20000 (d16 E0) t16 := dk2 rfl Wl Xh
def m17 (E : Env) : List Sm := (d16 E).smL a16 (p16 E) 0 (d16 E).shs ++ m16 E
def a17 : List AV := [sV 0]
def p17 (E : Env) : Pt := Ap E 118 1 a17 [] []
def d17 (E : Env) : Dec :=
 {g := 17, f := 118, p := 0, pts := [p17 E,
  AH E 118 64 4 2 [(0, sV 0), (3, iV 1)] [] [] []],
  shs := [{ m := 1, res := bV 0, post := [], keep := [] }] }
theorem YF : Aj (EF m17) [4] 20000 (d17 E0) t17 0 = some (jl (d17 E0) [1, 1]) := by kernel_rfl
theorem We : Aj (EF m17) [4] 20000 (d17 E0) t17 1 = some (jl (d17 E0) [1, 1, 1, 1]) := by kernel_rfl
theorem c17 : AP (EF m17) [4] 20000 (d17 E0) t17 := dk2 rfl YF We
def m18 (E : Env) : List Sm := (d17 E).smL a17 (p17 E) 0 (d17 E).shs ++ m17 E
def a18 : List AV := [z0, sV 4]
def p18 (E : Env) : Pt := Ap E 119 5 a18 [] []
def d18 (E : Env) : Dec :=
 {g := 18, f := 119, p := 0, pts := [p18 E,
  AH E 119 22 2 6 [(1, sV 0), (2, (.ptr 0 0)), (5, iV 1)] [some z1] [] []],
  shs := [{ m := 1, res := iV 0, post := [], keep := [] }] }
theorem Wg : Aj (EF m18) [2] 20000 (d18 E0) t18 0 = some (jl (d18 E0) [1]) := by kernel_rfl
theorem WQ : Aj (EF m18) [2] 20000 (d18 E0) t18 1 = some (jl (d18 E0) [1]) := by kernel_rfl
theorem c18 : AP (EF m18) [2] 20000 (d18 E0) t18 := dk2 rfl Wg WQ
def m19 (E : Env) : List Sm := (d18 E).smL a18 (p18 E) 0 (d18 E).shs ++ m18 E
def a19 : List AV := [z0, sV 4]
def p19 (E : Env) : Pt := Ap E 120 5 a19 [] []
def d19 (E : Env) : Dec :=
 {g := 19, f := 120, p := 0, pts := [p19 E,
  AH E 120 22 2 6 [(1, sV 0), (2, (.ptr 0 0)), (5, iV 1)] [some z1] [] []],
  shs := [{ m := 1, res := iV 0, post := [], keep := [] }] }
theorem YA : Aj (EF m19) [2] 20000 (d19 E0) t19 0 = some (jl (d19 E0) [1]) := by kernel_rfl
theorem VX : Aj (EF m19) [2] 20000 (d19 E0) t19 1 = some (jl (d19 E0) [1]) := by kernel_rfl
theorem c19 : AP (EF m19) [2] 20000 (d19 E0) t19 := dk2 rfl YA VX
def m20 (E : Env) : List Sm := (d19 E).smL a19 (p19 E) 0 (d19 E).shs ++ m19 E
def a20 : List AV := [z0, iV 4]
def p20 (E : Env) : Pt := Ap E 121 5 a20 [] []
def d20 (E : Env) : Dec :=
 {g := 20, f := 121, p := 0, pts := [p20 E,
  AH E 121 93 6 16 [(1, iV 0), (2, (.ptr 0 0)), (5, (.ptr 1 0)), (6, iV 1), (7, iV 2)] [some z4, some (.cells 9 (AL [(0, sV 7), (1, sV 8), (2, iV 9), (3, sV 10), (4, sV 11), (5, sV 12), (6, iV 13), (7, iV 14), (8, iV 15)]))] [] []],
  shs := [{ m := 1, res := bV 0, post := [], keep := [] }] }
theorem VD : Aj (EF m20) [6] 20000 (d20 E0) t20 0 = some (jl (d20 E0) [1, 1]) := by kernel_rfl
theorem YC : Aj (EF m20) [6] 20000 (d20 E0) t20 1 = some (jl (d20 E0) [1]) := by kernel_rfl
theorem c20 : AP (EF m20) [6] 20000 (d20 E0) t20 := dk2 rfl VD YC
def m21 (E : Env) : List Sm := (d20 E).smL a20 (p20 E) 0 (d20 E).shs ++ m20 E
def a21 : List AV := [z0]
def p21 (E : Env) : Pt := Ap E 47 4 a21 [] []
def z16 : Ah := (.cells 4 (AL [(0, sV 1), (1, dV 98 2), (2, dV 96 3), (3, dV 101 4)]))
def d21 (E : Env) : Dec :=
 {g := 21, f := 47, p := 0, pts := [p21 E,
  AH E 47 131 6 5 [(1, (.ptr 0 0)), (4, iV 0)] [some z16] [] [],
  AH E 47 131 15 5 [(1, (.ptr 0 0)), (5, iV 0)] [some z16] [] [],
  AH E 47 131 22 5 [(1, (.ptr 0 0)), (6, iV 0)] [some z16] [] []],
  shs := [{ m := 2, res := (.tuple [iV 0, iV 1]), post := [], keep := [] }] }
theorem XG : Aj (EF m21) [6, 15, 22] 20000 (d21 E0) t21 0 = some (jl (d21 E0) [1]) := by kernel_rfl
theorem VO : Aj (EF m21) [6, 15, 22] 20000 (d21 E0) t21 1 = some (jl (d21 E0) [1, 2]) := by kernel_rfl
theorem V4 : Aj (EF m21) [6, 15, 22] 20000 (d21 E0) t21 2 = some (jl (d21 E0) [2, 3]) := by kernel_rfl
theorem WH : Aj (EF m21) [6, 15, 22] 20000 (d21 E0) t21 3 = some (jl (d21 E0) [3]) := by kernel_rfl
theorem c21 : AP (EF m21) [6, 15, 22] 20000 (d21 E0) t21 := dk4 rfl XG VO V4 WH
def m22 (E : Env) : List Sm := (d21 E).smL a21 (p21 E) 0 (d21 E).shs ++ m21 E
def a22 : List AV := [z0, sV 4]
def p22 (E : Env) : Pt := Ap E 138 5 a22 [] []
def d22 (E : Env) : Dec :=
 {g := 22, f := 138, p := 0, pts := [p22 E,
  AH E 138 22 2 6 [(1, sV 0), (2, (.ptr 0 0)), (5, iV 1)] [some z1] [] []],
  shs := [{ m := 1, res := iV 0, post := [], keep := [] }] }
theorem XF : Aj (EF m22) [2] 20000 (d22 E0) t22 0 = some (jl (d22 E0) [1]) := by kernel_rfl
theorem Yg : Aj (EF m22) [2] 20000 (d22 E0) t22 1 = some (jl (d22 E0) [1]) := by kernel_rfl
theorem c22 : AP (EF m22) [2] 20000 (d22 E0) t22 := dk2 rfl XF Yg
def m23 (E : Env) : List Sm := (d22 E).smL a22 (p22 E) 0 (d22 E).shs ++ m22 E
def a23 : List AV := [z0, sV 4]
def p23 (E : Env) : Pt := Ap E 139 5 a23 [] []
def d23 (E : Env) : Dec :=
 {g := 23, f := 139, p := 0, pts := [p23 E,
  AH E 139 22 2 6 [(1, sV 0), (2, (.ptr 0 0)), (5, iV 1)] [some z1] [] []],
  shs := [{ m := 1, res := iV 0, post := [], keep := [] }] }
theorem Ww : Aj (EF m23) [2] 20000 (d23 E0) t23 0 = some (jl (d23 E0) [1]) := by kernel_rfl
theorem W2 : Aj (EF m23) [2] 20000 (d23 E0) t23 1 = some (jl (d23 E0) [1]) := by kernel_rfl
theorem c23 : AP (EF m23) [2] 20000 (d23 E0) t23 := dk2 rfl Ww W2
def m24 (E : Env) : List Sm := (d23 E).smL a23 (p23 E) 0 (d23 E).shs ++ m23 E
def a24 : List AV := [z0, z5, z6]
def p24 (E : Env) : Pt := Ap E 66 10 a24 [] []
def z17 : Ah := (.cells 4 (AL [(0, sV 5), (1, dV 98 6), (2, dV 96 7), (3, dV 101 8)]))
def z18 : Ah := (.cells 2 (AL [(0, dV 103 9), (1, dV 188 10)]))
def z19 : Ah := (.cells 4 (AL [(0, sV 7), (1, dV 98 8), (2, dV 96 9), (3, dV 101 10)]))
def z20 : Ah := (.cells 2 (AL [(0, dV 103 11), (1, dV 188 12)]))
def d24 (E : Env) : Dec :=
 {g := 24, f := 66, p := 0, pts := [p24 E,
  AH E 66 139 6 11 [(3, (.ptr 0 0)), (4, (.ptr 1 0)), (5, (.ptr 2 0)), (8, iV 0)] [some z16, some z17, some z18] [] [],
  AH E 66 139 10 13 [(3, (.ptr 0 0)), (4, (.ptr 1 0)), (5, (.ptr 2 0)), (8, iV 0), (9, bV 1), (10, iV 2)] [some z4, some z19, some z20] [] [],
  AH E 66 139 18 11 [(3, (.ptr 0 0)), (4, (.ptr 1 0)), (5, (.ptr 2 0)), (11, iV 0)] [some z16, some z17, some z18] [] [],
  AH E 66 139 23 16 [(3, (.ptr 0 0)), (4, (.ptr 1 0)), (5, (.ptr 2 0)), (11, iV 0), (12, (.ptr 3 0)), (13, bV 1), (14, iV 2)] [some z4, some z19, some z20, some (.cells 3 (AL [(0, sV 13), (1, sV 14), (2, iV 15)]))] [] []],
  shs := [{ m := 2, res := (.tuple [iV 0, iV 1]), post := [], keep := [] }] }
theorem X0 : Aj (EF m24) [6, 10, 18, 23] 20000 (d24 E0) t24 0 = some (jl (d24 E0) [1]) := by kernel_rfl
theorem Ye : Aj (EF m24) [6, 10, 18, 23] 20000 (d24 E0) t24 1 = some (jl (d24 E0) [2, 2, 3]) := by kernel_rfl
theorem Vx : Aj (EF m24) [6, 10, 18, 23] 20000 (d24 E0) t24 2 = some (jl (d24 E0) [2, 2, 1]) := by kernel_rfl
theorem Wm : Aj (EF m24) [6, 10, 18, 23] 20000 (d24 E0) t24 3 = some (jl (d24 E0) [4, 4, 4, 4, 4, 4]) := by kernel_rfl
theorem YD : Aj (EF m24) [6, 10, 18, 23] 20000 (d24 E0) t24 4 = some (jl (d24 E0) [4, 4, 3]) := by kernel_rfl
theorem c24 : AP (EF m24) [6, 10, 18, 23] 20000 (d24 E0) t24 := dk5 rfl X0 Ye Vx Wm YD
def m25 (E : Env) : List Sm := (d24 E).smL a24 (p24 E) 0 (d24 E).shs ++ m24 E
def a25 : List AV := [z0, z5, z10, z11, z12]
def p25 (E : Env) : Pt := Ap E 35 16 a25 [] []
def z21 : Ah := (.cells 2 (AL [(0, dV 103 1), (1, dV 188 2)]))
def z22 : Ah := (.cells 2 (AL [(0, dV 103 3), (1, dV 188 4)]))
def z23 : Ah := (.cells 2 (AL [(0, dV 103 4), (1, dV 188 5)]))
def d25 (E : Env) : Dec :=
 {g := 25, f := 35, p := 0, pts := [p25 E,
  AH E 35 162 9 7 [(8, (.ptr 0 0)), (9, (.ptr 1 0)), (10, (.ptr 2 0)), (16, (.ptr 3 0)), (17, iV 0)] [some z21, some z22, some z14, some (.cells 2 (AL [(0, aV 4 2 5 6), (1, .slice0)])), rV 103 5] [] [],
  AH E 35 162 12 8 [(8, (.ptr 0 0)), (9, (.ptr 1 0)), (10, (.ptr 2 0)), (16, (.ptr 3 0)), (17, iV 0), (18, iV 1)] [some z13, some z23, some z14, some (.cells 2 (AL [(0, aV 4 2 6 7), (1, .slice0)])), rV 103 6] [] [],
  AH E 35 162 17 9 [(8, (.ptr 0 0)), (9, (.ptr 1 0)), (10, (.ptr 2 0)), (16, (.ptr 3 0)), (19, iV 0)] [some z21, some z22, some z14, some (.cells 2 (AL [(0, aV 5 2 5 6), (1, aV 4 3 7 8)])), rV 188 7, rV 103 5] [] [],
  AH E 35 162 21 13 [(8, (.ptr 0 0)), (9, (.ptr 1 0)), (10, (.ptr 2 0)), (16, (.ptr 3 0)), (19, iV 0), (20, (.ptr 4 0)), (21, iV 1)] [some z13, some z23, some z14, some (.cells 2 (AL [(0, aV 6 2 6 7), (1, aV 5 3 8 9)])), some (.cells 3 (AL [(0, sV 10), (1, sV 11), (2, iV 12)])), rV 188 8, rV 103 6] [] []],
  shs := [{ m := 5, res := (.tuple [z15, iV 4]), post := [rV 103 0, rV 188 2], keep := [] }] }
theorem YK : Aj (EF m25) [9, 12, 17, 21] 20000 (d25 E0) t25 0 = some (jl (d25 E0) [1]) := by kernel_rfl
theorem W0 : Aj (EF m25) [9, 12, 17, 21] 20000 (d25 E0) t25 1 = some (jl (d25 E0) [2, 3]) := by kernel_rfl
theorem VG : Aj (EF m25) [9, 12, 17, 21] 20000 (d25 E0) t25 2 = some (jl (d25 E0) [2, 2, 1]) := by kernel_rfl
theorem V0 : Aj (EF m25) [9, 12, 17, 21] 20000 (d25 E0) t25 3 = some (jl (d25 E0) [4]) := by kernel_rfl
theorem XN : Aj (EF m25) [9, 12, 17, 21] 20000 (d25 E0) t25 4 = some (jl (d25 E0) [4, 4, 3]) := by kernel_rfl
theorem c25 : AP (EF m25) [9, 12, 17, 21] 20000 (d25 E0) t25 := dk5 rfl YK W0 VG V0 XN
def m26 (E : Env) : List Sm := (d25 E).smL a25 (p25 E) 0 (d25 E).shs ++ m25 E
def a26 : List AV := [z15, (.agg [aV 2 2 4 5, aV 3 3 6 7])]
def p26 (E : Env) : Pt := Ap E 36 8 a26 [rV 103 0, rV 188 2, rV 103 4, rV 188 6] []
def z24 : Ah := (.cells 2 (AL [(0, aV 0 2 1 5), (1, aV 1 3 2 6)]))
def z25 : Ah := (.cells 2 (AL [(0, aV 2 2 3 7), (1, aV 3 3 4 8)]))
def d26 (E : Env) : Dec :=
 {g := 26, f := 36, p := 4, pts := [p26 E,
  AH E 36 59 4 9 [(2, (.ptr 4 0)), (3, (.ptr 5 0)), (5, iV 0)] [rV 103 1, rV 188 2, rV 103 3, rV 188 4, some z24, some z25] [] [],
  AH E 36 59 9 9 [(2, (.ptr 4 0)), (3, (.ptr 5 0)), (6, iV 0)] [rV 103 1, rV 188 2, rV 103 3, rV 188 4, some z24, some z25] [] []],
  shs := [{ m := 1, res := bV 0, post := [none, none, none, none], keep := [0, 1, 2, 3] }] }
theorem XH : Aj (EF m26) [4, 9] 20000 (d26 E0) t26 0 = some (jl (d26 E0) [1]) := by kernel_rfl
theorem Ys : Aj (EF m26) [4, 9] 20000 (d26 E0) t26 1 = some (jl (d26 E0) [1, 2]) := by kernel_rfl
theorem VB : Aj (EF m26) [4, 9] 20000 (d26 E0) t26 2 = some (jl (d26 E0) [2]) := by kernel_rfl
theorem c26 : AP (EF m26) [4, 9] 20000 (d26 E0) t26 := dk3 rfl XH Ys VB
def m27 (E : Env) : List Sm := (d26 E).smL a26 (p26 E) 0 (d26 E).shs ++ m26 E
def p27 (E : Env) : Pt := DQ E 5 [26, 26, 26, 30, 30]
def d27 (E : Env) : Dec :=
 {g := 27, f := 5, p := 0, pts := [p27 E],
  shs := [DF] }
theorem Yx : Aj (EF m27) [] 20000 (d27 E0) t27 0 = some (jl (d27 E0) []) := by kernel_rfl
theorem c27 : AP (EF m27) [] 20000 (d27 E0) t27 := dk1 rfl Yx
end Go.Proofs.YtmgppdghdeokbaaGreat.upgradeComposes

