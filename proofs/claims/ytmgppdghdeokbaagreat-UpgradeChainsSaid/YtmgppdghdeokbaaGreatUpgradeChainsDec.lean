/- What is proved: that the functions which the law UpgradeChains reaches are the plain functions over data whose trees of tests the text before writes out (the kernel runs the evaluator over each place). Conditions: the program is the given one. -/
import Derived.Test.YtmgppdghdeokbaaGreatProg
import Derived.KernelRfl
import Derived.Test.YtmgppdghdeokbaaGreatUpgradeChainsTree
import Derived.Test.YtmgppdghdeokbaaGreatUpgradeChainsKnownD
set_option linter.unusedVariables false
set_option linter.unusedSectionVars false
set_option linter.unusedSimpArgs false
namespace Go.Proofs.YtmgppdghdeokbaaGreat.upgradeChains
open Go.AE Uh
def m0 (E : Env) : List Sm := []
instance pg : Pg Tryz.prog l41 := ⟨trivial⟩
def z0 : AV := (.agg [sV 0, dV 98 1, dV 96 2, dV 101 3])
def a0 : List AV := [z0]
def p0 (E : Env) : Pt := Aw E 8 4 a0 [] []
def z1 : Ah := (.cells 4 (AX [(0, sV 2), (1, dV 98 3), (2, dV 96 4), (3, dV 101 5)]))
def d0 (E : Env) : Dec :=
 {g := 0, f := 8, p := 0, pts := [p0 E,
  Bl E 8 112 5 6 [(1, (.ptr 0 0)), (3, iV 0), (4, iV 1)] [some z1] [] [],
  Bl E 8 112 11 6 [(1, (.ptr 0 0)), (3, iV 0), (5, iV 1)] [some z1] [] [],
  Bl E 8 112 16 6 [(1, (.ptr 0 0)), (3, iV 0), (6, iV 1)] [some z1] [] []],
  shs := [{ m := 1, res := bV 0, post := [], keep := [] }] }
theorem Xt : Am (EF m0) [5, 11, 16] 20000 (d0 E0) t0 0 = some (jl (d0 E0) [1]) := by kernel_rfl
theorem XL : Am (EF m0) [5, 11, 16] 20000 (d0 E0) t0 1 = some (jl (d0 E0) [1, 1, 1, 2]) := by kernel_rfl
theorem X5 : Am (EF m0) [5, 11, 16] 20000 (d0 E0) t0 2 = some (jl (d0 E0) [2, 3]) := by kernel_rfl
theorem Ye : Am (EF m0) [5, 11, 16] 20000 (d0 E0) t0 3 = some (jl (d0 E0) [3]) := by kernel_rfl
theorem c0 : AW (EF m0) [5, 11, 16] 20000 (d0 E0) t0 := dk4 rfl Xt XL X5 Ye
def m1 (E : Env) : List Sm := (d0 E).smL a0 (p0 E) 0 (d0 E).shs ++ m0 E
def a1 : List AV := []
def p1 (E : Env) : Pt := Aw E 10 0 a1 [] []
def d1 (E : Env) : Dec :=
 {g := 1, f := 10, p := 0, pts := [p1 E],
  shs := [{ m := 0, res := (.bool true), post := [], keep := [] }] }
theorem Ys : Am (EF m1) [] 20000 (d1 E0) t1 0 = some (jl (d1 E0) []) := by kernel_rfl
theorem c1 : AW (EF m1) [] 20000 (d1 E0) t1 := dk1 rfl Ys
def m2 (E : Env) : List Sm := (d1 E).smL a1 (p1 E) 0 (d1 E).shs ++ m1 E
def a2 : List AV := [sV 0]
def p2 (E : Env) : Pt := Aw E 102 1 a2 [] []
def d2 (E : Env) : Dec :=
 {g := 2, f := 102, p := 0, pts := [p2 E,
  Bl E 102 55 4 3 [(15, (.asl 0 1 (.lenL (.var 0)) (.bc false))), (16, iV 1), (17, iV 2)] [rV 5 0] [] []],
  shs := [{ m := 1, res := bV 0, post := [], keep := [] }] }
theorem Xv : Am (EF m2) [4] 20000 (d2 E0) t2 0 = some (jl (d2 E0) [1]) := by kernel_rfl
theorem Yr : Am (EF m2) [4] 20000 (d2 E0) t2 1 = some (jl (d2 E0) [1, 1, 1, 1]) := by kernel_rfl
theorem c2 : AW (EF m2) [4] 20000 (d2 E0) t2 := dk2 rfl Xv Yr
def m3 (E : Env) : List Sm := (d2 E).smL a2 (p2 E) 0 (d2 E).shs ++ m2 E
def a3 : List AV := [dV 96 0, (.func (.func 168) [] [(.ptr 0 0)])]
def z2 : Ah := (.cells 1 (AX [(0, sV 1)]))
def p3 (E : Env) : Pt := Aw E 185 2 a3 [some z2] []
def z3 : Ah := (.cells 1 (AX [(0, sV 2)]))
def d3 (E : Env) : Dec :=
 {g := 3, f := 185, p := 1, pts := [p3 E,
  Bl E 185 19 2 3 [(0, dV 96 0), (1, (.func (.func 168) [] [(.ptr 0 0)])), (7, (.si .i64 (.lenL (.var 0)))), (8, iV 1)] [some z3] [] []],
  shs := [{ m := 1, res := iV 0, post := [none], keep := [0] }] }
theorem XX : Am (EF m3) [2] 20000 (d3 E0) t3 0 = some (jl (d3 E0) [1]) := by kernel_rfl
theorem X1 : Am (EF m3) [2] 20000 (d3 E0) t3 1 = some (jl (d3 E0) [1]) := by kernel_rfl
theorem c3 : AW (EF m3) [2] 20000 (d3 E0) t3 := dk2 rfl XX X1
def m4 (E : Env) : List Sm := (d3 E).smL a3 (p3 E) 0 (d3 E).shs ++ m3 E
def a4 : List AV := [iV 0, iV 1, iV 2, (.func (.func 104) [] [(.ptr 0 0)])]
def z4 : Ah := (.cells 4 (AX [(0, sV 3), (1, dV 98 4), (2, dV 96 5), (3, dV 101 6)]))
def p4 (E : Env) : Pt := Aw E 103 7 a4 [some z4] []
def d4 (E : Env) : Dec :=
 {g := 4, f := 103, p := 1, pts := [p4 E,
  Bl E 103 28 6 6 [(3, (.func (.func 104) [] [(.ptr 0 0)])), (19, iV 0), (20, iV 1)] [some z1] [] []],
  shs := [{ m := 1, res := iV 0, post := [none], keep := [0] }] }
theorem X0 : Am (EF m4) [6] 20000 (d4 E0) t4 0 = some (jl (d4 E0) [1]) := by kernel_rfl
theorem XD : Am (EF m4) [6] 20000 (d4 E0) t4 1 = some (jl (d4 E0) [1]) := by kernel_rfl
theorem c4 : AW (EF m4) [6] 20000 (d4 E0) t4 := dk2 rfl X0 XD
def m5 (E : Env) : List Sm := (d4 E).smL a4 (p4 E) 0 (d4 E).shs ++ m4 E
def a5 : List AV := [dV 98 0, (.func (.func 170) [] [(.ptr 0 0)])]
def p5 (E : Env) : Pt := Aw E 151 2 a5 [some z2] []
def d5 (E : Env) : Dec :=
 {g := 5, f := 151, p := 1, pts := [p5 E,
  Bl E 151 19 2 3 [(0, dV 98 0), (1, (.func (.func 170) [] [(.ptr 0 0)])), (7, (.si .i64 (.lenL (.var 0)))), (8, iV 1)] [some z3] [] []],
  shs := [{ m := 1, res := iV 0, post := [none], keep := [0] }] }
theorem Yt : Am (EF m5) [2] 20000 (d5 E0) t5 0 = some (jl (d5 E0) [1]) := by kernel_rfl
theorem XR : Am (EF m5) [2] 20000 (d5 E0) t5 1 = some (jl (d5 E0) [1]) := by kernel_rfl
theorem c5 : AW (EF m5) [2] 20000 (d5 E0) t5 := dk2 rfl Yt XR
def m6 (E : Env) : List Sm := (d5 E).smL a5 (p5 E) 0 (d5 E).shs ++ m5 E
def a6 : List AV := [iV 0, iV 1, iV 2, (.func (.func 106) [] [(.ptr 0 0)])]
def p6 (E : Env) : Pt := Aw E 103 7 a6 [some z4] []
def d6 (E : Env) : Dec :=
 {g := 6, f := 103, p := 1, pts := [p6 E,
  Bl E 103 28 6 6 [(3, (.func (.func 106) [] [(.ptr 0 0)])), (19, iV 0), (20, iV 1)] [some z1] [] []],
  shs := [{ m := 1, res := iV 0, post := [none], keep := [0] }] }
theorem X2 : Am (EF m6) [6] 20000 (d6 E0) t6 0 = some (jl (d6 E0) [1]) := by kernel_rfl
theorem X7 : Am (EF m6) [6] 20000 (d6 E0) t6 1 = some (jl (d6 E0) [1]) := by kernel_rfl
theorem c6 : AW (EF m6) [6] 20000 (d6 E0) t6 := dk2 rfl X2 X7
def m7 (E : Env) : List Sm := (d6 E).smL a6 (p6 E) 0 (d6 E).shs ++ m6 E
def a7 : List AV := [dV 101 0, (.agg [sV 1, sV 2, iV 3, sV 4, sV 5, sV 6, iV 7, iV 8, iV 9])]
def p7 (E : Env) : Pt := Aw E 200 10 a7 [] []
def d7 (E : Env) : Dec :=
 {g := 7, f := 200, p := 0, pts := [p7 E,
  Bl E 200 19 2 11 [(0, dV 101 0), (3, (.ptr 0 0)), (7, (.si .i64 (.lenL (.var 0)))), (8, iV 1)] [some (.cells 9 (AX [(0, sV 2), (1, sV 3), (2, iV 4), (3, sV 5), (4, sV 6), (5, sV 7), (6, iV 8), (7, iV 9), (8, iV 10)]))] [] []],
  shs := [{ m := 1, res := iV 0, post := [], keep := [] }] }
theorem Xz : Am (EF m7) [2] 20000 (d7 E0) t7 0 = some (jl (d7 E0) [1]) := by kernel_rfl
theorem Ya : Am (EF m7) [2] 20000 (d7 E0) t7 1 = some (jl (d7 E0) [1]) := by kernel_rfl
theorem c7 : AW (EF m7) [2] 20000 (d7 E0) t7 := dk2 rfl Xz Ya
def m8 (E : Env) : List Sm := (d7 E).smL a7 (p7 E) 0 (d7 E).shs ++ m7 E
def a8 : List AV := [iV 0, iV 1, iV 2, (.func (.func 108) [] [(.ptr 0 0)])]
def p8 (E : Env) : Pt := Aw E 103 7 a8 [some z4] []
def d8 (E : Env) : Dec :=
 {g := 8, f := 103, p := 1, pts := [p8 E,
  Bl E 103 28 6 6 [(3, (.func (.func 108) [] [(.ptr 0 0)])), (19, iV 0), (20, iV 1)] [some z1] [] []],
  shs := [{ m := 1, res := iV 0, post := [none], keep := [0] }] }
theorem XZ : Am (EF m8) [6] 20000 (d8 E0) t8 0 = some (jl (d8 E0) [1]) := by kernel_rfl
theorem X3 : Am (EF m8) [6] 20000 (d8 E0) t8 1 = some (jl (d8 E0) [1, 1, 1, 1, 1, 1, 1, 1]) := by kernel_rfl
theorem c8 : AW (EF m8) [6] 20000 (d8 E0) t8 := dk2 rfl XZ X3
def m9 (E : Env) : List Sm := (d8 E).smL a8 (p8 E) 0 (d8 E).shs ++ m8 E
def a9 : List AV := [dV 98 0, (.func (.func 184) [] [(.ptr 0 0)])]
def p9 (E : Env) : Pt := Aw E 151 2 a9 [some z2] []
def d9 (E : Env) : Dec :=
 {g := 9, f := 151, p := 1, pts := [p9 E,
  Bl E 151 19 2 3 [(0, dV 98 0), (1, (.func (.func 184) [] [(.ptr 0 0)])), (7, (.si .i64 (.lenL (.var 0)))), (8, iV 1)] [some z3] [] []],
  shs := [{ m := 1, res := iV 0, post := [none], keep := [0] }] }
theorem Yh : Am (EF m9) [2] 20000 (d9 E0) t9 0 = some (jl (d9 E0) [1]) := by kernel_rfl
theorem XC : Am (EF m9) [2] 20000 (d9 E0) t9 1 = some (jl (d9 E0) [1]) := by kernel_rfl
theorem c9 : AW (EF m9) [2] 20000 (d9 E0) t9 := dk2 rfl Yh XC
def m10 (E : Env) : List Sm := (d9 E).smL a9 (p9 E) 0 (d9 E).shs ++ m9 E
def a10 : List AV := [dV 96 0, (.func (.func 186) [] [(.ptr 0 0)])]
def p10 (E : Env) : Pt := Aw E 185 2 a10 [some z2] []
def d10 (E : Env) : Dec :=
 {g := 10, f := 185, p := 1, pts := [p10 E,
  Bl E 185 19 2 3 [(0, dV 96 0), (1, (.func (.func 186) [] [(.ptr 0 0)])), (7, (.si .i64 (.lenL (.var 0)))), (8, iV 1)] [some z3] [] []],
  shs := [{ m := 1, res := iV 0, post := [none], keep := [0] }] }
theorem WX : Am (EF m10) [2] 20000 (d10 E0) t10 0 = some (jl (d10 E0) [1]) := by kernel_rfl
theorem WR : Am (EF m10) [2] 20000 (d10 E0) t10 1 = some (jl (d10 E0) [1]) := by kernel_rfl
theorem c10 : AW (EF m10) [2] 20000 (d10 E0) t10 := dk2 rfl WX WR
def m11 (E : Env) : List Sm := (d10 E).smL a10 (p10 E) 0 (d10 E).shs ++ m10 E
def z5 : AV := (.agg [sV 4, dV 98 5, dV 96 6, dV 101 7])
def z6 : AV := (.agg [dV 103 8, dV 188 9])
def a11 : List AV := [z0, z5, z6]
def p11 (E : Env) : Pt := Aw E 60 10 a11 [] []
def z7 : Ah := (.cells 4 (AX [(0, sV 0), (1, dV 98 1), (2, dV 96 2), (3, dV 101 3)]))
def z8 : Ah := (.cells 4 (AX [(0, sV 4), (1, dV 98 5), (2, dV 96 6), (3, dV 101 7)]))
def z9 : Ah := (.cells 2 (AX [(0, dV 103 8), (1, dV 188 9)]))
def d11 (E : Env) : Dec :=
 {g := 11, f := 60, p := 0, pts := [p11 E,
  Bl E 60 114 7 13 [(0, z0), (1, z5), (2, z6), (3, (.ptr 0 0)), (4, (.ptr 1 0)), (5, (.ptr 2 0)), (7, (.int .i64 490)), (8, (.map 3)), (13, (.map 3)), (14, z0), (15, (.bool true)), (16, (.bool false)), (17, (.bool false)), (18, z5), (19, (.bool true)), (20, (.bool false)), (21, (.bool false)), (22, (.ptr 2 0)), (23, dV 103 8), (24, (.si .i64 (.lenL (.var 8)))), (25, bV 10), (26, (.ptr 2 0)), (27, dV 103 8), (28, (.si .i64 (.lenL (.var 8)))), (29, iV 11)] [some z7, some z8, some z9, some (.dmap 9 4 (.var 12))] [] [],
  Bl E 60 114 17 16 [(0, z0), (1, z5), (2, z6), (3, (.ptr 0 0)), (4, (.ptr 1 0)), (5, (.ptr 2 0)), (7, (.int .i64 491)), (8, (.map 3)), (13, (.map 3)), (14, z0), (15, (.bool true)), (16, (.bool false)), (17, (.bool false)), (18, z5), (19, (.bool true)), (20, (.bool false)), (21, (.bool false)), (22, (.ptr 2 0)), (23, dV 103 8), (24, (.si .i64 (.lenL (.var 8)))), (25, bV 10), (26, (.ptr 2 0)), (27, dV 103 8), (28, (.si .i64 (.lenL (.var 8)))), (29, iV 11), (30, bV 12), (57, (.map 3)), (58, (.ptr 2 1)), (59, dV 188 9), (60, (.si .i64 (.lenL (.var 9)))), (61, bV 13), (62, (.ptr 2 1)), (63, dV 188 9), (64, (.si .i64 (.lenL (.var 9)))), (65, iV 14)] [some z7, some z8, some z9, some (.dmap 9 4 (.var 15))] [] []],
  shs := [{ m := 2, res := (.tuple [iV 0, iV 1]), post := [], keep := [] }] }
theorem WD : Am (EF m11) [7, 17] 20000 (d11 E0) t11 0 = some (jl (d11 E0) [1]) := by kernel_rfl
theorem VM : Am (EF m11) [7, 17] 20000 (d11 E0) t11 1 = some (jl (d11 E0) [1, 1, 2]) := by kernel_rfl
theorem WV : Am (EF m11) [7, 17] 20000 (d11 E0) t11 2 = some (jl (d11 E0) [2, 2, 2, 2, 2, 2, 2, 2]) := by kernel_rfl
theorem c11 : AW (EF m11) [7, 17] 20000 (d11 E0) t11 := dk3 rfl WD VM WV
def m12 (E : Env) : List Sm := (d11 E).smL a11 (p11 E) 0 (d11 E).shs ++ m11 E
def a12 : List AV := [dV 188 0, (.func (.func 156) [] [(.ptr 0 0)])]
def p12 (E : Env) : Pt := Aw E 155 4 a12 [some (.cells 3 (AX [(0, sV 1), (1, sV 2), (2, iV 3)]))] []
def d12 (E : Env) : Dec :=
 {g := 12, f := 155, p := 1, pts := [p12 E,
  Bl E 155 19 2 5 [(0, dV 188 0), (1, (.func (.func 156) [] [(.ptr 0 0)])), (7, (.si .i64 (.lenL (.var 0)))), (8, iV 1)] [some (.cells 3 (AX [(0, sV 2), (1, sV 3), (2, iV 4)]))] [] []],
  shs := [{ m := 1, res := iV 0, post := [none], keep := [0] }] }
theorem Vb : Am (EF m12) [2] 20000 (d12 E0) t12 0 = some (jl (d12 E0) [1]) := by kernel_rfl
theorem We : Am (EF m12) [2] 20000 (d12 E0) t12 1 = some (jl (d12 E0) [1]) := by kernel_rfl
theorem c12 : AW (EF m12) [2] 20000 (d12 E0) t12 := dk2 rfl Vb We
def m13 (E : Env) : List Sm := (d12 E).smL a12 (p12 E) 0 (d12 E).shs ++ m12 E
def a13 : List AV := [dV 188 0, dV 188 1]
def p13 (E : Env) : Pt := Aw E 87 2 a13 [] []
def d13 (E : Env) : Dec :=
 {g := 13, f := 87, p := 0, pts := [p13 E,
  Bl E 87 46 2 5 [(0, dV 188 0), (4, aV 0 3 1 2), (9, dV 188 3), (10, (.si .i64 (.lenL (.var 3)))), (11, iV 4)] [rV 188 1] [] []],
  shs := [{ m := 2, res := aV 0 3 0 1, post := [rV 188 0], keep := [] }] }
theorem V1 : Am (EF m13) [2] 20000 (d13 E0) t13 0 = some (jl (d13 E0) [1]) := by kernel_rfl
theorem VH : Am (EF m13) [2] 20000 (d13 E0) t13 1 = some (jl (d13 E0) [1, 1]) := by kernel_rfl
theorem c13 : AW (EF m13) [2] 20000 (d13 E0) t13 := dk2 rfl V1 VH
def m14 (E : Env) : List Sm := (d13 E).smL a13 (p13 E) 0 (d13 E).shs ++ m13 E
def a14 : List AV := [dV 103 0, (.func (.func 89) [] [(.ptr 0 0)])]
def p14 (E : Env) : Pt := Aw E 88 3 a14 [some (.cells 2 (AX [(0, sV 1), (1, sV 2)]))] []
def d14 (E : Env) : Dec :=
 {g := 14, f := 88, p := 1, pts := [p14 E,
  Bl E 88 19 2 4 [(0, dV 103 0), (1, (.func (.func 89) [] [(.ptr 0 0)])), (7, (.si .i64 (.lenL (.var 0)))), (8, iV 1)] [some (.cells 2 (AX [(0, sV 2), (1, sV 3)]))] [] []],
  shs := [{ m := 1, res := iV 0, post := [none], keep := [0] }] }
theorem Vp : Am (EF m14) [2] 20000 (d14 E0) t14 0 = some (jl (d14 E0) [1]) := by kernel_rfl
theorem WP : Am (EF m14) [2] 20000 (d14 E0) t14 1 = some (jl (d14 E0) [1]) := by kernel_rfl
theorem c14 : AW (EF m14) [2] 20000 (d14 E0) t14 := dk2 rfl Vp WP
def m15 (E : Env) : List Sm := (d14 E).smL a14 (p14 E) 0 (d14 E).shs ++ m14 E
def a15 : List AV := [aV 0 3 0 1, (.func (.func 91) [] [])]
def p15 (E : Env) : Pt := Aw E 155 2 a15 [rV 188 0] []
def d15 (E : Env) : Dec :=
 {g := 15, f := 155, p := 1, pts := [p15 E,
  Bl E 155 19 2 3 [(0, aV 0 3 0 1), (1, (.func (.func 91) [] [])), (7, (.si .i64 (.lenL (.var 0)))), (8, iV 2)] [rV 188 0] [] []],
  shs := [{ m := 1, res := iV 0, post := [none], keep := [0] }] }
theorem Wi : Am (EF m15) [2] 20000 (d15 E0) t15 0 = some (jl (d15 E0) [1]) := by kernel_rfl
theorem Wb : Am (EF m15) [2] 20000 (d15 E0) t15 1 = some (jl (d15 E0) [1, 1]) := by kernel_rfl
theorem c15 : AW (EF m15) [2] 20000 (d15 E0) t15 := dk2 rfl Wi Wb
def m16 (E : Env) : List Sm := (d15 E).smL a15 (p15 E) 0 (d15 E).shs ++ m15 E
def a16 : List AV := [z0, z5, (.agg [sV 8, dV 98 9, dV 96 10, dV 101 11]), (.agg [dV 103 12, dV 188 13]), (.agg [dV 103 14, dV 188 15])]
def p16 (E : Env) : Pt := Aw E 34 16 a16 [] []
def d16 (E : Env) : Dec :=
 {g := 16, f := 34, p := 0, pts := [p16 E,
  Bl E 34 81 9 8 [(9, (.ptr 0 0)), (10, (.ptr 1 0)), (16, (.ptr 2 0)), (49, dV 103 0), (50, (.si .i64 (.lenL (.var 0)))), (51, iV 1)] [some (.cells 2 (AX [(0, dV 103 2), (1, dV 188 3)])), some (.cells 2 (AX [(0, .slice0), (1, .slice0)])), some (.cells 2 (AX [(0, aV 4 2 4 5), (1, aV 3 3 6 7)])), rV 188 6, rV 103 4] [] []],
  shs := [{ m := 5, res := (.tuple [(.agg [aV 0 2 0 1, aV 1 3 2 3]), iV 4]), post := [rV 103 0, rV 188 2], keep := [] }] }
theorem V2 : Am (EF m16) [9] 20000 (d16 E0) t16 0 = some (jl (d16 E0) [1]) := by kernel_rfl
theorem W3 : Am (EF m16) [9] 20000 (d16 E0) t16 1 = some (jl (d16 E0) [1, 1]) := by kernel_rfl
theorem c16 : AW (EF m16) [9] 20000 (d16 E0) t16 := dk2 rfl V2 W3
def m17 (E : Env) : List Sm := (d16 E).smL a16 (p16 E) 0 (d16 E).shs ++ m16 E
def a17 : List AV := [z0, (.agg [sV 4, dV 3 5])]
def p17 (E : Env) : Pt := Aw E 73 6 a17 [] []
def z10 : AV := (.agg [iV 0, iV 1, iV 2, iV 3, iV 4])
def d17 (E : Env) : Dec :=
 {g := 17, f := 73, p := 0, pts := [p17 E,
  Bl E 73 54 5 8 [(2, (.ptr 0 0)), (3, (.ptr 1 0)), (4, (.ptr 2 0)), (27, dV 3 0), (28, (.si .i64 (.lenL (.var 0)))), (29, iV 1)] [some z1, some (.cells 2 (AX [(0, sV 6), (1, dV 3 0)])), some (.cells 5 (AX [(0, iV 7), (1, (.int .i64 0)), (2, (.int .i64 0)), (3, (.int .i64 0)), (4, (.int .i64 0))]))] [] []],
  shs := [{ m := 6, res := (.tuple [z10, bV 5]), post := [], keep := [] }] }
theorem Vs : Am (EF m17) [5] 20000 (d17 E0) t17 0 = some (jl (d17 E0) [1]) := by kernel_rfl
theorem Xp : Am (EF m17) [5] 20000 (d17 E0) t17 1 = some (jl (d17 E0) [1]) := by kernel_rfl
theorem c17 : AW (EF m17) [5] 20000 (d17 E0) t17 := dk2 rfl Vs Xp
def m18 (E : Env) : List Sm := (d17 E).smL a17 (p17 E) 0 (d17 E).shs ++ m17 E
def a18 : List AV := [dV 103 0, (.func (.func 147) [] [(.ptr 0 0), (.ptr 1 0)])]
def p18 (E : Env) : Pt := Aw E 88 10 a18 [some (.cells 4 (AX [(0, sV 1), (1, dV 98 2), (2, dV 96 3), (3, dV 101 4)])), some (.cells 5 (AX [(0, iV 5), (1, iV 6), (2, iV 7), (3, iV 8), (4, iV 9)]))] []
def d18 (E : Env) : Dec :=
 {g := 18, f := 88, p := 2, pts := [p18 E,
  Bl E 88 19 2 11 [(0, dV 103 0), (1, (.func (.func 147) [] [(.ptr 0 0), (.ptr 1 0)])), (7, (.si .i64 (.lenL (.var 0)))), (8, iV 1)] [some z1, some (.cells 5 (AX [(0, iV 6), (1, iV 7), (2, iV 8), (3, iV 9), (4, iV 10)]))] [] []],
  shs := [{ m := 1, res := iV 0, post := [none, none], keep := [0, 1] }] }
theorem Vi : Am (EF m18) [2] 20000 (d18 E0) t18 0 = some (jl (d18 E0) [1]) := by kernel_rfl
theorem Xr : Am (EF m18) [2] 20000 (d18 E0) t18 1 = some (jl (d18 E0) [1]) := by kernel_rfl
theorem c18 : AW (EF m18) [2] 20000 (d18 E0) t18 := dk2 rfl Vi Xr
def m19 (E : Env) : List Sm := (d18 E).smL a18 (p18 E) 0 (d18 E).shs ++ m18 E
def a19 : List AV := [z0, z5, z6, (.agg [iV 10, iV 11, iV 12, iV 13, iV 14])]
def p19 (E : Env) : Pt := Aw E 76 15 a19 [] []
def d19 (E : Env) : Dec :=
 {g := 19, f := 76, p := 0, pts := [p19 E,
  Bl E 76 76 6 20 [(4, (.ptr 0 0)), (5, (.ptr 1 0)), (7, (.ptr 2 0)), (8, (.ptr 3 0)), (33, dV 188 0), (34, (.si .i64 (.lenL (.var 0)))), (35, iV 1)] [some z1, some (.cells 4 (AX [(0, sV 6), (1, dV 98 7), (2, dV 96 8), (3, dV 101 9)])), some (.cells 5 (AX [(0, iV 10), (1, iV 11), (2, iV 12), (3, iV 13), (4, iV 14)])), some (.cells 5 (AX [(0, iV 15), (1, iV 16), (2, iV 17), (3, iV 18), (4, iV 19)]))] [] []],
  shs := [{ m := 6, res := (.tuple [z10, iV 5]), post := [], keep := [] }] }
theorem Wy : Am (EF m19) [6] 20000 (d19 E0) t19 0 = some (jl (d19 E0) [1]) := by kernel_rfl
theorem W8 : Am (EF m19) [6] 20000 (d19 E0) t19 1 = some (jl (d19 E0) [1, 1, 1, 1, 1, 1, 1, 1, 1, 1, 1, 1, 1, 1, 1, 1, 1, 1, 1, 1]) := by kernel_rfl
theorem c19 : AW (EF m19) [6] 20000 (d19 E0) t19 := dk2 rfl Wy W8
def m20 (E : Env) : List Sm := (d19 E).smL a19 (p19 E) 0 (d19 E).shs ++ m19 E
def a20 : List AV := [z0, z5, z6, (.agg [sV 10, dV 3 11])]
def p20 (E : Env) : Pt := Aw E 24 12 a20 [] []
def z11 : AV := (.agg [sV 0, aV 0 1 1 2])
def d20 (E : Env) : Dec :=
 {g := 20, f := 24, p := 0, pts := [p20 E],
  shs := [{ m := 4, res := (.tuple [z11, iV 3]), post := [rV 3 1], keep := [] }] }
theorem Xg : Am (EF m20) [] 20000 (d20 E0) t20 0 = some (jl (d20 E0) []) := by kernel_rfl
theorem c20 : AW (EF m20) [] 20000 (d20 E0) t20 := dk1 rfl Xg
def m21 (E : Env) : List Sm := (d20 E).smL a20 (p20 E) 0 (d20 E).shs ++ m20 E
def a21 : List AV := [z11, (.agg [sV 3, aV 1 1 4 5])]
def p21 (E : Env) : Pt := Aw E 33 6 a21 [rV 3 1, rV 3 4] []
def d21 (E : Env) : Dec :=
 {g := 21, f := 33, p := 2, pts := [p21 E,
  Bl E 33 38 4 7 [(2, (.ptr 2 0)), (3, (.ptr 3 0)), (5, iV 0)] [rV 3 1, rV 3 2, some (.cells 2 (AX [(0, sV 3), (1, aV 0 1 1 4)])), some (.cells 2 (AX [(0, sV 5), (1, aV 1 1 2 6)]))] [] []],
  shs := [{ m := 1, res := bV 0, post := [none, none], keep := [0, 1] }] }
theorem Wa : Am (EF m21) [4] 20000 (d21 E0) t21 0 = some (jl (d21 E0) [1]) := by kernel_rfl
theorem Vk : Am (EF m21) [4] 20000 (d21 E0) t21 1 = some (jl (d21 E0) [1]) := by kernel_rfl
theorem c21 : AW (EF m21) [4] 20000 (d21 E0) t21 := dk2 rfl Wa Vk
def m22 (E : Env) : List Sm := (d21 E).smL a21 (p21 E) 0 (d21 E).shs ++ m21 E
def p22 (E : Env) : Pt := DY E 6 [26, 26, 26, 30, 30, 55]
def d22 (E : Env) : Dec :=
 {g := 22, f := 6, p := 0, pts := [p22 E],
  shs := [DO] }
theorem Wc : Am (EF m22) [] 20000 (d22 E0) t22 0 = some (jl (d22 E0) []) := by kernel_rfl
theorem c22 : AW (EF m22) [] 20000 (d22 E0) t22 := dk1 rfl Wc
end Go.Proofs.YtmgppdghdeokbaaGreat.upgradeChains

