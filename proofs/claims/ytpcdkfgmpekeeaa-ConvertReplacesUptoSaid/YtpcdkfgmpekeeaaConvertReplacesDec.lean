/- What is proved: that the functions which the law ConvertReplaces reaches are the plain functions over data whose trees of tests the text before writes out (the kernel runs the evaluator over each place). Conditions: the program is the given one. -/
import Derived.Test.YtpcdkfgmpekeeaaProg
import Derived.KernelRfl
import Derived.Test.YtpcdkfgmpekeeaaConvertReplacesTree
import Derived.Test.YtpcdkfgmpekeeaaConvertReplacesKnownB
set_option linter.unusedVariables false
set_option linter.unusedSectionVars false
set_option linter.unusedSimpArgs false
namespace Go.Proofs.Ytpcdkfgmpekeeaa.convertReplaces
open Go.AE Ct
def m0 (E : Env) : List Sm := []
instance pg : Pg Try.prog l27 := ⟨trivial⟩
def a0 : List AV := []
def p0 (E : Env) : Pt := Aq E 9 0 a0 [] []
def d0 (E : Env) : Dec :=
 {g := 0, f := 9, p := 0, pts := [p0 E],
  shs := [{ m := 0, res := (.bool true), post := [], keep := [] }] }
theorem iP : Am (EF m0) [] 20000 (d0 E0) t0 0 = some (jl (d0 E0) []) := by kernel_rfl
theorem c0 : AB (EF m0) [] 20000 (d0 E0) t0 := dk1 rfl iP
def m1 (E : Env) : List Sm := (d0 E).smL a0 (p0 E) 0 (d0 E).shs ++ m0 E
def a1 : List AV := [sV 0]
def p1 (E : Env) : Pt := Aq E 74 1 a1 [] []
def d1 (E : Env) : Dec :=
 {g := 1, f := 74, p := 0, pts := [p1 E,
  AG E 74 55 4 3 [(15, (.asl 0 1 (.lenL (.var 0)) (.bc false))), (16, iV 1), (17, iV 2)] [rV 5 0] [] []],
  shs := [{ m := 1, res := bV 0, post := [], keep := [] }] }
theorem ic : Am (EF m1) [4] 20000 (d1 E0) t1 0 = some (jl (d1 E0) [1]) := by kernel_rfl
theorem iR : Am (EF m1) [4] 20000 (d1 E0) t1 1 = some (jl (d1 E0) [1, 1, 1, 1]) := by kernel_rfl
theorem c1 : AB (EF m1) [4] 20000 (d1 E0) t1 := dk2 rfl ic iR
def m2 (E : Env) : List Sm := (d1 E).smL a1 (p1 E) 0 (d1 E).shs ++ m1 E
def a2 : List AV := [dV 69 0, (.func (.func 96) [] [(.ptr 0 0)])]
def z0 : Aj := (.cells 1 (Al [(0, sV 1)]))
def p2 (E : Env) : Pt := Aq E 53 2 a2 [some z0] []
def z1 : Aj := (.cells 1 (Al [(0, sV 2)]))
def d2 (E : Env) : Dec :=
 {g := 2, f := 53, p := 1, pts := [p2 E,
  AG E 53 19 2 3 [(0, dV 69 0), (1, (.func (.func 96) [] [(.ptr 0 0)])), (7, (.si .i64 (.lenL (.var 0)))), (8, iV 1)] [some z1] [] []],
  shs := [{ m := 1, res := iV 0, post := [none], keep := [0] }] }
theorem iB : Am (EF m2) [2] 20000 (d2 E0) t2 0 = some (jl (d2 E0) [1]) := by kernel_rfl
theorem ib : Am (EF m2) [2] 20000 (d2 E0) t2 1 = some (jl (d2 E0) [1]) := by kernel_rfl
theorem c2 : AB (EF m2) [2] 20000 (d2 E0) t2 := dk2 rfl iB ib
def m3 (E : Env) : List Sm := (d2 E).smL a2 (p2 E) 0 (d2 E).shs ++ m2 E
def a3 : List AV := [iV 0, iV 1, iV 2, (.func (.func 76) [] [(.ptr 0 0)])]
def z2 : Aj := (.cells 4 (Al [(0, sV 3), (1, dV 75 4), (2, dV 69 5), (3, dV 64 6)]))
def p3 (E : Env) : Pt := Aq E 75 7 a3 [some z2] []
def z3 : Aj := (.cells 4 (Al [(0, sV 2), (1, dV 75 3), (2, dV 69 4), (3, dV 64 5)]))
def d3 (E : Env) : Dec :=
 {g := 3, f := 75, p := 1, pts := [p3 E,
  AG E 75 28 6 6 [(3, (.func (.func 76) [] [(.ptr 0 0)])), (19, iV 0), (20, iV 1)] [some z3] [] []],
  shs := [{ m := 1, res := iV 0, post := [none], keep := [0] }] }
theorem i9 : Am (EF m3) [6] 20000 (d3 E0) t3 0 = some (jl (d3 E0) [1]) := by kernel_rfl
theorem jb : Am (EF m3) [6] 20000 (d3 E0) t3 1 = some (jl (d3 E0) [1]) := by kernel_rfl
theorem c3 : AB (EF m3) [6] 20000 (d3 E0) t3 := dk2 rfl i9 jb
def m4 (E : Env) : List Sm := (d3 E).smL a3 (p3 E) 0 (d3 E).shs ++ m3 E
def a4 : List AV := [dV 75 0, (.func (.func 98) [] [(.ptr 0 0)])]
def p4 (E : Env) : Pt := Aq E 51 2 a4 [some z0] []
def d4 (E : Env) : Dec :=
 {g := 4, f := 51, p := 1, pts := [p4 E,
  AG E 51 19 2 3 [(0, dV 75 0), (1, (.func (.func 98) [] [(.ptr 0 0)])), (7, (.si .i64 (.lenL (.var 0)))), (8, iV 1)] [some z1] [] []],
  shs := [{ m := 1, res := iV 0, post := [none], keep := [0] }] }
theorem iI : Am (EF m4) [2] 20000 (d4 E0) t4 0 = some (jl (d4 E0) [1]) := by kernel_rfl
theorem iE : Am (EF m4) [2] 20000 (d4 E0) t4 1 = some (jl (d4 E0) [1]) := by kernel_rfl
theorem c4 : AB (EF m4) [2] 20000 (d4 E0) t4 := dk2 rfl iI iE
def m5 (E : Env) : List Sm := (d4 E).smL a4 (p4 E) 0 (d4 E).shs ++ m4 E
def a5 : List AV := [iV 0, iV 1, iV 2, (.func (.func 78) [] [(.ptr 0 0)])]
def p5 (E : Env) : Pt := Aq E 75 7 a5 [some z2] []
def d5 (E : Env) : Dec :=
 {g := 5, f := 75, p := 1, pts := [p5 E,
  AG E 75 28 6 6 [(3, (.func (.func 78) [] [(.ptr 0 0)])), (19, iV 0), (20, iV 1)] [some z3] [] []],
  shs := [{ m := 1, res := iV 0, post := [none], keep := [0] }] }
theorem iC : Am (EF m5) [6] 20000 (d5 E0) t5 0 = some (jl (d5 E0) [1]) := by kernel_rfl
theorem i4 : Am (EF m5) [6] 20000 (d5 E0) t5 1 = some (jl (d5 E0) [1]) := by kernel_rfl
theorem c5 : AB (EF m5) [6] 20000 (d5 E0) t5 := dk2 rfl iC i4
def m6 (E : Env) : List Sm := (d5 E).smL a5 (p5 E) 0 (d5 E).shs ++ m5 E
def a6 : List AV := [dV 64 0, (.agg [sV 1, sV 2, iV 3, sV 4, sV 5, sV 6, iV 7, iV 8, iV 9])]
def p6 (E : Env) : Pt := Aq E 110 10 a6 [] []
def d6 (E : Env) : Dec :=
 {g := 6, f := 110, p := 0, pts := [p6 E,
  AG E 110 19 2 11 [(0, dV 64 0), (3, (.ptr 0 0)), (7, (.si .i64 (.lenL (.var 0)))), (8, iV 1)] [some (.cells 9 (Al [(0, sV 2), (1, sV 3), (2, iV 4), (3, sV 5), (4, sV 6), (5, sV 7), (6, iV 8), (7, iV 9), (8, iV 10)]))] [] []],
  shs := [{ m := 1, res := iV 0, post := [], keep := [] }] }
theorem iW : Am (EF m6) [2] 20000 (d6 E0) t6 0 = some (jl (d6 E0) [1]) := by kernel_rfl
theorem iT : Am (EF m6) [2] 20000 (d6 E0) t6 1 = some (jl (d6 E0) [1]) := by kernel_rfl
theorem c6 : AB (EF m6) [2] 20000 (d6 E0) t6 := dk2 rfl iW iT
def m7 (E : Env) : List Sm := (d6 E).smL a6 (p6 E) 0 (d6 E).shs ++ m6 E
def a7 : List AV := [iV 0, iV 1, iV 2, (.func (.func 80) [] [(.ptr 0 0)])]
def p7 (E : Env) : Pt := Aq E 75 7 a7 [some z2] []
def d7 (E : Env) : Dec :=
 {g := 7, f := 75, p := 1, pts := [p7 E,
  AG E 75 28 6 6 [(3, (.func (.func 80) [] [(.ptr 0 0)])), (19, iV 0), (20, iV 1)] [some z3] [] []],
  shs := [{ m := 1, res := iV 0, post := [none], keep := [0] }] }
theorem jh : Am (EF m7) [6] 20000 (d7 E0) t7 0 = some (jl (d7 E0) [1]) := by kernel_rfl
theorem jk : Am (EF m7) [6] 20000 (d7 E0) t7 1 = some (jl (d7 E0) [1, 1, 1, 1, 1, 1, 1, 1]) := by kernel_rfl
theorem c7 : AB (EF m7) [6] 20000 (d7 E0) t7 := dk2 rfl jh jk
def m8 (E : Env) : List Sm := (d7 E).smL a7 (p7 E) 0 (d7 E).shs ++ m7 E
def a8 : List AV := [dV 75 0, (.func (.func 52) [] [(.ptr 0 0)])]
def p8 (E : Env) : Pt := Aq E 51 2 a8 [some z0] []
def d8 (E : Env) : Dec :=
 {g := 8, f := 51, p := 1, pts := [p8 E,
  AG E 51 19 2 3 [(0, dV 75 0), (1, (.func (.func 52) [] [(.ptr 0 0)])), (7, (.si .i64 (.lenL (.var 0)))), (8, iV 1)] [some z1] [] []],
  shs := [{ m := 1, res := iV 0, post := [none], keep := [0] }] }
theorem iH : Am (EF m8) [2] 20000 (d8 E0) t8 0 = some (jl (d8 E0) [1]) := by kernel_rfl
theorem iQ : Am (EF m8) [2] 20000 (d8 E0) t8 1 = some (jl (d8 E0) [1]) := by kernel_rfl
theorem c8 : AB (EF m8) [2] 20000 (d8 E0) t8 := dk2 rfl iH iQ
def m9 (E : Env) : List Sm := (d8 E).smL a8 (p8 E) 0 (d8 E).shs ++ m8 E
def a9 : List AV := [dV 69 0, (.func (.func 54) [] [(.ptr 0 0)])]
def p9 (E : Env) : Pt := Aq E 53 2 a9 [some z0] []
def d9 (E : Env) : Dec :=
 {g := 9, f := 53, p := 1, pts := [p9 E,
  AG E 53 19 2 3 [(0, dV 69 0), (1, (.func (.func 54) [] [(.ptr 0 0)])), (7, (.si .i64 (.lenL (.var 0)))), (8, iV 1)] [some z1] [] []],
  shs := [{ m := 1, res := iV 0, post := [none], keep := [0] }] }
theorem iO : Am (EF m9) [2] 20000 (d9 E0) t9 0 = some (jl (d9 E0) [1]) := by kernel_rfl
theorem iN : Am (EF m9) [2] 20000 (d9 E0) t9 1 = some (jl (d9 E0) [1]) := by kernel_rfl
theorem c9 : AB (EF m9) [2] 20000 (d9 E0) t9 := dk2 rfl iO iN
def m10 (E : Env) : List Sm := (d9 E).smL a9 (p9 E) 0 (d9 E).shs ++ m9 E
def z4 : AV := (.agg [sV 0, dV 75 1, dV 69 2, dV 64 3])
def z5 : AV := (.agg [sV 4, dV 75 5, dV 69 6, dV 64 7])
def z6 : AV := (.agg [dV 73 8, dV 77 9])
def a10 : List AV := [z4, z5, z6]
def p10 (E : Env) : Pt := Aq E 10 10 a10 [] []
def z7 : Aj := (.cells 4 (Al [(0, sV 0), (1, dV 75 1), (2, dV 69 2), (3, dV 64 3)]))
def z8 : Aj := (.cells 4 (Al [(0, sV 4), (1, dV 75 5), (2, dV 69 6), (3, dV 64 7)]))
def z9 : Aj := (.cells 2 (Al [(0, dV 73 8), (1, dV 77 9)]))
def d10 (E : Env) : Dec :=
 {g := 10, f := 10, p := 0, pts := [p10 E,
  AG E 10 114 7 13 [(0, z4), (1, z5), (2, z6), (3, (.ptr 0 0)), (4, (.ptr 1 0)), (5, (.ptr 2 0)), (7, (.int .i64 490)), (8, (.map 3)), (13, (.map 3)), (14, z4), (15, (.bool true)), (16, (.bool false)), (17, (.bool false)), (18, z5), (19, (.bool true)), (20, (.bool false)), (21, (.bool false)), (22, (.ptr 2 0)), (23, dV 73 8), (24, (.si .i64 (.lenL (.var 8)))), (25, bV 10), (26, (.ptr 2 0)), (27, dV 73 8), (28, (.si .i64 (.lenL (.var 8)))), (29, iV 11)] [some z7, some z8, some z9, some (.dmap 9 4 (.var 12))] [] [],
  AG E 10 114 17 16 [(0, z4), (1, z5), (2, z6), (3, (.ptr 0 0)), (4, (.ptr 1 0)), (5, (.ptr 2 0)), (7, (.int .i64 491)), (8, (.map 3)), (13, (.map 3)), (14, z4), (15, (.bool true)), (16, (.bool false)), (17, (.bool false)), (18, z5), (19, (.bool true)), (20, (.bool false)), (21, (.bool false)), (22, (.ptr 2 0)), (23, dV 73 8), (24, (.si .i64 (.lenL (.var 8)))), (25, bV 10), (26, (.ptr 2 0)), (27, dV 73 8), (28, (.si .i64 (.lenL (.var 8)))), (29, iV 11), (30, bV 12), (57, (.map 3)), (58, (.ptr 2 1)), (59, dV 77 9), (60, (.si .i64 (.lenL (.var 9)))), (61, bV 13), (62, (.ptr 2 1)), (63, dV 77 9), (64, (.si .i64 (.lenL (.var 9)))), (65, iV 14)] [some z7, some z8, some z9, some (.dmap 9 4 (.var 15))] [] []],
  shs := [{ m := 2, res := (.tuple [iV 0, iV 1]), post := [], keep := [] }] }
theorem bG : Am (EF m10) [7, 17] 20000 (d10 E0) t10 0 = some (jl (d10 E0) [1]) := by kernel_rfl
theorem fU : Am (EF m10) [7, 17] 20000 (d10 E0) t10 1 = some (jl (d10 E0) [1, 1, 2]) := by kernel_rfl
theorem gY : Am (EF m10) [7, 17] 20000 (d10 E0) t10 2 = some (jl (d10 E0) [2, 2, 2, 2, 2, 2, 2, 2]) := by kernel_rfl
theorem c10 : AB (EF m10) [7, 17] 20000 (d10 E0) t10 := dk3 rfl bG fU gY
def m11 (E : Env) : List Sm := (d10 E).smL a10 (p10 E) 0 (d10 E).shs ++ m10 E
def a11 : List AV := [(.ptr 0 0), (.agg [iV 3, iV 4, iV 5, iV 6, iV 7])]
def p11 (E : Env) : Pt := Aq E 82 8 a11 [some (.cells 2 (Al [(0, aV 1 5 0 1), (1, (.map 2))])), rV 87 0, some (.dmap 87 4 (.var 2))] []
def d11 (E : Env) : Dec :=
 {g := 11, f := 82, p := 3, pts := [p11 E],
  shs := [{ m := 3, res := (.tuple []), post := [some (.cells 2 (Al [(0, aV 3 5 0 1), (1, (.map 2))])), none, some (.dmap 87 4 (.var 2)), rV 87 0], keep := [] }] }
theorem fj : Am (EF m11) [] 20000 (d11 E0) t11 0 = some (jl (d11 E0) []) := by kernel_rfl
theorem c11 : AB (EF m11) [] 20000 (d11 E0) t11 := dk1 rfl fj
def m12 (E : Env) : List Sm := (d11 E).smL a11 (p11 E) 0 (d11 E).shs ++ m11 E
def a12 : List AV := [aV 0 3 0 1, (.func (.func 105) [] [(.ptr 1 0)])]
def p12 (E : Env) : Pt := Aq E 104 3 a12 [rV 164 0, some z1] []
def d12 (E : Env) : Dec :=
 {g := 12, f := 104, p := 2, pts := [p12 E,
  AG E 104 19 2 4 [(0, aV 0 3 0 1), (1, (.func (.func 105) [] [(.ptr 1 0)])), (7, (.si .i64 (.lenL (.var 0)))), (8, iV 2)] [rV 164 0, some (.cells 1 (Al [(0, sV 3)]))] [] []],
  shs := [{ m := 1, res := iV 0, post := [none, none], keep := [0, 1] }] }
theorem cz : Am (EF m12) [2] 20000 (d12 E0) t12 0 = some (jl (d12 E0) [1]) := by kernel_rfl
theorem be : Am (EF m12) [2] 20000 (d12 E0) t12 1 = some (jl (d12 E0) [1]) := by kernel_rfl
theorem c12 : AB (EF m12) [2] 20000 (d12 E0) t12 := dk2 rfl cz be
def m13 (E : Env) : List Sm := (d12 E).smL a12 (p12 E) 0 (d12 E).shs ++ m12 E
def a13 : List AV := [dV 69 0]
def p13 (E : Env) : Pt := Aq E 88 1 a13 [] []
def d13 (E : Env) : Dec :=
 {g := 13, f := 88, p := 0, pts := [p13 E,
  AG E 88 51 5 4 [(4, (.ptr 0 0)), (12, dV 69 0), (13, (.si .i64 (.lenL (.var 0)))), (14, iV 1)] [some (.cells 2 (Al [(0, (.bool true)), (1, aV 1 3 2 3)])), rV 164 2] [] []],
  shs := [{ m := 0, res := (.tuple [.ptr0, (.int .i64 2)]), post := [], keep := [] }, { m := 2, res := (.tuple [(.ptr 0 0), (.int .i64 0)]), post := [some (.cells 2 (Al [(0, (.bool true)), (1, aV 1 3 0 1)])), rV 164 0], keep := [] }] }
theorem eN : Am (EF m13) [5] 20000 (d13 E0) t13 0 = some (jl (d13 E0) [1]) := by kernel_rfl
theorem ga : Am (EF m13) [5] 20000 (d13 E0) t13 1 = some (jl (d13 E0) [1]) := by kernel_rfl
theorem c13 : AB (EF m13) [5] 20000 (d13 E0) t13 := dk2 rfl eN ga
def m14 (E : Env) : List Sm := (d13 E).smL a13 (p13 E) 0 (d13 E).shs ++ m13 E
def a14 : List AV := [.ptr0, dV 3 0]
def p14 (E : Env) : Pt := Aq E 89 1 a14 [] []
def d14 (E : Env) : Dec :=
 {g := 14, f := 89, p := 0, pts := [p14 E],
  shs := [{ m := 0, res := (.int .i64 1), post := [], keep := [] }] }
theorem bw : Am (EF m14) [6, 12] 20000 (d14 E0) t14 0 = some (jl (d14 E0) []) := by kernel_rfl
theorem c14 : AB (EF m14) [6, 12] 20000 (d14 E0) t14 := dk1 rfl bw
def m15 (E : Env) : List Sm := (d14 E).smL a14 (p14 E) 0 (d14 E).shs ++ m14 E
def a15 : List AV := [(.ptr 0 0), dV 3 3]
def z10 : Aj := (.cells 2 (Al [(0, bV 0), (1, aV 1 3 1 2)]))
def p15 (E : Env) : Pt := Aq E 89 4 a15 [some z10, rV 164 1] []
def d15 (E : Env) : Dec :=
 {g := 15, f := 89, p := 2, pts := [p15 E,
  AG E 89 60 6 5 [(0, (.ptr 0 0)), (1, dV 3 0), (21, dV 3 0), (22, (.si .i64 (.lenL (.var 0)))), (23, iV 1)] [some (.cells 2 (Al [(0, bV 2), (1, aV 1 3 3 4)])), rV 164 3] [] [],
  AG E 89 60 12 6 [(0, (.ptr 0 0)), (44, dV 3 0), (45, iV 1), (46, iV 2)] [some (.cells 2 (Al [(0, bV 3), (1, aV 1 3 4 5)])), rV 164 4] [] []],
  shs := [{ m := 2, res := iV 0, post := [none, rV 164 1], keep := [0] }] }
theorem dp : Am (EF m15) [6, 12] 20000 (d15 E0) t15 0 = some (jl (d15 E0) [1]) := by kernel_rfl
theorem eV : Am (EF m15) [6, 12] 20000 (d15 E0) t15 1 = some (jl (d15 E0) [1, 2]) := by kernel_rfl
theorem gA : Am (EF m15) [6, 12] 20000 (d15 E0) t15 2 = some (jl (d15 E0) [2]) := by kernel_rfl
theorem c15 : AB (EF m15) [6, 12] 20000 (d15 E0) t15 := dk3 rfl dp eV gA
def m16 (E : Env) : List Sm := (d15 E).smL a15 (p15 E) 0 (d15 E).shs ++ m15 E
def z11 : AV := (.agg [iV 0, iV 1, iV 2, iV 3, iV 4])
def z12 : AV := (.agg [sV 5, dV 75 6, dV 69 7, dV 64 8])
def a16 : List AV := [z11, z12]
def p16 (E : Env) : Pt := Aq E 69 9 a16 [] []
def d16 (E : Env) : Dec :=
 {g := 16, f := 69, p := 0, pts := [p16 E],
  shs := [{ m := 0, res := .ptr0, post := [], keep := [] }, { m := 3, res := (.ptr 0 0), post := [some (.cells 2 (Al [(0, (.bool true)), (1, (.asl 1 3 (.var 0) (.var 1)))])), rV 164 2], keep := [] }] }
theorem bl : Am (EF m16) [] 20000 (d16 E0) t16 0 = some (jl (d16 E0) []) := by kernel_rfl
theorem c16 : AB (EF m16) [] 20000 (d16 E0) t16 := dk1 rfl bl
def m17 (E : Env) : List Sm := (d16 E).smL a16 (p16 E) 0 (d16 E).shs ++ m16 E
def z13 : AV := (.agg [sV 0, sV 1, iV 2, sV 3, sV 4, sV 5, iV 6, iV 7, iV 8])
def a17 : List AV := [.ptr0, z13]
def p17 (E : Env) : Pt := Aq E 70 9 a17 [] []
def d17 (E : Env) : Dec :=
 {g := 17, f := 70, p := 0, pts := [p17 E],
  shs := [{ m := 0, res := (.tuple [(.bool false), (.int .i64 1)]), post := [], keep := [] }] }
theorem fH : Am (EF m17) [] 20000 (d17 E0) t17 0 = some (jl (d17 E0) []) := by kernel_rfl
theorem c17 : AB (EF m17) [] 20000 (d17 E0) t17 := dk1 rfl fH
def m18 (E : Env) : List Sm := (d17 E).smL a17 (p17 E) 0 (d17 E).shs ++ m17 E
def a18 : List AV := [(.ptr 0 0), sV 3]
def p18 (E : Env) : Pt := Aq E 91 4 a18 [some z10, rV 164 1] []
def d18 (E : Env) : Dec :=
 {g := 18, f := 91, p := 2, pts := [p18 E],
  shs := [{ m := 2, res := (.tuple [iV 0, iV 1]), post := [none, none], keep := [0, 1] }] }
theorem hJ : Am (EF m18) [] 20000 (d18 E0) t18 0 = some (jl (d18 E0) []) := by kernel_rfl
theorem c18 : AB (EF m18) [] 20000 (d18 E0) t18 := dk1 rfl hJ
def m19 (E : Env) : List Sm := (d18 E).smL a18 (p18 E) 0 (d18 E).shs ++ m18 E
def z14 : AV := (.agg [sV 3, sV 4, iV 5, sV 6, sV 7, sV 8, iV 9, iV 10, iV 11])
def a19 : List AV := [(.ptr 0 0), z14]
def p19 (E : Env) : Pt := Aq E 70 12 a19 [some z10, rV 164 1] []
def d19 (E : Env) : Dec :=
 {g := 19, f := 70, p := 2, pts := [p19 E],
  shs := [{ m := 2, res := (.tuple [bV 0, iV 1]), post := [none, none], keep := [0, 1] }] }
theorem ez : Am (EF m19) [] 20000 (d19 E0) t19 0 = some (jl (d19 E0) []) := by kernel_rfl
theorem c19 : AB (EF m19) [] 20000 (d19 E0) t19 := dk1 rfl ez
def m20 (E : Env) : List Sm := (d19 E).smL a19 (p19 E) 0 (d19 E).shs ++ m19 E
def a20 : List AV := [z11, z12]
def p20 (E : Env) : Pt := Aq E 45 9 a20 [] []
def d20 (E : Env) : Dec :=
 {g := 20, f := 45, p := 0, pts := [p20 E,
  AG E 45 46 3 10 [(2, (.ptr 0 0)), (3, (.ptr 1 0)), (4, .slice0), (5, .ptr0), (14, dV 64 0), (15, (.si .i64 (.lenL (.var 0)))), (16, iV 1)] [some (.cells 5 (Al [(0, iV 2), (1, iV 3), (2, iV 4), (3, iV 5), (4, iV 6)])), some (.cells 4 (Al [(0, sV 7), (1, dV 75 8), (2, dV 69 9), (3, dV 64 0)]))] [] [],
  AG E 45 46 3 15 [(2, (.ptr 0 0)), (3, (.ptr 1 0)), (4, aV 4 1 0 1), (5, (.ptr 2 0)), (14, dV 64 2), (15, (.si .i64 (.lenL (.var 2)))), (16, iV 3)] [some (.cells 5 (Al [(0, iV 4), (1, iV 5), (2, iV 6), (3, iV 7), (4, iV 8)])), some (.cells 4 (Al [(0, sV 9), (1, dV 75 10), (2, dV 69 11), (3, dV 64 2)])), some (.cells 2 (Al [(0, (.bool true)), (1, (.asl 3 3 (.var 12) (.var 13)))])), rV 164 14, rV 3 0] [] []],
  shs := [{ m := 2, res := aV 0 1 0 1, post := [rV 3 0], keep := [] }] }
theorem eM : Am (EF m20) [3] 20000 (d20 E0) t20 0 = some (jl (d20 E0) [1, 2]) := by kernel_rfl
theorem fQ : Am (EF m20) [3] 20000 (d20 E0) t20 1 = some (jl (d20 E0) [1]) := by kernel_rfl
theorem bA : Am (EF m20) [3] 20000 (d20 E0) t20 2 = some (jl (d20 E0) [2, 2, 2]) := by kernel_rfl
theorem c20 : AB (EF m20) [3] 20000 (d20 E0) t20 := dk3 rfl eM fQ bA
def m21 (E : Env) : List Sm := (d20 E).smL a20 (p20 E) 0 (d20 E).shs ++ m20 E
def a21 : List AV := [.ptr0, z13]
def p21 (E : Env) : Pt := Aq E 72 9 a21 [] []
def d21 (E : Env) : Dec :=
 {g := 21, f := 72, p := 0, pts := [p21 E],
  shs := [{ m := 0, res := (.int .i64 1), post := [], keep := [] }] }
theorem gh : Am (EF m21) [] 20000 (d21 E0) t21 0 = some (jl (d21 E0) []) := by kernel_rfl
theorem c21 : AB (EF m21) [] 20000 (d21 E0) t21 := dk1 rfl gh
def m22 (E : Env) : List Sm := (d21 E).smL a21 (p21 E) 0 (d21 E).shs ++ m21 E
def a22 : List AV := [(.ptr 0 0), z14]
def p22 (E : Env) : Pt := Aq E 72 12 a22 [some z10, rV 164 1] []
def d22 (E : Env) : Dec :=
 {g := 22, f := 72, p := 2, pts := [p22 E],
  shs := [{ m := 2, res := iV 0, post := [none, rV 164 1], keep := [0] }] }
theorem hI : Am (EF m22) [] 20000 (d22 E0) t22 0 = some (jl (d22 E0) []) := by kernel_rfl
theorem c22 : AB (EF m22) [] 20000 (d22 E0) t22 := dk1 rfl hI
def m23 (E : Env) : List Sm := (d22 E).smL a22 (p22 E) 0 (d22 E).shs ++ m22 E
def a23 : List AV := [(.func (.yield 0) [] []), (.ptr 4 0)]
def p23 (E : Env) : Pt := Aq E 107 4 a23 [some (Rq E 73 2 .ready none 14 [(2, (.ptr 1 0))] 3), some (.cells 1 (Al [(0, aV 2 1 0 1)])), rV 3 0, some (.deferred (some [])), some (.cells 1 (Al [(0, aV 5 3 2 3)])), rV 164 2] []
def d23 (E : Env) : Dec :=
 {g := 23, f := 107, p := 6, pts := [p23 E,
  AG E 107 20 1 5 [(0, (.func (.yield 0) [] [])), (5, aV 5 3 0 1), (6, (.si .i64 (.lenL (.var 0)))), (7, iV 2)] [some (Rq E 73 2 .ready none 14 [(2, (.ptr 1 0))] 3), some (.cells 1 (Al [(0, aV 6 1 3 4)])), none, some (.deferred (some [])), some (.cells 1 (Al [(0, aV 5 3 0 1)])), rV 164 0, rV 3 3] [] []],
  shs := [{ m := 2, res := (.tuple []), post := [none, some (.cells 1 (Al [(0, aV 6 1 0 1)])), none, none, none, none, rV 3 0], keep := [0, 3, 4, 5] }] }
theorem gx : Am (EF m23) [1] 20000 (d23 E0) t23 0 = some (jl (d23 E0) [1]) := by kernel_rfl
theorem dn : Am (EF m23) [1] 20000 (d23 E0) t23 1 = some (jl (d23 E0) [1]) := by kernel_rfl
theorem c23 : AB (EF m23) [1] 20000 (d23 E0) t23 := dk2 rfl gx dn
def m24 (E : Env) : List Sm := (d23 E).smL a23 (p23 E) 0 (d23 E).shs ++ m23 E
def a24 : List AV := [z11, z12, iV 9]
def p24 (E : Env) : Pt := Aq E 49 10 a24 [] []
def d24 (E : Env) : Dec :=
 {g := 24, f := 49, p := 0, pts := [p24 E],
  shs := [{ m := 5, res := z11, post := [], keep := [] }] }
theorem dE : Am (EF m24) [] 20000 (d24 E0) t24 0 = some (jl (d24 E0) []) := by kernel_rfl
theorem c24 : AB (EF m24) [] 20000 (d24 E0) t24 := dk1 rfl dE
def m25 (E : Env) : List Sm := (d24 E).smL a24 (p24 E) 0 (d24 E).shs ++ m24 E
def a25 : List AV := [z11, (.func (.func 82) [(.ptr 0 0)] []), (.ptr 3 0)]
def p25 (E : Env) : Pt := Aq E 59 12 a25 [some (.cells 2 (Al [(0, aV 1 5 5 6), (1, (.map 2))])), rV 87 5, some (.dmap 87 4 (.var 7)), some (.cells 4 (Al [(0, sV 8), (1, dV 75 9), (2, dV 69 10), (3, dV 64 11)]))] []
def z15 : Aj := (.cells 4 (Al [(0, sV 7), (1, dV 75 8), (2, dV 69 9), (3, dV 64 10)]))
def d25 (E : Env) : Dec :=
 {g := 25, f := 59, p := 4, pts := [p25 E,
  AG E 59 23 2 16 [(1, (.func (.func 82) [(.ptr 0 0)] [])), (2, (.ptr 3 0)), (3, (.ptr 4 0)), (10, aV 5 1 0 1), (11, iV 2), (12, iV 3)] [some (.cells 2 (Al [(0, aV 6 5 4 5), (1, (.map 2))])), none, some (.dmap 87 4 (.var 6)), some z15, some (.cells 5 (Al [(0, iV 11), (1, iV 12), (2, iV 13), (3, iV 14), (4, iV 15)])), rV 3 0, rV 87 4] [] []],
  shs := [{ m := 3, res := (.bool false), post := [some (.cells 2 (Al [(0, aV 4 5 0 1), (1, (.map 2))])), none, some (.dmap 87 4 (.var 2)), none, rV 87 0], keep := [3] }] }
theorem dY : Am (EF m25) [2] 20000 (d25 E0) t25 0 = some (jl (d25 E0) [1]) := by kernel_rfl
theorem eu : Am (EF m25) [2] 20000 (d25 E0) t25 1 = some (jl (d25 E0) [1]) := by kernel_rfl
theorem c25 : AB (EF m25) [2] 20000 (d25 E0) t25 := dk2 rfl dY eu
def m26 (E : Env) : List Sm := (d25 E).smL a25 (p25 E) 0 (d25 E).shs ++ m25 E
def a26 : List AV := [aV 0 5 0 1, iV 2, (.func (.func 59) [] [(.ptr 1 0)])]
def p26 (E : Env) : Pt := Aq E 58 7 a26 [rV 87 0, some z2] []
def d26 (E : Env) : Dec :=
 {g := 26, f := 58, p := 2, pts := [p26 E,
  AG E 58 65 3 11 [(1, iV 0), (2, (.func (.func 59) [] [(.ptr 1 0)])), (8, (.ptr 2 0)), (15, aV 0 5 1 2), (16, (.si .i64 (.lenL (.var 1)))), (17, iV 3)] [rV 87 1, some z8, some (.cells 2 (Al [(0, aV 4 5 8 9), (1, (.map 3))])), some (.dmap 87 4 (.var 10)), rV 87 8] [] [],
  AG E 58 65 8 10 [(1, iV 0), (2, (.func (.func 59) [] [(.ptr 1 0)])), (8, (.ptr 2 0)), (11, iV 1)] [rV 87 2, some z2, some (.cells 2 (Al [(0, aV 4 5 7 8), (1, (.map 3))])), some (.dmap 87 4 (.var 9)), rV 87 7] [] []],
  shs := [{ m := 3, res := (.tuple [aV 2 5 0 1, bV 2]), post := [none, none, rV 87 0], keep := [0, 1] }] }
theorem eL : Am (EF m26) [3, 8] 20000 (d26 E0) t26 0 = some (jl (d26 E0) [1]) := by kernel_rfl
theorem g8 : Am (EF m26) [3, 8] 20000 (d26 E0) t26 1 = some (jl (d26 E0) [1, 2]) := by kernel_rfl
theorem cy : Am (EF m26) [3, 8] 20000 (d26 E0) t26 2 = some (jl (d26 E0) [2]) := by kernel_rfl
theorem c26 : AB (EF m26) [3, 8] 20000 (d26 E0) t26 := dk3 rfl eL g8 cy
def m27 (E : Env) : List Sm := (d26 E).smL a26 (p26 E) 0 (d26 E).shs ++ m26 E
def a27 : List AV := [dV 73 0, (.func (.func 56) [] [(.ptr 0 0), (.ptr 1 0)])]
def p27 (E : Env) : Pt := Aq E 55 10 a27 [some (.cells 4 (Al [(0, sV 1), (1, dV 75 2), (2, dV 69 3), (3, dV 64 4)])), some (.cells 5 (Al [(0, iV 5), (1, iV 6), (2, iV 7), (3, iV 8), (4, iV 9)]))] []
def d27 (E : Env) : Dec :=
 {g := 27, f := 55, p := 2, pts := [p27 E,
  AG E 55 19 2 11 [(0, dV 73 0), (1, (.func (.func 56) [] [(.ptr 0 0), (.ptr 1 0)])), (7, (.si .i64 (.lenL (.var 0)))), (8, iV 1)] [some z3, some (.cells 5 (Al [(0, iV 6), (1, iV 7), (2, iV 8), (3, iV 9), (4, iV 10)]))] [] []],
  shs := [{ m := 1, res := iV 0, post := [none, none], keep := [0, 1] }] }
theorem dX : Am (EF m27) [2] 20000 (d27 E0) t27 0 = some (jl (d27 E0) [1]) := by kernel_rfl
theorem g0 : Am (EF m27) [2] 20000 (d27 E0) t27 1 = some (jl (d27 E0) [1]) := by kernel_rfl
theorem c27 : AB (EF m27) [2] 20000 (d27 E0) t27 := dk2 rfl dX g0
def m28 (E : Env) : List Sm := (d27 E).smL a27 (p27 E) 0 (d27 E).shs ++ m27 E
def a28 : List AV := [z4, z5, z6, (.agg [iV 10, iV 11, iV 12, iV 13, iV 14])]
def p28 (E : Env) : Pt := Aq E 35 15 a28 [] []
def z16 : Aj := (.cells 4 (Al [(0, sV 6), (1, dV 75 7), (2, dV 69 8), (3, dV 64 9)]))
def d28 (E : Env) : Dec :=
 {g := 28, f := 35, p := 0, pts := [p28 E,
  AG E 35 76 6 20 [(4, (.ptr 0 0)), (5, (.ptr 1 0)), (7, (.ptr 2 0)), (8, (.ptr 3 0)), (33, dV 77 0), (34, (.si .i64 (.lenL (.var 0)))), (35, iV 1)] [some z3, some z16, some (.cells 5 (Al [(0, iV 10), (1, iV 11), (2, iV 12), (3, iV 13), (4, iV 14)])), some (.cells 5 (Al [(0, iV 15), (1, iV 16), (2, iV 17), (3, iV 18), (4, iV 19)]))] [] []],
  shs := [{ m := 6, res := (.tuple [z11, iV 5]), post := [], keep := [] }] }
theorem gt : Am (EF m28) [6] 20000 (d28 E0) t28 0 = some (jl (d28 E0) [1]) := by kernel_rfl
theorem fW : Am (EF m28) [6] 20000 (d28 E0) t28 1 = some (jl (d28 E0) [1, 1, 1, 1, 1, 1, 1, 1, 1, 1, 1, 1, 1, 1, 1, 1, 1, 1, 1, 1]) := by kernel_rfl
theorem c28 : AB (EF m28) [6] 20000 (d28 E0) t28 := dk2 rfl gt fW
def m29 (E : Env) : List Sm := (d28 E).smL a28 (p28 E) 0 (d28 E).shs ++ m28 E
def a29 : List AV := [(.ptr 0 0), (.agg [iV 3, iV 4, iV 5, iV 6, iV 7, iV 8, iV 9, iV 10, iV 11, iV 12])]
def p29 (E : Env) : Pt := Aq E 64 13 a29 [some (.cells 2 (Al [(0, aV 1 10 0 1), (1, (.map 2))])), rV 102 0, some (.dmap 102 4 (.var 2))] []
def d29 (E : Env) : Dec :=
 {g := 29, f := 64, p := 3, pts := [p29 E],
  shs := [{ m := 3, res := (.tuple []), post := [some (.cells 2 (Al [(0, aV 3 10 0 1), (1, (.map 2))])), none, some (.dmap 102 4 (.var 2)), rV 102 0], keep := [] }] }
theorem gG : Am (EF m29) [] 20000 (d29 E0) t29 0 = some (jl (d29 E0) []) := by kernel_rfl
theorem c29 : AB (EF m29) [] 20000 (d29 E0) t29 := dk1 rfl gG
def m30 (E : Env) : List Sm := (d29 E).smL a29 (p29 E) 0 (d29 E).shs ++ m29 E
def a30 : List AV := [aV 0 1 0 1, (.func (.func 87) [] [(.ptr 1 0), (.ptr 2 0)])]
def z17 : Aj := (.cells 1 (Al [(0, bV 6)]))
def p30 (E : Env) : Pt := Aq E 103 7 a30 [rV 3 0, some z3, some z17] []
def d30 (E : Env) : Dec :=
 {g := 30, f := 103, p := 3, pts := [p30 E,
  AG E 103 19 2 8 [(0, aV 0 1 0 1), (1, (.func (.func 87) [] [(.ptr 1 0), (.ptr 2 0)])), (7, (.si .i64 (.lenL (.var 0)))), (8, iV 2)] [rV 3 0, some z2, some (.cells 1 (Al [(0, bV 7)]))] [] []],
  shs := [{ m := 1, res := iV 0, post := [none, none, none], keep := [0, 1, 2] }] }
theorem dU : Am (EF m30) [2] 20000 (d30 E0) t30 0 = some (jl (d30 E0) [1]) := by kernel_rfl
theorem aU : Am (EF m30) [2] 20000 (d30 E0) t30 1 = some (jl (d30 E0) [1, 1]) := by kernel_rfl
theorem c30 : AB (EF m30) [2] 20000 (d30 E0) t30 := dk2 rfl dU aU
def m31 (E : Env) : List Sm := (d30 E).smL a30 (p30 E) 0 (d30 E).shs ++ m30 E
def a31 : List AV := [aV 0 1 0 1, (.func (.func 87) [] [(.ptr 1 0), (.ptr 2 0)])]
def p31 (E : Env) : Pt := Aq E 86 7 a31 [rV 3 0, some z3, some z17] []
def d31 (E : Env) : Dec :=
 {g := 31, f := 86, p := 3, pts := [p31 E,
  AG E 86 42 5 9 [(0, aV 0 1 0 1), (1, (.func (.func 87) [] [(.ptr 1 0), (.ptr 2 0)])), (5, iV 2), (6, iV 3)] [rV 3 0, some z8, some (.cells 1 (Al [(0, bV 8)]))] [] []],
  shs := [{ m := 2, res := aV 0 1 0 1, post := [rV 3 0, none, none], keep := [1, 2] }] }
theorem aR : Am (EF m31) [5] 20000 (d31 E0) t31 0 = some (jl (d31 E0) [1]) := by kernel_rfl
theorem aT : Am (EF m31) [5] 20000 (d31 E0) t31 1 = some (jl (d31 E0) [1, 1, 1, 1]) := by kernel_rfl
theorem c31 : AB (EF m31) [5] 20000 (d31 E0) t31 := dk2 rfl aR aT
def m32 (E : Env) : List Sm := (d31 E).smL a31 (p31 E) 0 (d31 E).shs ++ m31 E
def z18 : AV := (.agg [iV 16, iV 17, iV 18, iV 19, iV 20, iV 21, iV 22, iV 23, iV 24, iV 25])
def a32 : List AV := [(.ptr 0 0), z18, bV 26]
def z19 : Aj := (.cells 14 (Al [(0, sV 0), (1, dV 75 1), (2, dV 69 2), (3, dV 64 3), (4, sV 4), (5, dV 75 5), (6, dV 69 6), (7, dV 64 7), (8, sV 8), (9, aV 1 1 9 10), (10, sV 11), (11, aV 2 1 12 13), (12, iV 14), (13, iV 15)]))
def p32 (E : Env) : Pt := Aq E 68 27 a32 [some z19, rV 3 9, rV 3 12] []
def d32 (E : Env) : Dec :=
 {g := 32, f := 68, p := 3, pts := [p32 E],
  shs := [{ m := 4, res := (.tuple [aV 3 1 0 1, aV 4 1 2 3]), post := [none, none, none, rV 3 0, rV 3 2], keep := [0, 1, 2] }] }
theorem cu : Am (EF m32) [] 20000 (d32 E0) t32 0 = some (jl (d32 E0) []) := by kernel_rfl
theorem c32 : AB (EF m32) [] 20000 (d32 E0) t32 := dk1 rfl cu
def m33 (E : Env) : List Sm := (d32 E).smL a32 (p32 E) 0 (d32 E).shs ++ m32 E
def a33 : List AV := [z13]
def p33 (E : Env) : Pt := Aq E 67 9 a33 [] []
def d33 (E : Env) : Dec :=
 {g := 33, f := 67, p := 0, pts := [p33 E],
  shs := [{ m := 3, res := (.agg [iV 0, sV 1, sV 2]), post := [], keep := [] }] }
theorem dh : Am (EF m33) [] 20000 (d33 E0) t33 0 = some (jl (d33 E0) []) := by kernel_rfl
theorem c33 : AB (EF m33) [] 20000 (d33 E0) t33 := dk1 rfl dh
def m34 (E : Env) : List Sm := (d33 E).smL a33 (p33 E) 0 (d33 E).shs ++ m33 E
def a34 : List AV := [aV 0 1 0 1, (.func (.func 101) [] [(.ptr 1 0), (.ptr 2 0), (.ptr 3 0)])]
def p34 (E : Env) : Pt := Aq E 103 11 a34 [rV 3 0, some z3, some z16, some (.cells 1 (Al [(0, iV 10)]))] []
def d34 (E : Env) : Dec :=
 {g := 34, f := 103, p := 4, pts := [p34 E,
  AG E 103 19 2 12 [(0, aV 0 1 0 1), (1, (.func (.func 101) [] [(.ptr 1 0), (.ptr 2 0), (.ptr 3 0)])), (7, (.si .i64 (.lenL (.var 0)))), (8, iV 2)] [rV 3 0, some z2, some z15, some (.cells 1 (Al [(0, iV 11)]))] [] []],
  shs := [{ m := 1, res := iV 0, post := [none, none, none, none], keep := [0, 1, 2, 3] }] }
theorem br : Am (EF m34) [2] 20000 (d34 E0) t34 0 = some (jl (d34 E0) [1]) := by kernel_rfl
theorem aj : Am (EF m34) [2] 20000 (d34 E0) t34 1 = some (jl (d34 E0) [1]) := by kernel_rfl
theorem c34 : AB (EF m34) [2] 20000 (d34 E0) t34 := dk2 rfl br aj
def m35 (E : Env) : List Sm := (d34 E).smL a34 (p34 E) 0 (d34 E).shs ++ m34 E
def a35 : List AV := [z4, aV 0 1 4 5, (.agg [sV 6, dV 75 7, dV 69 8, dV 64 9]), aV 1 1 10 11]
def p35 (E : Env) : Pt := Aq E 84 12 a35 [rV 3 4, rV 3 10] []
def z20 : Aj := (.cells 4 (Al [(0, sV 5), (1, dV 75 6), (2, dV 69 7), (3, dV 64 8)]))
def d35 (E : Env) : Dec :=
 {g := 35, f := 84, p := 2, pts := [p35 E,
  AG E 84 26 2 13 [(3, aV 1 1 0 1), (4, (.ptr 2 0)), (6, (.ptr 3 0)), (13, aV 0 1 2 3), (14, (.si .i64 (.lenL (.var 2)))), (15, iV 4)] [rV 3 2, rV 3 0, some z20, some (.cells 4 (Al [(0, sV 9), (1, dV 75 10), (2, dV 69 11), (3, dV 64 12)]))] [] []],
  shs := [{ m := 2, res := (.tuple [iV 0, bV 1]), post := [none, none], keep := [0, 1] }] }
theorem gT : Am (EF m35) [2] 20000 (d35 E0) t35 0 = some (jl (d35 E0) [1]) := by kernel_rfl
theorem eZ : Am (EF m35) [2] 20000 (d35 E0) t35 1 = some (jl (d35 E0) [1]) := by kernel_rfl
theorem c35 : AB (EF m35) [2] 20000 (d35 E0) t35 := dk2 rfl gT eZ
def m36 (E : Env) : List Sm := (d35 E).smL a35 (p35 E) 0 (d35 E).shs ++ m35 E
def a36 : List AV := [(.ptr 0 0), z18]
def p36 (E : Env) : Pt := Aq E 65 26 a36 [some z19, rV 3 9, rV 3 12] []
def d36 (E : Env) : Dec :=
 {g := 36, f := 65, p := 3, pts := [p36 E],
  shs := [{ m := 2, res := (.tuple [iV 0, iV 1]), post := [none, none, none], keep := [0, 1, 2] }] }
theorem ek : Am (EF m36) [] 20000 (d36 E0) t36 0 = some (jl (d36 E0) []) := by kernel_rfl
theorem c36 : AB (EF m36) [] 20000 (d36 E0) t36 := dk1 rfl ek
def m37 (E : Env) : List Sm := (d36 E).smL a36 (p36 E) 0 (d36 E).shs ++ m36 E
def a37 : List AV := [z11, z12]
def p37 (E : Env) : Pt := Aq E 36 9 a37 [] []
def d37 (E : Env) : Dec :=
 {g := 37, f := 36, p := 0, pts := [p37 E],
  shs := [{ m := 2, res := (.agg [sV 0, (.asl 0 1 (.lenL (.var 1)) (.bc false))]), post := [rV 3 1], keep := [] }] }
theorem bR : Am (EF m37) [] 20000 (d37 E0) t37 0 = some (jl (d37 E0) []) := by kernel_rfl
theorem c37 : AB (EF m37) [] 20000 (d37 E0) t37 := dk1 rfl bR
def m38 (E : Env) : List Sm := (d37 E).smL a37 (p37 E) 0 (d37 E).shs ++ m37 E
def a38 : List AV := [(.ptr 0 0), z18, (.func (.func 64) [(.ptr 3 0)] [])]
def p38 (E : Env) : Pt := Aq E 44 29 a38 [some z19, rV 3 9, rV 3 12, some (.cells 2 (Al [(0, aV 4 10 26 27), (1, (.map 5))])), rV 102 26, some (.dmap 102 4 (.var 28))] []
def z21 : Aj := (.cells 14 (Al [(0, sV 6), (1, dV 75 7), (2, dV 69 8), (3, dV 64 9), (4, sV 10), (5, dV 75 11), (6, dV 69 12), (7, dV 64 13), (8, sV 14), (9, aV 1 1 15 16), (10, sV 17), (11, aV 2 1 18 19), (12, iV 20), (13, iV 21)]))
def z22 : Aj := (.cells 2 (Al [(0, aV 11 10 22 23), (1, (.map 5))]))
def z23 : Aj := (.cells 1 (Al [(0, (.ptr 0 0))]))
def z24 : Aj := (.cells 10 (Al [(0, iV 25), (1, iV 26), (2, iV 27), (3, iV 28), (4, iV 29), (5, iV 30), (6, iV 31), (7, iV 32), (8, iV 33), (9, iV 34)]))
def z25 : Aj := (.cells 1 (Al [(0, (.func (.func 64) [(.ptr 3 0)] []))]))
def z26 : Aj := (.cells 14 (Al [(0, sV 8), (1, dV 75 9), (2, dV 69 10), (3, dV 64 11), (4, sV 12), (5, dV 75 13), (6, dV 69 14), (7, dV 64 15), (8, sV 16), (9, aV 1 1 17 18), (10, sV 19), (11, aV 2 1 20 21), (12, iV 22), (13, iV 23)]))
def z27 : Aj := (.cells 2 (Al [(0, aV 11 10 24 25), (1, (.map 5))]))
def z28 : Aj := (.cells 10 (Al [(0, iV 27), (1, iV 28), (2, iV 29), (3, iV 30), (4, iV 31), (5, iV 32), (6, iV 33), (7, iV 34), (8, iV 35), (9, iV 36)]))
def d38 (E : Env) : Dec :=
 {g := 38, f := 44, p := 6, pts := [p38 E,
  AG E 44 97 8 35 [(3, (.ptr 6 0)), (4, (.ptr 7 0)), (9, (.func (.func 66) [] [(.ptr 6 0), (.ptr 8 0), (.ptr 7 0)])), (11, aV 9 1 0 1), (55, aV 10 1 2 3), (56, iV 4), (57, iV 5)] [some z21, rV 3 15, rV 3 18, some z22, none, some (.dmap 102 4 (.var 24)), some z23, some z24, some z25, rV 3 0, rV 3 2, rV 102 22] [] [],
  AG E 44 97 11 37 [(3, (.ptr 6 0)), (4, (.ptr 7 0)), (9, (.func (.func 66) [] [(.ptr 6 0), (.ptr 8 0), (.ptr 7 0)])), (11, aV 9 1 0 1), (13, iV 2), (55, aV 10 1 3 4), (56, iV 5), (57, iV 6), (61, aV 9 1 0 1), (62, (.si .i64 (.lenL (.var 0)))), (63, iV 7)] [some z26, rV 3 17, rV 3 20, some z27, none, some (.dmap 102 4 (.var 26)), some z23, some z28, some z25, rV 3 0, rV 3 3, rV 102 24] [] [],
  AG E 44 97 18 35 [(9, (.func (.func 66) [] [(.ptr 6 0), (.ptr 7 0), (.ptr 8 0)])), (10, aV 9 1 0 1), (79, aV 10 1 2 3), (80, iV 4), (81, iV 5)] [some z21, rV 3 15, rV 3 18, some z22, none, some (.dmap 102 4 (.var 24)), some z23, some z25, some z24, rV 3 0, rV 3 2, rV 102 22] [] [],
  AG E 44 97 21 37 [(9, (.func (.func 66) [] [(.ptr 6 0), (.ptr 7 0), (.ptr 8 0)])), (10, aV 9 1 0 1), (17, iV 2), (79, aV 10 1 3 4), (80, iV 5), (81, iV 6), (85, aV 9 1 0 1), (86, (.si .i64 (.lenL (.var 0)))), (87, iV 7)] [some z26, rV 3 17, rV 3 20, some z27, none, some (.dmap 102 4 (.var 26)), some z23, some z25, some z28, rV 3 0, rV 3 3, rV 102 24] [] []],
  shs := [{ m := 20, res := bV 0, post := [some (.cells 14 (Al [(0, sV 1), (1, dV 75 2), (2, dV 69 3), (3, dV 64 4), (4, sV 5), (5, dV 75 6), (6, dV 69 7), (7, dV 64 8), (8, sV 9), (9, aV 6 1 10 11), (10, sV 12), (11, aV 7 1 13 14), (12, iV 15), (13, iV 16)])), none, none, some (.cells 2 (Al [(0, aV 8 10 17 18), (1, (.map 5))])), none, some (.dmap 102 4 (.var 19)), rV 3 10, rV 3 13, rV 102 17], keep := [] }] }
theorem ao : Am (EF m38) [8, 11, 18, 21] 20000 (d38 E0) t38 0 = some (jl (d38 E0) [1]) := by kernel_rfl
theorem gz : Am (EF m38) [8, 11, 18, 21] 20000 (d38 E0) t38 1 = some (jl (d38 E0) [2, 3]) := by kernel_rfl
theorem dO : Am (EF m38) [8, 11, 18, 21] 20000 (d38 E0) t38 2 = some (jl (d38 E0) [2, 2, 1]) := by kernel_rfl
theorem cj : Am (EF m38) [8, 11, 18, 21] 20000 (d38 E0) t38 3 = some (jl (d38 E0) [4]) := by kernel_rfl
theorem fq : Am (EF m38) [8, 11, 18, 21] 20000 (d38 E0) t38 4 = some (jl (d38 E0) [4, 4, 3]) := by kernel_rfl
theorem c38 : AB (EF m38) [8, 11, 18, 21] 20000 (d38 E0) t38 := dk5 rfl ao gz dO cj fq
def m39 (E : Env) : List Sm := (d38 E).smL a38 (p38 E) 0 (d38 E).shs ++ m38 E
def a39 : List AV := [aV 0 10 0 1, iV 2, (.func (.func 44) [(.ptr 1 0)] [])]
def p39 (E : Env) : Pt := Aq E 43 19 a39 [rV 102 0, some (.cells 14 (Al [(0, sV 3), (1, dV 75 4), (2, dV 69 5), (3, dV 64 6), (4, sV 7), (5, dV 75 8), (6, dV 69 9), (7, dV 64 10), (8, sV 11), (9, aV 2 1 12 13), (10, sV 14), (11, aV 3 1 15 16), (12, iV 17), (13, iV 18)])), rV 3 12, rV 3 15] []
def d39 (E : Env) : Dec :=
 {g := 39, f := 43, p := 4, pts := [p39 E,
  AG E 43 65 3 23 [(1, iV 0), (2, (.func (.func 44) [(.ptr 1 0)] [])), (8, (.ptr 4 0)), (15, aV 0 10 1 2), (16, (.si .i64 (.lenL (.var 1)))), (17, iV 3)] [rV 102 1, some (.cells 14 (Al [(0, sV 4), (1, dV 75 5), (2, dV 69 6), (3, dV 64 7), (4, sV 8), (5, dV 75 9), (6, dV 69 10), (7, dV 64 11), (8, sV 12), (9, aV 2 1 13 14), (10, sV 15), (11, aV 3 1 16 17), (12, iV 18), (13, iV 19)])), rV 3 13, rV 3 16, some (.cells 2 (Al [(0, aV 6 10 20 21), (1, (.map 5))])), some (.dmap 102 4 (.var 22)), rV 102 20] [] [],
  AG E 43 65 8 22 [(1, iV 0), (2, (.func (.func 44) [(.ptr 1 0)] [])), (8, (.ptr 4 0)), (11, iV 1)] [rV 102 2, some (.cells 14 (Al [(0, sV 3), (1, dV 75 4), (2, dV 69 5), (3, dV 64 6), (4, sV 7), (5, dV 75 8), (6, dV 69 9), (7, dV 64 10), (8, sV 11), (9, aV 7 1 12 13), (10, sV 14), (11, aV 8 1 15 16), (12, iV 17), (13, iV 18)])), none, none, some (.cells 2 (Al [(0, aV 6 10 19 20), (1, (.map 5))])), some (.dmap 102 4 (.var 21)), rV 102 19, rV 3 12, rV 3 15] [] []],
  shs := [{ m := 19, res := (.tuple [aV 4 10 0 1, bV 2]), post := [none, some (.cells 14 (Al [(0, sV 3), (1, dV 75 4), (2, dV 69 5), (3, dV 64 6), (4, sV 7), (5, dV 75 8), (6, dV 69 9), (7, dV 64 10), (8, sV 11), (9, aV 5 1 12 13), (10, sV 14), (11, aV 6 1 15 16), (12, iV 17), (13, iV 18)])), none, none, rV 102 0, rV 3 12, rV 3 15], keep := [0] }] }
theorem eA : Am (EF m39) [3, 8] 20000 (d39 E0) t39 0 = some (jl (d39 E0) [1]) := by kernel_rfl
theorem dg : Am (EF m39) [3, 8] 20000 (d39 E0) t39 1 = some (jl (d39 E0) [1, 2]) := by kernel_rfl
theorem bB : Am (EF m39) [3, 8] 20000 (d39 E0) t39 2 = some (jl (d39 E0) [2]) := by kernel_rfl
theorem c39 : AB (EF m39) [3, 8] 20000 (d39 E0) t39 := dk3 rfl eA dg bB
def m40 (E : Env) : List Sm := (d39 E).smL a39 (p39 E) 0 (d39 E).shs ++ m39 E
def a40 : List AV := [z4, z5, z6]
def p40 (E : Env) : Pt := Aq E 19 10 a40 [] []
def z29 : Aj := (.cells 4 (Al [(0, sV 10), (1, dV 75 11), (2, dV 69 12), (3, dV 64 13)]))
def d40 (E : Env) : Dec :=
 {g := 40, f := 19, p := 0, pts := [p40 E,
  AG E 19 83 9 16 [(3, (.ptr 0 0)), (4, (.ptr 1 0)), (5, (.ptr 2 0)), (6, (.ptr 3 0)), (13, aV 5 10 0 1), (37, aV 4 5 2 3), (38, iV 4), (39, iV 5)] [some z16, some z29, some (.cells 2 (Al [(0, dV 73 14), (1, dV 77 15)])), some (.cells 6 (Al [(0, (.str 0 0)), (1, .slice0), (2, (.str 0 0)), (3, .slice0), (4, (.int .i64 0)), (5, (.int .i64 0))])), rV 87 2, rV 102 0] [] []],
  shs := [{ m := 10, res := (.tuple [(.agg [sV 0, aV 0 1 1 2, sV 3, aV 1 1 4 5, iV 6, iV 7]), bV 8, iV 9]), post := [rV 3 1, rV 3 4], keep := [] }] }
theorem ag : Am (EF m40) [9] 20000 (d40 E0) t40 0 = some (jl (d40 E0) [1]) := by kernel_rfl
theorem eH : Am (EF m40) [9] 20000 (d40 E0) t40 1 = some (jl (d40 E0) [1, 1]) := by kernel_rfl
theorem c40 : AB (EF m40) [9] 20000 (d40 E0) t40 := dk2 rfl ag eH
def m41 (E : Env) : List Sm := (d40 E).smL a40 (p40 E) 0 (d40 E).shs ++ m40 E
def a41 : List AV := [z4]
def p41 (E : Env) : Pt := Aq E 16 4 a41 [] []
def d41 (E : Env) : Dec :=
 {g := 41, f := 16, p := 0, pts := [p41 E,
  AG E 16 31 7 10 [(1, (.ptr 0 0)), (2, aV 2 2 0 1), (17, aV 1 5 2 3), (18, iV 4), (19, iV 5)] [some z16, rV 87 2, rV 33 0] [] []],
  shs := [{ m := 3, res := (.tuple [aV 0 2 0 1, iV 2]), post := [rV 33 0], keep := [] }] }
theorem cW : Am (EF m41) [7] 20000 (d41 E0) t41 0 = some (jl (d41 E0) [1]) := by kernel_rfl
theorem gi : Am (EF m41) [7] 20000 (d41 E0) t41 1 = some (jl (d41 E0) [1]) := by kernel_rfl
theorem c41 : AB (EF m41) [7] 20000 (d41 E0) t41 := dk2 rfl cW gi
def m42 (E : Env) : List Sm := (d41 E).smL a41 (p41 E) 0 (d41 E).shs ++ m41 E
def z30 : AV := (.agg [sV 4, dV 3 5])
def a42 : List AV := [z4, z30]
def p42 (E : Env) : Pt := Aq E 34 6 a42 [] []
def d42 (E : Env) : Dec :=
 {g := 42, f := 34, p := 0, pts := [p42 E,
  AG E 34 54 5 8 [(2, (.ptr 0 0)), (3, (.ptr 1 0)), (4, (.ptr 2 0)), (27, dV 3 0), (28, (.si .i64 (.lenL (.var 0)))), (29, iV 1)] [some z3, some (.cells 2 (Al [(0, sV 6), (1, dV 3 0)])), some (.cells 5 (Al [(0, iV 7), (1, (.int .i64 0)), (2, (.int .i64 0)), (3, (.int .i64 0)), (4, (.int .i64 0))]))] [] []],
  shs := [{ m := 6, res := (.tuple [z11, bV 5]), post := [], keep := [] }] }
theorem ck : Am (EF m42) [5] 20000 (d42 E0) t42 0 = some (jl (d42 E0) [1]) := by kernel_rfl
theorem af : Am (EF m42) [5] 20000 (d42 E0) t42 1 = some (jl (d42 E0) [1]) := by kernel_rfl
theorem c42 : AB (EF m42) [5] 20000 (d42 E0) t42 := dk2 rfl ck af
def m43 (E : Env) : List Sm := (d42 E).smL a42 (p42 E) 0 (d42 E).shs ++ m42 E
def a43 : List AV := [z4, z5, z6, (.agg [sV 10, dV 3 11])]
def p43 (E : Env) : Pt := Aq E 12 12 a43 [] []
def d43 (E : Env) : Dec :=
 {g := 43, f := 12, p := 0, pts := [p43 E],
  shs := [{ m := 4, res := (.tuple [(.agg [sV 0, aV 0 1 1 2]), iV 3]), post := [rV 3 1], keep := [] }] }
theorem fN : Am (EF m43) [] 20000 (d43 E0) t43 0 = some (jl (d43 E0) []) := by kernel_rfl
theorem c43 : AB (EF m43) [] 20000 (d43 E0) t43 := dk1 rfl fN
def m44 (E : Env) : List Sm := (d43 E).smL a43 (p43 E) 0 (d43 E).shs ++ m43 E
def a44 : List AV := [z4, z30]
def p44 (E : Env) : Pt := Aq E 20 6 a44 [] []
def d44 (E : Env) : Dec :=
 {g := 44, f := 20, p := 0, pts := [p44 E],
  shs := [{ m := 3, res := (.tuple [aV 0 1 0 1, iV 2]), post := [rV 3 0], keep := [] }] }
theorem bo : Am (EF m44) [] 20000 (d44 E0) t44 0 = some (jl (d44 E0) []) := by kernel_rfl
theorem c44 : AB (EF m44) [] 20000 (d44 E0) t44 := dk1 rfl bo
def m45 (E : Env) : List Sm := (d44 E).smL a44 (p44 E) 0 (d44 E).shs ++ m44 E
def a45 : List AV := [z4, aV 0 1 4 5, (.agg [sV 6, sV 7, iV 8, sV 9, sV 10, sV 11, iV 12, iV 13, iV 14])]
def p45 (E : Env) : Pt := Aq E 46 15 a45 [rV 3 4] []
def d45 (E : Env) : Dec :=
 {g := 45, f := 46, p := 1, pts := [p45 E,
  AG E 46 50 3 18 [(1, aV 0 1 0 1), (3, (.ptr 1 0)), (5, (.ptr 2 0)), (7, aV 3 1 2 3), (8, iV 4)] [rV 3 0, some z20, some (.cells 9 (Al [(0, sV 9), (1, sV 10), (2, iV 11), (3, sV 12), (4, sV 13), (5, sV 14), (6, iV 15), (7, iV 16), (8, iV 17)])), rV 3 2] [] []],
  shs := [{ m := 2, res := aV 1 1 0 1, post := [none, rV 3 0], keep := [0] }] }
theorem cA : Am (EF m45) [3] 20000 (d45 E0) t45 0 = some (jl (d45 E0) [1]) := by kernel_rfl
theorem bL : Am (EF m45) [3] 20000 (d45 E0) t45 1 = some (jl (d45 E0) [1, 1, 1, 1, 1, 1]) := by kernel_rfl
theorem c45 : AB (EF m45) [3] 20000 (d45 E0) t45 := dk2 rfl cA bL
def m46 (E : Env) : List Sm := (d45 E).smL a45 (p45 E) 0 (d45 E).shs ++ m45 E
def a46 : List AV := [aV 0 1 0 1, iV 2]
def p46 (E : Env) : Pt := Aq E 71 3 a46 [rV 3 0] []
def d46 (E : Env) : Dec :=
 {g := 46, f := 71, p := 1, pts := [p46 E,
  AG E 71 19 2 4 [(0, aV 0 1 0 1), (1, iV 2), (7, (.si .i64 (.lenL (.var 0)))), (8, iV 3)] [rV 3 0] [] []],
  shs := [{ m := 1, res := iV 0, post := [none], keep := [0] }] }
theorem cZ : Am (EF m46) [2] 20000 (d46 E0) t46 0 = some (jl (d46 E0) [1]) := by kernel_rfl
theorem cr : Am (EF m46) [2] 20000 (d46 E0) t46 1 = some (jl (d46 E0) [1]) := by kernel_rfl
theorem c46 : AB (EF m46) [2] 20000 (d46 E0) t46 := dk2 rfl cZ cr
def m47 (E : Env) : List Sm := (d46 E).smL a46 (p46 E) 0 (d46 E).shs ++ m46 E
def a47 : List AV := [z4, z30, iV 6]
def p47 (E : Env) : Pt := Aq E 28 7 a47 [] []
def d47 (E : Env) : Dec :=
 {g := 47, f := 28, p := 0, pts := [p47 E],
  shs := [{ m := 4, res := (.tuple [(.agg [sV 0, aV 0 1 1 2]), iV 3]), post := [rV 3 1], keep := [] }] }
theorem gj : Am (EF m47) [] 20000 (d47 E0) t47 0 = some (jl (d47 E0) []) := by kernel_rfl
theorem c47 : AB (EF m47) [] 20000 (d47 E0) t47 := dk1 rfl gj
def m48 (E : Env) : List Sm := (d47 E).smL a47 (p47 E) 0 (d47 E).shs ++ m47 E
def a48 : List AV := [z4, (.ptr 0 0), iV 6, (.agg [sV 7, dV 75 8, dV 69 9, dV 64 10]), (.ptr 1 0), iV 13]
def p48 (E : Env) : Pt := Aq E 21 14 a48 [some (.cells 2 (Al [(0, sV 4), (1, dV 3 5)])), some (.cells 2 (Al [(0, sV 11), (1, dV 3 12)]))] []
def d48 (E : Env) : Dec :=
 {g := 48, f := 21, p := 2, pts := [p48 E],
  shs := [{ m := 5, res := bV 0, post := [some (.cells 2 (Al [(0, sV 1), (1, dV 3 2)])), some (.cells 2 (Al [(0, sV 3), (1, dV 3 4)]))], keep := [] }] }
theorem cV : Am (EF m48) [] 20000 (d48 E0) t48 0 = some (jl (d48 E0) []) := by kernel_rfl
theorem c48 : AB (EF m48) [] 20000 (d48 E0) t48 := dk1 rfl cV
def m49 (E : Env) : List Sm := (d48 E).smL a48 (p48 E) 0 (d48 E).shs ++ m48 E
def p49 (E : Env) : Pt := La E 5 [26, 26, 30, 31]
def z31 : Aj := (.cells 4 (Al [(0, sV 14), (1, dV 75 15), (2, dV 69 16), (3, dV 64 17)]))
def z32 : Aj := (.cells 2 (Al [(0, sV 18), (1, dV 3 19)]))
def z33 : Aj := (.cells 2 (Al [(0, sV 20), (1, dV 3 21)]))
def d49 (E : Env) : Dec :=
 {g := 49, f := 5, p := 0, pts := [p49 E,
  AG E 5 258 12 14 [(3, dV 3 0), (4, (.ptr 0 0)), (5, (.ptr 1 0)), (14, (.ptr 2 0)), (15, (.ptr 3 0)), (17, iV 1)] [some z3, some z16, some (.cells 2 (Al [(0, sV 10), (1, dV 3 11)])), some (.cells 2 (Al [(0, sV 12), (1, dV 3 13)]))] [] [],
  AG E 5 258 21 22 [(3, dV 3 0), (4, (.ptr 0 0)), (5, (.ptr 1 0)), (14, (.ptr 2 0)), (15, (.ptr 3 0)), (17, iV 1), (18, aV 4 1 2 3), (20, aV 5 1 4 5), (22, aV 6 1 6 7), (23, .slice0), (24, bV 8), (25, iV 9)] [some z29, some z31, some z32, some z33, rV 3 2, rV 3 4, rV 3 6] [] [],
  AG E 5 258 29 22 [(3, dV 3 0), (4, (.ptr 0 0)), (5, (.ptr 1 0)), (14, (.ptr 2 0)), (15, (.ptr 3 0)), (17, iV 1), (20, aV 4 1 2 3), (22, aV 6 1 4 5), (23, aV 5 1 6 7), (24, bV 8), (26, iV 9)] [some z29, some z31, some z32, some z33, rV 3 2, rV 3 6, rV 3 4] [] []],
  shs := [Kl] }
theorem gC : Am (EF m49) [12, 21, 29] 20000 (d49 E0) t49 0 = some (jl (d49 E0) [1]) := by kernel_rfl
theorem gR : Am (EF m49) [12, 21, 29] 20000 (d49 E0) t49 1 = some (jl (d49 E0) [2]) := by kernel_rfl
theorem bC : Am (EF m49) [12, 21, 29] 20000 (d49 E0) t49 2 = some (jl (d49 E0) [2, 2, 3]) := by kernel_rfl
theorem eW : Am (EF m49) [12, 21, 29] 20000 (d49 E0) t49 3 = some (jl (d49 E0) [3, 3, 1, 1, 1, 1]) := by kernel_rfl
theorem c49 : AB (EF m49) [12, 21, 29] 20000 (d49 E0) t49 := dk4 rfl gC gR bC eW
end Go.Proofs.Ytpcdkfgmpekeeaa.convertReplaces

