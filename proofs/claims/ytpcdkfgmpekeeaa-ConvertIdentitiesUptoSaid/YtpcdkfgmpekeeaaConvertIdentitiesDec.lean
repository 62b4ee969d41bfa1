/- What is proved: that the functions which the law ConvertIdentities reaches are the plain functions over data whose trees of tests the text before writes out (the kernel runs the evaluator over each place). Conditions: the program is the given one. -/
import Derived.Test.YtpcdkfgmpekeeaaProg
import Derived.KernelRfl
import Derived.Test.YtpcdkfgmpekeeaaConvertIdentitiesTree
import Derived.Test.YtpcdkfgmpekeeaaConvertIdentitiesKnownB
set_option linter.unusedVariables false
set_option linter.unusedSectionVars false
set_option linter.unusedSimpArgs false
namespace Go.Proofs.Ytpcdkfgmpekeeaa.convertIdentities
open Go.AE Ci
def m0 (E : Env) : List Sm := []
instance pg : Pg Try.prog l27 := ⟨trivial⟩
def a0 : List AV := []
def p0 (E : Env) : Pt := Aq E 9 0 a0 [] []
def d0 (E : Env) : Dec :=
 {g := 0, f := 9, p := 0, pts := [p0 E],
  shs := [{ m := 0, res := (.bool true), post := [], keep := [] }] }
theorem i8 : Ak (EF m0) [] 20000 (d0 E0) t0 0 = some (jl (d0 E0) []) := by kernel_rfl
theorem c0 : AB (EF m0) [] 20000 (d0 E0) t0 := dk1 rfl i8
def m1 (E : Env) : List Sm := (d0 E).smL a0 (p0 E) 0 (d0 E).shs ++ m0 E
def a1 : List AV := [sV 0]
def p1 (E : Env) : Pt := Aq E 74 1 a1 [] []
def d1 (E : Env) : Dec :=
 {g := 1, f := 74, p := 0, pts := [p1 E,
  Az E 74 55 4 3 [(15, (.asl 0 1 (.lenL (.var 0)) (.bc false))), (16, iV 1), (17, iV 2)] [rV 5 0] [] []],
  shs := [{ m := 1, res := bV 0, post := [], keep := [] }] }
theorem hJ : Ak (EF m1) [4] 20000 (d1 E0) t1 0 = some (jl (d1 E0) [1]) := by kernel_rfl
theorem jb : Ak (EF m1) [4] 20000 (d1 E0) t1 1 = some (jl (d1 E0) [1, 1, 1, 1]) := by kernel_rfl
theorem c1 : AB (EF m1) [4] 20000 (d1 E0) t1 := dk2 rfl hJ jb
def m2 (E : Env) : List Sm := (d1 E).smL a1 (p1 E) 0 (d1 E).shs ++ m1 E
def a2 : List AV := [dV 69 0, (.func (.func 96) [] [(.ptr 0 0)])]
def z0 : Aj := (.cells 1 (Am [(0, sV 1)]))
def p2 (E : Env) : Pt := Aq E 53 2 a2 [some z0] []
def z1 : Aj := (.cells 1 (Am [(0, sV 2)]))
def d2 (E : Env) : Dec :=
 {g := 2, f := 53, p := 1, pts := [p2 E,
  Az E 53 19 2 3 [(0, dV 69 0), (1, (.func (.func 96) [] [(.ptr 0 0)])), (7, (.si .i64 (.lenL (.var 0)))), (8, iV 1)] [some z1] [] []],
  shs := [{ m := 1, res := iV 0, post := [none], keep := [0] }] }
theorem iH : Ak (EF m2) [2] 20000 (d2 E0) t2 0 = some (jl (d2 E0) [1]) := by kernel_rfl
theorem iF : Ak (EF m2) [2] 20000 (d2 E0) t2 1 = some (jl (d2 E0) [1]) := by kernel_rfl
theorem c2 : AB (EF m2) [2] 20000 (d2 E0) t2 := dk2 rfl iH iF
def m3 (E : Env) : List Sm := (d2 E).smL a2 (p2 E) 0 (d2 E).shs ++ m2 E
def a3 : List AV := [iV 0, iV 1, iV 2, (.func (.func 76) [] [(.ptr 0 0)])]
def z2 : Aj := (.cells 4 (Am [(0, sV 3), (1, dV 75 4), (2, dV 69 5), (3, dV 64 6)]))
def p3 (E : Env) : Pt := Aq E 75 7 a3 [some z2] []
def z3 : Aj := (.cells 4 (Am [(0, sV 2), (1, dV 75 3), (2, dV 69 4), (3, dV 64 5)]))
def d3 (E : Env) : Dec :=
 {g := 3, f := 75, p := 1, pts := [p3 E,
  Az E 75 28 6 6 [(3, (.func (.func 76) [] [(.ptr 0 0)])), (19, iV 0), (20, iV 1)] [some z3] [] []],
  shs := [{ m := 1, res := iV 0, post := [none], keep := [0] }] }
theorem iT : Ak (EF m3) [6] 20000 (d3 E0) t3 0 = some (jl (d3 E0) [1]) := by kernel_rfl
theorem il : Ak (EF m3) [6] 20000 (d3 E0) t3 1 = some (jl (d3 E0) [1]) := by kernel_rfl
theorem c3 : AB (EF m3) [6] 20000 (d3 E0) t3 := dk2 rfl iT il
def m4 (E : Env) : List Sm := (d3 E).smL a3 (p3 E) 0 (d3 E).shs ++ m3 E
def a4 : List AV := [dV 75 0, (.func (.func 98) [] [(.ptr 0 0)])]
def p4 (E : Env) : Pt := Aq E 51 2 a4 [some z0] []
def d4 (E : Env) : Dec :=
 {g := 4, f := 51, p := 1, pts := [p4 E,
  Az E 51 19 2 3 [(0, dV 75 0), (1, (.func (.func 98) [] [(.ptr 0 0)])), (7, (.si .i64 (.lenL (.var 0)))), (8, iV 1)] [some z1] [] []],
  shs := [{ m := 1, res := iV 0, post := [none], keep := [0] }] }
theorem iJ : Ak (EF m4) [2] 20000 (d4 E0) t4 0 = some (jl (d4 E0) [1]) := by kernel_rfl
theorem ig : Ak (EF m4) [2] 20000 (d4 E0) t4 1 = some (jl (d4 E0) [1]) := by kernel_rfl
theorem c4 : AB (EF m4) [2] 20000 (d4 E0) t4 := dk2 rfl iJ ig
def m5 (E : Env) : List Sm := (d4 E).smL a4 (p4 E) 0 (d4 E).shs ++ m4 E
def a5 : List AV := [iV 0, iV 1, iV 2, (.func (.func 78) [] [(.ptr 0 0)])]
def p5 (E : Env) : Pt := Aq E 75 7 a5 [some z2] []
def d5 (E : Env) : Dec :=
 {g := 5, f := 75, p := 1, pts := [p5 E,
  Az E 75 28 6 6 [(3, (.func (.func 78) [] [(.ptr 0 0)])), (19, iV 0), (20, iV 1)] [some z3] [] []],
  shs := [{ m := 1, res := iV 0, post := [none], keep := [0] }] }
theorem g0 : Ak (EF m5) [6] 20000 (d5 E0) t5 0 = some (jl (d5 E0) [1]) := by kernel_rfl
theorem iE : Ak (EF m5) [6] 20000 (d5 E0) t5 1 = some (jl (d5 E0) [1]) := by kernel_rfl
theorem c5 : AB (EF m5) [6] 20000 (d5 E0) t5 := dk2 rfl g0 iE
def m6 (E : Env) : List Sm := (d5 E).smL a5 (p5 E) 0 (d5 E).shs ++ m5 E
def a6 : List AV := [dV 64 0, (.agg [sV 1, sV 2, iV 3, sV 4, sV 5, sV 6, iV 7, iV 8, iV 9])]
def p6 (E : Env) : Pt := Aq E 110 10 a6 [] []
def d6 (E : Env) : Dec :=
 {g := 6, f := 110, p := 0, pts := [p6 E,
  Az E 110 19 2 11 [(0, dV 64 0), (3, (.ptr 0 0)), (7, (.si .i64 (.lenL (.var 0)))), (8, iV 1)] [some (.cells 9 (Am [(0, sV 2), (1, sV 3), (2, iV 4), (3, sV 5), (4, sV 6), (5, sV 7), (6, iV 8), (7, iV 9), (8, iV 10)]))] [] []],
  shs := [{ m := 1, res := iV 0, post := [], keep := [] }] }
theorem g8 : Ak (EF m6) [2] 20000 (d6 E0) t6 0 = some (jl (d6 E0) [1]) := by kernel_rfl
theorem ix : Ak (EF m6) [2] 20000 (d6 E0) t6 1 = some (jl (d6 E0) [1]) := by kernel_rfl
theorem c6 : AB (EF m6) [2] 20000 (d6 E0) t6 := dk2 rfl g8 ix
def m7 (E : Env) : List Sm := (d6 E).smL a6 (p6 E) 0 (d6 E).shs ++ m6 E
def a7 : List AV := [iV 0, iV 1, iV 2, (.func (.func 80) [] [(.ptr 0 0)])]
def p7 (E : Env) : Pt := Aq E 75 7 a7 [some z2] []
def d7 (E : Env) : Dec :=
 {g := 7, f := 75, p := 1, pts := [p7 E,
  Az E 75 28 6 6 [(3, (.func (.func 80) [] [(.ptr 0 0)])), (19, iV 0), (20, iV 1)] [some z3] [] []],
  shs := [{ m := 1, res := iV 0, post := [none], keep := [0] }] }
theorem ia : Ak (EF m7) [6] 20000 (d7 E0) t7 0 = some (jl (d7 E0) [1]) := by kernel_rfl
theorem hI : Ak (EF m7) [6] 20000 (d7 E0) t7 1 = some (jl (d7 E0) [1, 1, 1, 1, 1, 1, 1, 1]) := by kernel_rfl
theorem c7 : AB (EF m7) [6] 20000 (d7 E0) t7 := dk2 rfl ia hI
def m8 (E : Env) : List Sm := (d7 E).smL a7 (p7 E) 0 (d7 E).shs ++ m7 E
def z4 : AV := (.agg [sV 0, dV 75 1, dV 69 2, dV 64 3])
def a8 : List AV := [z4]
def p8 (E : Env) : Pt := Aq E 22 4 a8 [] []
def d8 (E : Env) : Dec :=
 {g := 8, f := 22, p := 0, pts := [p8 E,
  Az E 22 49 4 7 [(1, (.ptr 0 0)), (2, (.ptr 1 0)), (13, dV 75 0), (14, (.si .i64 (.lenL (.var 0)))), (15, iV 1)] [some (.cells 4 (Am [(0, sV 2), (1, dV 75 0), (2, dV 69 3), (3, dV 64 4)])), some (.cells 2 (Am [(0, aV 2 2 5 6), (1, .slice0)])), rV 73 5] [] [],
  Az E 22 49 9 6 [(2, (.ptr 0 0)), (31, dV 69 0), (32, (.si .i64 (.lenL (.var 0)))), (33, iV 1)] [some (.cells 2 (Am [(0, aV 2 2 2 3), (1, aV 1 3 4 5)])), rV 77 4, rV 73 2] [] []],
  shs := [{ m := 5, res := (.tuple [(.agg [aV 0 2 0 1, aV 1 3 2 3]), iV 4]), post := [rV 73 0, rV 77 2], keep := [] }] }
theorem iz : Ak (EF m8) [4, 9] 20000 (d8 E0) t8 0 = some (jl (d8 E0) [1]) := by kernel_rfl
theorem i4 : Ak (EF m8) [4, 9] 20000 (d8 E0) t8 1 = some (jl (d8 E0) [1, 2]) := by kernel_rfl
theorem iP : Ak (EF m8) [4, 9] 20000 (d8 E0) t8 2 = some (jl (d8 E0) [2]) := by kernel_rfl
theorem c8 : AB (EF m8) [4, 9] 20000 (d8 E0) t8 := dk3 rfl iz i4 iP
def m9 (E : Env) : List Sm := (d8 E).smL a8 (p8 E) 0 (d8 E).shs ++ m8 E
def a9 : List AV := [sV 0]
def p9 (E : Env) : Pt := Aq E 60 1 a9 [] []
def d9 (E : Env) : Dec :=
 {g := 9, f := 60, p := 0, pts := [p9 E,
  Az E 60 64 4 2 [(0, sV 0), (3, iV 1)] [] [] []],
  shs := [{ m := 1, res := bV 0, post := [], keep := [] }] }
theorem iO : Ak (EF m9) [4] 20000 (d9 E0) t9 0 = some (jl (d9 E0) [1, 1]) := by kernel_rfl
theorem iw : Ak (EF m9) [4] 20000 (d9 E0) t9 1 = some (jl (d9 E0) [1, 1, 1, 1]) := by kernel_rfl
theorem c9 : AB (EF m9) [4] 20000 (d9 E0) t9 := dk2 rfl iO iw
def m10 (E : Env) : List Sm := (d9 E).smL a9 (p9 E) 0 (d9 E).shs ++ m9 E
def a10 : List AV := [z4, sV 4]
def p10 (E : Env) : Pt := Aq E 61 5 a10 [] []
def d10 (E : Env) : Dec :=
 {g := 10, f := 61, p := 0, pts := [p10 E,
  Az E 61 22 2 6 [(1, sV 0), (2, (.ptr 0 0)), (5, iV 1)] [some z3] [] []],
  shs := [{ m := 1, res := iV 0, post := [], keep := [] }] }
theorem bX : Ak (EF m10) [2] 20000 (d10 E0) t10 0 = some (jl (d10 E0) [1]) := by kernel_rfl
theorem gz : Ak (EF m10) [2] 20000 (d10 E0) t10 1 = some (jl (d10 E0) [1]) := by kernel_rfl
theorem c10 : AB (EF m10) [2] 20000 (d10 E0) t10 := dk2 rfl bX gz
def m11 (E : Env) : List Sm := (d10 E).smL a10 (p10 E) 0 (d10 E).shs ++ m10 E
def a11 : List AV := [z4, sV 4]
def p11 (E : Env) : Pt := Aq E 62 5 a11 [] []
def d11 (E : Env) : Dec :=
 {g := 11, f := 62, p := 0, pts := [p11 E,
  Az E 62 22 2 6 [(1, sV 0), (2, (.ptr 0 0)), (5, iV 1)] [some z3] [] []],
  shs := [{ m := 1, res := iV 0, post := [], keep := [] }] }
theorem gp : Ak (EF m11) [2] 20000 (d11 E0) t11 0 = some (jl (d11 E0) [1]) := by kernel_rfl
theorem cB : Ak (EF m11) [2] 20000 (d11 E0) t11 1 = some (jl (d11 E0) [1]) := by kernel_rfl
theorem c11 : AB (EF m11) [2] 20000 (d11 E0) t11 := dk2 rfl gp cB
def m12 (E : Env) : List Sm := (d11 E).smL a11 (p11 E) 0 (d11 E).shs ++ m11 E
def a12 : List AV := [z4, iV 4]
def p12 (E : Env) : Pt := Aq E 63 5 a12 [] []
def d12 (E : Env) : Dec :=
 {g := 12, f := 63, p := 0, pts := [p12 E,
  Az E 63 93 6 16 [(1, iV 0), (2, (.ptr 0 0)), (5, (.ptr 1 0)), (6, iV 1), (7, iV 2)] [some z2, some (.cells 9 (Am [(0, sV 7), (1, sV 8), (2, iV 9), (3, sV 10), (4, sV 11), (5, sV 12), (6, iV 13), (7, iV 14), (8, iV 15)]))] [] []],
  shs := [{ m := 1, res := bV 0, post := [], keep := [] }] }
theorem bF : Ak (EF m12) [6] 20000 (d12 E0) t12 0 = some (jl (d12 E0) [1, 1]) := by kernel_rfl
theorem cR : Ak (EF m12) [6] 20000 (d12 E0) t12 1 = some (jl (d12 E0) [1]) := by kernel_rfl
theorem c12 : AB (EF m12) [6] 20000 (d12 E0) t12 := dk2 rfl bF cR
def m13 (E : Env) : List Sm := (d12 E).smL a12 (p12 E) 0 (d12 E).shs ++ m12 E
def a13 : List AV := [z4]
def p13 (E : Env) : Pt := Aq E 38 4 a13 [] []
def z5 : Aj := (.cells 4 (Am [(0, sV 1), (1, dV 75 2), (2, dV 69 3), (3, dV 64 4)]))
def d13 (E : Env) : Dec :=
 {g := 13, f := 38, p := 0, pts := [p13 E,
  Az E 38 131 6 5 [(1, (.ptr 0 0)), (4, iV 0)] [some z5] [] [],
  Az E 38 131 15 5 [(1, (.ptr 0 0)), (5, iV 0)] [some z5] [] [],
  Az E 38 131 22 5 [(1, (.ptr 0 0)), (6, iV 0)] [some z5] [] []],
  shs := [{ m := 2, res := (.tuple [iV 0, iV 1]), post := [], keep := [] }] }
theorem ez : Ak (EF m13) [6, 15, 22] 20000 (d13 E0) t13 0 = some (jl (d13 E0) [1]) := by kernel_rfl
theorem aF : Ak (EF m13) [6, 15, 22] 20000 (d13 E0) t13 1 = some (jl (d13 E0) [1, 2]) := by kernel_rfl
theorem gI : Ak (EF m13) [6, 15, 22] 20000 (d13 E0) t13 2 = some (jl (d13 E0) [2, 3]) := by kernel_rfl
theorem dk : Ak (EF m13) [6, 15, 22] 20000 (d13 E0) t13 3 = some (jl (d13 E0) [3]) := by kernel_rfl
theorem c13 : AB (EF m13) [6, 15, 22] 20000 (d13 E0) t13 := dk4 rfl ez aF gI dk
def m14 (E : Env) : List Sm := (d13 E).smL a13 (p13 E) 0 (d13 E).shs ++ m13 E
def a14 : List AV := [dV 75 0, (.func (.func 52) [] [(.ptr 0 0)])]
def p14 (E : Env) : Pt := Aq E 51 2 a14 [some z0] []
def d14 (E : Env) : Dec :=
 {g := 14, f := 51, p := 1, pts := [p14 E,
  Az E 51 19 2 3 [(0, dV 75 0), (1, (.func (.func 52) [] [(.ptr 0 0)])), (7, (.si .i64 (.lenL (.var 0)))), (8, iV 1)] [some z1] [] []],
  shs := [{ m := 1, res := iV 0, post := [none], keep := [0] }] }
theorem bT : Ak (EF m14) [2] 20000 (d14 E0) t14 0 = some (jl (d14 E0) [1]) := by kernel_rfl
theorem dN : Ak (EF m14) [2] 20000 (d14 E0) t14 1 = some (jl (d14 E0) [1]) := by kernel_rfl
theorem c14 : AB (EF m14) [2] 20000 (d14 E0) t14 := dk2 rfl bT dN
def m15 (E : Env) : List Sm := (d14 E).smL a14 (p14 E) 0 (d14 E).shs ++ m14 E
def a15 : List AV := [dV 69 0, (.func (.func 54) [] [(.ptr 0 0)])]
def p15 (E : Env) : Pt := Aq E 53 2 a15 [some z0] []
def d15 (E : Env) : Dec :=
 {g := 15, f := 53, p := 1, pts := [p15 E,
  Az E 53 19 2 3 [(0, dV 69 0), (1, (.func (.func 54) [] [(.ptr 0 0)])), (7, (.si .i64 (.lenL (.var 0)))), (8, iV 1)] [some z1] [] []],
  shs := [{ m := 1, res := iV 0, post := [none], keep := [0] }] }
theorem fA : Ak (EF m15) [2] 20000 (d15 E0) t15 0 = some (jl (d15 E0) [1]) := by kernel_rfl
theorem fW : Ak (EF m15) [2] 20000 (d15 E0) t15 1 = some (jl (d15 E0) [1]) := by kernel_rfl
theorem c15 : AB (EF m15) [2] 20000 (d15 E0) t15 := dk2 rfl fA fW
def m16 (E : Env) : List Sm := (d15 E).smL a15 (p15 E) 0 (d15 E).shs ++ m15 E
def z6 : AV := (.agg [sV 4, dV 75 5, dV 69 6, dV 64 7])
def z7 : AV := (.agg [aV 0 2 8 9, aV 1 3 10 11])
def a16 : List AV := [z4, z6, z7]
def p16 (E : Env) : Pt := Aq E 10 12 a16 [rV 73 8, rV 77 10] []
def z8 : Aj := (.cells 4 (Am [(0, sV 0), (1, dV 75 1), (2, dV 69 2), (3, dV 64 3)]))
def z9 : Aj := (.cells 4 (Am [(0, sV 4), (1, dV 75 5), (2, dV 69 6), (3, dV 64 7)]))
def z10 : Aj := (.cells 2 (Am [(0, aV 0 2 8 9), (1, aV 1 3 10 11)]))
def d16 (E : Env) : Dec :=
 {g := 16, f := 10, p := 2, pts := [p16 E,
  Az E 10 114 7 15 [(0, z4), (1, z6), (2, z7), (3, (.ptr 2 0)), (4, (.ptr 3 0)), (5, (.ptr 4 0)), (7, (.int .i64 490)), (8, (.map 5)), (13, (.map 5)), (14, z4), (15, (.bool true)), (16, (.bool false)), (17, (.bool false)), (18, z6), (19, (.bool true)), (20, (.bool false)), (21, (.bool false)), (22, (.ptr 4 0)), (23, aV 0 2 8 9), (24, (.si .i64 (.lenL (.var 8)))), (25, bV 12), (26, (.ptr 4 0)), (27, aV 0 2 8 9), (28, (.si .i64 (.lenL (.var 8)))), (29, iV 13)] [rV 73 8, rV 77 10, some z8, some z9, some z10, some (.dmap 9 4 (.var 14))] [] [],
  Az E 10 114 17 18 [(0, z4), (1, z6), (2, z7), (3, (.ptr 2 0)), (4, (.ptr 3 0)), (5, (.ptr 4 0)), (7, (.int .i64 491)), (8, (.map 5)), (13, (.map 5)), (14, z4), (15, (.bool true)), (16, (.bool false)), (17, (.bool false)), (18, z6), (19, (.bool true)), (20, (.bool false)), (21, (.bool false)), (22, (.ptr 4 0)), (23, aV 0 2 8 9), (24, (.si .i64 (.lenL (.var 8)))), (25, bV 12), (26, (.ptr 4 0)), (27, aV 0 2 8 9), (28, (.si .i64 (.lenL (.var 8)))), (29, iV 13), (30, bV 14), (57, (.map 5)), (58, (.ptr 4 1)), (59, aV 1 3 10 11), (60, (.si .i64 (.lenL (.var 10)))), (61, bV 15), (62, (.ptr 4 1)), (63, aV 1 3 10 11), (64, (.si .i64 (.lenL (.var 10)))), (65, iV 16)] [rV 73 8, rV 77 10, some z8, some z9, some z10, some (.dmap 9 4 (.var 17))] [] []],
  shs := [{ m := 2, res := (.tuple [iV 0, iV 1]), post := [none, none], keep := [0, 1] }] }
theorem eD : Ak (EF m16) [7, 17] 20000 (d16 E0) t16 0 = some (jl (d16 E0) [1]) := by kernel_rfl
theorem dQ : Ak (EF m16) [7, 17] 20000 (d16 E0) t16 1 = some (jl (d16 E0) [1, 1, 2]) := by kernel_rfl
theorem fv : Ak (EF m16) [7, 17] 20000 (d16 E0) t16 2 = some (jl (d16 E0) [2, 2, 2, 2, 2, 2, 2, 2]) := by kernel_rfl
theorem c16 : AB (EF m16) [7, 17] 20000 (d16 E0) t16 := dk3 rfl eD dQ fv
def m17 (E : Env) : List Sm := (d16 E).smL a16 (p16 E) 0 (d16 E).shs ++ m16 E
def a17 : List AV := [(.ptr 0 0), (.agg [iV 3, iV 4, iV 5, iV 6, iV 7])]
def p17 (E : Env) : Pt := Aq E 82 8 a17 [some (.cells 2 (Am [(0, aV 1 5 0 1), (1, (.map 2))])), rV 87 0, some (.dmap 87 4 (.var 2))] []
def d17 (E : Env) : Dec :=
 {g := 17, f := 82, p := 3, pts := [p17 E],
  shs := [{ m := 3, res := (.tuple []), post := [some (.cells 2 (Am [(0, aV 3 5 0 1), (1, (.map 2))])), none, some (.dmap 87 4 (.var 2)), rV 87 0], keep := [] }] }
theorem dS : Ak (EF m17) [] 20000 (d17 E0) t17 0 = some (jl (d17 E0) []) := by kernel_rfl
theorem c17 : AB (EF m17) [] 20000 (d17 E0) t17 := dk1 rfl dS
def m18 (E : Env) : List Sm := (d17 E).smL a17 (p17 E) 0 (d17 E).shs ++ m17 E
def a18 : List AV := [aV 0 3 0 1, (.func (.func 105) [] [(.ptr 1 0)])]
def p18 (E : Env) : Pt := Aq E 104 3 a18 [rV 164 0, some z1] []
def d18 (E : Env) : Dec :=
 {g := 18, f := 104, p := 2, pts := [p18 E,
  Az E 104 19 2 4 [(0, aV 0 3 0 1), (1, (.func (.func 105) [] [(.ptr 1 0)])), (7, (.si .i64 (.lenL (.var 0)))), (8, iV 2)] [rV 164 0, some (.cells 1 (Am [(0, sV 3)]))] [] []],
  shs := [{ m := 1, res := iV 0, post := [none, none], keep := [0, 1] }] }
theorem bY : Ak (EF m18) [2] 20000 (d18 E0) t18 0 = some (jl (d18 E0) [1]) := by kernel_rfl
theorem bg : Ak (EF m18) [2] 20000 (d18 E0) t18 1 = some (jl (d18 E0) [1]) := by kernel_rfl
theorem c18 : AB (EF m18) [2] 20000 (d18 E0) t18 := dk2 rfl bY bg
def m19 (E : Env) : List Sm := (d18 E).smL a18 (p18 E) 0 (d18 E).shs ++ m18 E
def a19 : List AV := [dV 69 0]
def p19 (E : Env) : Pt := Aq E 88 1 a19 [] []
def d19 (E : Env) : Dec :=
 {g := 19, f := 88, p := 0, pts := [p19 E,
  Az E 88 51 5 4 [(4, (.ptr 0 0)), (12, dV 69 0), (13, (.si .i64 (.lenL (.var 0)))), (14, iV 1)] [some (.cells 2 (Am [(0, (.bool true)), (1, aV 1 3 2 3)])), rV 164 2] [] []],
  shs := [{ m := 0, res := (.tuple [.ptr0, (.int .i64 2)]), post := [], keep := [] }, { m := 2, res := (.tuple [(.ptr 0 0), (.int .i64 0)]), post := [some (.cells 2 (Am [(0, (.bool true)), (1, aV 1 3 0 1)])), rV 164 0], keep := [] }] }
theorem ah : Ak (EF m19) [5] 20000 (d19 E0) t19 0 = some (jl (d19 E0) [1]) := by kernel_rfl
theorem bL : Ak (EF m19) [5] 20000 (d19 E0) t19 1 = some (jl (d19 E0) [1]) := by kernel_rfl
theorem c19 : AB (EF m19) [5] 20000 (d19 E0) t19 := dk2 rfl ah bL
def m20 (E : Env) : List Sm := (d19 E).smL a19 (p19 E) 0 (d19 E).shs ++ m19 E
def a20 : List AV := [.ptr0, dV 3 0]
def p20 (E : Env) : Pt := Aq E 89 1 a20 [] []
def d20 (E : Env) : Dec :=
 {g := 20, f := 89, p := 0, pts := [p20 E],
  shs := [{ m := 0, res := (.int .i64 1), post := [], keep := [] }] }
theorem eZ : Ak (EF m20) [6, 12] 20000 (d20 E0) t20 0 = some (jl (d20 E0) []) := by kernel_rfl
theorem c20 : AB (EF m20) [6, 12] 20000 (d20 E0) t20 := dk1 rfl eZ
def m21 (E : Env) : List Sm := (d20 E).smL a20 (p20 E) 0 (d20 E).shs ++ m20 E
def a21 : List AV := [(.ptr 0 0), dV 3 3]
def z11 : Aj := (.cells 2 (Am [(0, bV 0), (1, aV 1 3 1 2)]))
def p21 (E : Env) : Pt := Aq E 89 4 a21 [some z11, rV 164 1] []
def d21 (E : Env) : Dec :=
 {g := 21, f := 89, p := 2, pts := [p21 E,
  Az E 89 60 6 5 [(0, (.ptr 0 0)), (1, dV 3 0), (21, dV 3 0), (22, (.si .i64 (.lenL (.var 0)))), (23, iV 1)] [some (.cells 2 (Am [(0, bV 2), (1, aV 1 3 3 4)])), rV 164 3] [] [],
  Az E 89 60 12 6 [(0, (.ptr 0 0)), (44, dV 3 0), (45, iV 1), (46, iV 2)] [some (.cells 2 (Am [(0, bV 3), (1, aV 1 3 4 5)])), rV 164 4] [] []],
  shs := [{ m := 2, res := iV 0, post := [none, rV 164 1], keep := [0] }] }
theorem aD : Ak (EF m21) [6, 12] 20000 (d21 E0) t21 0 = some (jl (d21 E0) [1]) := by kernel_rfl
theorem gQ : Ak (EF m21) [6, 12] 20000 (d21 E0) t21 1 = some (jl (d21 E0) [1, 2]) := by kernel_rfl
theorem gL : Ak (EF m21) [6, 12] 20000 (d21 E0) t21 2 = some (jl (d21 E0) [2]) := by kernel_rfl
theorem c21 : AB (EF m21) [6, 12] 20000 (d21 E0) t21 := dk3 rfl aD gQ gL
def m22 (E : Env) : List Sm := (d21 E).smL a21 (p21 E) 0 (d21 E).shs ++ m21 E
def z12 : AV := (.agg [iV 0, iV 1, iV 2, iV 3, iV 4])
def z13 : AV := (.agg [sV 5, dV 75 6, dV 69 7, dV 64 8])
def a22 : List AV := [z12, z13]
def p22 (E : Env) : Pt := Aq E 69 9 a22 [] []
def d22 (E : Env) : Dec :=
 {g := 22, f := 69, p := 0, pts := [p22 E],
  shs := [{ m := 0, res := .ptr0, post := [], keep := [] }, { m := 3, res := (.ptr 0 0), post := [some (.cells 2 (Am [(0, (.bool true)), (1, (.asl 1 3 (.var 0) (.var 1)))])), rV 164 2], keep := [] }] }
theorem cV : Ak (EF m22) [] 20000 (d22 E0) t22 0 = some (jl (d22 E0) []) := by kernel_rfl
theorem c22 : AB (EF m22) [] 20000 (d22 E0) t22 := dk1 rfl cV
def m23 (E : Env) : List Sm := (d22 E).smL a22 (p22 E) 0 (d22 E).shs ++ m22 E
def z14 : AV := (.agg [sV 0, sV 1, iV 2, sV 3, sV 4, sV 5, iV 6, iV 7, iV 8])
def a23 : List AV := [.ptr0, z14]
def p23 (E : Env) : Pt := Aq E 70 9 a23 [] []
def d23 (E : Env) : Dec :=
 {g := 23, f := 70, p := 0, pts := [p23 E],
  shs := [{ m := 0, res := (.tuple [(.bool false), (.int .i64 1)]), post := [], keep := [] }] }
theorem aw : Ak (EF m23) [] 20000 (d23 E0) t23 0 = some (jl (d23 E0) []) := by kernel_rfl
theorem c23 : AB (EF m23) [] 20000 (d23 E0) t23 := dk1 rfl aw
def m24 (E : Env) : List Sm := (d23 E).smL a23 (p23 E) 0 (d23 E).shs ++ m23 E
def a24 : List AV := [(.ptr 0 0), sV 3]
def p24 (E : Env) : Pt := Aq E 91 4 a24 [some z11, rV 164 1] []
def d24 (E : Env) : Dec :=
 {g := 24, f := 91, p := 2, pts := [p24 E],
  shs := [{ m := 2, res := (.tuple [iV 0, iV 1]), post := [none, none], keep := [0, 1] }] }
theorem au : Ak (EF m24) [] 20000 (d24 E0) t24 0 = some (jl (d24 E0) []) := by kernel_rfl
theorem c24 : AB (EF m24) [] 20000 (d24 E0) t24 := dk1 rfl au
def m25 (E : Env) : List Sm := (d24 E).smL a24 (p24 E) 0 (d24 E).shs ++ m24 E
def z15 : AV := (.agg [sV 3, sV 4, iV 5, sV 6, sV 7, sV 8, iV 9, iV 10, iV 11])
def a25 : List AV := [(.ptr 0 0), z15]
def p25 (E : Env) : Pt := Aq E 70 12 a25 [some z11, rV 164 1] []
def d25 (E : Env) : Dec :=
 {g := 25, f := 70, p := 2, pts := [p25 E],
  shs := [{ m := 2, res := (.tuple [bV 0, iV 1]), post := [none, none], keep := [0, 1] }] }
theorem aj : Ak (EF m25) [] 20000 (d25 E0) t25 0 = some (jl (d25 E0) []) := by kernel_rfl
theorem c25 : AB (EF m25) [] 20000 (d25 E0) t25 := dk1 rfl aj
def m26 (E : Env) : List Sm := (d25 E).smL a25 (p25 E) 0 (d25 E).shs ++ m25 E
def a26 : List AV := [z12, z13]
def p26 (E : Env) : Pt := Aq E 45 9 a26 [] []
def d26 (E : Env) : Dec :=
 {g := 26, f := 45, p := 0, pts := [p26 E,
  Az E 45 46 3 10 [(2, (.ptr 0 0)), (3, (.ptr 1 0)), (4, .slice0), (5, .ptr0), (14, dV 64 0), (15, (.si .i64 (.lenL (.var 0)))), (16, iV 1)] [some (.cells 5 (Am [(0, iV 2), (1, iV 3), (2, iV 4), (3, iV 5), (4, iV 6)])), some (.cells 4 (Am [(0, sV 7), (1, dV 75 8), (2, dV 69 9), (3, dV 64 0)]))] [] [],
  Az E 45 46 3 15 [(2, (.ptr 0 0)), (3, (.ptr 1 0)), (4, aV 4 1 0 1), (5, (.ptr 2 0)), (14, dV 64 2), (15, (.si .i64 (.lenL (.var 2)))), (16, iV 3)] [some (.cells 5 (Am [(0, iV 4), (1, iV 5), (2, iV 6), (3, iV 7), (4, iV 8)])), some (.cells 4 (Am [(0, sV 9), (1, dV 75 10), (2, dV 69 11), (3, dV 64 2)])), some (.cells 2 (Am [(0, (.bool true)), (1, (.asl 3 3 (.var 12) (.var 13)))])), rV 164 14, rV 3 0] [] []],
  shs := [{ m := 2, res := aV 0 1 0 1, post := [rV 3 0], keep := [] }] }
theorem eW : Ak (EF m26) [3] 20000 (d26 E0) t26 0 = some (jl (d26 E0) [1, 2]) := by kernel_rfl
theorem aJ : Ak (EF m26) [3] 20000 (d26 E0) t26 1 = some (jl (d26 E0) [1]) := by kernel_rfl
theorem cY : Ak (EF m26) [3] 20000 (d26 E0) t26 2 = some (jl (d26 E0) [2, 2, 2]) := by kernel_rfl
theorem c26 : AB (EF m26) [3] 20000 (d26 E0) t26 := dk3 rfl eW aJ cY
def m27 (E : Env) : List Sm := (d26 E).smL a26 (p26 E) 0 (d26 E).shs ++ m26 E
def a27 : List AV := [.ptr0, z14]
def p27 (E : Env) : Pt := Aq E 72 9 a27 [] []
def d27 (E : Env) : Dec :=
 {g := 27, f := 72, p := 0, pts := [p27 E],
  shs := [{ m := 0, res := (.int .i64 1), post := [], keep := [] }] }
theorem ft : Ak (EF m27) [] 20000 (d27 E0) t27 0 = some (jl (d27 E0) []) := by kernel_rfl
theorem c27 : AB (EF m27) [] 20000 (d27 E0) t27 := dk1 rfl ft
def m28 (E : Env) : List Sm := (d27 E).smL a27 (p27 E) 0 (d27 E).shs ++ m27 E
def a28 : List AV := [(.ptr 0 0), z15]
def p28 (E : Env) : Pt := Aq E 72 12 a28 [some z11, rV 164 1] []
def d28 (E : Env) : Dec :=
 {g := 28, f := 72, p := 2, pts := [p28 E],
  shs := [{ m := 2, res := iV 0, post := [none, rV 164 1], keep := [0] }] }
theorem gm : Ak (EF m28) [] 20000 (d28 E0) t28 0 = some (jl (d28 E0) []) := by kernel_rfl
theorem c28 : AB (EF m28) [] 20000 (d28 E0) t28 := dk1 rfl gm
def m29 (E : Env) : List Sm := (d28 E).smL a28 (p28 E) 0 (d28 E).shs ++ m28 E
def a29 : List AV := [(.func (.yield 0) [] []), (.ptr 4 0)]
def p29 (E : Env) : Pt := Aq E 107 4 a29 [some (RG E 73 2 .ready none 14 [(2, (.ptr 1 0))] 3), some (.cells 1 (Am [(0, aV 2 1 0 1)])), rV 3 0, some (.deferred (some [])), some (.cells 1 (Am [(0, aV 5 3 2 3)])), rV 164 2] []
def d29 (E : Env) : Dec :=
 {g := 29, f := 107, p := 6, pts := [p29 E,
  Az E 107 20 1 5 [(0, (.func (.yield 0) [] [])), (5, aV 5 3 0 1), (6, (.si .i64 (.lenL (.var 0)))), (7, iV 2)] [some (RG E 73 2 .ready none 14 [(2, (.ptr 1 0))] 3), some (.cells 1 (Am [(0, aV 6 1 3 4)])), none, some (.deferred (some [])), some (.cells 1 (Am [(0, aV 5 3 0 1)])), rV 164 0, rV 3 3] [] []],
  shs := [{ m := 2, res := (.tuple []), post := [none, some (.cells 1 (Am [(0, aV 6 1 0 1)])), none, none, none, none, rV 3 0], keep := [0, 3, 4, 5] }] }
theorem az : Ak (EF m29) [1] 20000 (d29 E0) t29 0 = some (jl (d29 E0) [1]) := by kernel_rfl
theorem Z2 : Ak (EF m29) [1] 20000 (d29 E0) t29 1 = some (jl (d29 E0) [1]) := by kernel_rfl
theorem c29 : AB (EF m29) [1] 20000 (d29 E0) t29 := dk2 rfl az Z2
def m30 (E : Env) : List Sm := (d29 E).smL a29 (p29 E) 0 (d29 E).shs ++ m29 E
def a30 : List AV := [z12, z13, iV 9]
def p30 (E : Env) : Pt := Aq E 49 10 a30 [] []
def d30 (E : Env) : Dec :=
 {g := 30, f := 49, p := 0, pts := [p30 E],
  shs := [{ m := 5, res := z12, post := [], keep := [] }] }
theorem dt : Ak (EF m30) [] 20000 (d30 E0) t30 0 = some (jl (d30 E0) []) := by kernel_rfl
theorem c30 : AB (EF m30) [] 20000 (d30 E0) t30 := dk1 rfl dt
def m31 (E : Env) : List Sm := (d30 E).smL a30 (p30 E) 0 (d30 E).shs ++ m30 E
def a31 : List AV := [z12, (.func (.func 82) [(.ptr 0 0)] []), (.ptr 3 0)]
def z16 : Aj := (.cells 4 (Am [(0, sV 8), (1, dV 75 9), (2, dV 69 10), (3, dV 64 11)]))
def p31 (E : Env) : Pt := Aq E 59 12 a31 [some (.cells 2 (Am [(0, aV 1 5 5 6), (1, (.map 2))])), rV 87 5, some (.dmap 87 4 (.var 7)), some z16] []
def z17 : Aj := (.cells 4 (Am [(0, sV 7), (1, dV 75 8), (2, dV 69 9), (3, dV 64 10)]))
def d31 (E : Env) : Dec :=
 {g := 31, f := 59, p := 4, pts := [p31 E,
  Az E 59 23 2 16 [(1, (.func (.func 82) [(.ptr 0 0)] [])), (2, (.ptr 3 0)), (3, (.ptr 4 0)), (10, aV 5 1 0 1), (11, iV 2), (12, iV 3)] [some (.cells 2 (Am [(0, aV 6 5 4 5), (1, (.map 2))])), none, some (.dmap 87 4 (.var 6)), some z17, some (.cells 5 (Am [(0, iV 11), (1, iV 12), (2, iV 13), (3, iV 14), (4, iV 15)])), rV 3 0, rV 87 4] [] []],
  shs := [{ m := 3, res := (.bool false), post := [some (.cells 2 (Am [(0, aV 4 5 0 1), (1, (.map 2))])), none, some (.dmap 87 4 (.var 2)), none, rV 87 0], keep := [3] }] }
theorem gA : Ak (EF m31) [2] 20000 (d31 E0) t31 0 = some (jl (d31 E0) [1]) := by kernel_rfl
theorem gW : Ak (EF m31) [2] 20000 (d31 E0) t31 1 = some (jl (d31 E0) [1]) := by kernel_rfl
theorem c31 : AB (EF m31) [2] 20000 (d31 E0) t31 := dk2 rfl gA gW
def m32 (E : Env) : List Sm := (d31 E).smL a31 (p31 E) 0 (d31 E).shs ++ m31 E
def a32 : List AV := [aV 0 5 0 1, iV 2, (.func (.func 59) [] [(.ptr 1 0)])]
def p32 (E : Env) : Pt := Aq E 58 7 a32 [rV 87 0, some z2] []
def d32 (E : Env) : Dec :=
 {g := 32, f := 58, p := 2, pts := [p32 E,
  Az E 58 65 3 11 [(1, iV 0), (2, (.func (.func 59) [] [(.ptr 1 0)])), (8, (.ptr 2 0)), (15, aV 0 5 1 2), (16, (.si .i64 (.lenL (.var 1)))), (17, iV 3)] [rV 87 1, some z9, some (.cells 2 (Am [(0, aV 4 5 8 9), (1, (.map 3))])), some (.dmap 87 4 (.var 10)), rV 87 8] [] [],
  Az E 58 65 8 10 [(1, iV 0), (2, (.func (.func 59) [] [(.ptr 1 0)])), (8, (.ptr 2 0)), (11, iV 1)] [rV 87 2, some z2, some (.cells 2 (Am [(0, aV 4 5 7 8), (1, (.map 3))])), some (.dmap 87 4 (.var 9)), rV 87 7] [] []],
  shs := [{ m := 3, res := (.tuple [aV 2 5 0 1, bV 2]), post := [none, none, rV 87 0], keep := [0, 1] }] }
theorem gD : Ak (EF m32) [3, 8] 20000 (d32 E0) t32 0 = some (jl (d32 E0) [1]) := by kernel_rfl
theorem dp : Ak (EF m32) [3, 8] 20000 (d32 E0) t32 1 = some (jl (d32 E0) [1, 2]) := by kernel_rfl
theorem fL : Ak (EF m32) [3, 8] 20000 (d32 E0) t32 2 = some (jl (d32 E0) [2]) := by kernel_rfl
theorem c32 : AB (EF m32) [3, 8] 20000 (d32 E0) t32 := dk3 rfl gD dp fL
def m33 (E : Env) : List Sm := (d32 E).smL a32 (p32 E) 0 (d32 E).shs ++ m32 E
def a33 : List AV := [aV 0 2 0 1, (.func (.func 56) [] [(.ptr 1 0), (.ptr 2 0)])]
def p33 (E : Env) : Pt := Aq E 55 11 a33 [rV 73 0, some z3, some (.cells 5 (Am [(0, iV 6), (1, iV 7), (2, iV 8), (3, iV 9), (4, iV 10)]))] []
def d33 (E : Env) : Dec :=
 {g := 33, f := 55, p := 3, pts := [p33 E,
  Az E 55 19 2 12 [(0, aV 0 2 0 1), (1, (.func (.func 56) [] [(.ptr 1 0), (.ptr 2 0)])), (7, (.si .i64 (.lenL (.var 0)))), (8, iV 2)] [rV 73 0, some z2, some (.cells 5 (Am [(0, iV 7), (1, iV 8), (2, iV 9), (3, iV 10), (4, iV 11)]))] [] []],
  shs := [{ m := 1, res := iV 0, post := [none, none, none], keep := [0, 1, 2] }] }
theorem fe : Ak (EF m33) [2] 20000 (d33 E0) t33 0 = some (jl (d33 E0) [1]) := by kernel_rfl
theorem ZU : Ak (EF m33) [2] 20000 (d33 E0) t33 1 = some (jl (d33 E0) [1]) := by kernel_rfl
theorem c33 : AB (EF m33) [2] 20000 (d33 E0) t33 := dk2 rfl fe ZU
def m34 (E : Env) : List Sm := (d33 E).smL a33 (p33 E) 0 (d33 E).shs ++ m33 E
def a34 : List AV := [z4, z6, z7, (.agg [iV 12, iV 13, iV 14, iV 15, iV 16])]
def p34 (E : Env) : Pt := Aq E 35 17 a34 [rV 73 8, rV 77 10] []
def d34 (E : Env) : Dec :=
 {g := 34, f := 35, p := 2, pts := [p34 E,
  Az E 35 76 6 22 [(4, (.ptr 2 0)), (5, (.ptr 3 0)), (7, (.ptr 4 0)), (8, (.ptr 5 0)), (33, aV 1 3 0 1), (34, (.si .i64 (.lenL (.var 0)))), (35, iV 2)] [rV 73 3, rV 77 0, some z9, some z16, some (.cells 5 (Am [(0, iV 12), (1, iV 13), (2, iV 14), (3, iV 15), (4, iV 16)])), some (.cells 5 (Am [(0, iV 17), (1, iV 18), (2, iV 19), (3, iV 20), (4, iV 21)]))] [] []],
  shs := [{ m := 6, res := (.tuple [z12, iV 5]), post := [none, none], keep := [0, 1] }] }
theorem dB : Ak (EF m34) [6] 20000 (d34 E0) t34 0 = some (jl (d34 E0) [1]) := by kernel_rfl
theorem fZ : Ak (EF m34) [6] 20000 (d34 E0) t34 1 = some (jl (d34 E0) [1, 1, 1, 1, 1, 1, 1, 1, 1, 1, 1, 1, 1, 1, 1, 1, 1, 1, 1, 1]) := by kernel_rfl
theorem c34 : AB (EF m34) [6] 20000 (d34 E0) t34 := dk2 rfl dB fZ
def m35 (E : Env) : List Sm := (d34 E).smL a34 (p34 E) 0 (d34 E).shs ++ m34 E
def a35 : List AV := [(.ptr 0 0), (.agg [iV 3, iV 4, iV 5, iV 6, iV 7, iV 8, iV 9, iV 10, iV 11, iV 12])]
def p35 (E : Env) : Pt := Aq E 64 13 a35 [some (.cells 2 (Am [(0, aV 1 10 0 1), (1, (.map 2))])), rV 102 0, some (.dmap 102 4 (.var 2))] []
def d35 (E : Env) : Dec :=
 {g := 35, f := 64, p := 3, pts := [p35 E],
  shs := [{ m := 3, res := (.tuple []), post := [some (.cells 2 (Am [(0, aV 3 10 0 1), (1, (.map 2))])), none, some (.dmap 102 4 (.var 2)), rV 102 0], keep := [] }] }
theorem cn : Ak (EF m35) [] 20000 (d35 E0) t35 0 = some (jl (d35 E0) []) := by kernel_rfl
theorem c35 : AB (EF m35) [] 20000 (d35 E0) t35 := dk1 rfl cn
def m36 (E : Env) : List Sm := (d35 E).smL a35 (p35 E) 0 (d35 E).shs ++ m35 E
def a36 : List AV := [aV 0 1 0 1, (.func (.func 87) [] [(.ptr 1 0), (.ptr 2 0)])]
def z18 : Aj := (.cells 1 (Am [(0, bV 6)]))
def p36 (E : Env) : Pt := Aq E 103 7 a36 [rV 3 0, some z3, some z18] []
def d36 (E : Env) : Dec :=
 {g := 36, f := 103, p := 3, pts := [p36 E,
  Az E 103 19 2 8 [(0, aV 0 1 0 1), (1, (.func (.func 87) [] [(.ptr 1 0), (.ptr 2 0)])), (7, (.si .i64 (.lenL (.var 0)))), (8, iV 2)] [rV 3 0, some z2, some (.cells 1 (Am [(0, bV 7)]))] [] []],
  shs := [{ m := 1, res := iV 0, post := [none, none, none], keep := [0, 1, 2] }] }
theorem cZ : Ak (EF m36) [2] 20000 (d36 E0) t36 0 = some (jl (d36 E0) [1]) := by kernel_rfl
theorem ZK : Ak (EF m36) [2] 20000 (d36 E0) t36 1 = some (jl (d36 E0) [1, 1]) := by kernel_rfl
theorem c36 : AB (EF m36) [2] 20000 (d36 E0) t36 := dk2 rfl cZ ZK
def m37 (E : Env) : List Sm := (d36 E).smL a36 (p36 E) 0 (d36 E).shs ++ m36 E
def a37 : List AV := [aV 0 1 0 1, (.func (.func 87) [] [(.ptr 1 0), (.ptr 2 0)])]
def p37 (E : Env) : Pt := Aq E 86 7 a37 [rV 3 0, some z3, some z18] []
def d37 (E : Env) : Dec :=
 {g := 37, f := 86, p := 3, pts := [p37 E,
  Az E 86 42 5 9 [(0, aV 0 1 0 1), (1, (.func (.func 87) [] [(.ptr 1 0), (.ptr 2 0)])), (5, iV 2), (6, iV 3)] [rV 3 0, some z9, some (.cells 1 (Am [(0, bV 8)]))] [] []],
  shs := [{ m := 2, res := aV 0 1 0 1, post := [rV 3 0, none, none], keep := [1, 2] }] }
theorem fi : Ak (EF m37) [5] 20000 (d37 E0) t37 0 = some (jl (d37 E0) [1]) := by kernel_rfl
theorem ZI : Ak (EF m37) [5] 20000 (d37 E0) t37 1 = some (jl (d37 E0) [1, 1, 1, 1]) := by kernel_rfl
theorem c37 : AB (EF m37) [5] 20000 (d37 E0) t37 := dk2 rfl fi ZI
def m38 (E : Env) : List Sm := (d37 E).smL a37 (p37 E) 0 (d37 E).shs ++ m37 E
def z19 : AV := (.agg [iV 16, iV 17, iV 18, iV 19, iV 20, iV 21, iV 22, iV 23, iV 24, iV 25])
def a38 : List AV := [(.ptr 0 0), z19, bV 26]
def z20 : Aj := (.cells 14 (Am [(0, sV 0), (1, dV 75 1), (2, dV 69 2), (3, dV 64 3), (4, sV 4), (5, dV 75 5), (6, dV 69 6), (7, dV 64 7), (8, sV 8), (9, aV 1 1 9 10), (10, sV 11), (11, aV 2 1 12 13), (12, iV 14), (13, iV 15)]))
def p38 (E : Env) : Pt := Aq E 68 27 a38 [some z20, rV 3 9, rV 3 12] []
def d38 (E : Env) : Dec :=
 {g := 38, f := 68, p := 3, pts := [p38 E],
  shs := [{ m := 4, res := (.tuple [aV 3 1 0 1, aV 4 1 2 3]), post := [none, none, none, rV 3 0, rV 3 2], keep := [0, 1, 2] }] }
theorem ga : Ak (EF m38) [] 20000 (d38 E0) t38 0 = some (jl (d38 E0) []) := by kernel_rfl
theorem c38 : AB (EF m38) [] 20000 (d38 E0) t38 := dk1 rfl ga
def m39 (E : Env) : List Sm := (d38 E).smL a38 (p38 E) 0 (d38 E).shs ++ m38 E
def a39 : List AV := [z14]
def p39 (E : Env) : Pt := Aq E 67 9 a39 [] []
def d39 (E : Env) : Dec :=
 {g := 39, f := 67, p := 0, pts := [p39 E],
  shs := [{ m := 3, res := (.agg [iV 0, sV 1, sV 2]), post := [], keep := [] }] }
theorem e9 : Ak (EF m39) [] 20000 (d39 E0) t39 0 = some (jl (d39 E0) []) := by kernel_rfl
theorem c39 : AB (EF m39) [] 20000 (d39 E0) t39 := dk1 rfl e9
def m40 (E : Env) : List Sm := (d39 E).smL a39 (p39 E) 0 (d39 E).shs ++ m39 E
def a40 : List AV := [aV 0 1 0 1, (.func (.func 101) [] [(.ptr 1 0), (.ptr 2 0), (.ptr 3 0)])]
def p40 (E : Env) : Pt := Aq E 103 11 a40 [rV 3 0, some z3, some (.cells 4 (Am [(0, sV 6), (1, dV 75 7), (2, dV 69 8), (3, dV 64 9)])), some (.cells 1 (Am [(0, iV 10)]))] []
def d40 (E : Env) : Dec :=
 {g := 40, f := 103, p := 4, pts := [p40 E,
  Az E 103 19 2 12 [(0, aV 0 1 0 1), (1, (.func (.func 101) [] [(.ptr 1 0), (.ptr 2 0), (.ptr 3 0)])), (7, (.si .i64 (.lenL (.var 0)))), (8, iV 2)] [rV 3 0, some z2, some z17, some (.cells 1 (Am [(0, iV 11)]))] [] []],
  shs := [{ m := 1, res := iV 0, post := [none, none, none, none], keep := [0, 1, 2, 3] }] }
theorem gd : Ak (EF m40) [2] 20000 (d40 E0) t40 0 = some (jl (d40 E0) [1]) := by kernel_rfl
theorem dY : Ak (EF m40) [2] 20000 (d40 E0) t40 1 = some (jl (d40 E0) [1]) := by kernel_rfl
theorem c40 : AB (EF m40) [2] 20000 (d40 E0) t40 := dk2 rfl gd dY
def m41 (E : Env) : List Sm := (d40 E).smL a40 (p40 E) 0 (d40 E).shs ++ m40 E
def a41 : List AV := [z4, aV 0 1 4 5, (.agg [sV 6, dV 75 7, dV 69 8, dV 64 9]), aV 1 1 10 11]
def p41 (E : Env) : Pt := Aq E 84 12 a41 [rV 3 4, rV 3 10] []
def d41 (E : Env) : Dec :=
 {g := 41, f := 84, p := 2, pts := [p41 E,
  Az E 84 26 2 13 [(3, aV 1 1 0 1), (4, (.ptr 2 0)), (6, (.ptr 3 0)), (13, aV 0 1 2 3), (14, (.si .i64 (.lenL (.var 2)))), (15, iV 4)] [rV 3 2, rV 3 0, some (.cells 4 (Am [(0, sV 5), (1, dV 75 6), (2, dV 69 7), (3, dV 64 8)])), some (.cells 4 (Am [(0, sV 9), (1, dV 75 10), (2, dV 69 11), (3, dV 64 12)]))] [] []],
  shs := [{ m := 2, res := (.tuple [iV 0, bV 1]), post := [none, none], keep := [0, 1] }] }
theorem fD : Ak (EF m41) [2] 20000 (d41 E0) t41 0 = some (jl (d41 E0) [1]) := by kernel_rfl
theorem ZS : Ak (EF m41) [2] 20000 (d41 E0) t41 1 = some (jl (d41 E0) [1]) := by kernel_rfl
theorem c41 : AB (EF m41) [2] 20000 (d41 E0) t41 := dk2 rfl fD ZS
def m42 (E : Env) : List Sm := (d41 E).smL a41 (p41 E) 0 (d41 E).shs ++ m41 E
def a42 : List AV := [(.ptr 0 0), z19]
def p42 (E : Env) : Pt := Aq E 65 26 a42 [some z20, rV 3 9, rV 3 12] []
def d42 (E : Env) : Dec :=
 {g := 42, f := 65, p := 3, pts := [p42 E],
  shs := [{ m := 2, res := (.tuple [iV 0, iV 1]), post := [none, none, none], keep := [0, 1, 2] }] }
theorem cC : Ak (EF m42) [] 20000 (d42 E0) t42 0 = some (jl (d42 E0) []) := by kernel_rfl
theorem c42 : AB (EF m42) [] 20000 (d42 E0) t42 := dk1 rfl cC
def m43 (E : Env) : List Sm := (d42 E).smL a42 (p42 E) 0 (d42 E).shs ++ m42 E
def a43 : List AV := [z12, z13]
def p43 (E : Env) : Pt := Aq E 36 9 a43 [] []
def d43 (E : Env) : Dec :=
 {g := 43, f := 36, p := 0, pts := [p43 E],
  shs := [{ m := 2, res := (.agg [sV 0, (.asl 0 1 (.lenL (.var 1)) (.bc false))]), post := [rV 3 1], keep := [] }] }
theorem aX : Ak (EF m43) [] 20000 (d43 E0) t43 0 = some (jl (d43 E0) []) := by kernel_rfl
theorem c43 : AB (EF m43) [] 20000 (d43 E0) t43 := dk1 rfl aX
def m44 (E : Env) : List Sm := (d43 E).smL a43 (p43 E) 0 (d43 E).shs ++ m43 E
def a44 : List AV := [(.ptr 0 0), z19, (.func (.func 64) [(.ptr 3 0)] [])]
def p44 (E : Env) : Pt := Aq E 44 29 a44 [some z20, rV 3 9, rV 3 12, some (.cells 2 (Am [(0, aV 4 10 26 27), (1, (.map 5))])), rV 102 26, some (.dmap 102 4 (.var 28))] []
def z21 : Aj := (.cells 14 (Am [(0, sV 6), (1, dV 75 7), (2, dV 69 8), (3, dV 64 9), (4, sV 10), (5, dV 75 11), (6, dV 69 12), (7, dV 64 13), (8, sV 14), (9, aV 1 1 15 16), (10, sV 17), (11, aV 2 1 18 19), (12, iV 20), (13, iV 21)]))
def z22 : Aj := (.cells 2 (Am [(0, aV 11 10 22 23), (1, (.map 5))]))
def z23 : Aj := (.cells 1 (Am [(0, (.ptr 0 0))]))
def z24 : Aj := (.cells 10 (Am [(0, iV 25), (1, iV 26), (2, iV 27), (3, iV 28), (4, iV 29), (5, iV 30), (6, iV 31), (7, iV 32), (8, iV 33), (9, iV 34)]))
def z25 : Aj := (.cells 1 (Am [(0, (.func (.func 64) [(.ptr 3 0)] []))]))
def z26 : Aj := (.cells 14 (Am [(0, sV 8), (1, dV 75 9), (2, dV 69 10), (3, dV 64 11), (4, sV 12), (5, dV 75 13), (6, dV 69 14), (7, dV 64 15), (8, sV 16), (9, aV 1 1 17 18), (10, sV 19), (11, aV 2 1 20 21), (12, iV 22), (13, iV 23)]))
def z27 : Aj := (.cells 2 (Am [(0, aV 11 10 24 25), (1, (.map 5))]))
def z28 : Aj := (.cells 10 (Am [(0, iV 27), (1, iV 28), (2, iV 29), (3, iV 30), (4, iV 31), (5, iV 32), (6, iV 33), (7, iV 34), (8, iV 35), (9, iV 36)]))
def d44 (E : Env) : Dec :=
 {g := 44, f := 44, p := 6, pts := [p44 E,
  Az E 44 97 8 35 [(3, (.ptr 6 0)), (4, (.ptr 7 0)), (9, (.func (.func 66) [] [(.ptr 6 0), (.ptr 8 0), (.ptr 7 0)])), (11, aV 9 1 0 1), (55, aV 10 1 2 3), (56, iV 4), (57, iV 5)] [some z21, rV 3 15, rV 3 18, some z22, none, some (.dmap 102 4 (.var 24)), some z23, some z24, some z25, rV 3 0, rV 3 2, rV 102 22] [] [],
  Az E 44 97 11 37 [(3, (.ptr 6 0)), (4, (.ptr 7 0)), (9, (.func (.func 66) [] [(.ptr 6 0), (.ptr 8 0), (.ptr 7 0)])), (11, aV 9 1 0 1), (13, iV 2), (55, aV 10 1 3 4), (56, iV 5), (57, iV 6), (61, aV 9 1 0 1), (62, (.si .i64 (.lenL (.var 0)))), (63, iV 7)] [some z26, rV 3 17, rV 3 20, some z27, none, some (.dmap 102 4 (.var 26)), some z23, some z28, some z25, rV 3 0, rV 3 3, rV 102 24] [] [],
  Az E 44 97 18 35 [(9, (.func (.func 66) [] [(.ptr 6 0), (.ptr 7 0), (.ptr 8 0)])), (10, aV 9 1 0 1), (79, aV 10 1 2 3), (80, iV 4), (81, iV 5)] [some z21, rV 3 15, rV 3 18, some z22, none, some (.dmap 102 4 (.var 24)), some z23, some z25, some z24, rV 3 0, rV 3 2, rV 102 22] [] [],
  Az E 44 97 21 37 [(9, (.func (.func 66) [] [(.ptr 6 0), (.ptr 7 0), (.ptr 8 0)])), (10, aV 9 1 0 1), (17, iV 2), (79, aV 10 1 3 4), (80, iV 5), (81, iV 6), (85, aV 9 1 0 1), (86, (.si .i64 (.lenL (.var 0)))), (87, iV 7)] [some z26, rV 3 17, rV 3 20, some z27, none, some (.dmap 102 4 (.var 26)), some z23, some z25, some z28, rV 3 0, rV 3 3, rV 102 24] [] []],
  shs := [{ m := 20, res := bV 0, post := [some (.cells 14 (Am [(0, sV 1), (1, dV 75 2), (2, dV 69 3), (3, dV 64 4), (4, sV 5), (5, dV 75 6), (6, dV 69 7), (7, dV 64 8), (8, sV 9), (9, aV 6 1 10 11), (10, sV 12), (11, aV 7 1 13 14), (12, iV 15), (13, iV 16)])), none, none, some (.cells 2 (Am [(0, aV 8 10 17 18), (1, (.map 5))])), none, some (.dmap 102 4 (.var 19)), rV 3 10, rV 3 13, rV 102 17], keep := [] }] }
theorem dG : Ak (EF m44) [8, 11, 18, 21] 20000 (d44 E0) t44 0 = some (jl (d44 E0) [1]) := by kernel_rfl
theorem dy : Ak (EF m44) [8, 11, 18, 21] 20000 (d44 E0) t44 1 = some (jl (d44 E0) [2, 3]) := by kernel_rfl
theorem cJ : Ak (EF m44) [8, 11, 18, 21] 20000 (d44 E0) t44 2 = some (jl (d44 E0) [2, 2, 1]) := by kernel_rfl
theorem ZJ : Ak (EF m44) [8, 11, 18, 21] 20000 (d44 E0) t44 3 = some (jl (d44 E0) [4]) := by kernel_rfl
theorem eE : Ak (EF m44) [8, 11, 18, 21] 20000 (d44 E0) t44 4 = some (jl (d44 E0) [4, 4, 3]) := by kernel_rfl
theorem c44 : AB (EF m44) [8, 11, 18, 21] 20000 (d44 E0) t44 := dk5 rfl dG dy cJ ZJ eE
def m45 (E : Env) : List Sm := (d44 E).smL a44 (p44 E) 0 (d44 E).shs ++ m44 E
def a45 : List AV := [aV 0 10 0 1, iV 2, (.func (.func 44) [(.ptr 1 0)] [])]
def p45 (E : Env) : Pt := Aq E 43 19 a45 [rV 102 0, some (.cells 14 (Am [(0, sV 3), (1, dV 75 4), (2, dV 69 5), (3, dV 64 6), (4, sV 7), (5, dV 75 8), (6, dV 69 9), (7, dV 64 10), (8, sV 11), (9, aV 2 1 12 13), (10, sV 14), (11, aV 3 1 15 16), (12, iV 17), (13, iV 18)])), rV 3 12, rV 3 15] []
def d45 (E : Env) : Dec :=
 {g := 45, f := 43, p := 4, pts := [p45 E,
  Az E 43 65 3 23 [(1, iV 0), (2, (.func (.func 44) [(.ptr 1 0)] [])), (8, (.ptr 4 0)), (15, aV 0 10 1 2), (16, (.si .i64 (.lenL (.var 1)))), (17, iV 3)] [rV 102 1, some (.cells 14 (Am [(0, sV 4), (1, dV 75 5), (2, dV 69 6), (3, dV 64 7), (4, sV 8), (5, dV 75 9), (6, dV 69 10), (7, dV 64 11), (8, sV 12), (9, aV 2 1 13 14), (10, sV 15), (11, aV 3 1 16 17), (12, iV 18), (13, iV 19)])), rV 3 13, rV 3 16, some (.cells 2 (Am [(0, aV 6 10 20 21), (1, (.map 5))])), some (.dmap 102 4 (.var 22)), rV 102 20] [] [],
  Az E 43 65 8 22 [(1, iV 0), (2, (.func (.func 44) [(.ptr 1 0)] [])), (8, (.ptr 4 0)), (11, iV 1)] [rV 102 2, some (.cells 14 (Am [(0, sV 3), (1, dV 75 4), (2, dV 69 5), (3, dV 64 6), (4, sV 7), (5, dV 75 8), (6, dV 69 9), (7, dV 64 10), (8, sV 11), (9, aV 7 1 12 13), (10, sV 14), (11, aV 8 1 15 16), (12, iV 17), (13, iV 18)])), none, none, some (.cells 2 (Am [(0, aV 6 10 19 20), (1, (.map 5))])), some (.dmap 102 4 (.var 21)), rV 102 19, rV 3 12, rV 3 15] [] []],
  shs := [{ m := 19, res := (.tuple [aV 4 10 0 1, bV 2]), post := [none, some (.cells 14 (Am [(0, sV 3), (1, dV 75 4), (2, dV 69 5), (3, dV 64 6), (4, sV 7), (5, dV 75 8), (6, dV 69 9), (7, dV 64 10), (8, sV 11), (9, aV 5 1 12 13), (10, sV 14), (11, aV 6 1 15 16), (12, iV 17), (13, iV 18)])), none, none, rV 102 0, rV 3 12, rV 3 15], keep := [0] }] }
theorem gx : Ak (EF m45) [3, 8] 20000 (d45 E0) t45 0 = some (jl (d45 E0) [1]) := by kernel_rfl
theorem fQ : Ak (EF m45) [3, 8] 20000 (d45 E0) t45 1 = some (jl (d45 E0) [1, 2]) := by kernel_rfl
theorem cP : Ak (EF m45) [3, 8] 20000 (d45 E0) t45 2 = some (jl (d45 E0) [2]) := by kernel_rfl
theorem c45 : AB (EF m45) [3, 8] 20000 (d45 E0) t45 := dk3 rfl gx fQ cP
def m46 (E : Env) : List Sm := (d45 E).smL a45 (p45 E) 0 (d45 E).shs ++ m45 E
def a46 : List AV := [z4, z6, z7]
def p46 (E : Env) : Pt := Aq E 19 12 a46 [rV 73 8, rV 77 10] []
def d46 (E : Env) : Dec :=
 {g := 46, f := 19, p := 2, pts := [p46 E,
  Az E 19 83 9 18 [(3, (.ptr 2 0)), (4, (.ptr 3 0)), (5, (.ptr 4 0)), (6, (.ptr 5 0)), (13, aV 7 10 0 1), (37, aV 6 5 2 3), (38, iV 4), (39, iV 5)] [rV 73 6, rV 77 7, some z16, some (.cells 4 (Am [(0, sV 12), (1, dV 75 13), (2, dV 69 14), (3, dV 64 15)])), some (.cells 2 (Am [(0, aV 0 2 6 16), (1, aV 1 3 7 17)])), some (.cells 6 (Am [(0, (.str 0 0)), (1, .slice0), (2, (.str 0 0)), (3, .slice0), (4, (.int .i64 0)), (5, (.int .i64 0))])), rV 87 2, rV 102 0] [] []],
  shs := [{ m := 10, res := (.tuple [(.agg [sV 0, aV 2 1 1 2, sV 3, aV 3 1 4 5, iV 6, iV 7]), bV 8, iV 9]), post := [none, none, rV 3 1, rV 3 4], keep := [0, 1] }] }
theorem gc : Ak (EF m46) [9] 20000 (d46 E0) t46 0 = some (jl (d46 E0) [1]) := by kernel_rfl
theorem gi : Ak (EF m46) [9] 20000 (d46 E0) t46 1 = some (jl (d46 E0) [1, 1]) := by kernel_rfl
theorem c46 : AB (EF m46) [9] 20000 (d46 E0) t46 := dk2 rfl gc gi
def m47 (E : Env) : List Sm := (d46 E).smL a46 (p46 E) 0 (d46 E).shs ++ m46 E
def p47 (E : Env) : Pt := Kw E 6 [26]
def z29 : Aj := (.cells 2 (Am [(0, aV 2 2 5 6), (1, aV 3 3 7 8)]))
def d47 (E : Env) : Dec :=
 {g := 47, f := 6, p := 0, pts := [p47 E,
  Az E 6 195 3 6 [(1, (.ptr 0 0)), (3, iV 0), (4, iV 1)] [some z3] [] [],
  Az E 6 195 14 9 [(1, (.ptr 0 0)), (5, (.ptr 1 0)), (7, iV 0)] [some z5, some z29, rV 73 5, rV 77 7] [] [],
  Az E 6 195 19 9 [(1, (.ptr 0 0)), (5, (.ptr 1 0)), (8, iV 0)] [some z5, some z29, rV 73 5, rV 77 7] [] [],
  Az E 6 195 24 9 [(1, (.ptr 0 0)), (5, (.ptr 1 0)), (9, iV 0)] [some z5, some z29, rV 73 5, rV 77 7] [] [],
  Az E 6 195 27 10 [(1, (.ptr 0 0)), (5, (.ptr 1 0)), (9, iV 0), (10, iV 1)] [some z3, some (.cells 2 (Am [(0, aV 2 2 6 7), (1, aV 3 3 8 9)])), rV 73 6, rV 77 8] [] []],
  shs := [Kb] }
theorem dH : Ak (EF m47) [3, 14, 19, 24, 27] 20000 (d47 E0) t47 0 = some (jl (d47 E0) [1]) := by kernel_rfl
theorem gU : Ak (EF m47) [3, 14, 19, 24, 27] 20000 (d47 E0) t47 1 = some (jl (d47 E0) [1, 1, 1, 2]) := by kernel_rfl
theorem aB : Ak (EF m47) [3, 14, 19, 24, 27] 20000 (d47 E0) t47 2 = some (jl (d47 E0) [2, 3]) := by kernel_rfl
theorem bJ : Ak (EF m47) [3, 14, 19, 24, 27] 20000 (d47 E0) t47 3 = some (jl (d47 E0) [3, 4]) := by kernel_rfl
theorem fE : Ak (EF m47) [3, 14, 19, 24, 27] 20000 (d47 E0) t47 4 = some (jl (d47 E0) [5]) := by kernel_rfl
theorem cG : Ak (EF m47) [3, 14, 19, 24, 27] 20000 (d47 E0) t47 5 = some (jl (d47 E0) [5, 5, 5, 5, 4]) := by kernel_rfl
theorem c47 : AB (EF m47) [3, 14, 19, 24, 27] 20000 (d47 E0) t47 := dk6 rfl dH gU aB bJ fE cG
end Go.Proofs.Ytpcdkfgmpekeeaa.convertIdentities

