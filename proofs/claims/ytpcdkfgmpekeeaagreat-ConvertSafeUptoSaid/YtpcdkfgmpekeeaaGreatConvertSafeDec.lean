/- What is proved: that the functions which the law ConvertSafe reaches are the plain functions over data whose trees of tests the text before writes out (the kernel runs the evaluator over each place). Conditions: the program is the given one. -/
import Derived.Test.YtpcdkfgmpekeeaaGreatProg
import Derived.KernelRfl
import Derived.Test.YtpcdkfgmpekeeaaGreatConvertSafeTree
import Derived.Test.YtpcdkfgmpekeeaaGreatConvertSafeKnownB
set_option linter.unusedVariables false
set_option linter.unusedSectionVars false
set_option linter.unusedSimpArgs false
namespace Go.Proofs.YtpcdkfgmpekeeaaGreat.convertSafe
open Go.AE Cs
def m0 (E : Env) : List Sm := []
instance pg : Pg Tryz.prog l27 := ⟨trivial⟩
def a0 : List AV := []
def p0 (E : Env) : Pt := Ap E 6 0 a0 [] []
def d0 (E : Env) : Dec :=
 {g := 0, f := 6, p := 0, pts := [p0 E],
  shs := [{ m := 0, res := (.bool true), post := [], keep := [] }] }
theorem pV : Ai (EF m0) [] 20000 (d0 E0) t0 0 = some (jl (d0 E0) []) := by kernel_rfl
theorem c0 : Ay (EF m0) [] 20000 (d0 E0) t0 := dk1 rfl pV
def m1 (E : Env) : List Sm := (d0 E).smL a0 (p0 E) 0 (d0 E).shs ++ m0 E
def a1 : List AV := [sV 0]
def p1 (E : Env) : Pt := Ap E 79 1 a1 [] []
def d1 (E : Env) : Dec :=
 {g := 1, f := 79, p := 0, pts := [p1 E,
  Av E 79 55 4 3 [(15, (.asl 0 1 (.lenL (.var 0)) (.bc false))), (16, iV 1), (17, iV 2)] [rV 5 0] [] []],
  shs := [{ m := 1, res := bV 0, post := [], keep := [] }] }
theorem qb : Ai (EF m1) [4] 20000 (d1 E0) t1 0 = some (jl (d1 E0) [1]) := by kernel_rfl
theorem pQ : Ai (EF m1) [4] 20000 (d1 E0) t1 1 = some (jl (d1 E0) [1, 1, 1, 1]) := by kernel_rfl
theorem c1 : Ay (EF m1) [4] 20000 (d1 E0) t1 := dk2 rfl qb pQ
def m2 (E : Env) : List Sm := (d1 E).smL a1 (p1 E) 0 (d1 E).shs ++ m1 E
def a2 : List AV := [dV 36 0, (.func (.func 99) [] [(.ptr 0 0)])]
def z0 : Ao := (.cells 1 (An [(0, sV 1)]))
def p2 (E : Env) : Pt := Ap E 68 2 a2 [some z0] []
def z1 : Ao := (.cells 1 (An [(0, sV 2)]))
def d2 (E : Env) : Dec :=
 {g := 2, f := 68, p := 1, pts := [p2 E,
  Av E 68 19 2 3 [(0, dV 36 0), (1, (.func (.func 99) [] [(.ptr 0 0)])), (7, (.si .i64 (.lenL (.var 0)))), (8, iV 1)] [some z1] [] []],
  shs := [{ m := 1, res := iV 0, post := [none], keep := [0] }] }
theorem qB : Ai (EF m2) [2] 20000 (d2 E0) t2 0 = some (jl (d2 E0) [1]) := by kernel_rfl
theorem qP : Ai (EF m2) [2] 20000 (d2 E0) t2 1 = some (jl (d2 E0) [1]) := by kernel_rfl
theorem c2 : Ay (EF m2) [2] 20000 (d2 E0) t2 := dk2 rfl qB qP
def m3 (E : Env) : List Sm := (d2 E).smL a2 (p2 E) 0 (d2 E).shs ++ m2 E
def a3 : List AV := [iV 0, iV 1, iV 2, (.func (.func 81) [] [(.ptr 0 0)])]
def z2 : Ao := (.cells 4 (An [(0, sV 3), (1, dV 100 4), (2, dV 36 5), (3, dV 103 6)]))
def p3 (E : Env) : Pt := Ap E 80 7 a3 [some z2] []
def z3 : Ao := (.cells 4 (An [(0, sV 2), (1, dV 100 3), (2, dV 36 4), (3, dV 103 5)]))
def d3 (E : Env) : Dec :=
 {g := 3, f := 80, p := 1, pts := [p3 E,
  Av E 80 28 6 6 [(3, (.func (.func 81) [] [(.ptr 0 0)])), (19, iV 0), (20, iV 1)] [some z3] [] []],
  shs := [{ m := 1, res := iV 0, post := [none], keep := [0] }] }
theorem pR : Ai (EF m3) [6] 20000 (d3 E0) t3 0 = some (jl (d3 E0) [1]) := by kernel_rfl
theorem qO : Ai (EF m3) [6] 20000 (d3 E0) t3 1 = some (jl (d3 E0) [1]) := by kernel_rfl
theorem c3 : Ay (EF m3) [6] 20000 (d3 E0) t3 := dk2 rfl pR qO
def m4 (E : Env) : List Sm := (d3 E).smL a3 (p3 E) 0 (d3 E).shs ++ m3 E
def a4 : List AV := [dV 100 0, (.func (.func 101) [] [(.ptr 0 0)])]
def p4 (E : Env) : Pt := Ap E 66 2 a4 [some z0] []
def d4 (E : Env) : Dec :=
 {g := 4, f := 66, p := 1, pts := [p4 E,
  Av E 66 19 2 3 [(0, dV 100 0), (1, (.func (.func 101) [] [(.ptr 0 0)])), (7, (.si .i64 (.lenL (.var 0)))), (8, iV 1)] [some z1] [] []],
  shs := [{ m := 1, res := iV 0, post := [none], keep := [0] }] }
theorem pT : Ai (EF m4) [2] 20000 (d4 E0) t4 0 = some (jl (d4 E0) [1]) := by kernel_rfl
theorem pX : Ai (EF m4) [2] 20000 (d4 E0) t4 1 = some (jl (d4 E0) [1]) := by kernel_rfl
theorem c4 : Ay (EF m4) [2] 20000 (d4 E0) t4 := dk2 rfl pT pX
def m5 (E : Env) : List Sm := (d4 E).smL a4 (p4 E) 0 (d4 E).shs ++ m4 E
def a5 : List AV := [iV 0, iV 1, iV 2, (.func (.func 83) [] [(.ptr 0 0)])]
def p5 (E : Env) : Pt := Ap E 80 7 a5 [some z2] []
def d5 (E : Env) : Dec :=
 {g := 5, f := 80, p := 1, pts := [p5 E,
  Av E 80 28 6 6 [(3, (.func (.func 83) [] [(.ptr 0 0)])), (19, iV 0), (20, iV 1)] [some z3] [] []],
  shs := [{ m := 1, res := iV 0, post := [none], keep := [0] }] }
theorem pM : Ai (EF m5) [6] 20000 (d5 E0) t5 0 = some (jl (d5 E0) [1]) := by kernel_rfl
theorem qH : Ai (EF m5) [6] 20000 (d5 E0) t5 1 = some (jl (d5 E0) [1]) := by kernel_rfl
theorem c5 : Ay (EF m5) [6] 20000 (d5 E0) t5 := dk2 rfl pM qH
def m6 (E : Env) : List Sm := (d5 E).smL a5 (p5 E) 0 (d5 E).shs ++ m5 E
def a6 : List AV := [dV 103 0, (.agg [sV 1, sV 2, iV 3, sV 4, sV 5, sV 6, iV 7, iV 8, iV 9])]
def p6 (E : Env) : Pt := Ap E 110 10 a6 [] []
def d6 (E : Env) : Dec :=
 {g := 6, f := 110, p := 0, pts := [p6 E,
  Av E 110 19 2 11 [(0, dV 103 0), (3, (.ptr 0 0)), (7, (.si .i64 (.lenL (.var 0)))), (8, iV 1)] [some (.cells 9 (An [(0, sV 2), (1, sV 3), (2, iV 4), (3, sV 5), (4, sV 6), (5, sV 7), (6, iV 8), (7, iV 9), (8, iV 10)]))] [] []],
  shs := [{ m := 1, res := iV 0, post := [], keep := [] }] }
theorem qD : Ai (EF m6) [2] 20000 (d6 E0) t6 0 = some (jl (d6 E0) [1]) := by kernel_rfl
theorem pL : Ai (EF m6) [2] 20000 (d6 E0) t6 1 = some (jl (d6 E0) [1]) := by kernel_rfl
theorem c6 : Ay (EF m6) [2] 20000 (d6 E0) t6 := dk2 rfl qD pL
def m7 (E : Env) : List Sm := (d6 E).smL a6 (p6 E) 0 (d6 E).shs ++ m6 E
def a7 : List AV := [iV 0, iV 1, iV 2, (.func (.func 85) [] [(.ptr 0 0)])]
def p7 (E : Env) : Pt := Ap E 80 7 a7 [some z2] []
def d7 (E : Env) : Dec :=
 {g := 7, f := 80, p := 1, pts := [p7 E,
  Av E 80 28 6 6 [(3, (.func (.func 85) [] [(.ptr 0 0)])), (19, iV 0), (20, iV 1)] [some z3] [] []],
  shs := [{ m := 1, res := iV 0, post := [none], keep := [0] }] }
theorem qF : Ai (EF m7) [6] 20000 (d7 E0) t7 0 = some (jl (d7 E0) [1]) := by kernel_rfl
theorem pK : Ai (EF m7) [6] 20000 (d7 E0) t7 1 = some (jl (d7 E0) [1, 1, 1, 1, 1, 1, 1, 1]) := by kernel_rfl
theorem c7 : Ay (EF m7) [6] 20000 (d7 E0) t7 := dk2 rfl qF pK
def m8 (E : Env) : List Sm := (d7 E).smL a7 (p7 E) 0 (d7 E).shs ++ m7 E
def a8 : List AV := [dV 100 0, (.func (.func 67) [] [(.ptr 0 0)])]
def p8 (E : Env) : Pt := Ap E 66 2 a8 [some z0] []
def d8 (E : Env) : Dec :=
 {g := 8, f := 66, p := 1, pts := [p8 E,
  Av E 66 19 2 3 [(0, dV 100 0), (1, (.func (.func 67) [] [(.ptr 0 0)])), (7, (.si .i64 (.lenL (.var 0)))), (8, iV 1)] [some z1] [] []],
  shs := [{ m := 1, res := iV 0, post := [none], keep := [0] }] }
theorem qK : Ai (EF m8) [2] 20000 (d8 E0) t8 0 = some (jl (d8 E0) [1]) := by kernel_rfl
theorem qk : Ai (EF m8) [2] 20000 (d8 E0) t8 1 = some (jl (d8 E0) [1]) := by kernel_rfl
theorem c8 : Ay (EF m8) [2] 20000 (d8 E0) t8 := dk2 rfl qK qk
def m9 (E : Env) : List Sm := (d8 E).smL a8 (p8 E) 0 (d8 E).shs ++ m8 E
def a9 : List AV := [dV 36 0, (.func (.func 69) [] [(.ptr 0 0)])]
def p9 (E : Env) : Pt := Ap E 68 2 a9 [some z0] []
def d9 (E : Env) : Dec :=
 {g := 9, f := 68, p := 1, pts := [p9 E,
  Av E 68 19 2 3 [(0, dV 36 0), (1, (.func (.func 69) [] [(.ptr 0 0)])), (7, (.si .i64 (.lenL (.var 0)))), (8, iV 1)] [some z1] [] []],
  shs := [{ m := 1, res := iV 0, post := [none], keep := [0] }] }
theorem qi : Ai (EF m9) [2] 20000 (d9 E0) t9 0 = some (jl (d9 E0) [1]) := by kernel_rfl
theorem qm : Ai (EF m9) [2] 20000 (d9 E0) t9 1 = some (jl (d9 E0) [1]) := by kernel_rfl
theorem c9 : Ay (EF m9) [2] 20000 (d9 E0) t9 := dk2 rfl qi qm
def m10 (E : Env) : List Sm := (d9 E).smL a9 (p9 E) 0 (d9 E).shs ++ m9 E
def z4 : AV := (.agg [sV 0, dV 100 1, dV 36 2, dV 103 3])
def z5 : AV := (.agg [sV 4, dV 100 5, dV 36 6, dV 103 7])
def z6 : AV := (.agg [dV 64 8, dV 86 9])
def a10 : List AV := [z4, z5, z6]
def p10 (E : Env) : Pt := Ap E 19 10 a10 [] []
def z7 : Ao := (.cells 4 (An [(0, sV 0), (1, dV 100 1), (2, dV 36 2), (3, dV 103 3)]))
def z8 : Ao := (.cells 4 (An [(0, sV 4), (1, dV 100 5), (2, dV 36 6), (3, dV 103 7)]))
def z9 : Ao := (.cells 2 (An [(0, dV 64 8), (1, dV 86 9)]))
def d10 (E : Env) : Dec :=
 {g := 10, f := 19, p := 0, pts := [p10 E,
  Av E 19 114 7 13 [(0, z4), (1, z5), (2, z6), (3, (.ptr 0 0)), (4, (.ptr 1 0)), (5, (.ptr 2 0)), (7, (.int .i64 490)), (8, (.map 3)), (13, (.map 3)), (14, z4), (15, (.bool true)), (16, (.bool false)), (17, (.bool false)), (18, z5), (19, (.bool true)), (20, (.bool false)), (21, (.bool false)), (22, (.ptr 2 0)), (23, dV 64 8), (24, (.si .i64 (.lenL (.var 8)))), (25, bV 10), (26, (.ptr 2 0)), (27, dV 64 8), (28, (.si .i64 (.lenL (.var 8)))), (29, iV 11)] [some z7, some z8, some z9, some (.dmap 9 4 (.var 12))] [] [],
  Av E 19 114 17 16 [(0, z4), (1, z5), (2, z6), (3, (.ptr 0 0)), (4, (.ptr 1 0)), (5, (.ptr 2 0)), (7, (.int .i64 491)), (8, (.map 3)), (13, (.map 3)), (14, z4), (15, (.bool true)), (16, (.bool false)), (17, (.bool false)), (18, z5), (19, (.bool true)), (20, (.bool false)), (21, (.bool false)), (22, (.ptr 2 0)), (23, dV 64 8), (24, (.si .i64 (.lenL (.var 8)))), (25, bV 10), (26, (.ptr 2 0)), (27, dV 64 8), (28, (.si .i64 (.lenL (.var 8)))), (29, iV 11), (30, bV 12), (57, (.map 3)), (58, (.ptr 2 1)), (59, dV 86 9), (60, (.si .i64 (.lenL (.var 9)))), (61, bV 13), (62, (.ptr 2 1)), (63, dV 86 9), (64, (.si .i64 (.lenL (.var 9)))), (65, iV 14)] [some z7, some z8, some z9, some (.dmap 9 4 (.var 15))] [] []],
  shs := [{ m := 2, res := (.tuple [iV 0, iV 1]), post := [], keep := [] }] }
theorem mI : Ai (EF m10) [7, 17] 20000 (d10 E0) t10 0 = some (jl (d10 E0) [1]) := by kernel_rfl
theorem pC : Ai (EF m10) [7, 17] 20000 (d10 E0) t10 1 = some (jl (d10 E0) [1, 1, 2]) := by kernel_rfl
theorem oz : Ai (EF m10) [7, 17] 20000 (d10 E0) t10 2 = some (jl (d10 E0) [2, 2, 2, 2, 2, 2, 2, 2]) := by kernel_rfl
theorem c10 : Ay (EF m10) [7, 17] 20000 (d10 E0) t10 := dk3 rfl mI pC oz
def m11 (E : Env) : List Sm := (d10 E).smL a10 (p10 E) 0 (d10 E).shs ++ m10 E
def a11 : List AV := [(.ptr 0 0), (.agg [iV 3, iV 4, iV 5, iV 6, iV 7])]
def p11 (E : Env) : Pt := Ap E 70 8 a11 [some (.cells 2 (An [(0, aV 1 5 0 1), (1, (.map 2))])), rV 73 0, some (.dmap 73 4 (.var 2))] []
def d11 (E : Env) : Dec :=
 {g := 11, f := 70, p := 3, pts := [p11 E],
  shs := [{ m := 3, res := (.tuple []), post := [some (.cells 2 (An [(0, aV 3 5 0 1), (1, (.map 2))])), none, some (.dmap 73 4 (.var 2)), rV 73 0], keep := [] }] }
theorem mN : Ai (EF m11) [] 20000 (d11 E0) t11 0 = some (jl (d11 E0) []) := by kernel_rfl
theorem c11 : Ay (EF m11) [] 20000 (d11 E0) t11 := dk1 rfl mN
def m12 (E : Env) : List Sm := (d11 E).smL a11 (p11 E) 0 (d11 E).shs ++ m11 E
def a12 : List AV := [aV 0 3 0 1, (.func (.func 105) [] [(.ptr 1 0)])]
def p12 (E : Env) : Pt := Ap E 104 3 a12 [rV 166 0, some z1] []
def d12 (E : Env) : Dec :=
 {g := 12, f := 104, p := 2, pts := [p12 E,
  Av E 104 19 2 4 [(0, aV 0 3 0 1), (1, (.func (.func 105) [] [(.ptr 1 0)])), (7, (.si .i64 (.lenL (.var 0)))), (8, iV 2)] [rV 166 0, some (.cells 1 (An [(0, sV 3)]))] [] []],
  shs := [{ m := 1, res := iV 0, post := [none, none], keep := [0, 1] }] }
theorem lQ : Ai (EF m12) [2] 20000 (d12 E0) t12 0 = some (jl (d12 E0) [1]) := by kernel_rfl
theorem eh : Ai (EF m12) [2] 20000 (d12 E0) t12 1 = some (jl (d12 E0) [1]) := by kernel_rfl
theorem c12 : Ay (EF m12) [2] 20000 (d12 E0) t12 := dk2 rfl lQ eh
def m13 (E : Env) : List Sm := (d12 E).smL a12 (p12 E) 0 (d12 E).shs ++ m12 E
def a13 : List AV := [dV 36 0]
def p13 (E : Env) : Pt := Ap E 87 1 a13 [] []
def d13 (E : Env) : Dec :=
 {g := 13, f := 87, p := 0, pts := [p13 E,
  Av E 87 51 5 4 [(4, (.ptr 0 0)), (12, dV 36 0), (13, (.si .i64 (.lenL (.var 0)))), (14, iV 1)] [some (.cells 2 (An [(0, (.bool true)), (1, aV 1 3 2 3)])), rV 166 2] [] []],
  shs := [{ m := 0, res := (.tuple [.ptr0, (.int .i64 2)]), post := [], keep := [] }, { m := 2, res := (.tuple [(.ptr 0 0), (.int .i64 0)]), post := [some (.cells 2 (An [(0, (.bool true)), (1, aV 1 3 0 1)])), rV 166 0], keep := [] }] }
theorem kh : Ai (EF m13) [5] 20000 (d13 E0) t13 0 = some (jl (d13 E0) [1]) := by kernel_rfl
theorem mJ : Ai (EF m13) [5] 20000 (d13 E0) t13 1 = some (jl (d13 E0) [1]) := by kernel_rfl
theorem c13 : Ay (EF m13) [5] 20000 (d13 E0) t13 := dk2 rfl kh mJ
def m14 (E : Env) : List Sm := (d13 E).smL a13 (p13 E) 0 (d13 E).shs ++ m13 E
def a14 : List AV := [.ptr0, dV 3 0]
def p14 (E : Env) : Pt := Ap E 88 1 a14 [] []
def d14 (E : Env) : Dec :=
 {g := 14, f := 88, p := 0, pts := [p14 E],
  shs := [{ m := 0, res := (.int .i64 1), post := [], keep := [] }] }
theorem pc : Ai (EF m14) [6, 12] 20000 (d14 E0) t14 0 = some (jl (d14 E0) []) := by kernel_rfl
theorem c14 : Ay (EF m14) [6, 12] 20000 (d14 E0) t14 := dk1 rfl pc
def m15 (E : Env) : List Sm := (d14 E).smL a14 (p14 E) 0 (d14 E).shs ++ m14 E
def a15 : List AV := [(.ptr 0 0), dV 3 3]
def z10 : Ao := (.cells 2 (An [(0, bV 0), (1, aV 1 3 1 2)]))
def p15 (E : Env) : Pt := Ap E 88 4 a15 [some z10, rV 166 1] []
def d15 (E : Env) : Dec :=
 {g := 15, f := 88, p := 2, pts := [p15 E,
  Av E 88 60 6 5 [(0, (.ptr 0 0)), (1, dV 3 0), (21, dV 3 0), (22, (.si .i64 (.lenL (.var 0)))), (23, iV 1)] [some (.cells 2 (An [(0, bV 2), (1, aV 1 3 3 4)])), rV 166 3] [] [],
  Av E 88 60 12 6 [(0, (.ptr 0 0)), (44, dV 3 0), (45, iV 1), (46, iV 2)] [some (.cells 2 (An [(0, bV 3), (1, aV 1 3 4 5)])), rV 166 4] [] []],
  shs := [{ m := 2, res := iV 0, post := [none, rV 166 1], keep := [0] }] }
theorem gr : Ai (EF m15) [6, 12] 20000 (d15 E0) t15 0 = some (jl (d15 E0) [1]) := by kernel_rfl
theorem nS : Ai (EF m15) [6, 12] 20000 (d15 E0) t15 1 = some (jl (d15 E0) [1, 2]) := by kernel_rfl
theorem nu : Ai (EF m15) [6, 12] 20000 (d15 E0) t15 2 = some (jl (d15 E0) [2]) := by kernel_rfl
theorem c15 : Ay (EF m15) [6, 12] 20000 (d15 E0) t15 := dk3 rfl gr nS nu
def m16 (E : Env) : List Sm := (d15 E).smL a15 (p15 E) 0 (d15 E).shs ++ m15 E
def z11 : AV := (.agg [iV 0, iV 1, iV 2, iV 3, iV 4])
def z12 : AV := (.agg [sV 5, dV 100 6, dV 36 7, dV 103 8])
def a16 : List AV := [z11, z12]
def p16 (E : Env) : Pt := Ap E 61 9 a16 [] []
def d16 (E : Env) : Dec :=
 {g := 16, f := 61, p := 0, pts := [p16 E],
  shs := [{ m := 0, res := .ptr0, post := [], keep := [] }, { m := 3, res := (.ptr 0 0), post := [some (.cells 2 (An [(0, (.bool true)), (1, (.asl 1 3 (.var 0) (.var 1)))])), rV 166 2], keep := [] }] }
theorem nR : Ai (EF m16) [] 20000 (d16 E0) t16 0 = some (jl (d16 E0) []) := by kernel_rfl
theorem c16 : Ay (EF m16) [] 20000 (d16 E0) t16 := dk1 rfl nR
def m17 (E : Env) : List Sm := (d16 E).smL a16 (p16 E) 0 (d16 E).shs ++ m16 E
def z13 : AV := (.agg [sV 0, sV 1, iV 2, sV 3, sV 4, sV 5, iV 6, iV 7, iV 8])
def a17 : List AV := [.ptr0, z13]
def p17 (E : Env) : Pt := Ap E 62 9 a17 [] []
def d17 (E : Env) : Dec :=
 {g := 17, f := 62, p := 0, pts := [p17 E],
  shs := [{ m := 0, res := (.tuple [(.bool false), (.int .i64 1)]), post := [], keep := [] }] }
theorem eX : Ai (EF m17) [] 20000 (d17 E0) t17 0 = some (jl (d17 E0) []) := by kernel_rfl
theorem c17 : Ay (EF m17) [] 20000 (d17 E0) t17 := dk1 rfl eX
def m18 (E : Env) : List Sm := (d17 E).smL a17 (p17 E) 0 (d17 E).shs ++ m17 E
def a18 : List AV := [(.ptr 0 0), sV 3]
def p18 (E : Env) : Pt := Ap E 90 4 a18 [some z10, rV 166 1] []
def d18 (E : Env) : Dec :=
 {g := 18, f := 90, p := 2, pts := [p18 E],
  shs := [{ m := 2, res := (.tuple [iV 0, iV 1]), post := [none, none], keep := [0, 1] }] }
theorem lU : Ai (EF m18) [] 20000 (d18 E0) t18 0 = some (jl (d18 E0) []) := by kernel_rfl
theorem c18 : Ay (EF m18) [] 20000 (d18 E0) t18 := dk1 rfl lU
def m19 (E : Env) : List Sm := (d18 E).smL a18 (p18 E) 0 (d18 E).shs ++ m18 E
def z14 : AV := (.agg [sV 3, sV 4, iV 5, sV 6, sV 7, sV 8, iV 9, iV 10, iV 11])
def a19 : List AV := [(.ptr 0 0), z14]
def p19 (E : Env) : Pt := Ap E 62 12 a19 [some z10, rV 166 1] []
def d19 (E : Env) : Dec :=
 {g := 19, f := 62, p := 2, pts := [p19 E],
  shs := [{ m := 2, res := (.tuple [bV 0, iV 1]), post := [none, none], keep := [0, 1] }] }
theorem fU : Ai (EF m19) [] 20000 (d19 E0) t19 0 = some (jl (d19 E0) []) := by kernel_rfl
theorem c19 : Ay (EF m19) [] 20000 (d19 E0) t19 := dk1 rfl fU
def m20 (E : Env) : List Sm := (d19 E).smL a19 (p19 E) 0 (d19 E).shs ++ m19 E
def a20 : List AV := [z11, z12]
def p20 (E : Env) : Pt := Ap E 36 9 a20 [] []
def d20 (E : Env) : Dec :=
 {g := 20, f := 36, p := 0, pts := [p20 E,
  Av E 36 46 3 10 [(2, (.ptr 0 0)), (3, (.ptr 1 0)), (4, .slice0), (5, .ptr0), (14, dV 103 0), (15, (.si .i64 (.lenL (.var 0)))), (16, iV 1)] [some (.cells 5 (An [(0, iV 2), (1, iV 3), (2, iV 4), (3, iV 5), (4, iV 6)])), some (.cells 4 (An [(0, sV 7), (1, dV 100 8), (2, dV 36 9), (3, dV 103 0)]))] [] [],
  Av E 36 46 3 15 [(2, (.ptr 0 0)), (3, (.ptr 1 0)), (4, aV 4 1 0 1), (5, (.ptr 2 0)), (14, dV 103 2), (15, (.si .i64 (.lenL (.var 2)))), (16, iV 3)] [some (.cells 5 (An [(0, iV 4), (1, iV 5), (2, iV 6), (3, iV 7), (4, iV 8)])), some (.cells 4 (An [(0, sV 9), (1, dV 100 10), (2, dV 36 11), (3, dV 103 2)])), some (.cells 2 (An [(0, (.bool true)), (1, (.asl 3 3 (.var 12) (.var 13)))])), rV 166 14, rV 3 0] [] []],
  shs := [{ m := 2, res := aV 0 1 0 1, post := [rV 3 0], keep := [] }] }
theorem kU : Ai (EF m20) [3] 20000 (d20 E0) t20 0 = some (jl (d20 E0) [1, 2]) := by kernel_rfl
theorem pA : Ai (EF m20) [3] 20000 (d20 E0) t20 1 = some (jl (d20 E0) [1]) := by kernel_rfl
theorem kP : Ai (EF m20) [3] 20000 (d20 E0) t20 2 = some (jl (d20 E0) [2, 2, 2]) := by kernel_rfl
theorem c20 : Ay (EF m20) [3] 20000 (d20 E0) t20 := dk3 rfl kU pA kP
def m21 (E : Env) : List Sm := (d20 E).smL a20 (p20 E) 0 (d20 E).shs ++ m20 E
def a21 : List AV := [.ptr0, z13]
def p21 (E : Env) : Pt := Ap E 64 9 a21 [] []
def d21 (E : Env) : Dec :=
 {g := 21, f := 64, p := 0, pts := [p21 E],
  shs := [{ m := 0, res := (.int .i64 1), post := [], keep := [] }] }
theorem lh : Ai (EF m21) [] 20000 (d21 E0) t21 0 = some (jl (d21 E0) []) := by kernel_rfl
theorem c21 : Ay (EF m21) [] 20000 (d21 E0) t21 := dk1 rfl lh
def m22 (E : Env) : List Sm := (d21 E).smL a21 (p21 E) 0 (d21 E).shs ++ m21 E
def a22 : List AV := [(.ptr 0 0), z14]
def p22 (E : Env) : Pt := Ap E 64 12 a22 [some z10, rV 166 1] []
def d22 (E : Env) : Dec :=
 {g := 22, f := 64, p := 2, pts := [p22 E],
  shs := [{ m := 2, res := iV 0, post := [none, rV 166 1], keep := [0] }] }
theorem kb : Ai (EF m22) [] 20000 (d22 E0) t22 0 = some (jl (d22 E0) []) := by kernel_rfl
theorem c22 : Ay (EF m22) [] 20000 (d22 E0) t22 := dk1 rfl kb
def m23 (E : Env) : List Sm := (d22 E).smL a22 (p22 E) 0 (d22 E).shs ++ m22 E
def a23 : List AV := [(.func (.yield 0) [] []), (.ptr 4 0)]
def p23 (E : Env) : Pt := Ap E 107 4 a23 [some (ST E 65 2 .ready none 14 [(2, (.ptr 1 0))] 3), some (.cells 1 (An [(0, aV 2 1 0 1)])), rV 3 0, some (.deferred (some [])), some (.cells 1 (An [(0, aV 5 3 2 3)])), rV 166 2] []
def d23 (E : Env) : Dec :=
 {g := 23, f := 107, p := 6, pts := [p23 E,
  Av E 107 20 1 5 [(0, (.func (.yield 0) [] [])), (5, aV 5 3 0 1), (6, (.si .i64 (.lenL (.var 0)))), (7, iV 2)] [some (ST E 65 2 .ready none 14 [(2, (.ptr 1 0))] 3), some (.cells 1 (An [(0, aV 6 1 3 4)])), none, some (.deferred (some [])), some (.cells 1 (An [(0, aV 5 3 0 1)])), rV 166 0, rV 3 3] [] []],
  shs := [{ m := 2, res := (.tuple []), post := [none, some (.cells 1 (An [(0, aV 6 1 0 1)])), none, none, none, none, rV 3 0], keep := [0, 3, 4, 5] }] }
theorem jX : Ai (EF m23) [1] 20000 (d23 E0) t23 0 = some (jl (d23 E0) [1]) := by kernel_rfl
theorem jg : Ai (EF m23) [1] 20000 (d23 E0) t23 1 = some (jl (d23 E0) [1]) := by kernel_rfl
theorem c23 : Ay (EF m23) [1] 20000 (d23 E0) t23 := dk2 rfl jX jg
def m24 (E : Env) : List Sm := (d23 E).smL a23 (p23 E) 0 (d23 E).shs ++ m23 E
def a24 : List AV := [z11, z12, iV 9]
def p24 (E : Env) : Pt := Ap E 38 10 a24 [] []
def d24 (E : Env) : Dec :=
 {g := 24, f := 38, p := 0, pts := [p24 E],
  shs := [{ m := 5, res := z11, post := [], keep := [] }] }
theorem gC : Ai (EF m24) [] 20000 (d24 E0) t24 0 = some (jl (d24 E0) []) := by kernel_rfl
theorem c24 : Ay (EF m24) [] 20000 (d24 E0) t24 := dk1 rfl gC
def m25 (E : Env) : List Sm := (d24 E).smL a24 (p24 E) 0 (d24 E).shs ++ m24 E
def a25 : List AV := [z11, (.func (.func 70) [(.ptr 0 0)] []), (.ptr 3 0)]
def z15 : Ao := (.cells 4 (An [(0, sV 8), (1, dV 100 9), (2, dV 36 10), (3, dV 103 11)]))
def p25 (E : Env) : Pt := Ap E 42 12 a25 [some (.cells 2 (An [(0, aV 1 5 5 6), (1, (.map 2))])), rV 73 5, some (.dmap 73 4 (.var 7)), some z15] []
def z16 : Ao := (.cells 4 (An [(0, sV 7), (1, dV 100 8), (2, dV 36 9), (3, dV 103 10)]))
def d25 (E : Env) : Dec :=
 {g := 25, f := 42, p := 4, pts := [p25 E,
  Av E 42 23 2 16 [(1, (.func (.func 70) [(.ptr 0 0)] [])), (2, (.ptr 3 0)), (3, (.ptr 4 0)), (10, aV 5 1 0 1), (11, iV 2), (12, iV 3)] [some (.cells 2 (An [(0, aV 6 5 4 5), (1, (.map 2))])), none, some (.dmap 73 4 (.var 6)), some z16, some (.cells 5 (An [(0, iV 11), (1, iV 12), (2, iV 13), (3, iV 14), (4, iV 15)])), rV 3 0, rV 73 4] [] []],
  shs := [{ m := 3, res := (.bool false), post := [some (.cells 2 (An [(0, aV 4 5 0 1), (1, (.map 2))])), none, some (.dmap 73 4 (.var 2)), none, rV 73 0], keep := [3] }] }
theorem ky : Ai (EF m25) [2] 20000 (d25 E0) t25 0 = some (jl (d25 E0) [1]) := by kernel_rfl
theorem hZ : Ai (EF m25) [2] 20000 (d25 E0) t25 1 = some (jl (d25 E0) [1]) := by kernel_rfl
theorem c25 : Ay (EF m25) [2] 20000 (d25 E0) t25 := dk2 rfl ky hZ
def m26 (E : Env) : List Sm := (d25 E).smL a25 (p25 E) 0 (d25 E).shs ++ m25 E
def a26 : List AV := [aV 0 5 0 1, iV 2, (.func (.func 42) [] [(.ptr 1 0)])]
def p26 (E : Env) : Pt := Ap E 41 7 a26 [rV 73 0, some z2] []
def d26 (E : Env) : Dec :=
 {g := 26, f := 41, p := 2, pts := [p26 E,
  Av E 41 65 3 11 [(1, iV 0), (2, (.func (.func 42) [] [(.ptr 1 0)])), (8, (.ptr 2 0)), (15, aV 0 5 1 2), (16, (.si .i64 (.lenL (.var 1)))), (17, iV 3)] [rV 73 1, some z8, some (.cells 2 (An [(0, aV 4 5 8 9), (1, (.map 3))])), some (.dmap 73 4 (.var 10)), rV 73 8] [] [],
  Av E 41 65 8 10 [(1, iV 0), (2, (.func (.func 42) [] [(.ptr 1 0)])), (8, (.ptr 2 0)), (11, iV 1)] [rV 73 2, some z2, some (.cells 2 (An [(0, aV 4 5 7 8), (1, (.map 3))])), some (.dmap 73 4 (.var 9)), rV 73 7] [] []],
  shs := [{ m := 3, res := (.tuple [aV 2 5 0 1, bV 2]), post := [none, none, rV 73 0], keep := [0, 1] }] }
theorem fT : Ai (EF m26) [3, 8] 20000 (d26 E0) t26 0 = some (jl (d26 E0) [1]) := by kernel_rfl
theorem lT : Ai (EF m26) [3, 8] 20000 (d26 E0) t26 1 = some (jl (d26 E0) [1, 2]) := by kernel_rfl
theorem iT : Ai (EF m26) [3, 8] 20000 (d26 E0) t26 2 = some (jl (d26 E0) [2]) := by kernel_rfl
theorem c26 : Ay (EF m26) [3, 8] 20000 (d26 E0) t26 := dk3 rfl fT lT iT
def m27 (E : Env) : List Sm := (d26 E).smL a26 (p26 E) 0 (d26 E).shs ++ m26 E
def a27 : List AV := [dV 64 0, (.func (.func 44) [] [(.ptr 0 0), (.ptr 1 0)])]
def z17 : Ao := (.cells 4 (An [(0, sV 1), (1, dV 100 2), (2, dV 36 3), (3, dV 103 4)]))
def p27 (E : Env) : Pt := Ap E 43 10 a27 [some z17, some (.cells 5 (An [(0, iV 5), (1, iV 6), (2, iV 7), (3, iV 8), (4, iV 9)]))] []
def d27 (E : Env) : Dec :=
 {g := 27, f := 43, p := 2, pts := [p27 E,
  Av E 43 19 2 11 [(0, dV 64 0), (1, (.func (.func 44) [] [(.ptr 0 0), (.ptr 1 0)])), (7, (.si .i64 (.lenL (.var 0)))), (8, iV 1)] [some z3, some (.cells 5 (An [(0, iV 6), (1, iV 7), (2, iV 8), (3, iV 9), (4, iV 10)]))] [] []],
  shs := [{ m := 1, res := iV 0, post := [none, none], keep := [0, 1] }] }
theorem iL : Ai (EF m27) [2] 20000 (d27 E0) t27 0 = some (jl (d27 E0) [1]) := by kernel_rfl
theorem iM : Ai (EF m27) [2] 20000 (d27 E0) t27 1 = some (jl (d27 E0) [1]) := by kernel_rfl
theorem c27 : Ay (EF m27) [2] 20000 (d27 E0) t27 := dk2 rfl iL iM
def m28 (E : Env) : List Sm := (d27 E).smL a27 (p27 E) 0 (d27 E).shs ++ m27 E
def a28 : List AV := [z4, z5, z6, (.agg [iV 10, iV 11, iV 12, iV 13, iV 14])]
def p28 (E : Env) : Pt := Ap E 21 15 a28 [] []
def z18 : Ao := (.cells 4 (An [(0, sV 6), (1, dV 100 7), (2, dV 36 8), (3, dV 103 9)]))
def d28 (E : Env) : Dec :=
 {g := 28, f := 21, p := 0, pts := [p28 E,
  Av E 21 76 6 20 [(4, (.ptr 0 0)), (5, (.ptr 1 0)), (7, (.ptr 2 0)), (8, (.ptr 3 0)), (33, dV 86 0), (34, (.si .i64 (.lenL (.var 0)))), (35, iV 1)] [some z3, some z18, some (.cells 5 (An [(0, iV 10), (1, iV 11), (2, iV 12), (3, iV 13), (4, iV 14)])), some (.cells 5 (An [(0, iV 15), (1, iV 16), (2, iV 17), (3, iV 18), (4, iV 19)]))] [] []],
  shs := [{ m := 6, res := (.tuple [z11, iV 5]), post := [], keep := [] }] }
theorem fB : Ai (EF m28) [6] 20000 (d28 E0) t28 0 = some (jl (d28 E0) [1]) := by kernel_rfl
theorem nP : Ai (EF m28) [6] 20000 (d28 E0) t28 1 = some (jl (d28 E0) [1, 1, 1, 1, 1, 1, 1, 1, 1, 1, 1, 1, 1, 1, 1, 1, 1, 1, 1, 1]) := by kernel_rfl
theorem c28 : Ay (EF m28) [6] 20000 (d28 E0) t28 := dk2 rfl fB nP
def m29 (E : Env) : List Sm := (d28 E).smL a28 (p28 E) 0 (d28 E).shs ++ m28 E
def a29 : List AV := [(.ptr 0 0), (.agg [iV 3, iV 4, iV 5, iV 6, iV 7, iV 8, iV 9, iV 10, iV 11, iV 12])]
def p29 (E : Env) : Pt := Ap E 45 13 a29 [some (.cells 2 (An [(0, aV 1 10 0 1), (1, (.map 2))])), rV 77 0, some (.dmap 77 4 (.var 2))] []
def d29 (E : Env) : Dec :=
 {g := 29, f := 45, p := 3, pts := [p29 E],
  shs := [{ m := 3, res := (.tuple []), post := [some (.cells 2 (An [(0, aV 3 10 0 1), (1, (.map 2))])), none, some (.dmap 77 4 (.var 2)), rV 77 0], keep := [] }] }
theorem jN : Ai (EF m29) [] 20000 (d29 E0) t29 0 = some (jl (d29 E0) []) := by kernel_rfl
theorem c29 : Ay (EF m29) [] 20000 (d29 E0) t29 := dk1 rfl jN
def m30 (E : Env) : List Sm := (d29 E).smL a29 (p29 E) 0 (d29 E).shs ++ m29 E
def a30 : List AV := [aV 0 1 0 1, (.func (.func 74) [] [(.ptr 1 0), (.ptr 2 0)])]
def z19 : Ao := (.cells 1 (An [(0, bV 6)]))
def p30 (E : Env) : Pt := Ap E 96 7 a30 [rV 3 0, some z3, some z19] []
def d30 (E : Env) : Dec :=
 {g := 30, f := 96, p := 3, pts := [p30 E,
  Av E 96 19 2 8 [(0, aV 0 1 0 1), (1, (.func (.func 74) [] [(.ptr 1 0), (.ptr 2 0)])), (7, (.si .i64 (.lenL (.var 0)))), (8, iV 2)] [rV 3 0, some z2, some (.cells 1 (An [(0, bV 7)]))] [] []],
  shs := [{ m := 1, res := iV 0, post := [none, none, none], keep := [0, 1, 2] }] }
theorem jA : Ai (EF m30) [2] 20000 (d30 E0) t30 0 = some (jl (d30 E0) [1]) := by kernel_rfl
theorem iD : Ai (EF m30) [2] 20000 (d30 E0) t30 1 = some (jl (d30 E0) [1, 1]) := by kernel_rfl
theorem c30 : Ay (EF m30) [2] 20000 (d30 E0) t30 := dk2 rfl jA iD
def m31 (E : Env) : List Sm := (d30 E).smL a30 (p30 E) 0 (d30 E).shs ++ m30 E
def a31 : List AV := [aV 0 1 0 1, (.func (.func 74) [] [(.ptr 1 0), (.ptr 2 0)])]
def p31 (E : Env) : Pt := Ap E 73 7 a31 [rV 3 0, some z3, some z19] []
def d31 (E : Env) : Dec :=
 {g := 31, f := 73, p := 3, pts := [p31 E,
  Av E 73 42 5 9 [(0, aV 0 1 0 1), (1, (.func (.func 74) [] [(.ptr 1 0), (.ptr 2 0)])), (5, iV 2), (6, iV 3)] [rV 3 0, some z8, some (.cells 1 (An [(0, bV 8)]))] [] []],
  shs := [{ m := 2, res := aV 0 1 0 1, post := [rV 3 0, none, none], keep := [1, 2] }] }
theorem gS : Ai (EF m31) [5] 20000 (d31 E0) t31 0 = some (jl (d31 E0) [1]) := by kernel_rfl
theorem gD : Ai (EF m31) [5] 20000 (d31 E0) t31 1 = some (jl (d31 E0) [1, 1, 1, 1]) := by kernel_rfl
theorem c31 : Ay (EF m31) [5] 20000 (d31 E0) t31 := dk2 rfl gS gD
def m32 (E : Env) : List Sm := (d31 E).smL a31 (p31 E) 0 (d31 E).shs ++ m31 E
def z20 : AV := (.agg [iV 16, iV 17, iV 18, iV 19, iV 20, iV 21, iV 22, iV 23, iV 24, iV 25])
def a32 : List AV := [(.ptr 0 0), z20, bV 26]
def z21 : Ao := (.cells 14 (An [(0, sV 0), (1, dV 100 1), (2, dV 36 2), (3, dV 103 3), (4, sV 4), (5, dV 100 5), (6, dV 36 6), (7, dV 103 7), (8, sV 8), (9, aV 1 1 9 10), (10, sV 11), (11, aV 2 1 12 13), (12, iV 14), (13, iV 15)]))
def p32 (E : Env) : Pt := Ap E 49 27 a32 [some z21, rV 3 9, rV 3 12] []
def d32 (E : Env) : Dec :=
 {g := 32, f := 49, p := 3, pts := [p32 E],
  shs := [{ m := 4, res := (.tuple [aV 3 1 0 1, aV 4 1 2 3]), post := [none, none, none, rV 3 0, rV 3 2], keep := [0, 1, 2] }] }
theorem mA : Ai (EF m32) [] 20000 (d32 E0) t32 0 = some (jl (d32 E0) []) := by kernel_rfl
theorem c32 : Ay (EF m32) [] 20000 (d32 E0) t32 := dk1 rfl mA
def m33 (E : Env) : List Sm := (d32 E).smL a32 (p32 E) 0 (d32 E).shs ++ m32 E
def a33 : List AV := [z13]
def p33 (E : Env) : Pt := Ap E 48 9 a33 [] []
def d33 (E : Env) : Dec :=
 {g := 33, f := 48, p := 0, pts := [p33 E],
  shs := [{ m := 3, res := (.agg [iV 0, sV 1, sV 2]), post := [], keep := [] }] }
theorem fj : Ai (EF m33) [] 20000 (d33 E0) t33 0 = some (jl (d33 E0) []) := by kernel_rfl
theorem c33 : Ay (EF m33) [] 20000 (d33 E0) t33 := dk1 rfl fj
def m34 (E : Env) : List Sm := (d33 E).smL a33 (p33 E) 0 (d33 E).shs ++ m33 E
def a34 : List AV := [aV 0 1 0 1, (.func (.func 94) [] [(.ptr 1 0), (.ptr 2 0), (.ptr 3 0)])]
def p34 (E : Env) : Pt := Ap E 96 11 a34 [rV 3 0, some z3, some z18, some (.cells 1 (An [(0, iV 10)]))] []
def d34 (E : Env) : Dec :=
 {g := 34, f := 96, p := 4, pts := [p34 E,
  Av E 96 19 2 12 [(0, aV 0 1 0 1), (1, (.func (.func 94) [] [(.ptr 1 0), (.ptr 2 0), (.ptr 3 0)])), (7, (.si .i64 (.lenL (.var 0)))), (8, iV 2)] [rV 3 0, some z2, some z16, some (.cells 1 (An [(0, iV 11)]))] [] []],
  shs := [{ m := 1, res := iV 0, post := [none, none, none, none], keep := [0, 1, 2, 3] }] }
theorem pe : Ai (EF m34) [2] 20000 (d34 E0) t34 0 = some (jl (d34 E0) [1]) := by kernel_rfl
theorem jo : Ai (EF m34) [2] 20000 (d34 E0) t34 1 = some (jl (d34 E0) [1]) := by kernel_rfl
theorem c34 : Ay (EF m34) [2] 20000 (d34 E0) t34 := dk2 rfl pe jo
def m35 (E : Env) : List Sm := (d34 E).smL a34 (p34 E) 0 (d34 E).shs ++ m34 E
def z22 : AV := (.agg [sV 6, dV 100 7, dV 36 8, dV 103 9])
def a35 : List AV := [z4, aV 0 1 4 5, z22, aV 1 1 10 11]
def p35 (E : Env) : Pt := Ap E 71 12 a35 [rV 3 4, rV 3 10] []
def z23 : Ao := (.cells 4 (An [(0, sV 5), (1, dV 100 6), (2, dV 36 7), (3, dV 103 8)]))
def z24 : Ao := (.cells 4 (An [(0, sV 9), (1, dV 100 10), (2, dV 36 11), (3, dV 103 12)]))
def d35 (E : Env) : Dec :=
 {g := 35, f := 71, p := 2, pts := [p35 E,
  Av E 71 26 2 13 [(3, aV 1 1 0 1), (4, (.ptr 2 0)), (6, (.ptr 3 0)), (13, aV 0 1 2 3), (14, (.si .i64 (.lenL (.var 2)))), (15, iV 4)] [rV 3 2, rV 3 0, some z23, some z24] [] []],
  shs := [{ m := 2, res := (.tuple [iV 0, bV 1]), post := [none, none], keep := [0, 1] }] }
theorem eP : Ai (EF m35) [2] 20000 (d35 E0) t35 0 = some (jl (d35 E0) [1]) := by kernel_rfl
theorem mz : Ai (EF m35) [2] 20000 (d35 E0) t35 1 = some (jl (d35 E0) [1]) := by kernel_rfl
theorem c35 : Ay (EF m35) [2] 20000 (d35 E0) t35 := dk2 rfl eP mz
def m36 (E : Env) : List Sm := (d35 E).smL a35 (p35 E) 0 (d35 E).shs ++ m35 E
def a36 : List AV := [(.ptr 0 0), z20]
def p36 (E : Env) : Pt := Ap E 46 26 a36 [some z21, rV 3 9, rV 3 12] []
def d36 (E : Env) : Dec :=
 {g := 36, f := 46, p := 3, pts := [p36 E],
  shs := [{ m := 2, res := (.tuple [iV 0, iV 1]), post := [none, none, none], keep := [0, 1, 2] }] }
theorem pm : Ai (EF m36) [] 20000 (d36 E0) t36 0 = some (jl (d36 E0) []) := by kernel_rfl
theorem c36 : Ay (EF m36) [] 20000 (d36 E0) t36 := dk1 rfl pm
def m37 (E : Env) : List Sm := (d36 E).smL a36 (p36 E) 0 (d36 E).shs ++ m36 E
def a37 : List AV := [z11, z12]
def p37 (E : Env) : Pt := Ap E 33 9 a37 [] []
def d37 (E : Env) : Dec :=
 {g := 37, f := 33, p := 0, pts := [p37 E],
  shs := [{ m := 2, res := (.agg [sV 0, (.asl 0 1 (.lenL (.var 1)) (.bc false))]), post := [rV 3 1], keep := [] }] }
theorem eJ : Ai (EF m37) [] 20000 (d37 E0) t37 0 = some (jl (d37 E0) []) := by kernel_rfl
theorem c37 : Ay (EF m37) [] 20000 (d37 E0) t37 := dk1 rfl eJ
def m38 (E : Env) : List Sm := (d37 E).smL a37 (p37 E) 0 (d37 E).shs ++ m37 E
def a38 : List AV := [(.ptr 0 0), z20, (.func (.func 45) [(.ptr 3 0)] [])]
def p38 (E : Env) : Pt := Ap E 23 29 a38 [some z21, rV 3 9, rV 3 12, some (.cells 2 (An [(0, aV 4 10 26 27), (1, (.map 5))])), rV 77 26, some (.dmap 77 4 (.var 28))] []
def z25 : Ao := (.cells 14 (An [(0, sV 6), (1, dV 100 7), (2, dV 36 8), (3, dV 103 9), (4, sV 10), (5, dV 100 11), (6, dV 36 12), (7, dV 103 13), (8, sV 14), (9, aV 1 1 15 16), (10, sV 17), (11, aV 2 1 18 19), (12, iV 20), (13, iV 21)]))
def z26 : Ao := (.cells 2 (An [(0, aV 11 10 22 23), (1, (.map 5))]))
def z27 : Ao := (.cells 1 (An [(0, (.ptr 0 0))]))
def z28 : Ao := (.cells 10 (An [(0, iV 25), (1, iV 26), (2, iV 27), (3, iV 28), (4, iV 29), (5, iV 30), (6, iV 31), (7, iV 32), (8, iV 33), (9, iV 34)]))
def z29 : Ao := (.cells 1 (An [(0, (.func (.func 45) [(.ptr 3 0)] []))]))
def z30 : Ao := (.cells 14 (An [(0, sV 8), (1, dV 100 9), (2, dV 36 10), (3, dV 103 11), (4, sV 12), (5, dV 100 13), (6, dV 36 14), (7, dV 103 15), (8, sV 16), (9, aV 1 1 17 18), (10, sV 19), (11, aV 2 1 20 21), (12, iV 22), (13, iV 23)]))
def z31 : Ao := (.cells 2 (An [(0, aV 11 10 24 25), (1, (.map 5))]))
def z32 : Ao := (.cells 10 (An [(0, iV 27), (1, iV 28), (2, iV 29), (3, iV 30), (4, iV 31), (5, iV 32), (6, iV 33), (7, iV 34), (8, iV 35), (9, iV 36)]))
def d38 (E : Env) : Dec :=
 {g := 38, f := 23, p := 6, pts := [p38 E,
  Av E 23 97 8 35 [(3, (.ptr 6 0)), (4, (.ptr 7 0)), (9, (.func (.func 47) [] [(.ptr 6 0), (.ptr 8 0), (.ptr 7 0)])), (11, aV 9 1 0 1), (55, aV 10 1 2 3), (56, iV 4), (57, iV 5)] [some z25, rV 3 15, rV 3 18, some z26, none, some (.dmap 77 4 (.var 24)), some z27, some z28, some z29, rV 3 0, rV 3 2, rV 77 22] [] [],
  Av E 23 97 11 37 [(3, (.ptr 6 0)), (4, (.ptr 7 0)), (9, (.func (.func 47) [] [(.ptr 6 0), (.ptr 8 0), (.ptr 7 0)])), (11, aV 9 1 0 1), (13, iV 2), (55, aV 10 1 3 4), (56, iV 5), (57, iV 6), (61, aV 9 1 0 1), (62, (.si .i64 (.lenL (.var 0)))), (63, iV 7)] [some z30, rV 3 17, rV 3 20, some z31, none, some (.dmap 77 4 (.var 26)), some z27, some z32, some z29, rV 3 0, rV 3 3, rV 77 24] [] [],
  Av E 23 97 18 35 [(9, (.func (.func 47) [] [(.ptr 6 0), (.ptr 7 0), (.ptr 8 0)])), (10, aV 9 1 0 1), (79, aV 10 1 2 3), (80, iV 4), (81, iV 5)] [some z25, rV 3 15, rV 3 18, some z26, none, some (.dmap 77 4 (.var 24)), some z27, some z29, some z28, rV 3 0, rV 3 2, rV 77 22] [] [],
  Av E 23 97 21 37 [(9, (.func (.func 47) [] [(.ptr 6 0), (.ptr 7 0), (.ptr 8 0)])), (10, aV 9 1 0 1), (17, iV 2), (79, aV 10 1 3 4), (80, iV 5), (81, iV 6), (85, aV 9 1 0 1), (86, (.si .i64 (.lenL (.var 0)))), (87, iV 7)] [some z30, rV 3 17, rV 3 20, some z31, none, some (.dmap 77 4 (.var 26)), some z27, some z29, some z32, rV 3 0, rV 3 3, rV 77 24] [] []],
  shs := [{ m := 20, res := bV 0, post := [some (.cells 14 (An [(0, sV 1), (1, dV 100 2), (2, dV 36 3), (3, dV 103 4), (4, sV 5), (5, dV 100 6), (6, dV 36 7), (7, dV 103 8), (8, sV 9), (9, aV 6 1 10 11), (10, sV 12), (11, aV 7 1 13 14), (12, iV 15), (13, iV 16)])), none, none, some (.cells 2 (An [(0, aV 8 10 17 18), (1, (.map 5))])), none, some (.dmap 77 4 (.var 19)), rV 3 10, rV 3 13, rV 77 17], keep := [] }] }
theorem oS : Ai (EF m38) [8, 11, 18, 21] 20000 (d38 E0) t38 0 = some (jl (d38 E0) [1]) := by kernel_rfl
theorem iC : Ai (EF m38) [8, 11, 18, 21] 20000 (d38 E0) t38 1 = some (jl (d38 E0) [2, 3]) := by kernel_rfl
theorem oc : Ai (EF m38) [8, 11, 18, 21] 20000 (d38 E0) t38 2 = some (jl (d38 E0) [2, 2, 1]) := by kernel_rfl
theorem fO : Ai (EF m38) [8, 11, 18, 21] 20000 (d38 E0) t38 3 = some (jl (d38 E0) [4]) := by kernel_rfl
theorem mL : Ai (EF m38) [8, 11, 18, 21] 20000 (d38 E0) t38 4 = some (jl (d38 E0) [4, 4, 3]) := by kernel_rfl
theorem c38 : Ay (EF m38) [8, 11, 18, 21] 20000 (d38 E0) t38 := dk5 rfl oS iC oc fO mL
def m39 (E : Env) : List Sm := (d38 E).smL a38 (p38 E) 0 (d38 E).shs ++ m38 E
def a39 : List AV := [aV 0 10 0 1, iV 2, (.func (.func 23) [(.ptr 1 0)] [])]
def p39 (E : Env) : Pt := Ap E 22 19 a39 [rV 77 0, some (.cells 14 (An [(0, sV 3), (1, dV 100 4), (2, dV 36 5), (3, dV 103 6), (4, sV 7), (5, dV 100 8), (6, dV 36 9), (7, dV 103 10), (8, sV 11), (9, aV 2 1 12 13), (10, sV 14), (11, aV 3 1 15 16), (12, iV 17), (13, iV 18)])), rV 3 12, rV 3 15] []
def d39 (E : Env) : Dec :=
 {g := 39, f := 22, p := 4, pts := [p39 E,
  Av E 22 65 3 23 [(1, iV 0), (2, (.func (.func 23) [(.ptr 1 0)] [])), (8, (.ptr 4 0)), (15, aV 0 10 1 2), (16, (.si .i64 (.lenL (.var 1)))), (17, iV 3)] [rV 77 1, some (.cells 14 (An [(0, sV 4), (1, dV 100 5), (2, dV 36 6), (3, dV 103 7), (4, sV 8), (5, dV 100 9), (6, dV 36 10), (7, dV 103 11), (8, sV 12), (9, aV 2 1 13 14), (10, sV 15), (11, aV 3 1 16 17), (12, iV 18), (13, iV 19)])), rV 3 13, rV 3 16, some (.cells 2 (An [(0, aV 6 10 20 21), (1, (.map 5))])), some (.dmap 77 4 (.var 22)), rV 77 20] [] [],
  Av E 22 65 8 22 [(1, iV 0), (2, (.func (.func 23) [(.ptr 1 0)] [])), (8, (.ptr 4 0)), (11, iV 1)] [rV 77 2, some (.cells 14 (An [(0, sV 3), (1, dV 100 4), (2, dV 36 5), (3, dV 103 6), (4, sV 7), (5, dV 100 8), (6, dV 36 9), (7, dV 103 10), (8, sV 11), (9, aV 7 1 12 13), (10, sV 14), (11, aV 8 1 15 16), (12, iV 17), (13, iV 18)])), none, none, some (.cells 2 (An [(0, aV 6 10 19 20), (1, (.map 5))])), some (.dmap 77 4 (.var 21)), rV 77 19, rV 3 12, rV 3 15] [] []],
  shs := [{ m := 19, res := (.tuple [aV 4 10 0 1, bV 2]), post := [none, some (.cells 14 (An [(0, sV 3), (1, dV 100 4), (2, dV 36 5), (3, dV 103 6), (4, sV 7), (5, dV 100 8), (6, dV 36 9), (7, dV 103 10), (8, sV 11), (9, aV 5 1 12 13), (10, sV 14), (11, aV 6 1 15 16), (12, iV 17), (13, iV 18)])), none, none, rV 77 0, rV 3 12, rV 3 15], keep := [0] }] }
theorem n9 : Ai (EF m39) [3, 8] 20000 (d39 E0) t39 0 = some (jl (d39 E0) [1]) := by kernel_rfl
theorem jY : Ai (EF m39) [3, 8] 20000 (d39 E0) t39 1 = some (jl (d39 E0) [1, 2]) := by kernel_rfl
theorem fZ : Ai (EF m39) [3, 8] 20000 (d39 E0) t39 2 = some (jl (d39 E0) [2]) := by kernel_rfl
theorem c39 : Ay (EF m39) [3, 8] 20000 (d39 E0) t39 := dk3 rfl n9 jY fZ
def m40 (E : Env) : List Sm := (d39 E).smL a39 (p39 E) 0 (d39 E).shs ++ m39 E
def a40 : List AV := [z4, z5, z6]
def p40 (E : Env) : Pt := Ap E 7 10 a40 [] []
def z33 : Ao := (.cells 6 (An [(0, (.str 0 0)), (1, .slice0), (2, (.str 0 0)), (3, .slice0), (4, (.int .i64 0)), (5, (.int .i64 0))]))
def z34 : AV := (.agg [sV 0, aV 0 1 1 2, sV 3, aV 1 1 4 5, iV 6, iV 7])
def d40 (E : Env) : Dec :=
 {g := 40, f := 7, p := 0, pts := [p40 E,
  Av E 7 83 9 16 [(3, (.ptr 0 0)), (4, (.ptr 1 0)), (5, (.ptr 2 0)), (6, (.ptr 3 0)), (13, aV 5 10 0 1), (37, aV 4 5 2 3), (38, iV 4), (39, iV 5)] [some z18, some (.cells 4 (An [(0, sV 10), (1, dV 100 11), (2, dV 36 12), (3, dV 103 13)])), some (.cells 2 (An [(0, dV 64 14), (1, dV 86 15)])), some z33, rV 73 2, rV 77 0] [] []],
  shs := [{ m := 10, res := (.tuple [z34, bV 8, iV 9]), post := [rV 3 1, rV 3 4], keep := [] }] }
theorem mX : Ai (EF m40) [9] 20000 (d40 E0) t40 0 = some (jl (d40 E0) [1]) := by kernel_rfl
theorem fI : Ai (EF m40) [9] 20000 (d40 E0) t40 1 = some (jl (d40 E0) [1, 1]) := by kernel_rfl
theorem c40 : Ay (EF m40) [9] 20000 (d40 E0) t40 := dk2 rfl mX fI
def m41 (E : Env) : List Sm := (d40 E).smL a40 (p40 E) 0 (d40 E).shs ++ m40 E
def a41 : List AV := [sV 0]
def p41 (E : Env) : Pt := Ap E 75 1 a41 [] []
def d41 (E : Env) : Dec :=
 {g := 41, f := 75, p := 0, pts := [p41 E,
  Av E 75 64 4 2 [(0, sV 0), (3, iV 1)] [] [] []],
  shs := [{ m := 1, res := bV 0, post := [], keep := [] }] }
theorem jS : Ai (EF m41) [4] 20000 (d41 E0) t41 0 = some (jl (d41 E0) [1, 1]) := by kernel_rfl
theorem gV : Ai (EF m41) [4] 20000 (d41 E0) t41 1 = some (jl (d41 E0) [1, 1, 1, 1]) := by kernel_rfl
theorem c41 : Ay (EF m41) [4] 20000 (d41 E0) t41 := dk2 rfl jS gV
def m42 (E : Env) : List Sm := (d41 E).smL a41 (p41 E) 0 (d41 E).shs ++ m41 E
def a42 : List AV := [z4, sV 4]
def p42 (E : Env) : Pt := Ap E 76 5 a42 [] []
def d42 (E : Env) : Dec :=
 {g := 42, f := 76, p := 0, pts := [p42 E,
  Av E 76 22 2 6 [(1, sV 0), (2, (.ptr 0 0)), (5, iV 1)] [some z3] [] []],
  shs := [{ m := 1, res := iV 0, post := [], keep := [] }] }
theorem ki : Ai (EF m42) [2] 20000 (d42 E0) t42 0 = some (jl (d42 E0) [1]) := by kernel_rfl
theorem jV : Ai (EF m42) [2] 20000 (d42 E0) t42 1 = some (jl (d42 E0) [1]) := by kernel_rfl
theorem c42 : Ay (EF m42) [2] 20000 (d42 E0) t42 := dk2 rfl ki jV
def m43 (E : Env) : List Sm := (d42 E).smL a42 (p42 E) 0 (d42 E).shs ++ m42 E
def a43 : List AV := [z4, sV 4]
def p43 (E : Env) : Pt := Ap E 77 5 a43 [] []
def d43 (E : Env) : Dec :=
 {g := 43, f := 77, p := 0, pts := [p43 E,
  Av E 77 22 2 6 [(1, sV 0), (2, (.ptr 0 0)), (5, iV 1)] [some z3] [] []],
  shs := [{ m := 1, res := iV 0, post := [], keep := [] }] }
theorem gp : Ai (EF m43) [2] 20000 (d43 E0) t43 0 = some (jl (d43 E0) [1]) := by kernel_rfl
theorem ko : Ai (EF m43) [2] 20000 (d43 E0) t43 1 = some (jl (d43 E0) [1]) := by kernel_rfl
theorem c43 : Ay (EF m43) [2] 20000 (d43 E0) t43 := dk2 rfl gp ko
def m44 (E : Env) : List Sm := (d43 E).smL a43 (p43 E) 0 (d43 E).shs ++ m43 E
def a44 : List AV := [z4, iV 4]
def p44 (E : Env) : Pt := Ap E 78 5 a44 [] []
def d44 (E : Env) : Dec :=
 {g := 44, f := 78, p := 0, pts := [p44 E,
  Av E 78 93 6 16 [(1, iV 0), (2, (.ptr 0 0)), (5, (.ptr 1 0)), (6, iV 1), (7, iV 2)] [some z2, some (.cells 9 (An [(0, sV 7), (1, sV 8), (2, iV 9), (3, sV 10), (4, sV 11), (5, sV 12), (6, iV 13), (7, iV 14), (8, iV 15)]))] [] []],
  shs := [{ m := 1, res := bV 0, post := [], keep := [] }] }
theorem lD : Ai (EF m44) [6] 20000 (d44 E0) t44 0 = some (jl (d44 E0) [1, 1]) := by kernel_rfl
theorem jR : Ai (EF m44) [6] 20000 (d44 E0) t44 1 = some (jl (d44 E0) [1]) := by kernel_rfl
theorem c44 : Ay (EF m44) [6] 20000 (d44 E0) t44 := dk2 rfl lD jR
def m45 (E : Env) : List Sm := (d44 E).smL a44 (p44 E) 0 (d44 E).shs ++ m44 E
def a45 : List AV := [z4]
def p45 (E : Env) : Pt := Ap E 50 4 a45 [] []
def d45 (E : Env) : Dec :=
 {g := 45, f := 50, p := 0, pts := [p45 E,
  Av E 50 131 6 5 [(1, (.ptr 0 0)), (4, iV 0)] [some z17] [] [],
  Av E 50 131 15 5 [(1, (.ptr 0 0)), (5, iV 0)] [some z17] [] [],
  Av E 50 131 22 5 [(1, (.ptr 0 0)), (6, iV 0)] [some z17] [] []],
  shs := [{ m := 2, res := (.tuple [iV 0, iV 1]), post := [], keep := [] }] }
theorem fH : Ai (EF m45) [6, 15, 22] 20000 (d45 E0) t45 0 = some (jl (d45 E0) [1]) := by kernel_rfl
theorem iF : Ai (EF m45) [6, 15, 22] 20000 (d45 E0) t45 1 = some (jl (d45 E0) [1, 2]) := by kernel_rfl
theorem jM : Ai (EF m45) [6, 15, 22] 20000 (d45 E0) t45 2 = some (jl (d45 E0) [2, 3]) := by kernel_rfl
theorem nW : Ai (EF m45) [6, 15, 22] 20000 (d45 E0) t45 3 = some (jl (d45 E0) [3]) := by kernel_rfl
theorem c45 : Ay (EF m45) [6, 15, 22] 20000 (d45 E0) t45 := dk4 rfl fH iF jM nW
def m46 (E : Env) : List Sm := (d45 E).smL a45 (p45 E) 0 (d45 E).shs ++ m45 E
def a46 : List AV := [z4, sV 4]
def p46 (E : Env) : Pt := Ap E 25 5 a46 [] []
def d46 (E : Env) : Dec :=
 {g := 46, f := 25, p := 0, pts := [p46 E,
  Av E 25 22 2 6 [(1, sV 0), (2, (.ptr 0 0)), (5, iV 1)] [some z3] [] []],
  shs := [{ m := 1, res := iV 0, post := [], keep := [] }] }
theorem kB : Ai (EF m46) [2] 20000 (d46 E0) t46 0 = some (jl (d46 E0) [1]) := by kernel_rfl
theorem fx : Ai (EF m46) [2] 20000 (d46 E0) t46 1 = some (jl (d46 E0) [1]) := by kernel_rfl
theorem c46 : Ay (EF m46) [2] 20000 (d46 E0) t46 := dk2 rfl kB fx
def m47 (E : Env) : List Sm := (d46 E).smL a46 (p46 E) 0 (d46 E).shs ++ m46 E
def a47 : List AV := [z4, sV 4]
def p47 (E : Env) : Pt := Ap E 26 5 a47 [] []
def d47 (E : Env) : Dec :=
 {g := 47, f := 26, p := 0, pts := [p47 E,
  Av E 26 22 2 6 [(1, sV 0), (2, (.ptr 0 0)), (5, iV 1)] [some z3] [] []],
  shs := [{ m := 1, res := iV 0, post := [], keep := [] }] }
theorem mR : Ai (EF m47) [2] 20000 (d47 E0) t47 0 = some (jl (d47 E0) [1]) := by kernel_rfl
theorem mo : Ai (EF m47) [2] 20000 (d47 E0) t47 1 = some (jl (d47 E0) [1]) := by kernel_rfl
theorem c47 : Ay (EF m47) [2] 20000 (d47 E0) t47 := dk2 rfl mR mo
def m48 (E : Env) : List Sm := (d47 E).smL a47 (p47 E) 0 (d47 E).shs ++ m47 E
def a48 : List AV := [z4, z5, z6]
def p48 (E : Env) : Pt := Ap E 8 10 a48 [] []
def z35 : Ao := (.cells 2 (An [(0, dV 64 9), (1, dV 86 10)]))
def z36 : Ao := (.cells 2 (An [(0, dV 64 11), (1, dV 86 12)]))
def d48 (E : Env) : Dec :=
 {g := 48, f := 8, p := 0, pts := [p48 E,
  Av E 8 139 6 11 [(3, (.ptr 0 0)), (4, (.ptr 1 0)), (5, (.ptr 2 0)), (8, iV 0)] [some z17, some z23, some z35] [] [],
  Av E 8 139 10 13 [(3, (.ptr 0 0)), (4, (.ptr 1 0)), (5, (.ptr 2 0)), (8, iV 0), (9, bV 1), (10, iV 2)] [some z2, some z16, some z36] [] [],
  Av E 8 139 18 11 [(3, (.ptr 0 0)), (4, (.ptr 1 0)), (5, (.ptr 2 0)), (11, iV 0)] [some z17, some z23, some z35] [] [],
  Av E 8 139 23 16 [(3, (.ptr 0 0)), (4, (.ptr 1 0)), (5, (.ptr 2 0)), (11, iV 0), (12, (.ptr 3 0)), (13, bV 1), (14, iV 2)] [some z2, some z16, some z36, some (.cells 3 (An [(0, sV 13), (1, sV 14), (2, iV 15)]))] [] []],
  shs := [{ m := 2, res := (.tuple [iV 0, iV 1]), post := [], keep := [] }] }
theorem fJ : Ai (EF m48) [6, 10, 18, 23] 20000 (d48 E0) t48 0 = some (jl (d48 E0) [1]) := by kernel_rfl
theorem mC : Ai (EF m48) [6, 10, 18, 23] 20000 (d48 E0) t48 1 = some (jl (d48 E0) [2, 2, 3]) := by kernel_rfl
theorem mn : Ai (EF m48) [6, 10, 18, 23] 20000 (d48 E0) t48 2 = some (jl (d48 E0) [2, 2, 1]) := by kernel_rfl
theorem lV : Ai (EF m48) [6, 10, 18, 23] 20000 (d48 E0) t48 3 = some (jl (d48 E0) [4, 4, 4, 4, 4, 4]) := by kernel_rfl
theorem lY : Ai (EF m48) [6, 10, 18, 23] 20000 (d48 E0) t48 4 = some (jl (d48 E0) [4, 4, 3]) := by kernel_rfl
theorem c48 : Ay (EF m48) [6, 10, 18, 23] 20000 (d48 E0) t48 := dk5 rfl fJ mC mn lV lY
def m49 (E : Env) : List Sm := (d48 E).smL a48 (p48 E) 0 (d48 E).shs ++ m48 E
def z37 : AV := (.agg [sV 4, aV 0 1 5 6])
def a49 : List AV := [z4, z37]
def p49 (E : Env) : Pt := Ap E 52 7 a49 [rV 3 5] []
def d49 (E : Env) : Dec :=
 {g := 49, f := 52, p := 1, pts := [p49 E,
  Av E 52 59 3 10 [(2, (.ptr 1 0)), (3, (.ptr 2 0)), (5, aV 3 1 0 1), (6, iV 2)] [rV 3 3, some z8, some (.cells 2 (An [(0, sV 8), (1, aV 0 1 3 9)])), rV 3 0] [] []],
  shs := [{ m := 2, res := aV 1 1 0 1, post := [none, rV 3 0], keep := [0] }] }
theorem eR : Ai (EF m49) [3] 20000 (d49 E0) t49 0 = some (jl (d49 E0) [1]) := by kernel_rfl
theorem jw : Ai (EF m49) [3] 20000 (d49 E0) t49 1 = some (jl (d49 E0) [1, 1, 1, 1, 1]) := by kernel_rfl
theorem c49 : Ay (EF m49) [3] 20000 (d49 E0) t49 := dk2 rfl eR jw
def m50 (E : Env) : List Sm := (d49 E).smL a49 (p49 E) 0 (d49 E).shs ++ m49 E
def a50 : List AV := [z4, z37, iV 7]
def p50 (E : Env) : Pt := Ap E 53 8 a50 [rV 3 5] []
def d50 (E : Env) : Dec :=
 {g := 50, f := 53, p := 1, pts := [p50 E],
  shs := [{ m := 3, res := (.agg [sV 0, aV 1 1 1 2]), post := [none, rV 3 1], keep := [0] }] }
theorem gx : Ai (EF m50) [] 20000 (d50 E0) t50 0 = some (jl (d50 E0) []) := by kernel_rfl
theorem c50 : Ay (EF m50) [] 20000 (d50 E0) t50 := dk1 rfl gx
def m51 (E : Env) : List Sm := (d50 E).smL a50 (p50 E) 0 (d50 E).shs ++ m50 E
def z38 : AV := (.agg [sV 0, dV 3 1])
def a51 : List AV := [z38, (.agg [sV 2, aV 0 1 3 4])]
def p51 (E : Env) : Pt := Ap E 15 5 a51 [rV 3 3] []
def d51 (E : Env) : Dec :=
 {g := 51, f := 15, p := 1, pts := [p51 E,
  Av E 15 38 4 6 [(2, (.ptr 1 0)), (3, (.ptr 2 0)), (5, iV 0)] [rV 3 1, some (.cells 2 (An [(0, sV 2), (1, dV 3 3)])), some (.cells 2 (An [(0, sV 4), (1, aV 0 1 1 5)]))] [] []],
  shs := [{ m := 1, res := bV 0, post := [none], keep := [0] }] }
theorem mc : Ai (EF m51) [4] 20000 (d51 E0) t51 0 = some (jl (d51 E0) [1]) := by kernel_rfl
theorem jH : Ai (EF m51) [4] 20000 (d51 E0) t51 1 = some (jl (d51 E0) [1]) := by kernel_rfl
theorem c51 : Ay (EF m51) [4] 20000 (d51 E0) t51 := dk2 rfl mc jH
def m52 (E : Env) : List Sm := (d51 E).smL a51 (p51 E) 0 (d51 E).shs ++ m51 E
def a52 : List AV := [aV 0 2 0 1, (.agg [sV 2, aV 1 1 3 4])]
def p52 (E : Env) : Pt := Ap E 54 5 a52 [rV 39 0, rV 3 3] []
def d52 (E : Env) : Dec :=
 {g := 52, f := 54, p := 2, pts := [p52 E,
  Av E 54 18 2 6 [(0, aV 0 2 0 1), (3, (.ptr 2 0)), (5, iV 2)] [rV 39 0, rV 3 3, some (.cells 2 (An [(0, sV 4), (1, aV 1 1 3 5)]))] [] []],
  shs := [{ m := 1, res := bV 0, post := [none, none], keep := [0, 1] }] }
theorem mD : Ai (EF m52) [2] 20000 (d52 E0) t52 0 = some (jl (d52 E0) [1]) := by kernel_rfl
theorem kW : Ai (EF m52) [2] 20000 (d52 E0) t52 1 = some (jl (d52 E0) [1]) := by kernel_rfl
theorem c52 : Ay (EF m52) [2] 20000 (d52 E0) t52 := dk2 rfl mD kW
def m53 (E : Env) : List Sm := (d52 E).smL a52 (p52 E) 0 (d52 E).shs ++ m52 E
def z39 : AV := (.agg [sV 4, dV 3 5])
def a53 : List AV := [z4, z39, iV 6]
def p53 (E : Env) : Pt := Ap E 53 7 a53 [] []
def z40 : AV := (.agg [sV 0, aV 0 1 1 2])
def d53 (E : Env) : Dec :=
 {g := 53, f := 53, p := 0, pts := [p53 E],
  shs := [{ m := 3, res := z40, post := [rV 3 1], keep := [] }] }
theorem jB : Ai (EF m53) [] 20000 (d53 E0) t53 0 = some (jl (d53 E0) []) := by kernel_rfl
theorem c53 : Ay (EF m53) [] 20000 (d53 E0) t53 := dk1 rfl jB
def m54 (E : Env) : List Sm := (d53 E).smL a53 (p53 E) 0 (d53 E).shs ++ m53 E
def a54 : List AV := [z4, z39]
def p54 (E : Env) : Pt := Ap E 52 6 a54 [] []
def d54 (E : Env) : Dec :=
 {g := 54, f := 52, p := 0, pts := [p54 E,
  Av E 52 59 3 9 [(2, (.ptr 0 0)), (3, (.ptr 1 0)), (5, aV 2 1 0 1), (6, iV 2)] [some z2, some (.cells 2 (An [(0, sV 7), (1, dV 3 8)])), rV 3 0] [] []],
  shs := [{ m := 2, res := aV 0 1 0 1, post := [rV 3 0], keep := [] }] }
theorem eF : Ai (EF m54) [3] 20000 (d54 E0) t54 0 = some (jl (d54 E0) [1]) := by kernel_rfl
theorem kQ : Ai (EF m54) [3] 20000 (d54 E0) t54 1 = some (jl (d54 E0) [1, 1, 1, 1, 1]) := by kernel_rfl
theorem c54 : Ay (EF m54) [3] 20000 (d54 E0) t54 := dk2 rfl eF kQ
def m55 (E : Env) : List Sm := (d54 E).smL a54 (p54 E) 0 (d54 E).shs ++ m54 E
def a55 : List AV := [z4]
def p55 (E : Env) : Pt := Ap E 27 4 a55 [] []
def d55 (E : Env) : Dec :=
 {g := 55, f := 27, p := 0, pts := [p55 E,
  Av E 27 52 3 8 [(1, (.ptr 0 0)), (4, aV 1 2 0 1), (5, iV 2)] [some z2, rV 39 0, rV 3 7] [] [],
  Av E 27 52 7 11 [(1, (.ptr 0 0)), (4, aV 1 2 0 1), (5, iV 2), (6, aV 2 1 3 4), (7, iV 5)] [some z18, rV 39 0, rV 3 3, rV 3 10] [] []],
  shs := [{ m := 3, res := (.tuple [aV 0 2 0 1, bV 2]), post := [rV 39 0], keep := [] }] }
theorem kM : Ai (EF m55) [3, 7] 20000 (d55 E0) t55 0 = some (jl (d55 E0) [1]) := by kernel_rfl
theorem ka : Ai (EF m55) [3, 7] 20000 (d55 E0) t55 1 = some (jl (d55 E0) [2]) := by kernel_rfl
theorem jd : Ai (EF m55) [3, 7] 20000 (d55 E0) t55 2 = some (jl (d55 E0) [2, 2, 1]) := by kernel_rfl
theorem c55 : Ay (EF m55) [3, 7] 20000 (d55 E0) t55 := dk3 rfl kM ka jd
def m56 (E : Env) : List Sm := (d55 E).smL a55 (p55 E) 0 (d55 E).shs ++ m55 E
def a56 : List AV := [z4, z37]
def p56 (E : Env) : Pt := Ap E 55 7 a56 [rV 3 5] []
def d56 (E : Env) : Dec :=
 {g := 56, f := 55, p := 1, pts := [p56 E,
  Av E 55 47 4 8 [(2, (.ptr 1 0)), (3, (.ptr 2 0)), (5, iV 0)] [rV 3 1, some z3, some (.cells 2 (An [(0, sV 6), (1, aV 0 1 1 7)]))] [] []],
  shs := [{ m := 1, res := bV 0, post := [none], keep := [0] }] }
theorem eG : Ai (EF m56) [4] 20000 (d56 E0) t56 0 = some (jl (d56 E0) [1]) := by kernel_rfl
theorem ou : Ai (EF m56) [4] 20000 (d56 E0) t56 1 = some (jl (d56 E0) [1]) := by kernel_rfl
theorem c56 : Ay (EF m56) [4] 20000 (d56 E0) t56 := dk2 rfl eG ou
def m57 (E : Env) : List Sm := (d56 E).smL a56 (p56 E) 0 (d56 E).shs ++ m56 E
def z41 : AV := (.agg [sV 10, dV 3 11])
def a57 : List AV := [z4, z5, z6, z41]
def p57 (E : Env) : Pt := Ap E 28 12 a57 [] []
def z42 : Ao := (.cells 2 (An [(0, (.str 0 0)), (1, .slice0)]))
def d57 (E : Env) : Dec :=
 {g := 57, f := 28, p := 0, pts := [p57 E,
  Av E 28 95 4 16 [(4, (.ptr 0 0)), (5, (.ptr 1 0)), (6, (.ptr 2 0)), (7, (.ptr 3 0)), (8, (.ptr 4 0)), (10, (.ptr 5 0)), (11, bV 0), (12, iV 1)] [some z3, some z18, some (.cells 2 (An [(0, dV 64 10), (1, dV 86 11)])), some (.cells 2 (An [(0, sV 12), (1, dV 3 13)])), some z42, some (.cells 2 (An [(0, sV 14), (1, (.asl 6 1 (.lenL (.var 15)) (.bc false)))])), rV 3 15] [] [],
  Av E 28 95 11 15 [(4, (.ptr 0 0)), (5, (.ptr 1 0)), (6, (.ptr 2 0)), (7, (.ptr 3 0)), (8, (.ptr 4 0)), (10, (.ptr 5 0)), (13, iV 0)] [some z17, some z23, some z35, some (.cells 2 (An [(0, sV 11), (1, dV 3 12)])), some z42, some (.cells 2 (An [(0, sV 13), (1, (.asl 6 1 (.lenL (.var 14)) (.bc false)))])), rV 3 14] [] []],
  shs := [{ m := 4, res := (.tuple [z40, iV 3]), post := [rV 3 1], keep := [] }] }
theorem jz : Ai (EF m57) [4, 11] 20000 (d57 E0) t57 0 = some (jl (d57 E0) [1]) := by kernel_rfl
theorem pD : Ai (EF m57) [4, 11] 20000 (d57 E0) t57 1 = some (jl (d57 E0) [1, 1, 2]) := by kernel_rfl
theorem pf : Ai (EF m57) [4, 11] 20000 (d57 E0) t57 2 = some (jl (d57 E0) [2, 2]) := by kernel_rfl
theorem c57 : Ay (EF m57) [4, 11] 20000 (d57 E0) t57 := dk3 rfl jz pD pf
def m58 (E : Env) : List Sm := (d57 E).smL a57 (p57 E) 0 (d57 E).shs ++ m57 E
def a58 : List AV := [z38, (.agg [sV 2, dV 3 3])]
def p58 (E : Env) : Pt := Ap E 15 4 a58 [] []
def d58 (E : Env) : Dec :=
 {g := 58, f := 15, p := 0, pts := [p58 E,
  Av E 15 38 4 5 [(2, (.ptr 0 0)), (3, (.ptr 1 0)), (5, iV 0)] [some (.cells 2 (An [(0, sV 1), (1, dV 3 2)])), some (.cells 2 (An [(0, sV 3), (1, dV 3 4)]))] [] []],
  shs := [{ m := 1, res := bV 0, post := [], keep := [] }] }
theorem mh : Ai (EF m58) [4] 20000 (d58 E0) t58 0 = some (jl (d58 E0) [1]) := by kernel_rfl
theorem oT : Ai (EF m58) [4] 20000 (d58 E0) t58 1 = some (jl (d58 E0) [1]) := by kernel_rfl
theorem c58 : Ay (EF m58) [4] 20000 (d58 E0) t58 := dk2 rfl mh oT
def m59 (E : Env) : List Sm := (d58 E).smL a58 (p58 E) 0 (d58 E).shs ++ m58 E
def a59 : List AV := [aV 0 4 0 1, aV 1 4 2 3]
def p59 (E : Env) : Pt := Ap E 29 4 a59 [rV 93 0, rV 93 2] []
def d59 (E : Env) : Dec :=
 {g := 59, f := 29, p := 2, pts := [p59 E,
  Av E 29 57 2 5 [(0, aV 2 4 0 1), (1, aV 1 4 2 3), (5, iV 4)] [none, rV 93 2, rV 93 0] [] [],
  Av E 29 57 6 7 [(0, aV 2 4 0 1), (1, aV 1 4 2 3), (5, iV 4), (6, bV 5), (7, iV 6)] [none, rV 93 2, rV 93 0] [] []],
  shs := [{ m := 2, res := aV 2 4 0 1, post := [none, none, rV 93 0], keep := [1] }] }
theorem jq : Ai (EF m59) [2, 6] 20000 (d59 E0) t59 0 = some (jl (d59 E0) [1]) := by kernel_rfl
theorem pd : Ai (EF m59) [2, 6] 20000 (d59 E0) t59 1 = some (jl (d59 E0) [2]) := by kernel_rfl
theorem nj : Ai (EF m59) [2, 6] 20000 (d59 E0) t59 2 = some (jl (d59 E0) [2, 2, 2, 1, 1]) := by kernel_rfl
theorem c59 : Ay (EF m59) [2, 6] 20000 (d59 E0) t59 := dk3 rfl jq pd nj
def m60 (E : Env) : List Sm := (d59 E).smL a59 (p59 E) 0 (d59 E).shs ++ m59 E
def a60 : List AV := [z4, aV 0 1 4 5, bV 6]
def p60 (E : Env) : Pt := Ap E 57 7 a60 [rV 3 4] []
def d60 (E : Env) : Dec :=
 {g := 60, f := 57, p := 1, pts := [p60 E,
  Av E 57 35 3 10 [(1, aV 0 1 0 1), (2, bV 2), (3, (.ptr 1 0)), (7, aV 2 1 3 4), (8, iV 5)] [rV 3 0, some z18, rV 3 3] [] []],
  shs := [{ m := 2, res := aV 1 1 0 1, post := [none, rV 3 0], keep := [0] }] }
theorem g7 : Ai (EF m60) [3] 20000 (d60 E0) t60 0 = some (jl (d60 E0) [1]) := by kernel_rfl
theorem oJ : Ai (EF m60) [3] 20000 (d60 E0) t60 1 = some (jl (d60 E0) [1, 1, 1, 1]) := by kernel_rfl
theorem c60 : Ay (EF m60) [3] 20000 (d60 E0) t60 := dk2 rfl g7 oJ
def m61 (E : Env) : List Sm := (d60 E).smL a60 (p60 E) 0 (d60 E).shs ++ m60 E
def a61 : List AV := [z4, aV 0 1 4 5, z22, aV 1 1 10 11]
def p61 (E : Env) : Pt := Ap E 56 12 a61 [rV 3 4, rV 3 10] []
def z43 : Ao := (.cells 4 (An [(0, sV 11), (1, dV 100 12), (2, dV 36 13), (3, dV 103 14)]))
def d61 (E : Env) : Dec :=
 {g := 61, f := 56, p := 2, pts := [p61 E,
  Av E 56 50 2 13 [(1, aV 0 1 0 1), (3, aV 1 1 2 3), (4, (.ptr 2 0)), (6, (.ptr 3 0)), (9, iV 4)] [rV 3 0, rV 3 2, some z23, some z24] [] [],
  Av E 56 50 6 15 [(1, aV 0 1 0 1), (3, aV 1 1 2 3), (4, (.ptr 2 0)), (6, (.ptr 3 0)), (9, iV 4), (10, bV 5), (11, iV 6)] [rV 3 0, rV 3 2, some z16, some z43] [] []],
  shs := [{ m := 1, res := iV 0, post := [none, none], keep := [0, 1] }] }
theorem iI : Ai (EF m61) [2, 6] 20000 (d61 E0) t61 0 = some (jl (d61 E0) [1]) := by kernel_rfl
theorem jb : Ai (EF m61) [2, 6] 20000 (d61 E0) t61 1 = some (jl (d61 E0) [2]) := by kernel_rfl
theorem gT : Ai (EF m61) [2, 6] 20000 (d61 E0) t61 2 = some (jl (d61 E0) [2, 2, 2, 2, 1]) := by kernel_rfl
theorem c61 : Ay (EF m61) [2, 6] 20000 (d61 E0) t61 := dk3 rfl iI jb gT
def m62 (E : Env) : List Sm := (d61 E).smL a61 (p61 E) 0 (d61 E).shs ++ m61 E
def a62 : List AV := [z4, z5, (.agg [sV 8, dV 3 9]), z41]
def p62 (E : Env) : Pt := Ap E 30 12 a62 [] []
def d62 (E : Env) : Dec :=
 {g := 62, f := 30, p := 0, pts := [p62 E],
  shs := [{ m := 2, res := (.tuple [iV 0, iV 1]), post := [], keep := [] }] }
theorem kJ : Ai (EF m62) [] 20000 (d62 E0) t62 0 = some (jl (d62 E0) []) := by kernel_rfl
theorem c62 : Ay (EF m62) [] 20000 (d62 E0) t62 := dk1 rfl kJ
def m63 (E : Env) : List Sm := (d62 E).smL a62 (p62 E) 0 (d62 E).shs ++ m62 E
def a63 : List AV := [z4, z5, (.agg [sV 8, dV 3 9, sV 10, dV 3 11])]
def p63 (E : Env) : Pt := Ap E 31 12 a63 [] []
def z44 : Ao := (.cells 4 (An [(0, sV 12), (1, dV 100 13), (2, dV 36 14), (3, dV 103 15)]))
def d63 (E : Env) : Dec :=
 {g := 63, f := 31, p := 0, pts := [p63 E,
  Av E 31 135 5 23 [(3, (.ptr 0 0)), (4, (.ptr 1 0)), (5, (.ptr 2 0)), (7, aV 7 4 0 1), (8, aV 3 1 2 3), (9, aV 4 1 4 5), (10, aV 5 1 6 7), (11, aV 6 1 8 9), (12, iV 10)] [some z43, some (.cells 4 (An [(0, sV 15), (1, dV 100 16), (2, dV 36 17), (3, dV 103 18)])), some (.cells 4 (An [(0, sV 19), (1, dV 3 20), (2, sV 21), (3, dV 3 22)])), rV 3 2, rV 3 4, rV 3 6, rV 3 8, rV 93 0] [] [],
  Av E 31 135 8 24 [(3, (.ptr 0 0)), (4, (.ptr 1 0)), (5, (.ptr 2 0)), (7, aV 7 4 0 1), (8, aV 3 1 2 3), (9, aV 4 1 4 5), (10, aV 5 1 6 7), (11, aV 6 1 8 9), (12, iV 10), (13, iV 11)] [some z44, some (.cells 4 (An [(0, sV 16), (1, dV 100 17), (2, dV 36 18), (3, dV 103 19)])), some (.cells 4 (An [(0, sV 20), (1, dV 3 21), (2, sV 22), (3, dV 3 23)])), rV 3 2, rV 3 4, rV 3 6, rV 3 8, rV 93 0] [] [],
  Av E 31 135 14 19 [(3, (.ptr 0 0)), (4, (.ptr 1 0)), (5, (.ptr 2 0)), (7, aV 5 4 0 1), (10, aV 3 1 2 3), (11, aV 4 1 4 5), (14, iV 6)] [some z16, some z43, some (.cells 4 (An [(0, sV 15), (1, dV 3 16), (2, sV 17), (3, dV 3 18)])), rV 3 2, rV 3 4, rV 93 0] [] [],
  Av E 31 135 17 20 [(3, (.ptr 0 0)), (4, (.ptr 1 0)), (5, (.ptr 2 0)), (7, aV 5 4 0 1), (10, aV 3 1 2 3), (11, aV 4 1 4 5), (14, iV 6), (15, iV 7)] [some z15, some z44, some (.cells 4 (An [(0, sV 16), (1, dV 3 17), (2, sV 18), (3, dV 3 19)])), rV 3 2, rV 3 4, rV 93 0] [] []],
  shs := [{ m := 2, res := aV 0 4 0 1, post := [rV 93 0], keep := [] }] }
theorem jL : Ai (EF m63) [5, 8, 14, 17] 20000 (d63 E0) t63 0 = some (jl (d63 E0) [1]) := by kernel_rfl
theorem iZ : Ai (EF m63) [5, 8, 14, 17] 20000 (d63 E0) t63 1 = some (jl (d63 E0) [2, 3]) := by kernel_rfl
theorem iB : Ai (EF m63) [5, 8, 14, 17] 20000 (d63 E0) t63 2 = some (jl (d63 E0) [2, 2, 2, 2, 1]) := by kernel_rfl
theorem nN : Ai (EF m63) [5, 8, 14, 17] 20000 (d63 E0) t63 3 = some (jl (d63 E0) [4]) := by kernel_rfl
theorem ic : Ai (EF m63) [5, 8, 14, 17] 20000 (d63 E0) t63 4 = some (jl (d63 E0) [4, 4, 4, 4, 3]) := by kernel_rfl
theorem c63 : Ay (EF m63) [5, 8, 14, 17] 20000 (d63 E0) t63 := dk5 rfl jL iZ iB nN ic
def m64 (E : Env) : List Sm := (d63 E).smL a63 (p63 E) 0 (d63 E).shs ++ m63 E
def a64 : List AV := [z4, z5, z6]
def p64 (E : Env) : Pt := Ap E 10 10 a64 [] []
def d64 (E : Env) : Dec :=
 {g := 64, f := 10, p := 0, pts := [p64 E,
  Av E 10 108 6 15 [(3, (.ptr 0 0)), (4, (.ptr 1 0)), (5, (.ptr 2 0)), (6, (.ptr 3 0)), (8, aV 4 2 0 1), (10, aV 5 4 2 3), (11, iV 4)] [some z23, some z24, some (.cells 2 (An [(0, dV 64 13), (1, dV 86 14)])), some z33, rV 39 0, rV 93 2] [] [],
  Av E 10 108 12 11 [(3, (.ptr 0 0)), (4, (.ptr 1 0)), (6, (.ptr 2 0)), (10, aV 3 4 0 1), (14, iV 2)] [some z2, some z16, some z33, rV 93 0] [] []],
  shs := [{ m := 1, res := (.tuple [(.agg [(.str 0 0), .slice0, (.str 0 0), .slice0, (.int .i64 0), (.int .i64 0)]), iV 0]), post := [], keep := [] }, { m := 6, res := (.tuple [(.agg [sV 0, dV 3 1, sV 2, dV 3 3, iV 4, iV 5]), (.int .i64 0)]), post := [], keep := [] }] }
theorem lz : Ai (EF m64) [6, 12] 20000 (d64 E0) t64 0 = some (jl (d64 E0) [1]) := by kernel_rfl
theorem lA : Ai (EF m64) [6, 12] 20000 (d64 E0) t64 1 = some (jl (d64 E0) [1, 1, 2]) := by kernel_rfl
theorem nA : Ai (EF m64) [6, 12] 20000 (d64 E0) t64 2 = some (jl (d64 E0) [2]) := by kernel_rfl
theorem c64 : Ay (EF m64) [6, 12] 20000 (d64 E0) t64 := dk3 rfl lz lA nA
def m65 (E : Env) : List Sm := (d64 E).smL a64 (p64 E) 0 (d64 E).shs ++ m64 E
def a65 : List AV := [z34, (.agg [sV 8, aV 2 1 9 10, sV 11, aV 3 1 12 13, iV 14, iV 15])]
def p65 (E : Env) : Pt := Ap E 9 16 a65 [rV 3 1, rV 3 4, rV 3 9, rV 3 12] []
def d65 (E : Env) : Dec :=
 {g := 65, f := 9, p := 4, pts := [p65 E],
  shs := [{ m := 1, res := bV 0, post := [none, none, none, none], keep := [] }] }
theorem eQ : Ai (EF m65) [] 20000 (d65 E0) t65 0 = some (jl (d65 E0) []) := by kernel_rfl
theorem c65 : Ay (EF m65) [] 20000 (d65 E0) t65 := dk1 rfl eQ
def m66 (E : Env) : List Sm := (d65 E).smL a65 (p65 E) 0 (d65 E).shs ++ m65 E
def a66 : List AV := [z34, (.agg [sV 8, dV 3 9, sV 10, dV 3 11, iV 12, iV 13])]
def p66 (E : Env) : Pt := Ap E 9 14 a66 [rV 3 1, rV 3 4] []
def d66 (E : Env) : Dec :=
 {g := 66, f := 9, p := 2, pts := [p66 E],
  shs := [{ m := 1, res := bV 0, post := [none, none], keep := [] }] }
theorem g8 : Ai (EF m66) [] 20000 (d66 E0) t66 0 = some (jl (d66 E0) []) := by kernel_rfl
theorem c66 : Ay (EF m66) [] 20000 (d66 E0) t66 := dk1 rfl g8
def m67 (E : Env) : List Sm := (d66 E).smL a66 (p66 E) 0 (d66 E).shs ++ m66 E
def p67 (E : Env) : Pt := Ls E 3 [26, 26, 30]
def d67 (E : Env) : Dec :=
 {g := 67, f := 3, p := 0, pts := [p67 E,
  Av E 3 126 4 11 [(3, (.ptr 0 0)), (4, (.ptr 1 0)), (5, (.ptr 2 0)), (34, (.slice 3 0 2 4)), (35, (.int .i64 2)), (36, iV 0)] [some z17, some z23, some z35, some (.cells 8 (An [(0, sV 1), (1, dV 100 2), (2, dV 36 3), (3, dV 103 4), (4, sV 5), (5, dV 100 6), (6, dV 36 7), (7, dV 103 8)]))] [] [],
  Av E 3 126 8 17 [(3, (.ptr 0 0)), (4, (.ptr 1 0)), (5, (.ptr 2 0)), (8, (.ptr 3 0)), (9, iV 0), (10, iV 1), (34, (.slice 4 0 2 4)), (35, (.int .i64 2)), (36, iV 2)] [some z2, some z16, some z36, some (.cells 4 (An [(0, sV 13), (1, dV 100 14), (2, dV 36 15), (3, dV 103 16)])), some (.cells 8 (An [(0, sV 3), (1, dV 100 4), (2, dV 36 5), (3, dV 103 6), (4, sV 7), (5, dV 100 8), (6, dV 36 9), (7, dV 103 10)]))] [] []],
  shs := [LZ] }
theorem ik : Ai (EF m67) [4, 8] 20000 (d67 E0) t67 0 = some (jl (d67 E0) [1]) := by kernel_rfl
theorem e9 : Ai (EF m67) [4, 8] 20000 (d67 E0) t67 1 = some (jl (d67 E0) [2, 2]) := by kernel_rfl
theorem oN : Ai (EF m67) [4, 8] 20000 (d67 E0) t67 2 = some (jl (d67 E0) [2, 2, 2, 1, 1]) := by kernel_rfl
theorem c67 : Ay (EF m67) [4, 8] 20000 (d67 E0) t67 := dk3 rfl ik e9 oN
end Go.Proofs.YtpcdkfgmpekeeaaGreat.convertSafe

