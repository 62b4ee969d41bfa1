/- What is proved: that the functions which the law MachineRepeats reaches are the plain functions over data whose trees of tests the text before writes out (the kernel runs the evaluator over each place). Conditions: the program is the given one. -/
import Derived.Test.YthkffgljlhjggaaProg
import Derived.KernelRfl
import Derived.Test.YthkffgljlhjggaaMachineRepeatsTree
import Derived.Test.YthkffgljlhjggaaMachineRepeatsKnownA
set_option linter.unusedVariables false
set_option linter.unusedSectionVars false
set_option linter.unusedSimpArgs false
namespace Go.Proofs.Ythkffgljlhjggaa.machineRepeats
open Go.AE Mr
def m0 (E : Env) : List Sm := []
instance pg : Pg Try.prog l2 := ⟨trivial⟩
def z0 : AV := (.agg [sV 0, dV 68 1, dV 46 2, dV 71 3])
def a0 : List AV := [z0]
def p0 (E : Env) : Pt := Al E 5 4 a0 [] []
def z1 : Aj := (.cells 4 (Ad [(0, sV 1), (1, dV 68 2), (2, dV 46 3), (3, dV 71 4)]))
def d0 (E : Env) : Dec :=
 {g := 0, f := 5, p := 0, pts := [p0 E,
  AW E 5 99 4 5 [(1, (.ptr 0 0)), (3, iV 0)] [some z1] [] [],
  AW E 5 99 9 5 [(1, (.ptr 0 0)), (4, iV 0)] [some z1] [] [],
  AW E 5 99 14 5 [(1, (.ptr 0 0)), (5, iV 0)] [some z1] [] []],
  shs := [{ m := 1, res := bV 0, post := [], keep := [] }] }
theorem eC : Ak (EF m0) [4, 9, 14] 20000 (d0 E0) t0 0 = some (jl (d0 E0) [1]) := by kernel_rfl
theorem dX : Ak (EF m0) [4, 9, 14] 20000 (d0 E0) t0 1 = some (jl (d0 E0) [1, 2]) := by kernel_rfl
theorem dr : Ak (EF m0) [4, 9, 14] 20000 (d0 E0) t0 2 = some (jl (d0 E0) [2, 3]) := by kernel_rfl
theorem eP : Ak (EF m0) [4, 9, 14] 20000 (d0 E0) t0 3 = some (jl (d0 E0) [3]) := by kernel_rfl
theorem c0 : Av (EF m0) [4, 9, 14] 20000 (d0 E0) t0 := dk4 rfl eC dX dr eP
def m1 (E : Env) : List Sm := (d0 E).smL a0 (p0 E) 0 (d0 E).shs ++ m0 E
def a1 : List AV := []
def p1 (E : Env) : Pt := Al E 6 0 a1 [] []
def d1 (E : Env) : Dec :=
 {g := 1, f := 6, p := 0, pts := [p1 E],
  shs := [{ m := 0, res := (.bool true), post := [], keep := [] }] }
theorem eJ : Ak (EF m1) [] 20000 (d1 E0) t1 0 = some (jl (d1 E0) []) := by kernel_rfl
theorem c1 : Av (EF m1) [] 20000 (d1 E0) t1 := dk1 rfl eJ
def m2 (E : Env) : List Sm := (d1 E).smL a1 (p1 E) 0 (d1 E).shs ++ m1 E
def a2 : List AV := [sV 0]
def p2 (E : Env) : Pt := Al E 46 1 a2 [] []
def d2 (E : Env) : Dec :=
 {g := 2, f := 46, p := 0, pts := [p2 E,
  AW E 46 55 4 3 [(15, (.asl 0 1 (.lenL (.var 0)) (.bc false))), (16, iV 1), (17, iV 2)] [rV 5 0] [] []],
  shs := [{ m := 1, res := bV 0, post := [], keep := [] }] }
theorem dO : Ak (EF m2) [4] 20000 (d2 E0) t2 0 = some (jl (d2 E0) [1]) := by kernel_rfl
theorem ei : Ak (EF m2) [4] 20000 (d2 E0) t2 1 = some (jl (d2 E0) [1, 1, 1, 1]) := by kernel_rfl
theorem c2 : Av (EF m2) [4] 20000 (d2 E0) t2 := dk2 rfl dO ei
def m3 (E : Env) : List Sm := (d2 E).smL a2 (p2 E) 0 (d2 E).shs ++ m2 E
def a3 : List AV := [dV 46 0, (.func (.func 76) [] [(.ptr 0 0)])]
def z2 : Aj := (.cells 1 (Ad [(0, sV 1)]))
def p3 (E : Env) : Pt := Al E 88 2 a3 [some z2] []
def z3 : Aj := (.cells 1 (Ad [(0, sV 2)]))
def d3 (E : Env) : Dec :=
 {g := 3, f := 88, p := 1, pts := [p3 E,
  AW E 88 19 2 3 [(0, dV 46 0), (1, (.func (.func 76) [] [(.ptr 0 0)])), (7, (.si .i64 (.lenL (.var 0)))), (8, iV 1)] [some z3] [] []],
  shs := [{ m := 1, res := iV 0, post := [none], keep := [0] }] }
theorem ew : Ak (EF m3) [2] 20000 (d3 E0) t3 0 = some (jl (d3 E0) [1]) := by kernel_rfl
theorem dU : Ak (EF m3) [2] 20000 (d3 E0) t3 1 = some (jl (d3 E0) [1]) := by kernel_rfl
theorem c3 : Av (EF m3) [2] 20000 (d3 E0) t3 := dk2 rfl ew dU
def m4 (E : Env) : List Sm := (d3 E).smL a3 (p3 E) 0 (d3 E).shs ++ m3 E
def a4 : List AV := [iV 0, iV 1, iV 2, (.func (.func 48) [] [(.ptr 0 0)])]
def z4 : Aj := (.cells 4 (Ad [(0, sV 3), (1, dV 68 4), (2, dV 46 5), (3, dV 71 6)]))
def p4 (E : Env) : Pt := Al E 47 7 a4 [some z4] []
def z5 : Aj := (.cells 4 (Ad [(0, sV 2), (1, dV 68 3), (2, dV 46 4), (3, dV 71 5)]))
def d4 (E : Env) : Dec :=
 {g := 4, f := 47, p := 1, pts := [p4 E,
  AW E 47 28 6 6 [(3, (.func (.func 48) [] [(.ptr 0 0)])), (19, iV 0), (20, iV 1)] [some z5] [] []],
  shs := [{ m := 1, res := iV 0, post := [none], keep := [0] }] }
theorem dQ : Ak (EF m4) [6] 20000 (d4 E0) t4 0 = some (jl (d4 E0) [1]) := by kernel_rfl
theorem dy : Ak (EF m4) [6] 20000 (d4 E0) t4 1 = some (jl (d4 E0) [1]) := by kernel_rfl
theorem c4 : Av (EF m4) [6] 20000 (d4 E0) t4 := dk2 rfl dQ dy
def m5 (E : Env) : List Sm := (d4 E).smL a4 (p4 E) 0 (d4 E).shs ++ m4 E
def a5 : List AV := [dV 68 0, (.func (.func 78) [] [(.ptr 0 0)])]
def p5 (E : Env) : Pt := Al E 89 2 a5 [some z2] []
def d5 (E : Env) : Dec :=
 {g := 5, f := 89, p := 1, pts := [p5 E,
  AW E 89 19 2 3 [(0, dV 68 0), (1, (.func (.func 78) [] [(.ptr 0 0)])), (7, (.si .i64 (.lenL (.var 0)))), (8, iV 1)] [some z3] [] []],
  shs := [{ m := 1, res := iV 0, post := [none], keep := [0] }] }
theorem eA : Ak (EF m5) [2] 20000 (d5 E0) t5 0 = some (jl (d5 E0) [1]) := by kernel_rfl
theorem ej : Ak (EF m5) [2] 20000 (d5 E0) t5 1 = some (jl (d5 E0) [1]) := by kernel_rfl
theorem c5 : Av (EF m5) [2] 20000 (d5 E0) t5 := dk2 rfl eA ej
def m6 (E : Env) : List Sm := (d5 E).smL a5 (p5 E) 0 (d5 E).shs ++ m5 E
def a6 : List AV := [iV 0, iV 1, iV 2, (.func (.func 50) [] [(.ptr 0 0)])]
def p6 (E : Env) : Pt := Al E 47 7 a6 [some z4] []
def d6 (E : Env) : Dec :=
 {g := 6, f := 47, p := 1, pts := [p6 E,
  AW E 47 28 6 6 [(3, (.func (.func 50) [] [(.ptr 0 0)])), (19, iV 0), (20, iV 1)] [some z5] [] []],
  shs := [{ m := 1, res := iV 0, post := [none], keep := [0] }] }
theorem dA : Ak (EF m6) [6] 20000 (d6 E0) t6 0 = some (jl (d6 E0) [1]) := by kernel_rfl
theorem dC : Ak (EF m6) [6] 20000 (d6 E0) t6 1 = some (jl (d6 E0) [1]) := by kernel_rfl
theorem c6 : Av (EF m6) [6] 20000 (d6 E0) t6 := dk2 rfl dA dC
def m7 (E : Env) : List Sm := (d6 E).smL a6 (p6 E) 0 (d6 E).shs ++ m6 E
def a7 : List AV := [dV 71 0, (.agg [sV 1, sV 2, iV 3, sV 4, sV 5, sV 6, iV 7, iV 8, iV 9])]
def p7 (E : Env) : Pt := Al E 92 10 a7 [] []
def d7 (E : Env) : Dec :=
 {g := 7, f := 92, p := 0, pts := [p7 E,
  AW E 92 19 2 11 [(0, dV 71 0), (3, (.ptr 0 0)), (7, (.si .i64 (.lenL (.var 0)))), (8, iV 1)] [some (.cells 9 (Ad [(0, sV 2), (1, sV 3), (2, iV 4), (3, sV 5), (4, sV 6), (5, sV 7), (6, iV 8), (7, iV 9), (8, iV 10)]))] [] []],
  shs := [{ m := 1, res := iV 0, post := [], keep := [] }] }
theorem dB : Ak (EF m7) [2] 20000 (d7 E0) t7 0 = some (jl (d7 E0) [1]) := by kernel_rfl
theorem eo : Ak (EF m7) [2] 20000 (d7 E0) t7 1 = some (jl (d7 E0) [1]) := by kernel_rfl
theorem c7 : Av (EF m7) [2] 20000 (d7 E0) t7 := dk2 rfl dB eo
def m8 (E : Env) : List Sm := (d7 E).smL a7 (p7 E) 0 (d7 E).shs ++ m7 E
def a8 : List AV := [iV 0, iV 1, iV 2, (.func (.func 52) [] [(.ptr 0 0)])]
def p8 (E : Env) : Pt := Al E 47 7 a8 [some z4] []
def d8 (E : Env) : Dec :=
 {g := 8, f := 47, p := 1, pts := [p8 E,
  AW E 47 28 6 6 [(3, (.func (.func 52) [] [(.ptr 0 0)])), (19, iV 0), (20, iV 1)] [some z5] [] []],
  shs := [{ m := 1, res := iV 0, post := [none], keep := [0] }] }
theorem dH : Ak (EF m8) [6] 20000 (d8 E0) t8 0 = some (jl (d8 E0) [1]) := by kernel_rfl
theorem ey : Ak (EF m8) [6] 20000 (d8 E0) t8 1 = some (jl (d8 E0) [1, 1, 1, 1, 1, 1, 1, 1]) := by kernel_rfl
theorem c8 : Av (EF m8) [6] 20000 (d8 E0) t8 := dk2 rfl dH ey
def m9 (E : Env) : List Sm := (d8 E).smL a8 (p8 E) 0 (d8 E).shs ++ m8 E
def a9 : List AV := [z0]
def p9 (E : Env) : Pt := Al E 24 4 a9 [] []
def d9 (E : Env) : Dec :=
 {g := 9, f := 24, p := 0, pts := [p9 E],
  shs := [{ m := 2, res := (.tuple [iV 0, iV 1]), post := [], keep := [] }] }
theorem eI : Ak (EF m9) [] 20000 (d9 E0) t9 0 = some (jl (d9 E0) []) := by kernel_rfl
theorem c9 : Av (EF m9) [] 20000 (d9 E0) t9 := dk1 rfl eI
def m10 (E : Env) : List Sm := (d9 E).smL a9 (p9 E) 0 (d9 E).shs ++ m9 E
def a10 : List AV := [aV 0 3 0 1, (.func (.func 82) [] [(.ptr 1 0)])]
def p10 (E : Env) : Pt := Al E 81 3 a10 [rV 114 0, some z3] []
def z6 : Aj := (.cells 1 (Ad [(0, sV 3)]))
def d10 (E : Env) : Dec :=
 {g := 10, f := 81, p := 2, pts := [p10 E,
  AW E 81 19 2 4 [(0, aV 0 3 0 1), (1, (.func (.func 82) [] [(.ptr 1 0)])), (7, (.si .i64 (.lenL (.var 0)))), (8, iV 2)] [rV 114 0, some z6] [] []],
  shs := [{ m := 1, res := iV 0, post := [none, none], keep := [0, 1] }] }
theorem ZB : Ak (EF m10) [2] 20000 (d10 E0) t10 0 = some (jl (d10 E0) [1]) := by kernel_rfl
theorem Y0 : Ak (EF m10) [2] 20000 (d10 E0) t10 1 = some (jl (d10 E0) [1]) := by kernel_rfl
theorem c10 : Av (EF m10) [2] 20000 (d10 E0) t10 := dk2 rfl ZB Y0
def m11 (E : Env) : List Sm := (d10 E).smL a10 (p10 E) 0 (d10 E).shs ++ m10 E
def a11 : List AV := [dV 46 0]
def p11 (E : Env) : Pt := Al E 25 1 a11 [] []
def z7 : Aj := (.cells 2 (Ad [(0, (.bool true)), (1, aV 1 3 0 1)]))
def d11 (E : Env) : Dec :=
 {g := 11, f := 25, p := 0, pts := [p11 E,
  AW E 25 51 5 4 [(4, (.ptr 0 0)), (12, dV 46 0), (13, (.si .i64 (.lenL (.var 0)))), (14, iV 1)] [some (.cells 2 (Ad [(0, (.bool true)), (1, aV 1 3 2 3)])), rV 114 2] [] []],
  shs := [{ m := 2, res := (.tuple [(.ptr 0 0), (.int .i64 0)]), post := [some z7, rV 114 0], keep := [] }] }
theorem cC : Ak (EF m11) [5] 20000 (d11 E0) t11 0 = some (jl (d11 E0) [1]) := by kernel_rfl
theorem Yu : Ak (EF m11) [5] 20000 (d11 E0) t11 1 = some (jl (d11 E0) [1]) := by kernel_rfl
theorem c11 : Av (EF m11) [5] 20000 (d11 E0) t11 := dk2 rfl cC Yu
def m12 (E : Env) : List Sm := (d11 E).smL a11 (p11 E) 0 (d11 E).shs ++ m11 E
def a12 : List AV := [dV 68 0]
def p12 (E : Env) : Pt := Al E 55 1 a12 [] []
def d12 (E : Env) : Dec :=
 {g := 12, f := 55, p := 0, pts := [p12 E],
  shs := [{ m := 2, res := aV 0 3 0 1, post := [rV 68 0], keep := [] }] }
theorem ZF : Ak (EF m12) [] 20000 (d12 E0) t12 0 = some (jl (d12 E0) []) := by kernel_rfl
theorem c12 : Av (EF m12) [] 20000 (d12 E0) t12 := dk1 rfl ZF
def m13 (E : Env) : List Sm := (d12 E).smL a12 (p12 E) 0 (d12 E).shs ++ m12 E
def a13 : List AV := [dV 46 0]
def p13 (E : Env) : Pt := Al E 56 1 a13 [] []
def d13 (E : Env) : Dec :=
 {g := 13, f := 56, p := 0, pts := [p13 E],
  shs := [{ m := 2, res := aV 0 2 0 1, post := [rV 46 0], keep := [] }] }
theorem bX : Ak (EF m13) [] 20000 (d13 E0) t13 0 = some (jl (d13 E0) []) := by kernel_rfl
theorem c13 : Av (EF m13) [] 20000 (d13 E0) t13 := dk1 rfl bX
def m14 (E : Env) : List Sm := (d13 E).smL a13 (p13 E) 0 (d13 E).shs ++ m13 E
def a14 : List AV := [dV 71 0]
def p14 (E : Env) : Pt := Al E 57 1 a14 [] []
def d14 (E : Env) : Dec :=
 {g := 14, f := 57, p := 0, pts := [p14 E],
  shs := [{ m := 2, res := aV 0 9 0 1, post := [rV 71 0], keep := [] }] }
theorem bN : Ak (EF m14) [] 20000 (d14 E0) t14 0 = some (jl (d14 E0) []) := by kernel_rfl
theorem c14 : Av (EF m14) [] 20000 (d14 E0) t14 := dk1 rfl bN
def m15 (E : Env) : List Sm := (d14 E).smL a14 (p14 E) 0 (d14 E).shs ++ m14 E
def a15 : List AV := [aV 0 3 0 1, (.func (.func 59) [] [(.ptr 1 0)])]
def p15 (E : Env) : Pt := Al E 58 3 a15 [rV 68 0, some z3] []
def d15 (E : Env) : Dec :=
 {g := 15, f := 58, p := 2, pts := [p15 E,
  AW E 58 22 2 6 [(1, (.func (.func 59) [] [(.ptr 1 0)])), (4, aV 2 3 0 1), (7, aV 0 3 2 3), (8, (.si .i64 (.lenL (.var 2)))), (9, iV 4)] [rV 68 2, some (.cells 1 (Ad [(0, sV 5)])), rV 68 0] [] []],
  shs := [{ m := 2, res := aV 2 3 0 1, post := [none, none, rV 68 0], keep := [0, 1] }] }
theorem Yq : Ak (EF m15) [2] 20000 (d15 E0) t15 0 = some (jl (d15 E0) [1]) := by kernel_rfl
theorem bj : Ak (EF m15) [2] 20000 (d15 E0) t15 1 = some (jl (d15 E0) [1, 1]) := by kernel_rfl
theorem c15 : Av (EF m15) [2] 20000 (d15 E0) t15 := dk2 rfl Yq bj
def m16 (E : Env) : List Sm := (d15 E).smL a15 (p15 E) 0 (d15 E).shs ++ m15 E
def a16 : List AV := [(.ptr 0 0), iV 5]
def z8 : Aj := (.cells 3 (Ad [(0, iV 0), (1, (.nmap 1 (.var 2))), (2, aV 2 2 3 4)]))
def p16 (E : Env) : Pt := Al E 37 6 a16 [some z8, some (.dmap 3 3 (.var 1)), rV 134 3] []
def d16 (E : Env) : Dec :=
 {g := 16, f := 37, p := 3, pts := [p16 E],
  shs := [{ m := 2, res := (.tuple [iV 0, iV 1]), post := [none, none, none], keep := [0, 1, 2] }] }
theorem bA : Ak (EF m16) [] 20000 (d16 E0) t16 0 = some (jl (d16 E0) []) := by kernel_rfl
theorem c16 : Av (EF m16) [] 20000 (d16 E0) t16 := dk1 rfl bA
def m17 (E : Env) : List Sm := (d16 E).smL a16 (p16 E) 0 (d16 E).shs ++ m16 E
def a17 : List AV := [(.ptr 0 0), iV 5]
def p17 (E : Env) : Pt := Al E 60 6 a17 [some z8, some (.dmap 3 3 (.var 1)), rV 134 3] []
def d17 (E : Env) : Dec :=
 {g := 17, f := 60, p := 3, pts := [p17 E],
  shs := [{ m := 2, res := iV 0, post := [none, some (.dmap 3 3 (.var 1)), none], keep := [0, 2] }] }
theorem db : Ak (EF m17) [] 20000 (d17 E0) t17 0 = some (jl (d17 E0) []) := by kernel_rfl
theorem c17 : Av (EF m17) [] 20000 (d17 E0) t17 := dk1 rfl db
def m18 (E : Env) : List Sm := (d17 E).smL a17 (p17 E) 0 (d17 E).shs ++ m17 E
def a18 : List AV := [(.ptr 0 0), (.agg [iV 4, iV 5])]
def p18 (E : Env) : Pt := Al E 83 6 a18 [some (.cells 3 (Ad [(0, iV 0), (1, (.map 1)), (2, aV 2 2 2 3)])), some (.dmap 3 3 (.var 1)), rV 134 2] []
def z9 : Aj := (.cells 3 (Ad [(0, .top), (1, .top), (2, aV 3 2 0 1)]))
def d18 (E : Env) : Dec :=
 {g := 18, f := 83, p := 3, pts := [p18 E,
  AW E 83 70 3 5 [(0, (.ptr 0 0)), (4, iV 0)] [some (.cells 3 (Ad [(0, iV 1), (1, (.map 1)), (2, aV 3 2 2 3)])), some (.dmap 3 3 (.var 4)), none, rV 134 2] [] []],
  shs := [{ m := 2, res := (.tuple []), post := [some z9, none, none, rV 134 0], keep := [1], keepC := [(0, [0, 1])] }] }
theorem aR : Ak (EF m18) [3] 20000 (d18 E0) t18 0 = some (jl (d18 E0) [1]) := by kernel_rfl
theorem Zr : Ak (EF m18) [3] 20000 (d18 E0) t18 1 = some (jl (d18 E0) [1, 1, 1, 1]) := by kernel_rfl
theorem c18 : Av (EF m18) [3] 20000 (d18 E0) t18 := dk2 rfl aR Zr
def m19 (E : Env) : List Sm := (d18 E).smL a18 (p18 E) 0 (d18 E).shs ++ m18 E
def a19 : List AV := [(.ptr 0 0), (.agg [iV 5, iV 6])]
def p19 (E : Env) : Pt := Al E 83 7 a19 [some z8, some (.dmap 3 3 (.var 1)), rV 134 3] []
def d19 (E : Env) : Dec :=
 {g := 19, f := 83, p := 3, pts := [p19 E,
  AW E 83 70 3 6 [(0, (.ptr 0 0)), (4, iV 0)] [some (.cells 3 (Ad [(0, iV 1), (1, (.nmap 1 (.var 2))), (2, aV 3 2 3 4)])), some (.dmap 3 3 (.var 5)), none, rV 134 3] [] []],
  shs := [{ m := 2, res := (.tuple []), post := [some z9, none, none, rV 134 0], keep := [1], keepC := [(0, [0, 1])] }] }
theorem Z5 : Ak (EF m19) [3] 20000 (d19 E0) t19 0 = some (jl (d19 E0) [1]) := by kernel_rfl
theorem YU : Ak (EF m19) [3] 20000 (d19 E0) t19 1 = some (jl (d19 E0) [1, 1, 1, 1]) := by kernel_rfl
theorem c19 : Av (EF m19) [3] 20000 (d19 E0) t19 := dk2 rfl Z5 YU
def m20 (E : Env) : List Sm := (d19 E).smL a19 (p19 E) 0 (d19 E).shs ++ m19 E
def a20 : List AV := [(.ptr 0 0), iV 5, iV 6]
def p20 (E : Env) : Pt := Al E 61 7 a20 [some z8, some (.dmap 3 3 (.var 1)), rV 134 3] []
def d20 (E : Env) : Dec :=
 {g := 20, f := 61, p := 3, pts := [p20 E],
  shs := [{ m := 5, res := iV 0, post := [some (.cells 3 (Ad [(0, .top), (1, (.nmap 3 (.var 1))), (2, aV 4 2 2 3)])), none, none, some (.dmap 3 3 (.var 4)), rV 134 2], keep := [], keepC := [(0, [0])] }] }
theorem cG : Ak (EF m20) [] 20000 (d20 E0) t20 0 = some (jl (d20 E0) []) := by kernel_rfl
theorem c20 : Av (EF m20) [] 20000 (d20 E0) t20 := dk1 rfl cG
def m21 (E : Env) : List Sm := (d20 E).smL a20 (p20 E) 0 (d20 E).shs ++ m20 E
def a21 : List AV := [(.ptr 0 0), sV 20]
def z10 : Aj := (.cells 11 (Ad [(0, (.ptr 1 0)), (1, sV 2), (2, aV 3 3 3 4), (3, aV 4 2 5 6), (4, aV 5 9 7 8), (5, sV 9), (6, bV 10), (7, iV 11), (8, (.ptr 6 0)), (9, bV 17), (10, aV 9 2 18 19)]))
def z11 : Aj := (.cells 2 (Ad [(0, (.bool true)), (1, aV 2 3 0 1)]))
def z12 : Aj := (.cells 3 (Ad [(0, iV 12), (1, (.nmap 7 (.var 14))), (2, aV 8 2 15 16)]))
def p21 (E : Env) : Pt := Al E 27 21 a21 [some z10, some z11, rV 114 0, rV 68 3, rV 46 5, rV 71 7, some z12, some (.dmap 3 3 (.var 13)), rV 134 15, rV 52 18] []
def d21 (E : Env) : Dec :=
 {g := 21, f := 27, p := 10, pts := [p21 E],
  shs := [{ m := 7, res := (.tuple []), post := [some (.cells 11 (Ad [(0, .top), (1, .top), (2, .top), (3, .top), (4, .top), (5, sV 0), (6, bV 1), (7, iV 2), (8, .top), (9, (.bool false)), (10, .top)])), none, none, none, none, none, some (.cells 3 (Ad [(0, .top), (1, (.nmap 10 (.var 3))), (2, aV 11 2 4 5)])), none, none, none, some (.dmap 3 3 (.var 6)), rV 134 4], keep := [1, 2, 3, 4, 5, 9], keepC := [(0, [0, 1, 2, 3, 4, 8, 10]), (6, [0])] }] }
theorem cO : Ak (EF m21) [] 20000 (d21 E0) t21 0 = some (jl (d21 E0) []) := by kernel_rfl
theorem c21 : Av (EF m21) [] 20000 (d21 E0) t21 := dk1 rfl cO
def m22 (E : Env) : List Sm := (d21 E).smL a21 (p21 E) 0 (d21 E).shs ++ m21 E
def a22 : List AV := [z0]
def p22 (E : Env) : Pt := Al E 7 4 a22 [] []
def z13 : Aj := (.cells 1 (Ad [(0, (.ptr 1 0))]))
def d22 (E : Env) : Dec :=
 {g := 22, f := 7, p := 0, pts := [p22 E],
  shs := [{ m := 17, res := (.tuple [(.ptr 0 0), (.int .i64 0)]), post := [some z13, some (.cells 11 (Ad [(0, (.ptr 2 0)), (1, sV 0), (2, aV 3 3 1 2), (3, aV 4 2 3 4), (4, aV 5 9 5 6), (5, sV 7), (6, bV 8), (7, iV 9), (8, (.ptr 6 0)), (9, (.bool false)), (10, (.asl 7 2 (.lenL (.var 10)) (.bc true)))])), some (.cells 2 (Ad [(0, (.bool true)), (1, aV 8 3 11 12)])), rV 68 1, rV 46 3, rV 71 5, some (.cells 3 (Ad [(0, (.int .i64 0)), (1, (.nmap 9 (.var 13))), (2, aV 10 2 14 15)])), rV 52 10, rV 114 11, some (.dmap 3 3 (.var 16)), rV 134 14], keep := [] }, { m := 1, res := (.tuple [.ptr0, iV 0]), post := [], keep := [] }] }
theorem bT : Ak (EF m22) [] 20000 (d22 E0) t22 0 = some (jl (d22 E0) []) := by kernel_rfl
theorem c22 : Av (EF m22) [] 20000 (d22 E0) t22 := dk1 rfl bT
def m23 (E : Env) : List Sm := (d22 E).smL a22 (p22 E) 0 (d22 E).shs ++ m22 E
def a23 : List AV := [(.nmap 0 (.var 1))]
def p23 (E : Env) : Pt := Al E 73 2 a23 [some (.dmap 3 3 (.var 0))] []
def d23 (E : Env) : Dec :=
 {g := 23, f := 73, p := 1, pts := [p23 E],
  shs := [{ m := 2, res := (.nmap 1 (.var 0)), post := [none, some (.dmap 3 3 (.var 1))], keep := [0] }] }
theorem aX : Ak (EF m23) [] 20000 (d23 E0) t23 0 = some (jl (d23 E0) []) := by kernel_rfl
theorem c23 : Av (EF m23) [] 20000 (d23 E0) t23 := dk1 rfl aX
def m24 (E : Env) : List Sm := (d23 E).smL a23 (p23 E) 0 (d23 E).shs ++ m23 E
def a24 : List AV := [aV 0 2 0 1]
def p24 (E : Env) : Pt := Al E 74 2 a24 [rV 134 0] []
def d24 (E : Env) : Dec :=
 {g := 24, f := 74, p := 1, pts := [p24 E],
  shs := [{ m := 2, res := aV 1 2 0 1, post := [none, rV 134 0], keep := [0] }] }
theorem ZL : Ak (EF m24) [] 20000 (d24 E0) t24 0 = some (jl (d24 E0) []) := by kernel_rfl
theorem c24 : Av (EF m24) [] 20000 (d24 E0) t24 := dk1 rfl ZL
def m25 (E : Env) : List Sm := (d24 E).smL a24 (p24 E) 0 (d24 E).shs ++ m24 E
def a25 : List AV := [(.ptr 0 0)]
def p25 (E : Env) : Pt := Al E 45 5 a25 [some z8, some (.dmap 3 3 (.var 1)), rV 134 3] []
def d25 (E : Env) : Dec :=
 {g := 25, f := 45, p := 3, pts := [p25 E],
  shs := [{ m := 5, res := (.ptr 3 0), post := [none, none, none, some (.cells 3 (Ad [(0, iV 0), (1, (.nmap 4 (.var 1))), (2, aV 5 2 2 3)])), some (.dmap 3 3 (.var 4)), rV 134 2], keep := [0, 1, 2] }] }
theorem Yv : Ak (EF m25) [] 20000 (d25 E0) t25 0 = some (jl (d25 E0) []) := by kernel_rfl
theorem c25 : Av (EF m25) [] 20000 (d25 E0) t25 := dk1 rfl Yv
def m26 (E : Env) : List Sm := (d25 E).smL a25 (p25 E) 0 (d25 E).shs ++ m25 E
def a26 : List AV := [(.ptr 0 0)]
def p26 (E : Env) : Pt := Al E 94 5 a26 [some z8, some (.dmap 3 3 (.var 1)), rV 134 3] []
def d26 (E : Env) : Dec :=
 {g := 26, f := 94, p := 3, pts := [p26 E,
  AW E 94 100 4 7 [(0, (.ptr 0 0)), (2, iV 0), (3, iV 1)] [some (.cells 3 (Ad [(0, iV 2), (1, (.nmap 1 (.var 3))), (2, aV 2 2 4 5)])), some (.dmap 3 3 (.var 6)), rV 134 4] [] [],
  AW E 94 100 6 11 [(0, (.ptr 0 0)), (2, iV 0), (3, iV 1), (4, iV 2), (41, (.slice 3 0 2 1)), (42, (.int .i64 2)), (43, iV 3)] [some (.cells 3 (Ad [(0, iV 4), (1, (.nmap 1 (.var 5))), (2, aV 2 2 6 7)])), some (.dmap 3 3 (.var 8)), rV 134 6, some (.cells 2 (Ad [(0, iV 9), (1, iV 10)]))] [] []],
  shs := [{ m := 2, res := (.tuple []), post := [some (.cells 3 (Ad [(0, .top), (1, .top), (2, aV 2 2 0 1)])), none, rV 134 0], keep := [1], keepC := [(0, [0, 1])] }] }
theorem bG : Ak (EF m26) [4, 6] 20000 (d26 E0) t26 0 = some (jl (d26 E0) [1]) := by kernel_rfl
theorem Y8 : Ak (EF m26) [4, 6] 20000 (d26 E0) t26 1 = some (jl (d26 E0) [2]) := by kernel_rfl
theorem Z3 : Ak (EF m26) [4, 6] 20000 (d26 E0) t26 2 = some (jl (d26 E0) [2, 2, 2, 2, 2, 2, 2, 2, 2, 2, 2, 2, 2, 2, 2, 2, 2, 2, 2, 2, 1]) := by kernel_rfl
theorem c26 : Av (EF m26) [4, 6] 20000 (d26 E0) t26 := dk3 rfl bG Y8 Z3
def m27 (E : Env) : List Sm := (d26 E).smL a26 (p26 E) 0 (d26 E).shs ++ m26 E
def a27 : List AV := [(.ptr 0 0)]
def p27 (E : Env) : Pt := Al E 84 5 a27 [some z8, some (.dmap 3 3 (.var 1)), rV 134 3] []
def d27 (E : Env) : Dec :=
 {g := 27, f := 84, p := 3, pts := [p27 E,
  AW E 84 40 1 5 [(0, (.ptr 0 0)), (2, (.ptr 3 0))] [some (.cells 3 (Ad [(0, iV 0), (1, (.nmap 1 (.var 1))), (2, aV 2 2 2 3)])), some (.dmap 3 3 (.var 4)), rV 134 2, some (.cells 2 (Ad [(0, (.int .i64 0)), (1, (.int .i64 0))]))] [] []],
  shs := [{ m := 5, res := (.tuple [(.agg [iV 0, iV 1]), bV 2]), post := [some (.cells 3 (Ad [(0, .top), (1, .top), (2, aV 2 2 3 4)])), none, rV 134 3], keep := [1], keepC := [(0, [0, 1])] }] }
theorem cJ : Ak (EF m27) [1] 20000 (d27 E0) t27 0 = some (jl (d27 E0) [1]) := by kernel_rfl
theorem ZT : Ak (EF m27) [1] 20000 (d27 E0) t27 1 = some (jl (d27 E0) [1, 1, 1]) := by kernel_rfl
theorem c27 : Av (EF m27) [1] 20000 (d27 E0) t27 := dk2 rfl cJ ZT
def m28 (E : Env) : List Sm := (d27 E).smL a27 (p27 E) 0 (d27 E).shs ++ m27 E
def a28 : List AV := [(.ptr 0 0), iV 5]
def p28 (E : Env) : Pt := Al E 62 6 a28 [some z8, some (.dmap 3 3 (.var 1)), rV 134 3] []
def d28 (E : Env) : Dec :=
 {g := 28, f := 62, p := 3, pts := [p28 E,
  AW E 62 56 7 10 [(0, (.ptr 0 0)), (4, aV 4 1 0 1), (6, (.ptr 3 0)), (7, bV 2)] [some (.cells 3 (Ad [(0, iV 3), (1, (.nmap 1 (.var 4))), (2, aV 2 2 5 6)])), some (.dmap 3 3 (.var 7)), rV 134 5, some (.cells 2 (Ad [(0, iV 8), (1, iV 9)])), rV 3 0] [] []],
  shs := [{ m := 7, res := (.tuple [aV 3 1 0 1, iV 2]), post := [some (.cells 3 (Ad [(0, iV 3), (1, .top), (2, aV 2 2 4 5)])), some (.dmap 3 3 (.var 6)), rV 134 4, rV 3 0], keep := [], keepC := [(0, [1])] }] }
theorem Z8 : Ak (EF m28) [7] 20000 (d28 E0) t28 0 = some (jl (d28 E0) [1, 1]) := by kernel_rfl
theorem YY : Ak (EF m28) [7] 20000 (d28 E0) t28 1 = some (jl (d28 E0) [1, 1, 1]) := by kernel_rfl
theorem c28 : Av (EF m28) [7] 20000 (d28 E0) t28 := dk2 rfl Z8 YY
def m29 (E : Env) : List Sm := (d28 E).smL a28 (p28 E) 0 (d28 E).shs ++ m28 E
def a29 : List AV := [aV 0 9 0 1]
def p29 (E : Env) : Pt := Al E 57 2 a29 [rV 71 0] []
def d29 (E : Env) : Dec :=
 {g := 29, f := 57, p := 1, pts := [p29 E],
  shs := [{ m := 2, res := aV 1 9 0 1, post := [none, rV 71 0], keep := [0] }] }
theorem YG : Ak (EF m29) [] 20000 (d29 E0) t29 0 = some (jl (d29 E0) []) := by kernel_rfl
theorem c29 : Av (EF m29) [] 20000 (d29 E0) t29 := dk1 rfl YG
def m30 (E : Env) : List Sm := (d29 E).smL a29 (p29 E) 0 (d29 E).shs ++ m29 E
def a30 : List AV := [(.ptr 0 0), sV 2]
def p30 (E : Env) : Pt := Al E 40 3 a30 [some z7, rV 114 0] []
def d30 (E : Env) : Dec :=
 {g := 30, f := 40, p := 2, pts := [p30 E],
  shs := [{ m := 2, res := (.tuple [iV 0, iV 1]), post := [none, none], keep := [0, 1] }] }
theorem Zc : Ak (EF m30) [] 20000 (d30 E0) t30 0 = some (jl (d30 E0) []) := by kernel_rfl
theorem c30 : Av (EF m30) [] 20000 (d30 E0) t30 := dk1 rfl Zc
def m31 (E : Env) : List Sm := (d30 E).smL a30 (p30 E) 0 (d30 E).shs ++ m30 E
def z14 : AV := (.agg [sV 2, sV 3, iV 4, sV 5, sV 6, sV 7, iV 8, iV 9, iV 10])
def a31 : List AV := [(.ptr 0 0), z14]
def p31 (E : Env) : Pt := Al E 85 11 a31 [some z7, rV 114 0] []
def d31 (E : Env) : Dec :=
 {g := 31, f := 85, p := 2, pts := [p31 E],
  shs := [{ m := 2, res := (.tuple [bV 0, iV 1]), post := [none, none], keep := [0, 1] }] }
theorem cY : Ak (EF m31) [] 20000 (d31 E0) t31 0 = some (jl (d31 E0) []) := by kernel_rfl
theorem c31 : Av (EF m31) [] 20000 (d31 E0) t31 := dk1 rfl cY
def m32 (E : Env) : List Sm := (d31 E).smL a31 (p31 E) 0 (d31 E).shs ++ m31 E
def z15 : AV := (.agg [sV 21, sV 22, iV 23, sV 24, sV 25, sV 26, iV 27, iV 28, iV 29])
def a32 : List AV := [(.agg [(.ptr 0 0), (.ptr 6 0), bV 20]), z15]
def p32 (E : Env) : Pt := Al E 32 30 a32 [some z10, some z11, rV 114 0, rV 68 3, rV 46 5, rV 71 7, some z12, some (.dmap 3 3 (.var 13)), rV 134 15, rV 52 18] []
def z16 : Aj := (.cells 11 (Ad [(0, (.ptr 1 0)), (1, sV 1), (2, aV 3 3 2 3), (3, aV 4 2 4 5), (4, aV 5 9 6 7), (5, sV 8), (6, bV 9), (7, iV 10), (8, (.ptr 6 0)), (9, bV 11), (10, aV 9 2 12 13)]))
def z17 : Aj := (.cells 2 (Ad [(0, (.bool true)), (1, aV 2 3 14 15)]))
def z18 : Aj := (.cells 3 (Ad [(0, iV 16), (1, (.nmap 7 (.var 17))), (2, aV 8 2 18 19)]))
def z19 : Aj := (.cells 9 (Ad [(0, sV 21), (1, sV 22), (2, iV 23), (3, sV 24), (4, sV 25), (5, sV 26), (6, iV 27), (7, iV 28), (8, iV 29)]))
def z20 : AV := (.agg [(.ptr 0 0), (.ptr 6 0), bV 30])
def d32 (E : Env) : Dec :=
 {g := 32, f := 32, p := 10, pts := [p32 E,
  AW E 32 24 2 31 [(3, (.ptr 10 0)), (13, (.slice 11 0 3 1)), (14, (.int .i64 3)), (15, iV 0)] [some z16, some z17, rV 114 14, rV 68 2, rV 46 4, rV 71 6, some z18, some (.dmap 3 3 (.var 20)), rV 134 18, rV 52 12, some z19, some (.cells 3 (Ad [(0, (.func (.func 64) [z20] [])), (1, (.func (.func 65) [z20] [])), (2, (.func (.func 66) [z20] []))]))] [] []],
  shs := [{ m := 1, res := bV 0, post := [none, none, none, none, none, none, none, none, none, none], keep := [0, 1, 2, 3, 4, 5, 6, 7, 8, 9] }] }
theorem ZY : Ak (EF m32) [2] 20000 (d32 E0) t32 0 = some (jl (d32 E0) [1]) := by kernel_rfl
theorem Z1 : Ak (EF m32) [2] 20000 (d32 E0) t32 1 = some (jl (d32 E0) [1, 1, 1, 1]) := by kernel_rfl
theorem c32 : Av (EF m32) [2] 20000 (d32 E0) t32 := dk2 rfl ZY Z1
def m33 (E : Env) : List Sm := (d32 E).smL a32 (p32 E) 0 (d32 E).shs ++ m32 E
def a33 : List AV := [(.func (.yield 0) [] []), (.ptr 15 0), (.ptr 17 0)]
def p33 (E : Env) : Pt := Al E 63 26 a33 [some (CR E 9 5 .ready none 36 [(4, (.ptr 1 0)), (6, (.ptr 3 0))] 14), some (.cells 1 (Ad [(0, aV 2 1 0 1)])), rV 3 0, some (.cells 3 (Ad [(0, (.ptr 4 0)), (1, (.ptr 10 0)), (2, bV 22)])), some (.cells 11 (Ad [(0, (.ptr 5 0)), (1, sV 4), (2, aV 7 3 5 6), (3, aV 8 2 7 8), (4, aV 9 9 9 10), (5, sV 11), (6, bV 12), (7, iV 13), (8, (.ptr 10 0)), (9, bV 19), (10, aV 13 2 20 21)])), some (.cells 2 (Ad [(0, (.bool true)), (1, aV 6 3 2 3)])), rV 114 2, rV 68 5, rV 46 7, rV 71 9, some (.cells 3 (Ad [(0, iV 14), (1, (.nmap 11 (.var 16))), (2, aV 12 2 17 18)])), some (.dmap 3 3 (.var 15)), rV 134 17, rV 52 20, some (.deferred (some [])), some (.cells 1 (Ad [(0, aV 16 9 23 24)])), rV 71 23, some (.cells 1 (Ad [(0, sV 25)]))] []
def z21 : Aj := (.cells 3 (Ad [(0, iV 21), (1, (.nmap 11 (.var 22))), (2, aV 12 2 23 24)]))
def d33 (E : Env) : Dec :=
 {g := 33, f := 63, p := 18, pts := [p33 E,
  AW E 63 25 1 27 [(0, (.func (.yield 0) [] [])), (2, (.ptr 17 0)), (6, aV 16 9 0 1), (7, (.si .i64 (.lenL (.var 0)))), (8, iV 2)] [some (CR E 9 5 .ready none 36 [(4, (.ptr 1 0)), (6, (.ptr 3 0))] 14), some (.cells 1 (Ad [(0, aV 18 1 3 4)])), none, some (.cells 3 (Ad [(0, (.ptr 4 0)), (1, (.ptr 10 0)), (2, bV 5)])), some (.cells 11 (Ad [(0, (.ptr 5 0)), (1, sV 6), (2, aV 7 3 7 8), (3, aV 8 2 9 10), (4, aV 9 9 11 12), (5, sV 13), (6, bV 14), (7, iV 15), (8, (.ptr 10 0)), (9, bV 16), (10, aV 13 2 17 18)])), some (.cells 2 (Ad [(0, (.bool true)), (1, aV 6 3 19 20)])), rV 114 19, rV 68 7, rV 46 9, rV 71 11, some z21, some (.dmap 3 3 (.var 25)), rV 134 23, rV 52 17, some (.deferred (some [])), some (.cells 1 (Ad [(0, aV 16 9 0 1)])), rV 71 0, some (.cells 1 (Ad [(0, sV 26)])), rV 3 3] [] []],
  shs := [{ m := 2, res := (.tuple []), post := [none, some (.cells 1 (Ad [(0, aV 18 1 0 1)])), none, none, none, none, none, none, none, none, none, none, none, none, none, none, none, none, rV 3 0], keep := [0, 3, 4, 5, 6, 7, 8, 9, 10, 11, 12, 13, 14, 15, 16, 17] }] }
theorem aP : Ak (EF m33) [1] 20000 (d33 E0) t33 0 = some (jl (d33 E0) [1]) := by kernel_rfl
theorem di : Ak (EF m33) [1] 20000 (d33 E0) t33 1 = some (jl (d33 E0) [1, 1, 1]) := by kernel_rfl
theorem c33 : Av (EF m33) [1] 20000 (d33 E0) t33 := dk2 rfl aP di
def m34 (E : Env) : List Sm := (d33 E).smL a33 (p33 E) 0 (d33 E).shs ++ m33 E
def a34 : List AV := [(.ptr 0 0), iV 20]
def z22 : Aj := (.cells 11 (Ad [(0, (.ptr 2 0)), (1, sV 2), (2, aV 4 3 3 4), (3, aV 5 2 5 6), (4, aV 6 9 7 8), (5, sV 9), (6, bV 10), (7, iV 11), (8, (.ptr 7 0)), (9, bV 17), (10, aV 10 2 18 19)]))
def z23 : Aj := (.cells 2 (Ad [(0, (.bool true)), (1, aV 3 3 0 1)]))
def z24 : Aj := (.cells 3 (Ad [(0, iV 12), (1, (.nmap 8 (.var 14))), (2, aV 9 2 15 16)]))
def p34 (E : Env) : Pt := Al E 9 21 a34 [some z13, some z22, some z23, rV 114 0, rV 68 3, rV 46 5, rV 71 7, some z24, some (.dmap 3 3 (.var 13)), rV 134 15, rV 52 18] []
def d34 (E : Env) : Dec :=
 {g := 34, f := 9, p := 11, pts := [p34 E],
  shs := [{ m := 9, res := (.tuple [aV 11 1 0 1, iV 2]), post := [none, some (.cells 11 (Ad [(0, .top), (1, .top), (2, .top), (3, .top), (4, .top), (5, .top), (6, .top), (7, .top), (8, (.ptr 14 0)), (9, bV 3), (10, .top)])), none, none, none, none, none, none, none, none, none, rV 3 0, some (.dmap 3 3 (.var 4)), rV 134 5, some (.cells 3 (Ad [(0, iV 6), (1, (.nmap 12 (.var 7))), (2, aV 13 2 5 8)]))], keep := [0, 2, 3, 4, 5, 6, 10], keepC := [(1, [0, 1, 2, 3, 4, 5, 6, 7, 10])] }] }
theorem bg : Ak (EF m34) [] 20000 (d34 E0) t34 0 = some (jl (d34 E0) []) := by kernel_rfl
theorem c34 : Av (EF m34) [] 20000 (d34 E0) t34 := dk1 rfl bg
def m35 (E : Env) : List Sm := (d34 E).smL a34 (p34 E) 0 (d34 E).shs ++ m34 E
def z25 : AV := (.agg [(.ptr 0 0), (.ptr 10 0), bV 25])
def a35 : List AV := [z25, (.agg [sV 26, sV 27, iV 28, sV 29, sV 30, sV 31, iV 32, iV 33, iV 34])]
def z26 : Aj := (.cells 3 (Ad [(0, iV 20), (1, (.nmap 11 (.var 22))), (2, aV 12 2 23 24)]))
def p35 (E : Env) : Pt := Al E 32 35 a35 [some z10, some z11, rV 114 0, rV 68 3, rV 46 5, rV 71 7, some z12, some (.dmap 3 3 (.var 13)), rV 134 15, rV 52 18, some z26, some (.dmap 3 3 (.var 21)), rV 134 23] []
def z27 : AV := (.agg [(.ptr 0 0), (.ptr 10 0), bV 35])
def d35 (E : Env) : Dec :=
 {g := 35, f := 32, p := 13, pts := [p35 E,
  AW E 32 24 2 36 [(3, (.ptr 13 0)), (13, (.slice 14 0 3 1)), (14, (.int .i64 3)), (15, iV 0)] [some z16, some z17, rV 114 14, rV 68 2, rV 46 4, rV 71 6, some z18, some (.dmap 3 3 (.var 20)), rV 134 18, rV 52 12, some z21, some (.dmap 3 3 (.var 25)), rV 134 23, some (.cells 9 (Ad [(0, sV 26), (1, sV 27), (2, iV 28), (3, sV 29), (4, sV 30), (5, sV 31), (6, iV 32), (7, iV 33), (8, iV 34)])), some (.cells 3 (Ad [(0, (.func (.func 64) [z27] [])), (1, (.func (.func 65) [z27] [])), (2, (.func (.func 66) [z27] []))]))] [] []],
  shs := [{ m := 1, res := bV 0, post := [none, none, none, none, none, none, none, none, none, none, none, none, none], keep := [0, 1, 2, 3, 4, 5, 6, 7, 8, 9, 10, 11, 12] }] }
theorem Zp : Ak (EF m35) [2] 20000 (d35 E0) t35 0 = some (jl (d35 E0) [1]) := by kernel_rfl
theorem Ze : Ak (EF m35) [2] 20000 (d35 E0) t35 1 = some (jl (d35 E0) [1, 1, 1, 1]) := by kernel_rfl
theorem c35 : Av (EF m35) [2] 20000 (d35 E0) t35 := dk2 rfl Zp Ze
def m36 (E : Env) : List Sm := (d35 E).smL a35 (p35 E) 0 (d35 E).shs ++ m35 E
def a36 : List AV := [(.ptr 0 0), z14]
def p36 (E : Env) : Pt := Al E 67 11 a36 [some z7, rV 114 0] []
def d36 (E : Env) : Dec :=
 {g := 36, f := 67, p := 2, pts := [p36 E],
  shs := [{ m := 2, res := iV 0, post := [none, rV 114 1], keep := [0] }] }
theorem cM : Ak (EF m36) [] 20000 (d36 E0) t36 0 = some (jl (d36 E0) []) := by kernel_rfl
theorem c36 : Av (EF m36) [] 20000 (d36 E0) t36 := dk1 rfl cM
def m37 (E : Env) : List Sm := (d36 E).smL a36 (p36 E) 0 (d36 E).shs ++ m36 E
def a37 : List AV := [z25, iV 26, iV 27]
def p37 (E : Env) : Pt := Al E 35 28 a37 [some z10, some z11, rV 114 0, rV 68 3, rV 46 5, rV 71 7, some z12, some (.dmap 3 3 (.var 13)), rV 134 15, rV 52 18, some z26, some (.dmap 3 3 (.var 21)), rV 134 23] []
def d37 (E : Env) : Dec :=
 {g := 37, f := 35, p := 13, pts := [p37 E],
  shs := [{ m := 17, res := (.tuple []), post := [some (.cells 11 (Ad [(0, .top), (1, .top), (2, .top), (3, .top), (4, .top), (5, sV 0), (6, bV 1), (7, iV 2), (8, (.ptr 10 0)), (9, (.bool false)), (10, aV 13 2 3 4)])), some (.cells 2 (Ad [(0, .top), (1, aV 2 3 5 6)])), rV 114 5, none, none, none, some (.cells 3 (Ad [(0, iV 7), (1, (.nmap 7 (.var 8))), (2, aV 8 2 9 10)])), some (.dmap 3 3 (.var 11)), rV 134 9, none, some (.cells 3 (Ad [(0, iV 12), (1, (.nmap 14 (.var 13))), (2, aV 15 2 14 15)])), none, none, rV 52 3, some (.dmap 3 3 (.var 16)), rV 134 14], keep := [3, 4, 5], keepC := [(0, [0, 1, 2, 3, 4]), (1, [0])] }] }
theorem Yy : Ak (EF m37) [] 20000 (d37 E0) t37 0 = some (jl (d37 E0) []) := by kernel_rfl
theorem c37 : Av (EF m37) [] 20000 (d37 E0) t37 := dk1 rfl Yy
def m38 (E : Env) : List Sm := (d37 E).smL a37 (p37 E) 0 (d37 E).shs ++ m37 E
def a38 : List AV := [(.ptr 0 0), iV 20, iV 21]
def p38 (E : Env) : Pt := Al E 10 22 a38 [some z13, some z22, some z23, rV 114 0, rV 68 3, rV 46 5, rV 71 7, some z24, some (.dmap 3 3 (.var 13)), rV 134 15, rV 52 18] []
def d38 (E : Env) : Dec :=
 {g := 38, f := 10, p := 11, pts := [p38 E],
  shs := [{ m := 14, res := iV 0, post := [none, some (.cells 11 (Ad [(0, .top), (1, .top), (2, .top), (3, .top), (4, .top), (5, sV 1), (6, bV 2), (7, iV 3), (8, (.ptr 13 0)), (9, bV 4), (10, aV 14 2 5 6)])), some (.cells 2 (Ad [(0, .top), (1, aV 3 3 7 8)])), rV 114 7, none, none, none, none, none, none, none, some (.dmap 3 3 (.var 9)), rV 134 10, some (.cells 3 (Ad [(0, iV 11), (1, (.nmap 11 (.var 12))), (2, aV 12 2 10 13)])), rV 52 5], keep := [0, 4, 5, 6], keepC := [(1, [0, 1, 2, 3, 4]), (2, [0])] }] }
theorem aB : Ak (EF m38) [] 20000 (d38 E0) t38 0 = some (jl (d38 E0) []) := by kernel_rfl
theorem c38 : Av (EF m38) [] 20000 (d38 E0) t38 := dk1 rfl aB
def m39 (E : Env) : List Sm := (d38 E).smL a38 (p38 E) 0 (d38 E).shs ++ m38 E
def a39 : List AV := [(.func (.yield 0) [] []), (.ptr 19 0), (.ptr 21 0)]
def p39 (E : Env) : Pt := Al E 63 32 a39 [some (CR E 11 5 .ready none 60 [(6, (.ptr 1 0)), (7, (.ptr 2 0)), (8, (.ptr 3 0)), (10, (.ptr 4 0))] 18), some (.cells 1 (Ad [(0, sV 0)])), some z2, some (.cells 1 (Ad [(0, iV 2)])), some (.cells 3 (Ad [(0, (.ptr 5 0)), (1, (.ptr 15 0)), (2, bV 28)])), some (.cells 11 (Ad [(0, (.ptr 6 0)), (1, sV 5), (2, aV 8 3 6 7), (3, aV 9 2 8 9), (4, aV 10 9 10 11), (5, sV 12), (6, bV 13), (7, iV 14), (8, (.ptr 11 0)), (9, bV 20), (10, aV 14 2 21 22)])), some (.cells 2 (Ad [(0, (.bool true)), (1, aV 7 3 3 4)])), rV 114 3, rV 68 6, rV 46 8, rV 71 10, some (.cells 3 (Ad [(0, iV 15), (1, (.nmap 12 (.var 17))), (2, aV 13 2 18 19)])), some (.dmap 3 3 (.var 16)), rV 134 18, rV 52 21, some (.cells 3 (Ad [(0, iV 23), (1, (.nmap 16 (.var 25))), (2, aV 17 2 26 27)])), some (.dmap 3 3 (.var 24)), rV 134 26, some (.deferred (some [])), some (.cells 1 (Ad [(0, aV 20 9 29 30)])), rV 71 29, some (.cells 1 (Ad [(0, sV 31)]))] []
def z28 : Aj := (.cells 1 (Ad [(0, iV 0)]))
def d39 (E : Env) : Dec :=
 {g := 39, f := 63, p := 22, pts := [p39 E,
  AW E 63 25 1 33 [(0, (.func (.yield 0) [] [])), (2, (.ptr 21 0)), (6, aV 20 9 0 1), (7, (.si .i64 (.lenL (.var 0)))), (8, iV 2)] [some (CR E 11 5 .ready none 60 [(6, (.ptr 1 0)), (7, (.ptr 2 0)), (8, (.ptr 3 0)), (10, (.ptr 4 0))] 18), some z6, some (.cells 1 (Ad [(0, sV 4)])), some (.cells 1 (Ad [(0, iV 5)])), some (.cells 3 (Ad [(0, (.ptr 5 0)), (1, (.ptr 15 0)), (2, bV 6)])), some (.cells 11 (Ad [(0, (.ptr 6 0)), (1, sV 7), (2, aV 8 3 8 9), (3, aV 9 2 10 11), (4, aV 10 9 12 13), (5, sV 14), (6, bV 15), (7, iV 16), (8, (.ptr 11 0)), (9, bV 17), (10, aV 14 2 18 19)])), some (.cells 2 (Ad [(0, (.bool true)), (1, aV 7 3 20 21)])), rV 114 20, rV 68 8, rV 46 10, rV 71 12, some (.cells 3 (Ad [(0, iV 22), (1, (.nmap 12 (.var 23))), (2, aV 13 2 24 25)])), some (.dmap 3 3 (.var 26)), rV 134 24, rV 52 18, some (.cells 3 (Ad [(0, iV 27), (1, (.nmap 16 (.var 28))), (2, aV 17 2 29 30)])), some (.dmap 3 3 (.var 31)), rV 134 29, some (.deferred (some [])), some (.cells 1 (Ad [(0, aV 20 9 0 1)])), rV 71 0, some (.cells 1 (Ad [(0, sV 32)]))] [] []],
  shs := [{ m := 1, res := (.tuple []), post := [some (CR E 11 5 .done (some (.exit 0)) 60 [] 18), none, none, some z28, none, none, none, none, none, none, none, none, none, none, none, none, none, none, none, none, none, none], keep := [1, 2, 4, 5, 6, 7, 8, 9, 10, 11, 12, 13, 14, 15, 16, 17, 18, 19, 20, 21] }, { m := 0, res := (.tuple []), post := [none, none, none, none, none, none, none, none, none, none, none, none, none, none, none, none, none, none, none, none, none, none], keep := [0, 1, 2, 3, 4, 5, 6, 7, 8, 9, 10, 11, 12, 13, 14, 15, 16, 17, 18, 19, 20, 21] }] }
theorem YX : Ak (EF m39) [1] 20000 (d39 E0) t39 0 = some (jl (d39 E0) [1]) := by kernel_rfl
theorem YV : Ak (EF m39) [1] 20000 (d39 E0) t39 1 = some (jl (d39 E0) [1, 1, 1, 1, 1]) := by kernel_rfl
theorem c39 : Av (EF m39) [1] 20000 (d39 E0) t39 := dk2 rfl YX YV
def m40 (E : Env) : List Sm := (d39 E).smL a39 (p39 E) 0 (d39 E).shs ++ m39 E
def a40 : List AV := [(.ptr 0 0), iV 20, sV 21, sV 22]
def p40 (E : Env) : Pt := Al E 11 23 a40 [some z13, some z22, some z23, rV 114 0, rV 68 3, rV 46 5, rV 71 7, some z24, some (.dmap 3 3 (.var 13)), rV 134 15, rV 52 18] []
def d40 (E : Env) : Dec :=
 {g := 40, f := 11, p := 11, pts := [p40 E],
  shs := [{ m := 15, res := (.tuple [iV 0, iV 1]), post := [none, some (.cells 11 (Ad [(0, .top), (1, .top), (2, .top), (3, .top), (4, .top), (5, sV 2), (6, bV 3), (7, iV 4), (8, (.ptr 13 0)), (9, bV 5), (10, aV 14 2 6 7)])), some (.cells 2 (Ad [(0, .top), (1, aV 3 3 8 9)])), rV 114 8, none, none, none, none, none, none, none, some (.dmap 3 3 (.var 10)), rV 134 11, some (.cells 3 (Ad [(0, iV 12), (1, (.nmap 11 (.var 13))), (2, aV 12 2 11 14)])), rV 52 6], keep := [0, 4, 5, 6], keepC := [(1, [0, 1, 2, 3, 4]), (2, [0])] }] }
theorem Zb : Ak (EF m40) [] 20000 (d40 E0) t40 0 = some (jl (d40 E0) []) := by kernel_rfl
theorem c40 : Av (EF m40) [] 20000 (d40 E0) t40 := dk1 rfl Zb
def m41 (E : Env) : List Sm := (d40 E).smL a40 (p40 E) 0 (d40 E).shs ++ m40 E
def a41 : List AV := [(.agg [(.ptr 0 0), .ptr0, bV 20]), z15]
def p41 (E : Env) : Pt := Al E 32 30 a41 [some z10, some z11, rV 114 0, rV 68 3, rV 46 5, rV 71 7, some z12, some (.dmap 3 3 (.var 13)), rV 134 15, rV 52 18] []
def z29 : AV := (.agg [(.ptr 0 0), .ptr0, bV 30])
def d41 (E : Env) : Dec :=
 {g := 41, f := 32, p := 10, pts := [p41 E,
  AW E 32 24 2 31 [(3, (.ptr 10 0)), (13, (.slice 11 0 3 1)), (14, (.int .i64 3)), (15, iV 0)] [some z16, some z17, rV 114 14, rV 68 2, rV 46 4, rV 71 6, some z18, some (.dmap 3 3 (.var 20)), rV 134 18, rV 52 12, some z19, some (.cells 3 (Ad [(0, (.func (.func 64) [z29] [])), (1, (.func (.func 65) [z29] [])), (2, (.func (.func 66) [z29] []))]))] [] []],
  shs := [{ m := 1, res := bV 0, post := [none, none, none, none, none, none, none, none, none, none], keep := [0, 1, 2, 3, 4, 5, 6, 7, 8, 9] }] }
theorem Yt : Ak (EF m41) [2] 20000 (d41 E0) t41 0 = some (jl (d41 E0) [1]) := by kernel_rfl
theorem cS : Ak (EF m41) [2] 20000 (d41 E0) t41 1 = some (jl (d41 E0) [1, 1, 1, 1]) := by kernel_rfl
theorem c41 : Av (EF m41) [2] 20000 (d41 E0) t41 := dk2 rfl Yt cS
def m42 (E : Env) : List Sm := (d41 E).smL a41 (p41 E) 0 (d41 E).shs ++ m41 E
def a42 : List AV := [aV 0 9 0 1, (.func (.func 39) [] [(.ptr 1 0)])]
def p42 (E : Env) : Pt := Al E 38 22 a42 [rV 71 0, some (.cells 3 (Ad [(0, (.ptr 2 0)), (1, .ptr0), (2, bV 21)])), some (.cells 11 (Ad [(0, (.ptr 3 0)), (1, sV 4), (2, aV 5 3 5 6), (3, aV 6 2 7 8), (4, aV 0 9 0 9), (5, sV 10), (6, bV 11), (7, iV 12), (8, (.ptr 7 0)), (9, bV 18), (10, aV 10 2 19 20)])), some (.cells 2 (Ad [(0, (.bool true)), (1, aV 4 3 2 3)])), rV 114 2, rV 68 5, rV 46 7, some (.cells 3 (Ad [(0, iV 13), (1, (.nmap 8 (.var 15))), (2, aV 9 2 16 17)])), some (.dmap 3 3 (.var 14)), rV 134 16, rV 52 19] []
def d42 (E : Env) : Dec :=
 {g := 42, f := 38, p := 11, pts := [p42 E,
  AW E 38 22 2 25 [(1, (.func (.func 39) [] [(.ptr 1 0)])), (4, aV 11 9 0 1), (7, aV 0 9 2 3), (8, (.si .i64 (.lenL (.var 2)))), (9, iV 4)] [rV 71 2, some (.cells 3 (Ad [(0, (.ptr 2 0)), (1, .ptr0), (2, bV 5)])), some (.cells 11 (Ad [(0, (.ptr 3 0)), (1, sV 6), (2, aV 5 3 7 8), (3, aV 6 2 9 10), (4, aV 0 9 2 11), (5, sV 12), (6, bV 13), (7, iV 14), (8, (.ptr 7 0)), (9, bV 15), (10, aV 10 2 16 17)])), some (.cells 2 (Ad [(0, (.bool true)), (1, aV 4 3 18 19)])), rV 114 18, rV 68 7, rV 46 9, some (.cells 3 (Ad [(0, iV 20), (1, (.nmap 8 (.var 21))), (2, aV 9 2 22 23)])), some (.dmap 3 3 (.var 24)), rV 134 22, rV 52 16, rV 71 0] [] []],
  shs := [{ m := 2, res := aV 11 9 0 1, post := [none, none, none, none, none, none, none, none, none, none, none, rV 71 0], keep := [0, 1, 2, 3, 4, 5, 6, 7, 8, 9, 10] }] }
theorem bY : Ak (EF m42) [2] 20000 (d42 E0) t42 0 = some (jl (d42 E0) [1]) := by kernel_rfl
theorem Y4 : Ak (EF m42) [2] 20000 (d42 E0) t42 1 = some (jl (d42 E0) [1, 1, 1]) := by kernel_rfl
theorem c42 : Av (EF m42) [2] 20000 (d42 E0) t42 := dk2 rfl bY Y4
def m43 (E : Env) : List Sm := (d42 E).smL a42 (p42 E) 0 (d42 E).shs ++ m42 E
def a43 : List AV := [(.ptr 0 0)]
def p43 (E : Env) : Pt := Al E 12 20 a43 [some z13, some z22, some z23, rV 114 0, rV 68 3, rV 46 5, rV 71 7, some z24, some (.dmap 3 3 (.var 13)), rV 134 15, rV 52 18] []
def d43 (E : Env) : Dec :=
 {g := 43, f := 12, p := 11, pts := [p43 E],
  shs := [{ m := 2, res := (.tuple [iV 0, iV 1]), post := [none, none, none, none, none, none, none, none, none, none, none], keep := [0, 1, 2, 3, 4, 5, 6, 7, 8, 9, 10] }] }
theorem dj : Ak (EF m43) [] 20000 (d43 E0) t43 0 = some (jl (d43 E0) []) := by kernel_rfl
theorem c43 : Av (EF m43) [] 20000 (d43 E0) t43 := dk1 rfl dj
def m44 (E : Env) : List Sm := (d43 E).smL a43 (p43 E) 0 (d43 E).shs ++ m43 E
def a44 : List AV := [aV 0 2 0 1]
def p44 (E : Env) : Pt := Al E 41 2 a44 [rV 52 0] []
def d44 (E : Env) : Dec :=
 {g := 44, f := 41, p := 1, pts := [p44 E],
  shs := [{ m := 2, res := aV 1 2 0 1, post := [none, rV 52 0], keep := [0] }] }
theorem bp : Ak (EF m44) [] 20000 (d44 E0) t44 0 = some (jl (d44 E0) []) := by kernel_rfl
theorem c44 : Av (EF m44) [] 20000 (d44 E0) t44 := dk1 rfl bp
def m45 (E : Env) : List Sm := (d44 E).smL a44 (p44 E) 0 (d44 E).shs ++ m44 E
def a45 : List AV := [(.func (.yield 0) [] []), (.ptr 18 0)]
def z30 : Aj := (.cells 1 (Ad [(0, bV 0)]))
def z31 : Aj := (.cells 1 (Ad [(0, (.ptr 3 0))]))
def z32 : Aj := (.cells 1 (Ad [(0, (.ptr 4 0))]))
def p45 (E : Env) : Pt := Al E 70 26 a45 [some (CR E 3 42 .ready none 266 [(4, (.ptr 1 0)), (7, (.ptr 2 0)), (16, (.ptr 14 0)), (17, (.ptr 15 0))] 17), some z30, some z31, some z32, some (.cells 11 (Ad [(0, (.ptr 5 0)), (1, sV 3), (2, aV 7 3 4 5), (3, aV 8 2 6 7), (4, aV 9 9 8 9), (5, sV 10), (6, bV 11), (7, iV 12), (8, (.ptr 10 0)), (9, bV 18), (10, aV 13 2 19 20)])), some (.cells 2 (Ad [(0, (.bool true)), (1, aV 6 3 1 2)])), rV 114 1, rV 68 4, rV 46 6, rV 71 8, some (.cells 3 (Ad [(0, iV 13), (1, (.nmap 11 (.var 15))), (2, aV 12 2 16 17)])), some (.dmap 3 3 (.var 14)), rV 134 16, rV 52 19, some (.cells 1 (Ad [(0, iV 21)])), some (.cells 1 (Ad [(0, aV 16 2 22 23)])), rV 52 22, some (.deferred (some [])), some (.cells 1 (Ad [(0, aV 19 2 24 25)])), rV 52 24] []
def z33 : Aj := (.cells 1 (Ad [(0, bV 3)]))
def z34 : Aj := (.cells 1 (Ad [(0, (.bool false))]))
def z35 : Aj := (.cells 11 (Ad [(0, .top), (1, .top), (2, .top), (3, .top), (4, .top), (5, sV 0), (6, bV 1), (7, iV 2), (8, (.ptr 20 0)), (9, bV 3), (10, aV 21 2 4 5)]))
def z36 : Aj := (.cells 2 (Ad [(0, .top), (1, aV 6 3 6 7)]))
def z37 : Aj := (.cells 1 (Ad [(0, iV 8)]))
def z38 : Aj := (.cells 1 (Ad [(0, aV 22 2 9 10)]))
def z39 : Aj := (.cells 3 (Ad [(0, iV 11), (1, (.nmap 23 (.var 12))), (2, aV 24 2 13 14)]))
def d45 (E : Env) : Dec :=
 {g := 45, f := 70, p := 20, pts := [p45 E,
  AW E 70 18 1 27 [(0, (.func (.yield 0) [] [])), (5, aV 19 2 0 1), (6, (.si .i64 (.lenL (.var 0)))), (7, iV 2)] [some (CR E 3 42 .ready none 266 [(4, (.ptr 1 0)), (7, (.ptr 2 0)), (16, (.ptr 14 0)), (17, (.ptr 15 0))] 17), some z33, some z31, some z32, some (.cells 11 (Ad [(0, (.ptr 5 0)), (1, sV 4), (2, aV 7 3 5 6), (3, aV 8 2 7 8), (4, aV 9 9 9 10), (5, sV 11), (6, bV 12), (7, iV 13), (8, (.ptr 22 0)), (9, bV 14), (10, aV 23 2 15 16)])), some (.cells 2 (Ad [(0, (.bool true)), (1, aV 6 3 17 18)])), rV 114 17, rV 68 5, rV 46 7, rV 71 9, none, none, none, none, some (.cells 1 (Ad [(0, iV 19)])), some (.cells 1 (Ad [(0, aV 24 2 20 21)])), none, some (.deferred (some [])), some (.cells 1 (Ad [(0, aV 19 2 0 1)])), rV 52 0, some (.dmap 3 3 (.var 22)), rV 134 23, some (.cells 3 (Ad [(0, iV 24), (1, (.nmap 20 (.var 25))), (2, aV 21 2 23 26)])), rV 52 15, rV 52 20] [] []],
  shs := [{ m := 16, res := (.tuple []), post := [some (CR E 3 42 .done (some .ret) 266 [] 17), some z34, none, none, some z35, some z36, rV 114 6, none, none, none, none, none, none, none, some z37, some z38, none, none, none, none, some z39, rV 52 4, rV 52 9, some (.dmap 3 3 (.var 15)), rV 134 13], keep := [2, 3, 7, 8, 9, 17, 18, 19], keepC := [(4, [0, 1, 2, 3, 4]), (5, [0])] }, { m := 16, res := (.tuple []), post := [none, none, none, none, some z35, some z36, rV 114 6, none, none, none, none, none, none, none, some z37, some z38, none, none, none, none, some z39, rV 52 4, rV 52 9, some (.dmap 3 3 (.var 15)), rV 134 13], keep := [0, 1, 2, 3, 7, 8, 9, 17, 18, 19], keepC := [(4, [0, 1, 2, 3, 4]), (5, [0])] }] }
theorem ce : Ak (EF m45) [1] 20000 (d45 E0) t45 0 = some (jl (d45 E0) [1]) := by kernel_rfl
theorem au : Ak (EF m45) [1] 20000 (d45 E0) t45 1 = some (jl (d45 E0) [1]) := by kernel_rfl
theorem c45 : Av (EF m45) [1] 20000 (d45 E0) t45 := dk2 rfl ce au
def m46 (E : Env) : List Sm := (d45 E).smL a45 (p45 E) 0 (d45 E).shs ++ m45 E
def a46 : List AV := [(.func (.yield 0) [] []), (.ptr 6 0)]
def p46 (E : Env) : Pt := Al E 70 6 a46 [some (CR E 3 52 .ready none 266 [(4, (.ptr 1 0)), (17, (.ptr 2 0)), (21, (.ptr 4 0))] 5), some z30, some (.cells 1 (Ad [(0, aV 3 2 1 2)])), rV 52 1, some (.cells 1 (Ad [(0, iV 3)])), some (.deferred (some [])), some (.cells 1 (Ad [(0, aV 7 2 4 5)])), rV 52 4] []
def d46 (E : Env) : Dec :=
 {g := 46, f := 70, p := 8, pts := [p46 E,
  AW E 70 18 1 7 [(0, (.func (.yield 0) [] [])), (5, aV 7 2 0 1), (6, (.si .i64 (.lenL (.var 0)))), (7, iV 2)] [some (CR E 3 52 .ready none 266 [(4, (.ptr 1 0)), (17, (.ptr 2 0)), (21, (.ptr 4 0))] 5), some z33, some (.cells 1 (Ad [(0, aV 3 2 4 5)])), rV 52 4, some (.cells 1 (Ad [(0, iV 6)])), some (.deferred (some [])), some (.cells 1 (Ad [(0, aV 7 2 0 1)])), rV 52 0] [] []],
  shs := [{ m := 1, res := (.tuple []), post := [some (CR E 3 52 .done (some .ret) 266 [] 5), some z34, none, none, some z28, none, none, none], keep := [2, 3, 5, 6, 7] }, { m := 1, res := (.tuple []), post := [none, none, none, none, some z28, none, none, none], keep := [0, 1, 2, 3, 5, 6, 7] }] }
theorem YQ : Ak (EF m46) [1] 20000 (d46 E0) t46 0 = some (jl (d46 E0) [1]) := by kernel_rfl
theorem cP : Ak (EF m46) [1] 20000 (d46 E0) t46 1 = some (jl (d46 E0) [1]) := by kernel_rfl
theorem c46 : Av (EF m46) [1] 20000 (d46 E0) t46 := dk2 rfl YQ cP
def m47 (E : Env) : List Sm := (d46 E).smL a46 (p46 E) 0 (d46 E).shs ++ m46 E
def a47 : List AV := [(.ptr 0 0), sV 20]
def p47 (E : Env) : Pt := Al E 13 21 a47 [some z13, some z22, some z23, rV 114 0, rV 68 3, rV 46 5, rV 71 7, some z24, some (.dmap 3 3 (.var 13)), rV 134 15, rV 52 18] []
def d47 (E : Env) : Dec :=
 {g := 47, f := 13, p := 11, pts := [p47 E],
  shs := [{ m := 2, res := (.tuple [iV 0, iV 1]), post := [none, none, none, none, none, none, none, none, none, none, none], keep := [0, 1, 2, 3, 4, 5, 6, 7, 8, 9, 10] }] }
theorem ZO : Ak (EF m47) [] 20000 (d47 E0) t47 0 = some (jl (d47 E0) []) := by kernel_rfl
theorem c47 : Av (EF m47) [] 20000 (d47 E0) t47 := dk1 rfl ZO
def m48 (E : Env) : List Sm := (d47 E).smL a47 (p47 E) 0 (d47 E).shs ++ m47 E
def a48 : List AV := [(.ptr 0 0)]
def p48 (E : Env) : Pt := Al E 15 20 a48 [some z13, some z22, some z23, rV 114 0, rV 68 3, rV 46 5, rV 71 7, some z24, some (.dmap 3 3 (.var 13)), rV 134 15, rV 52 18] []
def d48 (E : Env) : Dec :=
 {g := 48, f := 15, p := 11, pts := [p48 E],
  shs := [{ m := 1, res := sV 0, post := [none, none, none, none, none, none, none, none, none, none, none], keep := [0, 1, 2, 3, 4, 5, 6, 7, 8, 9, 10] }] }
theorem ap : Ak (EF m48) [] 20000 (d48 E0) t48 0 = some (jl (d48 E0) []) := by kernel_rfl
theorem c48 : Av (EF m48) [] 20000 (d48 E0) t48 := dk1 rfl ap
def m49 (E : Env) : List Sm := (d48 E).smL a48 (p48 E) 0 (d48 E).shs ++ m48 E
def a49 : List AV := [(.ptr 0 0)]
def p49 (E : Env) : Pt := Al E 16 20 a49 [some z13, some z22, some z23, rV 114 0, rV 68 3, rV 46 5, rV 71 7, some z24, some (.dmap 3 3 (.var 13)), rV 134 15, rV 52 18] []
def d49 (E : Env) : Dec :=
 {g := 49, f := 16, p := 11, pts := [p49 E],
  shs := [{ m := 1, res := bV 0, post := [none, none, none, none, none, none, none, none, none, none, none], keep := [0, 1, 2, 3, 4, 5, 6, 7, 8, 9, 10] }] }
theorem cy : Ak (EF m49) [] 20000 (d49 E0) t49 0 = some (jl (d49 E0) []) := by kernel_rfl
theorem c49 : Av (EF m49) [] 20000 (d49 E0) t49 := dk1 rfl cy
end Go.Proofs.Ythkffgljlhjggaa.machineRepeats

