/- What is proved: that the functions which the law MachineOwns reaches are the plain functions over data whose trees of tests the text before writes out (the kernel runs the evaluator over each place). Conditions: the program is the given one. -/
import Derived.Test.YthkffgljlhjggaaGreatProg
import Derived.KernelRfl
import Derived.Test.YthkffgljlhjggaaGreatMachineOwnsTree
import Derived.Test.YthkffgljlhjggaaGreatMachineOwnsKnownA
set_option linter.unusedVariables false
set_option linter.unusedSectionVars false
set_option linter.unusedSimpArgs false
namespace Go.Proofs.YthkffgljlhjggaaGreat.machineOwns
open Go.AE Mo
def m0 (E : Env) : List Sm := []
instance pg : Pg Tryz.prog l2 := ⟨trivial⟩
def z0 : AV := (.agg [sV 0, dV 63 1, dV 65 2, dV 68 3])
def a0 : List AV := [z0]
def p0 (E : Env) : Pt := Ak E 7 4 a0 [] []
def z1 : Ao := (.cells 4 (Ad [(0, sV 1), (1, dV 63 2), (2, dV 65 3), (3, dV 68 4)]))
def d0 (E : Env) : Dec :=
 {g := 0, f := 7, p := 0, pts := [p0 E,
  Ax E 7 99 4 5 [(1, (.ptr 0 0)), (3, iV 0)] [some z1] [] [],
  Ax E 7 99 9 5 [(1, (.ptr 0 0)), (4, iV 0)] [some z1] [] [],
  Ax E 7 99 14 5 [(1, (.ptr 0 0)), (5, iV 0)] [some z1] [] []],
  shs := [{ m := 1, res := bV 0, post := [], keep := [] }] }
theorem lH : Ah (EF m0) [4, 9, 14] 20000 (d0 E0) t0 0 = some (jl (d0 E0) [1]) := by kernel_rfl
theorem kZ : Ah (EF m0) [4, 9, 14] 20000 (d0 E0) t0 1 = some (jl (d0 E0) [1, 2]) := by kernel_rfl
theorem ly : Ah (EF m0) [4, 9, 14] 20000 (d0 E0) t0 2 = some (jl (d0 E0) [2, 3]) := by kernel_rfl
theorem k9 : Ah (EF m0) [4, 9, 14] 20000 (d0 E0) t0 3 = some (jl (d0 E0) [3]) := by kernel_rfl
theorem c0 : Ar (EF m0) [4, 9, 14] 20000 (d0 E0) t0 := dk4 rfl lH kZ ly k9
def m1 (E : Env) : List Sm := (d0 E).smL a0 (p0 E) 0 (d0 E).shs ++ m0 E
def a1 : List AV := []
def p1 (E : Env) : Pt := Ak E 8 0 a1 [] []
def d1 (E : Env) : Dec :=
 {g := 1, f := 8, p := 0, pts := [p1 E],
  shs := [{ m := 0, res := (.bool true), post := [], keep := [] }] }
theorem kU : Ah (EF m1) [] 20000 (d1 E0) t1 0 = some (jl (d1 E0) []) := by kernel_rfl
theorem c1 : Ar (EF m1) [] 20000 (d1 E0) t1 := dk1 rfl kU
def m2 (E : Env) : List Sm := (d1 E).smL a1 (p1 E) 0 (d1 E).shs ++ m1 E
def a2 : List AV := [sV 0]
def p2 (E : Env) : Pt := Ak E 63 1 a2 [] []
def d2 (E : Env) : Dec :=
 {g := 2, f := 63, p := 0, pts := [p2 E,
  Ax E 63 55 4 3 [(15, (.asl 0 1 (.lenL (.var 0)) (.bc false))), (16, iV 1), (17, iV 2)] [rV 5 0] [] []],
  shs := [{ m := 1, res := bV 0, post := [], keep := [] }] }
theorem lh : Ah (EF m2) [4] 20000 (d2 E0) t2 0 = some (jl (d2 E0) [1]) := by kernel_rfl
theorem lq : Ah (EF m2) [4] 20000 (d2 E0) t2 1 = some (jl (d2 E0) [1, 1, 1, 1]) := by kernel_rfl
theorem c2 : Ar (EF m2) [4] 20000 (d2 E0) t2 := dk2 rfl lh lq
def m3 (E : Env) : List Sm := (d2 E).smL a2 (p2 E) 0 (d2 E).shs ++ m2 E
def a3 : List AV := [dV 65 0, (.func (.func 100) [] [(.ptr 0 0)])]
def z2 : Ao := (.cells 1 (Ad [(0, sV 1)]))
def p3 (E : Env) : Pt := Ak E 117 2 a3 [some z2] []
def z3 : Ao := (.cells 1 (Ad [(0, sV 2)]))
def d3 (E : Env) : Dec :=
 {g := 3, f := 117, p := 1, pts := [p3 E,
  Ax E 117 19 2 3 [(0, dV 65 0), (1, (.func (.func 100) [] [(.ptr 0 0)])), (7, (.si .i64 (.lenL (.var 0)))), (8, iV 1)] [some z3] [] []],
  shs := [{ m := 1, res := iV 0, post := [none], keep := [0] }] }
theorem lN : Ah (EF m3) [2] 20000 (d3 E0) t3 0 = some (jl (d3 E0) [1]) := by kernel_rfl
theorem lK : Ah (EF m3) [2] 20000 (d3 E0) t3 1 = some (jl (d3 E0) [1]) := by kernel_rfl
theorem c3 : Ar (EF m3) [2] 20000 (d3 E0) t3 := dk2 rfl lN lK
def m4 (E : Env) : List Sm := (d3 E).smL a3 (p3 E) 0 (d3 E).shs ++ m3 E
def a4 : List AV := [iV 0, iV 1, iV 2, (.func (.func 65) [] [(.ptr 0 0)])]
def z4 : Ao := (.cells 4 (Ad [(0, sV 3), (1, dV 63 4), (2, dV 65 5), (3, dV 68 6)]))
def p4 (E : Env) : Pt := Ak E 64 7 a4 [some z4] []
def z5 : Ao := (.cells 4 (Ad [(0, sV 2), (1, dV 63 3), (2, dV 65 4), (3, dV 68 5)]))
def d4 (E : Env) : Dec :=
 {g := 4, f := 64, p := 1, pts := [p4 E,
  Ax E 64 28 6 6 [(3, (.func (.func 65) [] [(.ptr 0 0)])), (19, iV 0), (20, iV 1)] [some z5] [] []],
  shs := [{ m := 1, res := iV 0, post := [none], keep := [0] }] }
theorem lA : Ah (EF m4) [6] 20000 (d4 E0) t4 0 = some (jl (d4 E0) [1]) := by kernel_rfl
theorem kS : Ah (EF m4) [6] 20000 (d4 E0) t4 1 = some (jl (d4 E0) [1]) := by kernel_rfl
theorem c4 : Ar (EF m4) [6] 20000 (d4 E0) t4 := dk2 rfl lA kS
def m5 (E : Env) : List Sm := (d4 E).smL a4 (p4 E) 0 (d4 E).shs ++ m4 E
def a5 : List AV := [dV 63 0, (.func (.func 102) [] [(.ptr 0 0)])]
def p5 (E : Env) : Pt := Ak E 94 2 a5 [some z2] []
def d5 (E : Env) : Dec :=
 {g := 5, f := 94, p := 1, pts := [p5 E,
  Ax E 94 19 2 3 [(0, dV 63 0), (1, (.func (.func 102) [] [(.ptr 0 0)])), (7, (.si .i64 (.lenL (.var 0)))), (8, iV 1)] [some z3] [] []],
  shs := [{ m := 1, res := iV 0, post := [none], keep := [0] }] }
theorem lT : Ah (EF m5) [2] 20000 (d5 E0) t5 0 = some (jl (d5 E0) [1]) := by kernel_rfl
theorem lw : Ah (EF m5) [2] 20000 (d5 E0) t5 1 = some (jl (d5 E0) [1]) := by kernel_rfl
theorem c5 : Ar (EF m5) [2] 20000 (d5 E0) t5 := dk2 rfl lT lw
def m6 (E : Env) : List Sm := (d5 E).smL a5 (p5 E) 0 (d5 E).shs ++ m5 E
def a6 : List AV := [iV 0, iV 1, iV 2, (.func (.func 67) [] [(.ptr 0 0)])]
def p6 (E : Env) : Pt := Ak E 64 7 a6 [some z4] []
def d6 (E : Env) : Dec :=
 {g := 6, f := 64, p := 1, pts := [p6 E,
  Ax E 64 28 6 6 [(3, (.func (.func 67) [] [(.ptr 0 0)])), (19, iV 0), (20, iV 1)] [some z5] [] []],
  shs := [{ m := 1, res := iV 0, post := [none], keep := [0] }] }
theorem kO : Ah (EF m6) [6] 20000 (d6 E0) t6 0 = some (jl (d6 E0) [1]) := by kernel_rfl
theorem lz : Ah (EF m6) [6] 20000 (d6 E0) t6 1 = some (jl (d6 E0) [1]) := by kernel_rfl
theorem c6 : Ar (EF m6) [6] 20000 (d6 E0) t6 := dk2 rfl kO lz
def m7 (E : Env) : List Sm := (d6 E).smL a6 (p6 E) 0 (d6 E).shs ++ m6 E
def a7 : List AV := [dV 68 0, (.agg [sV 1, sV 2, iV 3, sV 4, sV 5, sV 6, iV 7, iV 8, iV 9])]
def p7 (E : Env) : Pt := Ak E 120 10 a7 [] []
def d7 (E : Env) : Dec :=
 {g := 7, f := 120, p := 0, pts := [p7 E,
  Ax E 120 19 2 11 [(0, dV 68 0), (3, (.ptr 0 0)), (7, (.si .i64 (.lenL (.var 0)))), (8, iV 1)] [some (.cells 9 (Ad [(0, sV 2), (1, sV 3), (2, iV 4), (3, sV 5), (4, sV 6), (5, sV 7), (6, iV 8), (7, iV 9), (8, iV 10)]))] [] []],
  shs := [{ m := 1, res := iV 0, post := [], keep := [] }] }
theorem lO : Ah (EF m7) [2] 20000 (d7 E0) t7 0 = some (jl (d7 E0) [1]) := by kernel_rfl
theorem lG : Ah (EF m7) [2] 20000 (d7 E0) t7 1 = some (jl (d7 E0) [1]) := by kernel_rfl
theorem c7 : Ar (EF m7) [2] 20000 (d7 E0) t7 := dk2 rfl lO lG
def m8 (E : Env) : List Sm := (d7 E).smL a7 (p7 E) 0 (d7 E).shs ++ m7 E
def a8 : List AV := [iV 0, iV 1, iV 2, (.func (.func 69) [] [(.ptr 0 0)])]
def p8 (E : Env) : Pt := Ak E 64 7 a8 [some z4] []
def d8 (E : Env) : Dec :=
 {g := 8, f := 64, p := 1, pts := [p8 E,
  Ax E 64 28 6 6 [(3, (.func (.func 69) [] [(.ptr 0 0)])), (19, iV 0), (20, iV 1)] [some z5] [] []],
  shs := [{ m := 1, res := iV 0, post := [none], keep := [0] }] }
theorem ln : Ah (EF m8) [6] 20000 (d8 E0) t8 0 = some (jl (d8 E0) [1]) := by kernel_rfl
theorem lM : Ah (EF m8) [6] 20000 (d8 E0) t8 1 = some (jl (d8 E0) [1, 1, 1, 1, 1, 1, 1, 1]) := by kernel_rfl
theorem c8 : Ar (EF m8) [6] 20000 (d8 E0) t8 := dk2 rfl ln lM
def m9 (E : Env) : List Sm := (d8 E).smL a8 (p8 E) 0 (d8 E).shs ++ m8 E
def a9 : List AV := [z0]
def p9 (E : Env) : Pt := Ak E 28 4 a9 [] []
def d9 (E : Env) : Dec :=
 {g := 9, f := 28, p := 0, pts := [p9 E],
  shs := [{ m := 2, res := (.tuple [iV 0, iV 1]), post := [], keep := [] }] }
theorem l8 : Ah (EF m9) [] 20000 (d9 E0) t9 0 = some (jl (d9 E0) []) := by kernel_rfl
theorem c9 : Ar (EF m9) [] 20000 (d9 E0) t9 := dk1 rfl l8
def m10 (E : Env) : List Sm := (d9 E).smL a9 (p9 E) 0 (d9 E).shs ++ m9 E
def a10 : List AV := [aV 0 3 0 1, (.func (.func 106) [] [(.ptr 1 0)])]
def p10 (E : Env) : Pt := Ak E 105 3 a10 [rV 141 0, some z3] []
def z6 : Ao := (.cells 1 (Ad [(0, sV 3)]))
def d10 (E : Env) : Dec :=
 {g := 10, f := 105, p := 2, pts := [p10 E,
  Ax E 105 19 2 4 [(0, aV 0 3 0 1), (1, (.func (.func 106) [] [(.ptr 1 0)])), (7, (.si .i64 (.lenL (.var 0)))), (8, iV 2)] [rV 141 0, some z6] [] []],
  shs := [{ m := 1, res := iV 0, post := [none, none], keep := [0, 1] }] }
theorem kC : Ah (EF m10) [2] 20000 (d10 E0) t10 0 = some (jl (d10 E0) [1]) := by kernel_rfl
theorem jd : Ah (EF m10) [2] 20000 (d10 E0) t10 1 = some (jl (d10 E0) [1]) := by kernel_rfl
theorem c10 : Ar (EF m10) [2] 20000 (d10 E0) t10 := dk2 rfl kC jd
def m11 (E : Env) : List Sm := (d10 E).smL a10 (p10 E) 0 (d10 E).shs ++ m10 E
def a11 : List AV := [aV 0 2 0 1]
def p11 (E : Env) : Pt := Ak E 29 2 a11 [rV 65 0] []
def z7 : Ao := (.cells 2 (Ad [(0, (.bool true)), (1, aV 2 3 0 1)]))
def d11 (E : Env) : Dec :=
 {g := 11, f := 29, p := 1, pts := [p11 E,
  Ax E 29 51 5 5 [(4, (.ptr 1 0)), (12, aV 0 2 0 1), (13, (.si .i64 (.lenL (.var 0)))), (14, iV 2)] [rV 65 0, some (.cells 2 (Ad [(0, (.bool true)), (1, aV 2 3 3 4)])), rV 141 3] [] []],
  shs := [{ m := 2, res := (.tuple [(.ptr 1 0), (.int .i64 0)]), post := [none, some z7, rV 141 0], keep := [0] }] }
theorem cU : Ah (EF m11) [5] 20000 (d11 E0) t11 0 = some (jl (d11 E0) [1]) := by kernel_rfl
theorem gn : Ah (EF m11) [5] 20000 (d11 E0) t11 1 = some (jl (d11 E0) [1]) := by kernel_rfl
theorem c11 : Ar (EF m11) [5] 20000 (d11 E0) t11 := dk2 rfl cU gn
def m12 (E : Env) : List Sm := (d11 E).smL a11 (p11 E) 0 (d11 E).shs ++ m11 E
def a12 : List AV := [aV 0 3 0 1]
def p12 (E : Env) : Pt := Ak E 72 2 a12 [rV 63 0] []
def d12 (E : Env) : Dec :=
 {g := 12, f := 72, p := 1, pts := [p12 E],
  shs := [{ m := 2, res := aV 1 3 0 1, post := [none, rV 63 0], keep := [0] }] }
theorem eF : Ah (EF m12) [] 20000 (d12 E0) t12 0 = some (jl (d12 E0) []) := by kernel_rfl
theorem c12 : Ar (EF m12) [] 20000 (d12 E0) t12 := dk1 rfl eF
def m13 (E : Env) : List Sm := (d12 E).smL a12 (p12 E) 0 (d12 E).shs ++ m12 E
def a13 : List AV := [aV 0 2 0 1]
def p13 (E : Env) : Pt := Ak E 73 2 a13 [rV 65 0] []
def d13 (E : Env) : Dec :=
 {g := 13, f := 73, p := 1, pts := [p13 E],
  shs := [{ m := 2, res := aV 1 2 0 1, post := [none, rV 65 0], keep := [0] }] }
theorem jm : Ah (EF m13) [] 20000 (d13 E0) t13 0 = some (jl (d13 E0) []) := by kernel_rfl
theorem c13 : Ar (EF m13) [] 20000 (d13 E0) t13 := dk1 rfl jm
def m14 (E : Env) : List Sm := (d13 E).smL a13 (p13 E) 0 (d13 E).shs ++ m13 E
def a14 : List AV := [aV 0 9 0 1]
def p14 (E : Env) : Pt := Ak E 74 2 a14 [rV 68 0] []
def d14 (E : Env) : Dec :=
 {g := 14, f := 74, p := 1, pts := [p14 E],
  shs := [{ m := 2, res := aV 1 9 0 1, post := [none, rV 68 0], keep := [0] }] }
theorem cV : Ah (EF m14) [] 20000 (d14 E0) t14 0 = some (jl (d14 E0) []) := by kernel_rfl
theorem c14 : Ar (EF m14) [] 20000 (d14 E0) t14 := dk1 rfl cV
def m15 (E : Env) : List Sm := (d14 E).smL a14 (p14 E) 0 (d14 E).shs ++ m14 E
def a15 : List AV := [aV 0 3 0 1, (.func (.func 76) [] [(.ptr 1 0)])]
def p15 (E : Env) : Pt := Ak E 75 3 a15 [rV 63 0, some z3] []
def d15 (E : Env) : Dec :=
 {g := 15, f := 75, p := 2, pts := [p15 E,
  Ax E 75 22 2 6 [(1, (.func (.func 76) [] [(.ptr 1 0)])), (4, aV 2 3 0 1), (7, aV 0 3 2 3), (8, (.si .i64 (.lenL (.var 2)))), (9, iV 4)] [rV 63 2, some (.cells 1 (Ad [(0, sV 5)])), rV 63 0] [] []],
  shs := [{ m := 2, res := aV 2 3 0 1, post := [none, none, rV 63 0], keep := [0, 1] }] }
theorem gu : Ah (EF m15) [2] 20000 (d15 E0) t15 0 = some (jl (d15 E0) [1]) := by kernel_rfl
theorem g7 : Ah (EF m15) [2] 20000 (d15 E0) t15 1 = some (jl (d15 E0) [1, 1]) := by kernel_rfl
theorem c15 : Ar (EF m15) [2] 20000 (d15 E0) t15 := dk2 rfl gu g7
def m16 (E : Env) : List Sm := (d15 E).smL a15 (p15 E) 0 (d15 E).shs ++ m15 E
def a16 : List AV := [(.ptr 0 0), iV 5]
def z8 : Ao := (.cells 3 (Ad [(0, iV 0), (1, (.nmap 1 (.var 2))), (2, aV 2 2 3 4)]))
def p16 (E : Env) : Pt := Ak E 60 6 a16 [some z8, some (.dmap 3 3 (.var 1)), rV 158 3] []
def d16 (E : Env) : Dec :=
 {g := 16, f := 60, p := 3, pts := [p16 E],
  shs := [{ m := 2, res := (.tuple [iV 0, iV 1]), post := [none, none, none], keep := [0, 1, 2] }] }
theorem dJ : Ah (EF m16) [] 20000 (d16 E0) t16 0 = some (jl (d16 E0) []) := by kernel_rfl
theorem c16 : Ar (EF m16) [] 20000 (d16 E0) t16 := dk1 rfl dJ
def m17 (E : Env) : List Sm := (d16 E).smL a16 (p16 E) 0 (d16 E).shs ++ m16 E
def a17 : List AV := [(.ptr 0 0), iV 5]
def p17 (E : Env) : Pt := Ak E 77 6 a17 [some z8, some (.dmap 3 3 (.var 1)), rV 158 3] []
def d17 (E : Env) : Dec :=
 {g := 17, f := 77, p := 3, pts := [p17 E],
  shs := [{ m := 2, res := iV 0, post := [none, some (.dmap 3 3 (.var 1)), none], keep := [0, 2] }] }
theorem gk : Ah (EF m17) [] 20000 (d17 E0) t17 0 = some (jl (d17 E0) []) := by kernel_rfl
theorem c17 : Ar (EF m17) [] 20000 (d17 E0) t17 := dk1 rfl gk
def m18 (E : Env) : List Sm := (d17 E).smL a17 (p17 E) 0 (d17 E).shs ++ m17 E
def a18 : List AV := [(.ptr 0 0), (.agg [iV 4, iV 5])]
def p18 (E : Env) : Pt := Ak E 107 6 a18 [some (.cells 3 (Ad [(0, iV 0), (1, (.map 1)), (2, aV 2 2 2 3)])), some (.dmap 3 3 (.var 1)), rV 158 2] []
def z9 : Ao := (.cells 3 (Ad [(0, .top), (1, .top), (2, aV 3 2 0 1)]))
def d18 (E : Env) : Dec :=
 {g := 18, f := 107, p := 3, pts := [p18 E,
  Ax E 107 70 3 5 [(0, (.ptr 0 0)), (4, iV 0)] [some (.cells 3 (Ad [(0, iV 1), (1, (.map 1)), (2, aV 3 2 2 3)])), some (.dmap 3 3 (.var 4)), none, rV 158 2] [] []],
  shs := [{ m := 2, res := (.tuple []), post := [some z9, none, none, rV 158 0], keep := [1], keepC := [(0, [0, 1])] }] }
theorem iD : Ah (EF m18) [3] 20000 (d18 E0) t18 0 = some (jl (d18 E0) [1]) := by kernel_rfl
theorem gG : Ah (EF m18) [3] 20000 (d18 E0) t18 1 = some (jl (d18 E0) [1, 1, 1, 1]) := by kernel_rfl
theorem c18 : Ar (EF m18) [3] 20000 (d18 E0) t18 := dk2 rfl iD gG
def m19 (E : Env) : List Sm := (d18 E).smL a18 (p18 E) 0 (d18 E).shs ++ m18 E
def a19 : List AV := [(.ptr 0 0), (.agg [iV 5, iV 6])]
def p19 (E : Env) : Pt := Ak E 107 7 a19 [some z8, some (.dmap 3 3 (.var 1)), rV 158 3] []
def d19 (E : Env) : Dec :=
 {g := 19, f := 107, p := 3, pts := [p19 E,
  Ax E 107 70 3 6 [(0, (.ptr 0 0)), (4, iV 0)] [some (.cells 3 (Ad [(0, iV 1), (1, (.nmap 1 (.var 2))), (2, aV 3 2 3 4)])), some (.dmap 3 3 (.var 5)), none, rV 158 3] [] []],
  shs := [{ m := 2, res := (.tuple []), post := [some z9, none, none, rV 158 0], keep := [1], keepC := [(0, [0, 1])] }] }
theorem ku : Ah (EF m19) [3] 20000 (d19 E0) t19 0 = some (jl (d19 E0) [1]) := by kernel_rfl
theorem dw : Ah (EF m19) [3] 20000 (d19 E0) t19 1 = some (jl (d19 E0) [1, 1, 1, 1]) := by kernel_rfl
theorem c19 : Ar (EF m19) [3] 20000 (d19 E0) t19 := dk2 rfl ku dw
def m20 (E : Env) : List Sm := (d19 E).smL a19 (p19 E) 0 (d19 E).shs ++ m19 E
def a20 : List AV := [(.ptr 0 0), iV 5, iV 6]
def p20 (E : Env) : Pt := Ak E 78 7 a20 [some z8, some (.dmap 3 3 (.var 1)), rV 158 3] []
def d20 (E : Env) : Dec :=
 {g := 20, f := 78, p := 3, pts := [p20 E],
  shs := [{ m := 5, res := iV 0, post := [some (.cells 3 (Ad [(0, .top), (1, (.nmap 3 (.var 1))), (2, aV 4 2 2 3)])), none, none, some (.dmap 3 3 (.var 4)), rV 158 2], keep := [], keepC := [(0, [0])] }] }
theorem bE : Ah (EF m20) [] 20000 (d20 E0) t20 0 = some (jl (d20 E0) []) := by kernel_rfl
theorem c20 : Ar (EF m20) [] 20000 (d20 E0) t20 := dk1 rfl bE
def m21 (E : Env) : List Sm := (d20 E).smL a20 (p20 E) 0 (d20 E).shs ++ m20 E
def a21 : List AV := [(.ptr 0 0), sV 20]
def z10 : Ao := (.cells 11 (Ad [(0, (.ptr 1 0)), (1, sV 2), (2, aV 3 3 3 4), (3, aV 4 2 5 6), (4, aV 5 9 7 8), (5, sV 9), (6, bV 10), (7, iV 11), (8, (.ptr 6 0)), (9, bV 17), (10, aV 9 2 18 19)]))
def z11 : Ao := (.cells 3 (Ad [(0, iV 12), (1, (.nmap 7 (.var 14))), (2, aV 8 2 15 16)]))
def p21 (E : Env) : Pt := Ak E 31 21 a21 [some z10, some z7, rV 141 0, rV 63 3, rV 65 5, rV 68 7, some z11, some (.dmap 3 3 (.var 13)), rV 158 15, rV 52 18] []
def d21 (E : Env) : Dec :=
 {g := 21, f := 31, p := 10, pts := [p21 E],
  shs := [{ m := 7, res := (.tuple []), post := [some (.cells 11 (Ad [(0, .top), (1, .top), (2, .top), (3, .top), (4, .top), (5, sV 0), (6, bV 1), (7, iV 2), (8, .top), (9, (.bool false)), (10, .top)])), none, none, none, none, none, some (.cells 3 (Ad [(0, .top), (1, (.nmap 10 (.var 3))), (2, aV 11 2 4 5)])), none, none, none, some (.dmap 3 3 (.var 6)), rV 158 4], keep := [1, 2, 3, 4, 5, 9], keepC := [(0, [0, 1, 2, 3, 4, 8, 10]), (6, [0])] }] }
theorem ez : Ah (EF m21) [] 20000 (d21 E0) t21 0 = some (jl (d21 E0) []) := by kernel_rfl
theorem c21 : Ar (EF m21) [] 20000 (d21 E0) t21 := dk1 rfl ez
def m22 (E : Env) : List Sm := (d21 E).smL a21 (p21 E) 0 (d21 E).shs ++ m21 E
def a22 : List AV := [(.agg [sV 0, aV 0 3 1 2, aV 1 2 3 4, aV 2 9 5 6])]
def p22 (E : Env) : Pt := Ak E 9 7 a22 [rV 63 1, rV 65 3, rV 68 5] []
def d22 (E : Env) : Dec :=
 {g := 22, f := 9, p := 3, pts := [p22 E],
  shs := [{ m := 17, res := (.tuple [(.ptr 3 0), (.int .i64 0)]), post := [none, none, none, some (.cells 1 (Ad [(0, (.ptr 4 0))])), some (.cells 11 (Ad [(0, (.ptr 5 0)), (1, sV 0), (2, aV 6 3 1 2), (3, aV 7 2 3 4), (4, aV 8 9 5 6), (5, sV 7), (6, bV 8), (7, iV 9), (8, (.ptr 9 0)), (9, (.bool false)), (10, (.asl 10 2 (.lenL (.var 10)) (.bc true)))])), some (.cells 2 (Ad [(0, (.bool true)), (1, aV 11 3 11 12)])), rV 63 1, rV 65 3, rV 68 5, some (.cells 3 (Ad [(0, (.int .i64 0)), (1, (.nmap 12 (.var 13))), (2, aV 13 2 14 15)])), rV 52 10, rV 141 11, some (.dmap 3 3 (.var 16)), rV 158 14], keep := [0, 1, 2] }, { m := 1, res := (.tuple [.ptr0, iV 0]), post := [none, none, none], keep := [0, 1, 2] }] }
theorem dI : Ah (EF m22) [] 20000 (d22 E0) t22 0 = some (jl (d22 E0) []) := by kernel_rfl
theorem c22 : Ar (EF m22) [] 20000 (d22 E0) t22 := dk1 rfl dI
def m23 (E : Env) : List Sm := (d22 E).smL a22 (p22 E) 0 (d22 E).shs ++ m22 E
def a23 : List AV := [sV 0]
def p23 (E : Env) : Pt := Ak E 79 1 a23 [] []
def d23 (E : Env) : Dec :=
 {g := 23, f := 79, p := 0, pts := [p23 E,
  Ax E 79 64 4 2 [(0, sV 0), (3, iV 1)] [] [] []],
  shs := [{ m := 1, res := bV 0, post := [], keep := [] }] }
theorem cx : Ah (EF m23) [4] 20000 (d23 E0) t23 0 = some (jl (d23 E0) [1, 1]) := by kernel_rfl
theorem iI : Ah (EF m23) [4] 20000 (d23 E0) t23 1 = some (jl (d23 E0) [1, 1, 1, 1]) := by kernel_rfl
theorem c23 : Ar (EF m23) [4] 20000 (d23 E0) t23 := dk2 rfl cx iI
def m24 (E : Env) : List Sm := (d23 E).smL a23 (p23 E) 0 (d23 E).shs ++ m23 E
def a24 : List AV := [z0, sV 4]
def p24 (E : Env) : Pt := Ak E 80 5 a24 [] []
def d24 (E : Env) : Dec :=
 {g := 24, f := 80, p := 0, pts := [p24 E,
  Ax E 80 22 2 6 [(1, sV 0), (2, (.ptr 0 0)), (5, iV 1)] [some z5] [] []],
  shs := [{ m := 1, res := iV 0, post := [], keep := [] }] }
theorem eC : Ah (EF m24) [2] 20000 (d24 E0) t24 0 = some (jl (d24 E0) [1]) := by kernel_rfl
theorem eS : Ah (EF m24) [2] 20000 (d24 E0) t24 1 = some (jl (d24 E0) [1]) := by kernel_rfl
theorem c24 : Ar (EF m24) [2] 20000 (d24 E0) t24 := dk2 rfl eC eS
def m25 (E : Env) : List Sm := (d24 E).smL a24 (p24 E) 0 (d24 E).shs ++ m24 E
def a25 : List AV := [z0, sV 4]
def p25 (E : Env) : Pt := Ak E 81 5 a25 [] []
def d25 (E : Env) : Dec :=
 {g := 25, f := 81, p := 0, pts := [p25 E,
  Ax E 81 22 2 6 [(1, sV 0), (2, (.ptr 0 0)), (5, iV 1)] [some z5] [] []],
  shs := [{ m := 1, res := iV 0, post := [], keep := [] }] }
theorem dX : Ah (EF m25) [2] 20000 (d25 E0) t25 0 = some (jl (d25 E0) [1]) := by kernel_rfl
theorem jY : Ah (EF m25) [2] 20000 (d25 E0) t25 1 = some (jl (d25 E0) [1]) := by kernel_rfl
theorem c25 : Ar (EF m25) [2] 20000 (d25 E0) t25 := dk2 rfl dX jY
def m26 (E : Env) : List Sm := (d25 E).smL a25 (p25 E) 0 (d25 E).shs ++ m25 E
def a26 : List AV := [z0, iV 4]
def p26 (E : Env) : Pt := Ak E 82 5 a26 [] []
def d26 (E : Env) : Dec :=
 {g := 26, f := 82, p := 0, pts := [p26 E,
  Ax E 82 93 6 16 [(1, iV 0), (2, (.ptr 0 0)), (5, (.ptr 1 0)), (6, iV 1), (7, iV 2)] [some z4, some (.cells 9 (Ad [(0, sV 7), (1, sV 8), (2, iV 9), (3, sV 10), (4, sV 11), (5, sV 12), (6, iV 13), (7, iV 14), (8, iV 15)]))] [] []],
  shs := [{ m := 1, res := bV 0, post := [], keep := [] }] }
theorem kI : Ah (EF m26) [6] 20000 (d26 E0) t26 0 = some (jl (d26 E0) [1, 1]) := by kernel_rfl
theorem hU : Ah (EF m26) [6] 20000 (d26 E0) t26 1 = some (jl (d26 E0) [1]) := by kernel_rfl
theorem c26 : Ar (EF m26) [6] 20000 (d26 E0) t26 := dk2 rfl kI hU
def m27 (E : Env) : List Sm := (d26 E).smL a26 (p26 E) 0 (d26 E).shs ++ m26 E
def a27 : List AV := [z0]
def p27 (E : Env) : Pt := Ak E 32 4 a27 [] []
def d27 (E : Env) : Dec :=
 {g := 27, f := 32, p := 0, pts := [p27 E,
  Ax E 32 131 6 5 [(1, (.ptr 0 0)), (4, iV 0)] [some z1] [] [],
  Ax E 32 131 15 5 [(1, (.ptr 0 0)), (5, iV 0)] [some z1] [] [],
  Ax E 32 131 22 5 [(1, (.ptr 0 0)), (6, iV 0)] [some z1] [] []],
  shs := [{ m := 2, res := (.tuple [iV 0, iV 1]), post := [], keep := [] }] }
theorem kD : Ah (EF m27) [6, 15, 22] 20000 (d27 E0) t27 0 = some (jl (d27 E0) [1]) := by kernel_rfl
theorem ka : Ah (EF m27) [6, 15, 22] 20000 (d27 E0) t27 1 = some (jl (d27 E0) [1, 2]) := by kernel_rfl
theorem dR : Ah (EF m27) [6, 15, 22] 20000 (d27 E0) t27 2 = some (jl (d27 E0) [2, 3]) := by kernel_rfl
theorem fi : Ah (EF m27) [6, 15, 22] 20000 (d27 E0) t27 3 = some (jl (d27 E0) [3]) := by kernel_rfl
theorem c27 : Ar (EF m27) [6, 15, 22] 20000 (d27 E0) t27 := dk4 rfl kD ka dR fi
def m28 (E : Env) : List Sm := (d27 E).smL a27 (p27 E) 0 (d27 E).shs ++ m27 E
def a28 : List AV := [dV 65 0]
def p28 (E : Env) : Pt := Ak E 33 1 a28 [] []
def z12 : Ao := (.cells 2 (Ad [(0, .slice0), (1, .slice0)]))
def z13 : AV := (.agg [dV 65 0, dV 3 1])
def d28 (E : Env) : Dec :=
 {g := 28, f := 33, p := 0, pts := [p28 E,
  Ax E 33 72 5 6 [(0, dV 65 0), (2, (.ptr 0 0)), (4, (.ptr 1 0)), (5, iV 1)] [some z12, some (.cells 2 (Ad [(0, aV 2 2 2 3), (1, aV 3 1 4 5)])), rV 65 2, rV 3 4] [] [],
  Ax E 33 72 10 7 [(0, dV 65 0), (2, (.ptr 0 0)), (4, (.ptr 1 0)), (5, iV 1), (6, iV 2)] [some z12, some (.cells 2 (Ad [(0, aV 2 2 3 4), (1, aV 3 1 5 6)])), rV 65 3, rV 3 5] [] []],
  shs := [{ m := 3, res := (.tuple [z13, iV 2]), post := [], keep := [] }] }
theorem gr : Ah (EF m28) [5, 10] 20000 (d28 E0) t28 0 = some (jl (d28 E0) [1]) := by kernel_rfl
theorem b7 : Ah (EF m28) [5, 10] 20000 (d28 E0) t28 1 = some (jl (d28 E0) [2]) := by kernel_rfl
theorem jq : Ah (EF m28) [5, 10] 20000 (d28 E0) t28 2 = some (jl (d28 E0) [2, 1]) := by kernel_rfl
theorem c28 : Ar (EF m28) [5, 10] 20000 (d28 E0) t28 := dk3 rfl gr b7 jq
def m29 (E : Env) : List Sm := (d28 E).smL a28 (p28 E) 0 (d28 E).shs ++ m28 E
def a29 : List AV := [z0]
def p29 (E : Env) : Pt := Ak E 10 4 a29 [] []
def d29 (E : Env) : Dec :=
 {g := 29, f := 10, p := 0, pts := [p29 E],
  shs := [{ m := 8, res := (.tuple [(.agg [sV 0, dV 63 1, dV 65 2, dV 68 3, sV 4, (.int .i64 0), dV 65 5, dV 3 6, (.int .i64 0), (.dat 53 .nilL)]), iV 7]), post := [], keep := [] }] }
theorem iu : Ah (EF m29) [] 20000 (d29 E0) t29 0 = some (jl (d29 E0) []) := by kernel_rfl
theorem c29 : Ar (EF m29) [] 20000 (d29 E0) t29 := dk1 rfl iu
def m30 (E : Env) : List Sm := (d29 E).smL a29 (p29 E) 0 (d29 E).shs ++ m29 E
def a30 : List AV := [(.ptr 0 0)]
def z14 : Ao := (.cells 1 (Ad [(0, (.ptr 1 0))]))
def z15 : Ao := (.cells 11 (Ad [(0, (.ptr 2 0)), (1, sV 2), (2, aV 4 3 3 4), (3, aV 5 2 5 6), (4, aV 6 9 7 8), (5, sV 9), (6, bV 10), (7, iV 11), (8, (.ptr 7 0)), (9, bV 17), (10, aV 10 2 18 19)]))
def z16 : Ao := (.cells 2 (Ad [(0, (.bool true)), (1, aV 3 3 0 1)]))
def z17 : Ao := (.cells 3 (Ad [(0, iV 12), (1, (.nmap 8 (.var 14))), (2, aV 9 2 15 16)]))
def p30 (E : Env) : Pt := Ak E 17 20 a30 [some z14, some z15, some z16, rV 141 0, rV 63 3, rV 65 5, rV 68 7, some z17, some (.dmap 3 3 (.var 13)), rV 158 15, rV 52 18] []
def d30 (E : Env) : Dec :=
 {g := 30, f := 17, p := 11, pts := [p30 E],
  shs := [{ m := 7, res := (.agg [sV 0, aV 11 3 1 2, aV 12 2 3 4, aV 13 9 5 6]), post := [none, none, none, none, none, none, none, none, none, none, none, rV 63 1, rV 65 3, rV 68 5], keep := [0, 1, 2, 3, 4, 5, 6, 7, 8, 9, 10] }] }
theorem bt : Ah (EF m30) [] 20000 (d30 E0) t30 0 = some (jl (d30 E0) []) := by kernel_rfl
theorem c30 : Ar (EF m30) [] 20000 (d30 E0) t30 := dk1 rfl bt
def m31 (E : Env) : List Sm := (d30 E).smL a30 (p30 E) 0 (d30 E).shs ++ m30 E
def a31 : List AV := [z0, (.agg [sV 4, dV 63 5, dV 65 6, dV 68 7])]
def p31 (E : Env) : Pt := Ak E 16 8 a31 [] []
def z18 : Ao := (.cells 4 (Ad [(0, sV 5), (1, dV 63 6), (2, dV 65 7), (3, dV 68 8)]))
def d31 (E : Env) : Dec :=
 {g := 31, f := 16, p := 0, pts := [p31 E,
  Ax E 16 94 4 9 [(2, (.ptr 0 0)), (3, (.ptr 1 0)), (5, iV 0)] [some z1, some z18] [] [],
  Ax E 16 94 9 9 [(2, (.ptr 0 0)), (3, (.ptr 1 0)), (6, iV 0)] [some z1, some z18] [] [],
  Ax E 16 94 14 9 [(2, (.ptr 0 0)), (3, (.ptr 1 0)), (7, iV 0)] [some z1, some z18] [] []],
  shs := [{ m := 1, res := bV 0, post := [], keep := [] }] }
theorem ip : Ah (EF m31) [4, 9, 14] 20000 (d31 E0) t31 0 = some (jl (d31 E0) [1]) := by kernel_rfl
theorem dj : Ah (EF m31) [4, 9, 14] 20000 (d31 E0) t31 1 = some (jl (d31 E0) [1, 2]) := by kernel_rfl
theorem kc : Ah (EF m31) [4, 9, 14] 20000 (d31 E0) t31 2 = some (jl (d31 E0) [2, 3]) := by kernel_rfl
theorem jE : Ah (EF m31) [4, 9, 14] 20000 (d31 E0) t31 3 = some (jl (d31 E0) [3]) := by kernel_rfl
theorem c31 : Ar (EF m31) [4, 9, 14] 20000 (d31 E0) t31 := dk4 rfl ip dj kc jE
def m32 (E : Env) : List Sm := (d31 E).smL a31 (p31 E) 0 (d31 E).shs ++ m31 E
def a32 : List AV := [(.nmap 0 (.var 1))]
def p32 (E : Env) : Pt := Ak E 112 2 a32 [some (.dmap 3 3 (.var 0))] []
def d32 (E : Env) : Dec :=
 {g := 32, f := 112, p := 1, pts := [p32 E],
  shs := [{ m := 2, res := (.nmap 1 (.var 0)), post := [none, some (.dmap 3 3 (.var 1))], keep := [0] }] }
theorem kg : Ah (EF m32) [] 20000 (d32 E0) t32 0 = some (jl (d32 E0) []) := by kernel_rfl
theorem c32 : Ar (EF m32) [] 20000 (d32 E0) t32 := dk1 rfl kg
def m33 (E : Env) : List Sm := (d32 E).smL a32 (p32 E) 0 (d32 E).shs ++ m32 E
def a33 : List AV := [aV 0 2 0 1]
def p33 (E : Env) : Pt := Ak E 113 2 a33 [rV 158 0] []
def d33 (E : Env) : Dec :=
 {g := 33, f := 113, p := 1, pts := [p33 E],
  shs := [{ m := 2, res := aV 1 2 0 1, post := [none, rV 158 0], keep := [0] }] }
theorem jg : Ah (EF m33) [] 20000 (d33 E0) t33 0 = some (jl (d33 E0) []) := by kernel_rfl
theorem c33 : Ar (EF m33) [] 20000 (d33 E0) t33 := dk1 rfl jg
def m34 (E : Env) : List Sm := (d33 E).smL a33 (p33 E) 0 (d33 E).shs ++ m33 E
def a34 : List AV := [(.ptr 0 0)]
def p34 (E : Env) : Pt := Ak E 87 5 a34 [some z8, some (.dmap 3 3 (.var 1)), rV 158 3] []
def d34 (E : Env) : Dec :=
 {g := 34, f := 87, p := 3, pts := [p34 E],
  shs := [{ m := 5, res := (.ptr 3 0), post := [none, none, none, some (.cells 3 (Ad [(0, iV 0), (1, (.nmap 4 (.var 1))), (2, aV 5 2 2 3)])), some (.dmap 3 3 (.var 4)), rV 158 2], keep := [0, 1, 2] }] }
theorem bh : Ah (EF m34) [] 20000 (d34 E0) t34 0 = some (jl (d34 E0) []) := by kernel_rfl
theorem c34 : Ar (EF m34) [] 20000 (d34 E0) t34 := dk1 rfl bh
def m35 (E : Env) : List Sm := (d34 E).smL a34 (p34 E) 0 (d34 E).shs ++ m34 E
def a35 : List AV := [(.ptr 0 0)]
def p35 (E : Env) : Pt := Ak E 115 5 a35 [some z8, some (.dmap 3 3 (.var 1)), rV 158 3] []
def d35 (E : Env) : Dec :=
 {g := 35, f := 115, p := 3, pts := [p35 E,
  Ax E 115 100 4 7 [(0, (.ptr 0 0)), (2, iV 0), (3, iV 1)] [some (.cells 3 (Ad [(0, iV 2), (1, (.nmap 1 (.var 3))), (2, aV 2 2 4 5)])), some (.dmap 3 3 (.var 6)), rV 158 4] [] [],
  Ax E 115 100 6 11 [(0, (.ptr 0 0)), (2, iV 0), (3, iV 1), (4, iV 2), (41, (.slice 3 0 2 1)), (42, (.int .i64 2)), (43, iV 3)] [some (.cells 3 (Ad [(0, iV 4), (1, (.nmap 1 (.var 5))), (2, aV 2 2 6 7)])), some (.dmap 3 3 (.var 8)), rV 158 6, some (.cells 2 (Ad [(0, iV 9), (1, iV 10)]))] [] []],
  shs := [{ m := 2, res := (.tuple []), post := [some (.cells 3 (Ad [(0, .top), (1, .top), (2, aV 2 2 0 1)])), none, rV 158 0], keep := [1], keepC := [(0, [0, 1])] }] }
theorem gj : Ah (EF m35) [4, 6] 20000 (d35 E0) t35 0 = some (jl (d35 E0) [1]) := by kernel_rfl
theorem gC : Ah (EF m35) [4, 6] 20000 (d35 E0) t35 1 = some (jl (d35 E0) [2]) := by kernel_rfl
theorem eH : Ah (EF m35) [4, 6] 20000 (d35 E0) t35 2 = some (jl (d35 E0) [2, 2, 2, 2, 2, 2, 2, 2, 2, 2, 2, 2, 2, 2, 2, 2, 2, 2, 2, 2, 1]) := by kernel_rfl
theorem c35 : Ar (EF m35) [4, 6] 20000 (d35 E0) t35 := dk3 rfl gj gC eH
def m36 (E : Env) : List Sm := (d35 E).smL a35 (p35 E) 0 (d35 E).shs ++ m35 E
def a36 : List AV := [(.ptr 0 0)]
def p36 (E : Env) : Pt := Ak E 95 5 a36 [some z8, some (.dmap 3 3 (.var 1)), rV 158 3] []
def d36 (E : Env) : Dec :=
 {g := 36, f := 95, p := 3, pts := [p36 E,
  Ax E 95 40 1 5 [(0, (.ptr 0 0)), (2, (.ptr 3 0))] [some (.cells 3 (Ad [(0, iV 0), (1, (.nmap 1 (.var 1))), (2, aV 2 2 2 3)])), some (.dmap 3 3 (.var 4)), rV 158 2, some (.cells 2 (Ad [(0, (.int .i64 0)), (1, (.int .i64 0))]))] [] []],
  shs := [{ m := 5, res := (.tuple [(.agg [iV 0, iV 1]), bV 2]), post := [some (.cells 3 (Ad [(0, .top), (1, .top), (2, aV 2 2 3 4)])), none, rV 158 3], keep := [1], keepC := [(0, [0, 1])] }] }
theorem jB : Ah (EF m36) [1] 20000 (d36 E0) t36 0 = some (jl (d36 E0) [1]) := by kernel_rfl
theorem jy : Ah (EF m36) [1] 20000 (d36 E0) t36 1 = some (jl (d36 E0) [1, 1, 1]) := by kernel_rfl
theorem c36 : Ar (EF m36) [1] 20000 (d36 E0) t36 := dk2 rfl jB jy
def m37 (E : Env) : List Sm := (d36 E).smL a36 (p36 E) 0 (d36 E).shs ++ m36 E
def a37 : List AV := [(.ptr 0 0), iV 5]
def p37 (E : Env) : Pt := Ak E 54 6 a37 [some z8, some (.dmap 3 3 (.var 1)), rV 158 3] []
def d37 (E : Env) : Dec :=
 {g := 37, f := 54, p := 3, pts := [p37 E,
  Ax E 54 56 7 10 [(0, (.ptr 0 0)), (4, aV 4 1 0 1), (6, (.ptr 3 0)), (7, bV 2)] [some (.cells 3 (Ad [(0, iV 3), (1, (.nmap 1 (.var 4))), (2, aV 2 2 5 6)])), some (.dmap 3 3 (.var 7)), rV 158 5, some (.cells 2 (Ad [(0, iV 8), (1, iV 9)])), rV 3 0] [] []],
  shs := [{ m := 7, res := (.tuple [aV 3 1 0 1, iV 2]), post := [some (.cells 3 (Ad [(0, iV 3), (1, .top), (2, aV 2 2 4 5)])), some (.dmap 3 3 (.var 6)), rV 158 4, rV 3 0], keep := [], keepC := [(0, [1])] }] }
theorem bW : Ah (EF m37) [7] 20000 (d37 E0) t37 0 = some (jl (d37 E0) [1, 1]) := by kernel_rfl
theorem gR : Ah (EF m37) [7] 20000 (d37 E0) t37 1 = some (jl (d37 E0) [1, 1, 1]) := by kernel_rfl
theorem c37 : Ar (EF m37) [7] 20000 (d37 E0) t37 := dk2 rfl bW gR
def m38 (E : Env) : List Sm := (d37 E).smL a37 (p37 E) 0 (d37 E).shs ++ m37 E
def a38 : List AV := [(.ptr 0 0), sV 2]
def z19 : Ao := (.cells 2 (Ad [(0, (.bool true)), (1, aV 1 3 0 1)]))
def p38 (E : Env) : Pt := Ak E 47 3 a38 [some z19, rV 141 0] []
def d38 (E : Env) : Dec :=
 {g := 38, f := 47, p := 2, pts := [p38 E],
  shs := [{ m := 2, res := (.tuple [iV 0, iV 1]), post := [none, none], keep := [0, 1] }] }
theorem gQ : Ah (EF m38) [] 20000 (d38 E0) t38 0 = some (jl (d38 E0) []) := by kernel_rfl
theorem c38 : Ar (EF m38) [] 20000 (d38 E0) t38 := dk1 rfl gQ
def m39 (E : Env) : List Sm := (d38 E).smL a38 (p38 E) 0 (d38 E).shs ++ m38 E
def z20 : AV := (.agg [sV 2, sV 3, iV 4, sV 5, sV 6, sV 7, iV 8, iV 9, iV 10])
def a39 : List AV := [(.ptr 0 0), z20]
def p39 (E : Env) : Pt := Ak E 114 11 a39 [some z19, rV 141 0] []
def d39 (E : Env) : Dec :=
 {g := 39, f := 114, p := 2, pts := [p39 E],
  shs := [{ m := 2, res := (.tuple [bV 0, iV 1]), post := [none, none], keep := [0, 1] }] }
theorem j4 : Ah (EF m39) [] 20000 (d39 E0) t39 0 = some (jl (d39 E0) []) := by kernel_rfl
theorem c39 : Ar (EF m39) [] 20000 (d39 E0) t39 := dk1 rfl j4
def m40 (E : Env) : List Sm := (d39 E).smL a39 (p39 E) 0 (d39 E).shs ++ m39 E
def z21 : AV := (.agg [sV 21, sV 22, iV 23, sV 24, sV 25, sV 26, iV 27, iV 28, iV 29])
def a40 : List AV := [(.agg [(.ptr 0 0), (.ptr 6 0), bV 20]), z21]
def p40 (E : Env) : Pt := Ak E 45 30 a40 [some z10, some z7, rV 141 0, rV 63 3, rV 65 5, rV 68 7, some z11, some (.dmap 3 3 (.var 13)), rV 158 15, rV 52 18] []
def z22 : Ao := (.cells 11 (Ad [(0, (.ptr 1 0)), (1, sV 1), (2, aV 3 3 2 3), (3, aV 4 2 4 5), (4, aV 5 9 6 7), (5, sV 8), (6, bV 9), (7, iV 10), (8, (.ptr 6 0)), (9, bV 11), (10, aV 9 2 12 13)]))
def z23 : Ao := (.cells 2 (Ad [(0, (.bool true)), (1, aV 2 3 14 15)]))
def z24 : Ao := (.cells 3 (Ad [(0, iV 16), (1, (.nmap 7 (.var 17))), (2, aV 8 2 18 19)]))
def z25 : Ao := (.cells 9 (Ad [(0, sV 21), (1, sV 22), (2, iV 23), (3, sV 24), (4, sV 25), (5, sV 26), (6, iV 27), (7, iV 28), (8, iV 29)]))
def z26 : AV := (.agg [(.ptr 0 0), (.ptr 6 0), bV 30])
def d40 (E : Env) : Dec :=
 {g := 40, f := 45, p := 10, pts := [p40 E,
  Ax E 45 24 2 31 [(3, (.ptr 10 0)), (13, (.slice 11 0 3 1)), (14, (.int .i64 3)), (15, iV 0)] [some z22, some z23, rV 141 14, rV 63 2, rV 65 4, rV 68 6, some z24, some (.dmap 3 3 (.var 20)), rV 158 18, rV 52 12, some z25, some (.cells 3 (Ad [(0, (.func (.func 89) [z26] [])), (1, (.func (.func 90) [z26] [])), (2, (.func (.func 91) [z26] []))]))] [] []],
  shs := [{ m := 1, res := bV 0, post := [none, none, none, none, none, none, none, none, none, none], keep := [0, 1, 2, 3, 4, 5, 6, 7, 8, 9] }] }
theorem jF : Ah (EF m40) [2] 20000 (d40 E0) t40 0 = some (jl (d40 E0) [1]) := by kernel_rfl
theorem fA : Ah (EF m40) [2] 20000 (d40 E0) t40 1 = some (jl (d40 E0) [1, 1, 1, 1]) := by kernel_rfl
theorem c40 : Ar (EF m40) [2] 20000 (d40 E0) t40 := dk2 rfl jF fA
def m41 (E : Env) : List Sm := (d40 E).smL a40 (p40 E) 0 (d40 E).shs ++ m40 E
def a41 : List AV := [(.func (.yield 0) [] []), (.ptr 15 0), (.ptr 17 0)]
def p41 (E : Env) : Pt := Ak E 97 26 a41 [some (Ex E 24 5 .ready none 36 [(4, (.ptr 1 0)), (6, (.ptr 3 0))] 14), some (.cells 1 (Ad [(0, aV 2 1 0 1)])), rV 3 0, some (.cells 3 (Ad [(0, (.ptr 4 0)), (1, (.ptr 10 0)), (2, bV 22)])), some (.cells 11 (Ad [(0, (.ptr 5 0)), (1, sV 4), (2, aV 7 3 5 6), (3, aV 8 2 7 8), (4, aV 9 9 9 10), (5, sV 11), (6, bV 12), (7, iV 13), (8, (.ptr 10 0)), (9, bV 19), (10, aV 13 2 20 21)])), some (.cells 2 (Ad [(0, (.bool true)), (1, aV 6 3 2 3)])), rV 141 2, rV 63 5, rV 65 7, rV 68 9, some (.cells 3 (Ad [(0, iV 14), (1, (.nmap 11 (.var 16))), (2, aV 12 2 17 18)])), some (.dmap 3 3 (.var 15)), rV 158 17, rV 52 20, some (.deferred (some [])), some (.cells 1 (Ad [(0, aV 16 9 23 24)])), rV 68 23, some (.cells 1 (Ad [(0, sV 25)]))] []
def z27 : Ao := (.cells 3 (Ad [(0, iV 21), (1, (.nmap 11 (.var 22))), (2, aV 12 2 23 24)]))
def d41 (E : Env) : Dec :=
 {g := 41, f := 97, p := 18, pts := [p41 E,
  Ax E 97 25 1 27 [(0, (.func (.yield 0) [] [])), (2, (.ptr 17 0)), (6, aV 16 9 0 1), (7, (.si .i64 (.lenL (.var 0)))), (8, iV 2)] [some (Ex E 24 5 .ready none 36 [(4, (.ptr 1 0)), (6, (.ptr 3 0))] 14), some (.cells 1 (Ad [(0, aV 18 1 3 4)])), none, some (.cells 3 (Ad [(0, (.ptr 4 0)), (1, (.ptr 10 0)), (2, bV 5)])), some (.cells 11 (Ad [(0, (.ptr 5 0)), (1, sV 6), (2, aV 7 3 7 8), (3, aV 8 2 9 10), (4, aV 9 9 11 12), (5, sV 13), (6, bV 14), (7, iV 15), (8, (.ptr 10 0)), (9, bV 16), (10, aV 13 2 17 18)])), some (.cells 2 (Ad [(0, (.bool true)), (1, aV 6 3 19 20)])), rV 141 19, rV 63 7, rV 65 9, rV 68 11, some z27, some (.dmap 3 3 (.var 25)), rV 158 23, rV 52 17, some (.deferred (some [])), some (.cells 1 (Ad [(0, aV 16 9 0 1)])), rV 68 0, some (.cells 1 (Ad [(0, sV 26)])), rV 3 3] [] []],
  shs := [{ m := 2, res := (.tuple []), post := [none, some (.cells 1 (Ad [(0, aV 18 1 0 1)])), none, none, none, none, none, none, none, none, none, none, none, none, none, none, none, none, rV 3 0], keep := [0, 3, 4, 5, 6, 7, 8, 9, 10, 11, 12, 13, 14, 15, 16, 17] }] }
theorem kf : Ah (EF m41) [1] 20000 (d41 E0) t41 0 = some (jl (d41 E0) [1]) := by kernel_rfl
theorem bB : Ah (EF m41) [1] 20000 (d41 E0) t41 1 = some (jl (d41 E0) [1, 1, 1]) := by kernel_rfl
theorem c41 : Ar (EF m41) [1] 20000 (d41 E0) t41 := dk2 rfl kf bB
def m42 (E : Env) : List Sm := (d41 E).smL a41 (p41 E) 0 (d41 E).shs ++ m41 E
def a42 : List AV := [(.ptr 0 0), iV 20]
def p42 (E : Env) : Pt := Ak E 24 21 a42 [some z14, some z15, some z16, rV 141 0, rV 63 3, rV 65 5, rV 68 7, some z17, some (.dmap 3 3 (.var 13)), rV 158 15, rV 52 18] []
def d42 (E : Env) : Dec :=
 {g := 42, f := 24, p := 11, pts := [p42 E],
  shs := [{ m := 9, res := (.tuple [aV 11 1 0 1, iV 2]), post := [none, some (.cells 11 (Ad [(0, .top), (1, .top), (2, .top), (3, .top), (4, .top), (5, .top), (6, .top), (7, .top), (8, (.ptr 12 0)), (9, bV 3), (10, .top)])), none, none, none, none, none, none, none, none, none, rV 3 0, some (.cells 3 (Ad [(0, iV 4), (1, (.nmap 13 (.var 5))), (2, aV 14 2 6 7)])), some (.dmap 3 3 (.var 8)), rV 158 6], keep := [0, 2, 3, 4, 5, 6, 10], keepC := [(1, [0, 1, 2, 3, 4, 5, 6, 7, 10])] }] }
theorem cH : Ah (EF m42) [] 20000 (d42 E0) t42 0 = some (jl (d42 E0) []) := by kernel_rfl
theorem c42 : Ar (EF m42) [] 20000 (d42 E0) t42 := dk1 rfl cH
def m43 (E : Env) : List Sm := (d42 E).smL a42 (p42 E) 0 (d42 E).shs ++ m42 E
def a43 : List AV := [z13, sV 2]
def p43 (E : Env) : Pt := Ak E 110 3 a43 [] []
def d43 (E : Env) : Dec :=
 {g := 43, f := 110, p := 0, pts := [p43 E,
  Ax E 110 22 2 4 [(1, sV 0), (2, (.ptr 0 0)), (5, iV 1)] [some (.cells 2 (Ad [(0, dV 65 2), (1, dV 3 3)]))] [] []],
  shs := [{ m := 1, res := iV 0, post := [], keep := [] }] }
theorem eY : Ah (EF m43) [2] 20000 (d43 E0) t43 0 = some (jl (d43 E0) [1]) := by kernel_rfl
theorem kw : Ah (EF m43) [2] 20000 (d43 E0) t43 1 = some (jl (d43 E0) [1]) := by kernel_rfl
theorem c43 : Ar (EF m43) [2] 20000 (d43 E0) t43 := dk2 rfl eY kw
def m44 (E : Env) : List Sm := (d43 E).smL a43 (p43 E) 0 (d43 E).shs ++ m43 E
def a44 : List AV := [z13, z20]
def p44 (E : Env) : Pt := Ak E 109 11 a44 [] []
def d44 (E : Env) : Dec :=
 {g := 44, f := 109, p := 0, pts := [p44 E],
  shs := [{ m := 2, res := (.tuple [bV 0, iV 1]), post := [], keep := [] }] }
theorem dB : Ah (EF m44) [] 20000 (d44 E0) t44 0 = some (jl (d44 E0) []) := by kernel_rfl
theorem c44 : Ar (EF m44) [] 20000 (d44 E0) t44 := dk1 rfl dB
def m45 (E : Env) : List Sm := (d44 E).smL a44 (p44 E) 0 (d44 E).shs ++ m44 E
def a45 : List AV := [z0, sV 4]
def p45 (E : Env) : Pt := Ak E 49 5 a45 [] []
def d45 (E : Env) : Dec :=
 {g := 45, f := 49, p := 0, pts := [p45 E,
  Ax E 49 27 2 6 [(1, sV 0), (2, (.ptr 0 0)), (4, (.ptr 1 0)), (5, iV 1)] [some z5, some (.cells 3 (Ad [(0, (.str 0 0)), (1, (.bool false)), (2, (.int .i64 0))]))] [] []],
  shs := [{ m := 3, res := (.agg [sV 0, bV 1, iV 2]), post := [], keep := [] }] }
theorem ko : Ah (EF m45) [2] 20000 (d45 E0) t45 0 = some (jl (d45 E0) [1]) := by kernel_rfl
theorem kH : Ah (EF m45) [2] 20000 (d45 E0) t45 1 = some (jl (d45 E0) [1]) := by kernel_rfl
theorem c45 : Ar (EF m45) [2] 20000 (d45 E0) t45 := dk2 rfl ko kH
def m46 (E : Env) : List Sm := (d45 E).smL a45 (p45 E) 0 (d45 E).shs ++ m45 E
def z28 : AV := (.agg [sV 0, dV 63 1, dV 65 2, dV 68 3, sV 4, iV 5, dV 65 6, dV 3 7, iV 8, dV 53 9])
def a46 : List AV := [z28, iV 10, iV 11]
def p46 (E : Env) : Pt := Ak E 84 12 a46 [] []
def d46 (E : Env) : Dec :=
 {g := 46, f := 84, p := 0, pts := [p46 E],
  shs := [{ m := 1, res := bV 0, post := [], keep := [] }] }
theorem kL : Ah (EF m46) [] 20000 (d46 E0) t46 0 = some (jl (d46 E0) []) := by kernel_rfl
theorem c46 : Ar (EF m46) [] 20000 (d46 E0) t46 := dk1 rfl kL
def m47 (E : Env) : List Sm := (d46 E).smL a46 (p46 E) 0 (d46 E).shs ++ m46 E
def a47 : List AV := [z28, iV 10]
def p47 (E : Env) : Pt := Ak E 34 11 a47 [] []
def z29 : Ao := (.cells 10 (Ad [(0, (.str 0 0)), (1, .slice0), (2, .slice0), (3, .slice0), (4, (.str 0 0)), (5, (.int .i64 0)), (6, .slice0), (7, .slice0), (8, (.int .i64 0)), (9, .slice0)]))
def d47 (E : Env) : Dec :=
 {g := 47, f := 34, p := 0, pts := [p47 E,
  Ax E 34 33 6 13 [(1, iV 0), (2, (.ptr 0 0)), (4, (.ptr 1 0)), (7, aV 2 1 1 2), (8, iV 3)] [some (.cells 10 (Ad [(0, sV 4), (1, dV 63 5), (2, dV 65 6), (3, dV 68 7), (4, sV 8), (5, iV 9), (6, dV 65 10), (7, dV 3 11), (8, iV 0), (9, dV 53 12)])), some z29, rV 3 1] [] []],
  shs := [{ m := 13, res := (.tuple [z28, aV 0 1 10 11, iV 12]), post := [rV 3 10], keep := [] }] }
theorem ky : Ah (EF m47) [6] 20000 (d47 E0) t47 0 = some (jl (d47 E0) [1]) := by kernel_rfl
theorem dM : Ah (EF m47) [6] 20000 (d47 E0) t47 1 = some (jl (d47 E0) [1, 1]) := by kernel_rfl
theorem c47 : Ar (EF m47) [6] 20000 (d47 E0) t47 := dk2 rfl ky dM
def m48 (E : Env) : List Sm := (d47 E).smL a47 (p47 E) 0 (d47 E).shs ++ m47 E
def a48 : List AV := [aV 0 1 0 1, aV 1 1 2 3]
def p48 (E : Env) : Pt := Ak E 21 4 a48 [rV 3 0, rV 3 2] []
def d48 (E : Env) : Dec :=
 {g := 48, f := 21, p := 2, pts := [p48 E,
  Ax E 21 26 4 5 [(0, aV 0 1 0 1), (1, aV 1 1 2 3), (5, iV 4)] [rV 3 0, rV 3 2] [] []],
  shs := [{ m := 1, res := bV 0, post := [none, none], keep := [0, 1] }] }
theorem je : Ah (EF m48) [4] 20000 (d48 E0) t48 0 = some (jl (d48 E0) [1]) := by kernel_rfl
theorem j8 : Ah (EF m48) [4] 20000 (d48 E0) t48 1 = some (jl (d48 E0) [1]) := by kernel_rfl
theorem c48 : Ar (EF m48) [4] 20000 (d48 E0) t48 := dk2 rfl je j8
def m49 (E : Env) : List Sm := (d48 E).smL a48 (p48 E) 0 (d48 E).shs ++ m48 E
def a49 : List AV := [(.ptr 0 0)]
def p49 (E : Env) : Pt := Ak E 26 20 a49 [some z14, some z15, some z16, rV 141 0, rV 63 3, rV 65 5, rV 68 7, some z17, some (.dmap 3 3 (.var 13)), rV 158 15, rV 52 18] []
def d49 (E : Env) : Dec :=
 {g := 49, f := 26, p := 11, pts := [p49 E],
  shs := [{ m := 1, res := sV 0, post := [none, none, none, none, none, none, none, none, none, none, none], keep := [0, 1, 2, 3, 4, 5, 6, 7, 8, 9, 10] }] }
theorem cA : Ah (EF m49) [] 20000 (d49 E0) t49 0 = some (jl (d49 E0) []) := by kernel_rfl
theorem c49 : Ar (EF m49) [] 20000 (d49 E0) t49 := dk1 rfl cA
def m50 (E : Env) : List Sm := (d49 E).smL a49 (p49 E) 0 (d49 E).shs ++ m49 E
def a50 : List AV := [(.ptr 0 0)]
def p50 (E : Env) : Pt := Ak E 48 20 a50 [some z14, some z15, some z16, rV 141 0, rV 63 3, rV 65 5, rV 68 7, some z17, some (.dmap 3 3 (.var 13)), rV 158 15, rV 52 18] []
def d50 (E : Env) : Dec :=
 {g := 50, f := 48, p := 11, pts := [p50 E],
  shs := [{ m := 1, res := bV 0, post := [none, none, none, none, none, none, none, none, none, none, none], keep := [0, 1, 2, 3, 4, 5, 6, 7, 8, 9, 10] }] }
theorem da : Ah (EF m50) [] 20000 (d50 E0) t50 0 = some (jl (d50 E0) []) := by kernel_rfl
theorem c50 : Ar (EF m50) [] 20000 (d50 E0) t50 := dk1 rfl da
def m51 (E : Env) : List Sm := (d50 E).smL a50 (p50 E) 0 (d50 E).shs ++ m50 E
def a51 : List AV := [(.ptr 0 0)]
def p51 (E : Env) : Pt := Ak E 50 20 a51 [some z14, some z15, some z16, rV 141 0, rV 63 3, rV 65 5, rV 68 7, some z17, some (.dmap 3 3 (.var 13)), rV 158 15, rV 52 18] []
def d51 (E : Env) : Dec :=
 {g := 51, f := 50, p := 11, pts := [p51 E],
  shs := [{ m := 1, res := iV 0, post := [none, none, none, none, none, none, none, none, none, none, none], keep := [0, 1, 2, 3, 4, 5, 6, 7, 8, 9, 10] }] }
theorem jf : Ah (EF m51) [] 20000 (d51 E0) t51 0 = some (jl (d51 E0) []) := by kernel_rfl
theorem c51 : Ar (EF m51) [] 20000 (d51 E0) t51 := dk1 rfl jf
def m52 (E : Env) : List Sm := (d51 E).smL a51 (p51 E) 0 (d51 E).shs ++ m51 E
def a52 : List AV := [(.agg [(.ptr 0 0), .ptr0, bV 20]), z21]
def p52 (E : Env) : Pt := Ak E 45 30 a52 [some z10, some z7, rV 141 0, rV 63 3, rV 65 5, rV 68 7, some z11, some (.dmap 3 3 (.var 13)), rV 158 15, rV 52 18] []
def z30 : AV := (.agg [(.ptr 0 0), .ptr0, bV 30])
def d52 (E : Env) : Dec :=
 {g := 52, f := 45, p := 10, pts := [p52 E,
  Ax E 45 24 2 31 [(3, (.ptr 10 0)), (13, (.slice 11 0 3 1)), (14, (.int .i64 3)), (15, iV 0)] [some z22, some z23, rV 141 14, rV 63 2, rV 65 4, rV 68 6, some z24, some (.dmap 3 3 (.var 20)), rV 158 18, rV 52 12, some z25, some (.cells 3 (Ad [(0, (.func (.func 89) [z30] [])), (1, (.func (.func 90) [z30] [])), (2, (.func (.func 91) [z30] []))]))] [] []],
  shs := [{ m := 1, res := bV 0, post := [none, none, none, none, none, none, none, none, none, none], keep := [0, 1, 2, 3, 4, 5, 6, 7, 8, 9] }] }
theorem fV : Ah (EF m52) [2] 20000 (d52 E0) t52 0 = some (jl (d52 E0) [1]) := by kernel_rfl
theorem gU : Ah (EF m52) [2] 20000 (d52 E0) t52 1 = some (jl (d52 E0) [1, 1, 1, 1]) := by kernel_rfl
theorem c52 : Ar (EF m52) [2] 20000 (d52 E0) t52 := dk2 rfl fV gU
def m53 (E : Env) : List Sm := (d52 E).smL a52 (p52 E) 0 (d52 E).shs ++ m52 E
def a53 : List AV := [aV 0 9 0 1, (.func (.func 62) [] [(.ptr 1 0)])]
def p53 (E : Env) : Pt := Ak E 61 22 a53 [rV 68 0, some (.cells 3 (Ad [(0, (.ptr 2 0)), (1, .ptr0), (2, bV 21)])), some (.cells 11 (Ad [(0, (.ptr 3 0)), (1, sV 4), (2, aV 5 3 5 6), (3, aV 6 2 7 8), (4, aV 0 9 0 9), (5, sV 10), (6, bV 11), (7, iV 12), (8, (.ptr 7 0)), (9, bV 18), (10, aV 10 2 19 20)])), some (.cells 2 (Ad [(0, (.bool true)), (1, aV 4 3 2 3)])), rV 141 2, rV 63 5, rV 65 7, some (.cells 3 (Ad [(0, iV 13), (1, (.nmap 8 (.var 15))), (2, aV 9 2 16 17)])), some (.dmap 3 3 (.var 14)), rV 158 16, rV 52 19] []
def d53 (E : Env) : Dec :=
 {g := 53, f := 61, p := 11, pts := [p53 E,
  Ax E 61 22 2 25 [(1, (.func (.func 62) [] [(.ptr 1 0)])), (4, aV 11 9 0 1), (7, aV 0 9 2 3), (8, (.si .i64 (.lenL (.var 2)))), (9, iV 4)] [rV 68 2, some (.cells 3 (Ad [(0, (.ptr 2 0)), (1, .ptr0), (2, bV 5)])), some (.cells 11 (Ad [(0, (.ptr 3 0)), (1, sV 6), (2, aV 5 3 7 8), (3, aV 6 2 9 10), (4, aV 0 9 2 11), (5, sV 12), (6, bV 13), (7, iV 14), (8, (.ptr 7 0)), (9, bV 15), (10, aV 10 2 16 17)])), some (.cells 2 (Ad [(0, (.bool true)), (1, aV 4 3 18 19)])), rV 141 18, rV 63 7, rV 65 9, some (.cells 3 (Ad [(0, iV 20), (1, (.nmap 8 (.var 21))), (2, aV 9 2 22 23)])), some (.dmap 3 3 (.var 24)), rV 158 22, rV 52 16, rV 68 0] [] []],
  shs := [{ m := 2, res := aV 11 9 0 1, post := [none, none, none, none, none, none, none, none, none, none, none, rV 68 0], keep := [0, 1, 2, 3, 4, 5, 6, 7, 8, 9, 10] }] }
theorem dW : Ah (EF m53) [2] 20000 (d53 E0) t53 0 = some (jl (d53 E0) [1]) := by kernel_rfl
theorem cz : Ah (EF m53) [2] 20000 (d53 E0) t53 1 = some (jl (d53 E0) [1, 1, 1]) := by kernel_rfl
theorem c53 : Ar (EF m53) [2] 20000 (d53 E0) t53 := dk2 rfl dW cz
def m54 (E : Env) : List Sm := (d53 E).smL a53 (p53 E) 0 (d53 E).shs ++ m53 E
def a54 : List AV := [(.ptr 0 0)]
def p54 (E : Env) : Pt := Ak E 25 20 a54 [some z14, some z15, some z16, rV 141 0, rV 63 3, rV 65 5, rV 68 7, some z17, some (.dmap 3 3 (.var 13)), rV 158 15, rV 52 18] []
def d54 (E : Env) : Dec :=
 {g := 54, f := 25, p := 11, pts := [p54 E],
  shs := [{ m := 2, res := (.tuple [iV 0, iV 1]), post := [none, none, none, none, none, none, none, none, none, none, none], keep := [0, 1, 2, 3, 4, 5, 6, 7, 8, 9, 10] }] }
theorem cn : Ah (EF m54) [] 20000 (d54 E0) t54 0 = some (jl (d54 E0) []) := by kernel_rfl
theorem c54 : Ar (EF m54) [] 20000 (d54 E0) t54 := dk1 rfl cn
def m55 (E : Env) : List Sm := (d54 E).smL a54 (p54 E) 0 (d54 E).shs ++ m54 E
def a55 : List AV := [z28]
def p55 (E : Env) : Pt := Ak E 38 10 a55 [] []
def d55 (E : Env) : Dec :=
 {g := 55, f := 38, p := 0, pts := [p55 E,
  Ax E 38 48 5 12 [(1, (.ptr 0 0)), (4, iV 0), (5, iV 1)] [some (.cells 10 (Ad [(0, sV 2), (1, dV 63 3), (2, dV 65 4), (3, dV 68 5), (4, sV 6), (5, iV 7), (6, dV 65 8), (7, dV 3 9), (8, iV 10), (9, dV 53 11)]))] [] []],
  shs := [{ m := 2, res := (.tuple [iV 0, iV 1]), post := [], keep := [] }] }
theorem jI : Ah (EF m55) [5] 20000 (d55 E0) t55 0 = some (jl (d55 E0) [1, 1]) := by kernel_rfl
theorem bz : Ah (EF m55) [5] 20000 (d55 E0) t55 1 = some (jl (d55 E0) [1, 1, 1]) := by kernel_rfl
theorem c55 : Ar (EF m55) [5] 20000 (d55 E0) t55 := dk2 rfl jI bz
def m56 (E : Env) : List Sm := (d55 E).smL a55 (p55 E) 0 (d55 E).shs ++ m55 E
def a56 : List AV := [aV 0 2 0 1]
def p56 (E : Env) : Pt := Ak E 40 2 a56 [rV 52 0] []
def d56 (E : Env) : Dec :=
 {g := 56, f := 40, p := 1, pts := [p56 E],
  shs := [{ m := 2, res := aV 1 2 0 1, post := [none, rV 52 0], keep := [0] }] }
theorem cG : Ah (EF m56) [] 20000 (d56 E0) t56 0 = some (jl (d56 E0) []) := by kernel_rfl
theorem c56 : Ar (EF m56) [] 20000 (d56 E0) t56 := dk1 rfl cG
def m57 (E : Env) : List Sm := (d56 E).smL a56 (p56 E) 0 (d56 E).shs ++ m56 E
def a57 : List AV := [(.func (.yield 0) [] []), (.ptr 5 0)]
def p57 (E : Env) : Pt := Ak E 88 14 a57 [some (Ex E 18 18 .ready none 137 [(3, (.ptr 1 0)), (4, (.ptr 2 0)), (12, (.ptr 3 0))] 4), some (.cells 10 (Ad [(0, sV 0), (1, dV 63 1), (2, dV 65 2), (3, dV 68 3), (4, sV 4), (5, iV 5), (6, dV 65 6), (7, dV 3 7), (8, iV 8), (9, dV 53 9)])), some (.cells 1 (Ad [(0, bV 10)])), some (.cells 1 (Ad [(0, iV 11)])), some (.deferred (some [])), some (.cells 1 (Ad [(0, aV 6 2 12 13)])), rV 52 12] []
def z31 : Ao := (.cells 10 (Ad [(0, sV 3), (1, dV 63 4), (2, dV 65 5), (3, dV 68 6), (4, sV 7), (5, iV 8), (6, dV 65 9), (7, dV 3 10), (8, iV 11), (9, dV 53 12)]))
def z32 : Ao := (.cells 1 (Ad [(0, (.bool false))]))
def z33 : Ao := (.cells 1 (Ad [(0, iV 0)]))
def d57 (E : Env) : Dec :=
 {g := 57, f := 88, p := 7, pts := [p57 E,
  Ax E 88 18 1 15 [(0, (.func (.yield 0) [] [])), (5, aV 6 2 0 1), (6, (.si .i64 (.lenL (.var 0)))), (7, iV 2)] [some (Ex E 18 18 .ready none 137 [(3, (.ptr 1 0)), (4, (.ptr 2 0)), (12, (.ptr 3 0))] 4), some z31, some (.cells 1 (Ad [(0, bV 13)])), some (.cells 1 (Ad [(0, iV 14)])), some (.deferred (some [])), some (.cells 1 (Ad [(0, aV 6 2 0 1)])), rV 52 0] [] []],
  shs := [{ m := 1, res := (.tuple []), post := [some (Ex E 18 18 .done (some .ret) 137 [] 4), none, some z32, some z33, none, none, none], keep := [1, 4, 5, 6] }, { m := 1, res := (.tuple []), post := [none, none, none, some z33, none, none, none], keep := [0, 1, 2, 4, 5, 6] }] }
theorem gS : Ah (EF m57) [1] 20000 (d57 E0) t57 0 = some (jl (d57 E0) [1]) := by kernel_rfl
theorem gW : Ah (EF m57) [1] 20000 (d57 E0) t57 1 = some (jl (d57 E0) [1]) := by kernel_rfl
theorem c57 : Ar (EF m57) [1] 20000 (d57 E0) t57 := dk2 rfl gS gW
def m58 (E : Env) : List Sm := (d57 E).smL a57 (p57 E) 0 (d57 E).shs ++ m57 E
def z34 : AV := (.agg [sV 20, dV 63 21, dV 65 22, dV 68 23, sV 24, iV 25, dV 65 26, dV 3 27, iV 28, dV 53 29])
def a58 : List AV := [(.ptr 0 0), z34]
def p58 (E : Env) : Pt := Ak E 18 30 a58 [some z14, some z15, some z16, rV 141 0, rV 63 3, rV 65 5, rV 68 7, some z17, some (.dmap 3 3 (.var 13)), rV 158 15, rV 52 18] []
def z35 : Ao := (.cells 2 (Ad [(0, (.bool true)), (1, aV 3 3 14 15)]))
def d58 (E : Env) : Dec :=
 {g := 58, f := 18, p := 11, pts := [p58 E,
  Ax E 18 137 4 31 [(0, (.ptr 0 0)), (3, (.ptr 11 0)), (4, (.ptr 12 0)), (5, iV 0)] [some z14, some (.cells 11 (Ad [(0, (.ptr 2 0)), (1, sV 1), (2, aV 4 3 2 3), (3, aV 5 2 4 5), (4, aV 6 9 6 7), (5, sV 8), (6, bV 9), (7, iV 10), (8, (.ptr 7 0)), (9, bV 11), (10, aV 10 2 12 13)])), some z35, rV 141 14, rV 63 2, rV 65 4, rV 68 6, some (.cells 3 (Ad [(0, iV 16), (1, (.nmap 8 (.var 17))), (2, aV 9 2 18 19)])), some (.dmap 3 3 (.var 20)), rV 158 18, rV 52 12, some (.cells 10 (Ad [(0, sV 21), (1, dV 63 22), (2, dV 65 23), (3, dV 68 24), (4, sV 25), (5, iV 26), (6, dV 65 27), (7, dV 3 28), (8, iV 29), (9, dV 53 30)])), some z32] [] []],
  shs := [{ m := 1, res := bV 0, post := [none, none, none, none, none, none, none, none, none, none, none], keep := [0, 1, 2, 3, 4, 5, 6, 7, 8, 9, 10] }] }
theorem fB : Ah (EF m58) [4] 20000 (d58 E0) t58 0 = some (jl (d58 E0) [1, 1]) := by kernel_rfl
theorem kG : Ah (EF m58) [4] 20000 (d58 E0) t58 1 = some (jl (d58 E0) [1]) := by kernel_rfl
theorem c58 : Ar (EF m58) [4] 20000 (d58 E0) t58 := dk2 rfl fB kG
def m59 (E : Env) : List Sm := (d58 E).smL a58 (p58 E) 0 (d58 E).shs ++ m58 E
def z36 : AV := (.agg [(.ptr 0 0), (.ptr 10 0), bV 25])
def a59 : List AV := [z36, (.agg [sV 26, sV 27, iV 28, sV 29, sV 30, sV 31, iV 32, iV 33, iV 34])]
def z37 : Ao := (.cells 3 (Ad [(0, iV 20), (1, (.nmap 11 (.var 22))), (2, aV 12 2 23 24)]))
def p59 (E : Env) : Pt := Ak E 45 35 a59 [some z10, some z7, rV 141 0, rV 63 3, rV 65 5, rV 68 7, some z11, some (.dmap 3 3 (.var 13)), rV 158 15, rV 52 18, some z37, some (.dmap 3 3 (.var 21)), rV 158 23] []
def z38 : AV := (.agg [(.ptr 0 0), (.ptr 10 0), bV 35])
def d59 (E : Env) : Dec :=
 {g := 59, f := 45, p := 13, pts := [p59 E,
  Ax E 45 24 2 36 [(3, (.ptr 13 0)), (13, (.slice 14 0 3 1)), (14, (.int .i64 3)), (15, iV 0)] [some z22, some z23, rV 141 14, rV 63 2, rV 65 4, rV 68 6, some z24, some (.dmap 3 3 (.var 20)), rV 158 18, rV 52 12, some z27, some (.dmap 3 3 (.var 25)), rV 158 23, some (.cells 9 (Ad [(0, sV 26), (1, sV 27), (2, iV 28), (3, sV 29), (4, sV 30), (5, sV 31), (6, iV 32), (7, iV 33), (8, iV 34)])), some (.cells 3 (Ad [(0, (.func (.func 89) [z38] [])), (1, (.func (.func 90) [z38] [])), (2, (.func (.func 91) [z38] []))]))] [] []],
  shs := [{ m := 1, res := bV 0, post := [none, none, none, none, none, none, none, none, none, none, none, none, none], keep := [0, 1, 2, 3, 4, 5, 6, 7, 8, 9, 10, 11, 12] }] }
theorem dY : Ah (EF m59) [2] 20000 (d59 E0) t59 0 = some (jl (d59 E0) [1]) := by kernel_rfl
theorem dc : Ah (EF m59) [2] 20000 (d59 E0) t59 1 = some (jl (d59 E0) [1, 1, 1, 1]) := by kernel_rfl
theorem c59 : Ar (EF m59) [2] 20000 (d59 E0) t59 := dk2 rfl dY dc
def m60 (E : Env) : List Sm := (d59 E).smL a59 (p59 E) 0 (d59 E).shs ++ m59 E
def a60 : List AV := [(.ptr 0 0), z20]
def p60 (E : Env) : Pt := Ak E 92 11 a60 [some z19, rV 141 0] []
def d60 (E : Env) : Dec :=
 {g := 60, f := 92, p := 2, pts := [p60 E],
  shs := [{ m := 2, res := iV 0, post := [none, rV 141 1], keep := [0] }] }
theorem ff : Ah (EF m60) [] 20000 (d60 E0) t60 0 = some (jl (d60 E0) []) := by kernel_rfl
theorem c60 : Ar (EF m60) [] 20000 (d60 E0) t60 := dk1 rfl ff
def m61 (E : Env) : List Sm := (d60 E).smL a60 (p60 E) 0 (d60 E).shs ++ m60 E
def a61 : List AV := [z36, iV 26, iV 27]
def p61 (E : Env) : Pt := Ak E 46 28 a61 [some z10, some z7, rV 141 0, rV 63 3, rV 65 5, rV 68 7, some z11, some (.dmap 3 3 (.var 13)), rV 158 15, rV 52 18, some z37, some (.dmap 3 3 (.var 21)), rV 158 23] []
def d61 (E : Env) : Dec :=
 {g := 61, f := 46, p := 13, pts := [p61 E],
  shs := [{ m := 17, res := (.tuple []), post := [some (.cells 11 (Ad [(0, .top), (1, .top), (2, .top), (3, .top), (4, .top), (5, sV 0), (6, bV 1), (7, iV 2), (8, (.ptr 10 0)), (9, (.bool false)), (10, aV 13 2 3 4)])), some (.cells 2 (Ad [(0, .top), (1, aV 2 3 5 6)])), rV 141 5, none, none, none, some (.cells 3 (Ad [(0, iV 7), (1, (.nmap 7 (.var 8))), (2, aV 8 2 9 10)])), some (.dmap 3 3 (.var 11)), rV 158 9, none, some (.cells 3 (Ad [(0, iV 12), (1, (.nmap 14 (.var 13))), (2, aV 15 2 14 15)])), none, none, rV 52 3, some (.dmap 3 3 (.var 16)), rV 158 14], keep := [3, 4, 5], keepC := [(0, [0, 1, 2, 3, 4]), (1, [0])] }] }
theorem i8 : Ah (EF m61) [] 20000 (d61 E0) t61 0 = some (jl (d61 E0) []) := by kernel_rfl
theorem c61 : Ar (EF m61) [] 20000 (d61 E0) t61 := dk1 rfl i8
def m62 (E : Env) : List Sm := (d61 E).smL a61 (p61 E) 0 (d61 E).shs ++ m61 E
def a62 : List AV := [(.ptr 0 0), iV 20, iV 21]
def p62 (E : Env) : Pt := Ak E 14 22 a62 [some z14, some z15, some z16, rV 141 0, rV 63 3, rV 65 5, rV 68 7, some z17, some (.dmap 3 3 (.var 13)), rV 158 15, rV 52 18] []
def d62 (E : Env) : Dec :=
 {g := 62, f := 14, p := 11, pts := [p62 E],
  shs := [{ m := 14, res := iV 0, post := [none, some (.cells 11 (Ad [(0, .top), (1, .top), (2, .top), (3, .top), (4, .top), (5, sV 1), (6, bV 2), (7, iV 3), (8, (.ptr 11 0)), (9, bV 4), (10, aV 12 2 5 6)])), some (.cells 2 (Ad [(0, .top), (1, aV 3 3 7 8)])), rV 141 7, none, none, none, none, none, none, none, some (.cells 3 (Ad [(0, iV 9), (1, (.nmap 13 (.var 10))), (2, aV 14 2 11 12)])), rV 52 5, some (.dmap 3 3 (.var 13)), rV 158 11], keep := [0, 4, 5, 6], keepC := [(1, [0, 1, 2, 3, 4]), (2, [0])] }] }
theorem iz : Ah (EF m62) [] 20000 (d62 E0) t62 0 = some (jl (d62 E0) []) := by kernel_rfl
theorem c62 : Ar (EF m62) [] 20000 (d62 E0) t62 := dk1 rfl iz
def m63 (E : Env) : List Sm := (d62 E).smL a62 (p62 E) 0 (d62 E).shs ++ m62 E
def a63 : List AV := [z13, z20]
def p63 (E : Env) : Pt := Ak E 85 11 a63 [] []
def d63 (E : Env) : Dec :=
 {g := 63, f := 85, p := 0, pts := [p63 E],
  shs := [{ m := 3, res := (.tuple [z13, iV 2]), post := [], keep := [] }] }
theorem eP : Ah (EF m63) [] 20000 (d63 E0) t63 0 = some (jl (d63 E0) []) := by kernel_rfl
theorem c63 : Ar (EF m63) [] 20000 (d63 E0) t63 := dk1 rfl eP
def m64 (E : Env) : List Sm := (d63 E).smL a63 (p63 E) 0 (d63 E).shs ++ m63 E
def a64 : List AV := [z28, iV 10, iV 11]
def p64 (E : Env) : Pt := Ak E 35 12 a64 [] []
def d64 (E : Env) : Dec :=
 {g := 64, f := 35, p := 0, pts := [p64 E],
  shs := [{ m := 11, res := (.tuple [z28, iV 10]), post := [], keep := [] }] }
theorem ej : Ah (EF m64) [] 20000 (d64 E0) t64 0 = some (jl (d64 E0) []) := by kernel_rfl
theorem c64 : Ar (EF m64) [] 20000 (d64 E0) t64 := dk1 rfl ej
def m65 (E : Env) : List Sm := (d64 E).smL a64 (p64 E) 0 (d64 E).shs ++ m64 E
def a65 : List AV := [(.func (.yield 0) [] []), (.ptr 19 0), (.ptr 21 0)]
def p65 (E : Env) : Pt := Ak E 97 32 a65 [some (Ex E 27 5 .ready none 60 [(6, (.ptr 1 0)), (7, (.ptr 2 0)), (8, (.ptr 3 0)), (10, (.ptr 4 0))] 18), some (.cells 1 (Ad [(0, sV 0)])), some z2, some (.cells 1 (Ad [(0, iV 2)])), some (.cells 3 (Ad [(0, (.ptr 5 0)), (1, (.ptr 15 0)), (2, bV 28)])), some (.cells 11 (Ad [(0, (.ptr 6 0)), (1, sV 5), (2, aV 8 3 6 7), (3, aV 9 2 8 9), (4, aV 10 9 10 11), (5, sV 12), (6, bV 13), (7, iV 14), (8, (.ptr 11 0)), (9, bV 20), (10, aV 14 2 21 22)])), some (.cells 2 (Ad [(0, (.bool true)), (1, aV 7 3 3 4)])), rV 141 3, rV 63 6, rV 65 8, rV 68 10, some (.cells 3 (Ad [(0, iV 15), (1, (.nmap 12 (.var 17))), (2, aV 13 2 18 19)])), some (.dmap 3 3 (.var 16)), rV 158 18, rV 52 21, some (.cells 3 (Ad [(0, iV 23), (1, (.nmap 16 (.var 25))), (2, aV 17 2 26 27)])), some (.dmap 3 3 (.var 24)), rV 158 26, some (.deferred (some [])), some (.cells 1 (Ad [(0, aV 20 9 29 30)])), rV 68 29, some (.cells 1 (Ad [(0, sV 31)]))] []
def d65 (E : Env) : Dec :=
 {g := 65, f := 97, p := 22, pts := [p65 E,
  Ax E 97 25 1 33 [(0, (.func (.yield 0) [] [])), (2, (.ptr 21 0)), (6, aV 20 9 0 1), (7, (.si .i64 (.lenL (.var 0)))), (8, iV 2)] [some (Ex E 27 5 .ready none 60 [(6, (.ptr 1 0)), (7, (.ptr 2 0)), (8, (.ptr 3 0)), (10, (.ptr 4 0))] 18), some z6, some (.cells 1 (Ad [(0, sV 4)])), some (.cells 1 (Ad [(0, iV 5)])), some (.cells 3 (Ad [(0, (.ptr 5 0)), (1, (.ptr 15 0)), (2, bV 6)])), some (.cells 11 (Ad [(0, (.ptr 6 0)), (1, sV 7), (2, aV 8 3 8 9), (3, aV 9 2 10 11), (4, aV 10 9 12 13), (5, sV 14), (6, bV 15), (7, iV 16), (8, (.ptr 11 0)), (9, bV 17), (10, aV 14 2 18 19)])), some (.cells 2 (Ad [(0, (.bool true)), (1, aV 7 3 20 21)])), rV 141 20, rV 63 8, rV 65 10, rV 68 12, some (.cells 3 (Ad [(0, iV 22), (1, (.nmap 12 (.var 23))), (2, aV 13 2 24 25)])), some (.dmap 3 3 (.var 26)), rV 158 24, rV 52 18, some (.cells 3 (Ad [(0, iV 27), (1, (.nmap 16 (.var 28))), (2, aV 17 2 29 30)])), some (.dmap 3 3 (.var 31)), rV 158 29, some (.deferred (some [])), some (.cells 1 (Ad [(0, aV 20 9 0 1)])), rV 68 0, some (.cells 1 (Ad [(0, sV 32)]))] [] []],
  shs := [{ m := 1, res := (.tuple []), post := [some (Ex E 27 5 .done (some (.exit 0)) 60 [] 18), none, none, some z33, none, none, none, none, none, none, none, none, none, none, none, none, none, none, none, none, none, none], keep := [1, 2, 4, 5, 6, 7, 8, 9, 10, 11, 12, 13, 14, 15, 16, 17, 18, 19, 20, 21] }, { m := 0, res := (.tuple []), post := [none, none, none, none, none, none, none, none, none, none, none, none, none, none, none, none, none, none, none, none, none, none], keep := [0, 1, 2, 3, 4, 5, 6, 7, 8, 9, 10, 11, 12, 13, 14, 15, 16, 17, 18, 19, 20, 21] }] }
theorem cE : Ah (EF m65) [1] 20000 (d65 E0) t65 0 = some (jl (d65 E0) [1]) := by kernel_rfl
theorem fS : Ah (EF m65) [1] 20000 (d65 E0) t65 1 = some (jl (d65 E0) [1, 1, 1, 1, 1]) := by kernel_rfl
theorem c65 : Ar (EF m65) [1] 20000 (d65 E0) t65 := dk2 rfl cE fS
def m66 (E : Env) : List Sm := (d65 E).smL a65 (p65 E) 0 (d65 E).shs ++ m65 E
def a66 : List AV := [(.ptr 0 0), iV 20, sV 21, sV 22]
def p66 (E : Env) : Pt := Ak E 27 23 a66 [some z14, some z15, some z16, rV 141 0, rV 63 3, rV 65 5, rV 68 7, some z17, some (.dmap 3 3 (.var 13)), rV 158 15, rV 52 18] []
def d66 (E : Env) : Dec :=
 {g := 66, f := 27, p := 11, pts := [p66 E],
  shs := [{ m := 15, res := (.tuple [iV 0, iV 1]), post := [none, some (.cells 11 (Ad [(0, .top), (1, .top), (2, .top), (3, .top), (4, .top), (5, sV 2), (6, bV 3), (7, iV 4), (8, (.ptr 11 0)), (9, bV 5), (10, aV 12 2 6 7)])), some (.cells 2 (Ad [(0, .top), (1, aV 3 3 8 9)])), rV 141 8, none, none, none, none, none, none, none, some (.cells 3 (Ad [(0, iV 10), (1, (.nmap 13 (.var 11))), (2, aV 14 2 12 13)])), rV 52 6, some (.dmap 3 3 (.var 14)), rV 158 12], keep := [0, 4, 5, 6], keepC := [(1, [0, 1, 2, 3, 4]), (2, [0])] }] }
theorem iw : Ah (EF m66) [] 20000 (d66 E0) t66 0 = some (jl (d66 E0) []) := by kernel_rfl
theorem c66 : Ar (EF m66) [] 20000 (d66 E0) t66 := dk1 rfl iw
def m67 (E : Env) : List Sm := (d66 E).smL a66 (p66 E) 0 (d66 E).shs ++ m66 E
def a67 : List AV := [z28, iV 10, sV 11, sV 12]
def p67 (E : Env) : Pt := Ak E 36 13 a67 [] []
def d67 (E : Env) : Dec :=
 {g := 67, f := 36, p := 0, pts := [p67 E,
  Ax E 36 64 4 14 [(1, iV 0), (2, sV 1), (3, sV 2), (4, (.ptr 0 0)), (8, (.ptr 1 0)), (11, iV 3)] [some (.cells 10 (Ad [(0, sV 4), (1, dV 63 5), (2, dV 65 6), (3, dV 68 7), (4, sV 8), (5, iV 9), (6, dV 65 10), (7, dV 3 11), (8, iV 12), (9, dV 53 13)])), some z29] [] []],
  shs := [{ m := 12, res := (.tuple [z28, iV 10, iV 11]), post := [], keep := [] }] }
theorem fN : Ah (EF m67) [4] 20000 (d67 E0) t67 0 = some (jl (d67 E0) [1]) := by kernel_rfl
theorem gK : Ah (EF m67) [4] 20000 (d67 E0) t67 1 = some (jl (d67 E0) [1, 1, 1, 1]) := by kernel_rfl
theorem c67 : Ar (EF m67) [4] 20000 (d67 E0) t67 := dk2 rfl fN gK
def m68 (E : Env) : List Sm := (d67 E).smL a67 (p67 E) 0 (d67 E).shs ++ m67 E
def a68 : List AV := [aV 0 3 0 1]
def p68 (E : Env) : Pt := Ak E 111 2 a68 [rV 141 0] []
def d68 (E : Env) : Dec :=
 {g := 68, f := 111, p := 1, pts := [p68 E],
  shs := [{ m := 2, res := aV 1 3 0 1, post := [none, rV 141 0], keep := [0] }] }
theorem jr : Ah (EF m68) [] 20000 (d68 E0) t68 0 = some (jl (d68 E0) []) := by kernel_rfl
theorem c68 : Ar (EF m68) [] 20000 (d68 E0) t68 := dk1 rfl jr
def m69 (E : Env) : List Sm := (d68 E).smL a68 (p68 E) 0 (d68 E).shs ++ m68 E
def a69 : List AV := [(.ptr 0 0)]
def p69 (E : Env) : Pt := Ak E 86 2 a69 [some z19, rV 141 0] []
def d69 (E : Env) : Dec :=
 {g := 69, f := 86, p := 2, pts := [p69 E],
  shs := [{ m := 2, res := (.ptr 2 0), post := [none, none, some z16, rV 141 0], keep := [0, 1] }] }
theorem fv : Ah (EF m69) [] 20000 (d69 E0) t69 0 = some (jl (d69 E0) []) := by kernel_rfl
theorem c69 : Ar (EF m69) [] 20000 (d69 E0) t69 := dk1 rfl fv
def m70 (E : Env) : List Sm := (d69 E).smL a69 (p69 E) 0 (d69 E).shs ++ m69 E
def a70 : List AV := [(.ptr 0 0)]
def p70 (E : Env) : Pt := Ak E 37 20 a70 [some z14, some z15, some z16, rV 141 0, rV 63 3, rV 65 5, rV 68 7, some z17, some (.dmap 3 3 (.var 13)), rV 158 15, rV 52 18] []
def d70 (E : Env) : Dec :=
 {g := 70, f := 37, p := 11, pts := [p70 E],
  shs := [{ m := 20, res := (.ptr 11 0), post := [none, none, none, none, rV 63 0, rV 65 1, rV 68 2, none, none, none, none, some (.cells 1 (Ad [(0, (.ptr 12 0))])), some (.cells 11 (Ad [(0, (.ptr 13 0)), (1, sV 3), (2, aV 4 3 0 4), (3, aV 5 2 1 5), (4, aV 6 9 2 6), (5, sV 7), (6, bV 8), (7, iV 9), (8, (.ptr 14 0)), (9, bV 10), (10, aV 15 2 11 12)])), some (.cells 2 (Ad [(0, (.bool true)), (1, aV 16 3 13 14)])), some (.cells 3 (Ad [(0, iV 15), (1, (.nmap 17 (.var 16))), (2, aV 18 2 17 18)])), rV 52 11, rV 141 13, some (.dmap 3 3 (.var 19)), rV 158 17], keep := [0, 1, 2, 3, 7, 8, 9, 10] }] }
theorem cC : Ah (EF m70) [] 20000 (d70 E0) t70 0 = some (jl (d70 E0) []) := by kernel_rfl
theorem c70 : Ar (EF m70) [] 20000 (d70 E0) t70 := dk1 rfl cC
def m71 (E : Env) : List Sm := (d70 E).smL a70 (p70 E) 0 (d70 E).shs ++ m70 E
def a71 : List AV := [(.ptr 0 0), z34, (.agg [iV 30, iV 31, iV 32, sV 33, sV 34])]
def p71 (E : Env) : Pt := Ak E 12 35 a71 [some z14, some z15, some z16, rV 141 0, rV 63 3, rV 65 5, rV 68 7, some z17, some (.dmap 3 3 (.var 13)), rV 158 15, rV 52 18] []
def d71 (E : Env) : Dec :=
 {g := 71, f := 12, p := 11, pts := [p71 E,
  Ax E 12 192 24 48 [(0, (.ptr 0 0)), (4, (.ptr 11 0)), (7, (.ptr 12 0)), (22, (.ptr 13 0)), (23, iV 0)] [some z14, some (.cells 11 (Ad [(0, (.ptr 2 0)), (1, sV 1), (2, aV 4 3 2 3), (3, aV 5 2 4 5), (4, aV 6 9 6 7), (5, sV 8), (6, bV 9), (7, iV 10), (8, (.ptr 21 0)), (9, bV 11), (10, aV 24 2 12 13)])), some z35, rV 141 14, rV 63 2, rV 65 4, rV 68 6, none, none, none, none, some (.cells 10 (Ad [(0, sV 16), (1, dV 63 17), (2, dV 65 18), (3, dV 68 19), (4, sV 20), (5, iV 21), (6, dV 65 22), (7, dV 3 23), (8, iV 24), (9, dV 53 25)])), some z29, some (.cells 1 (Ad [(0, (.ptr 14 0))])), some (.cells 11 (Ad [(0, (.ptr 15 0)), (1, sV 26), (2, aV 4 3 2 27), (3, aV 5 2 4 28), (4, aV 6 9 6 29), (5, sV 30), (6, bV 31), (7, iV 32), (8, (.ptr 16 0)), (9, bV 33), (10, aV 17 2 34 35)])), some (.cells 2 (Ad [(0, (.bool true)), (1, aV 18 3 36 37)])), some (.cells 3 (Ad [(0, iV 38), (1, (.nmap 19 (.var 39))), (2, aV 20 2 40 41)])), rV 52 34, rV 141 36, some (.dmap 3 3 (.var 42)), rV 158 40, some (.cells 3 (Ad [(0, iV 43), (1, (.nmap 22 (.var 44))), (2, aV 23 2 45 46)])), some (.dmap 3 3 (.var 47)), rV 158 45, rV 52 12] [] []],
  shs := [{ m := 31, res := (.tuple [(.ptr 15 0), z28, bV 10]), post := [none, none, none, none, rV 63 11, rV 65 12, rV 68 13, none, none, none, none, some (.cells 3 (Ad [(0, iV 14), (1, (.nmap 12 (.var 15))), (2, aV 13 2 16 17)])), some (.dmap 3 3 (.var 18)), rV 158 16, rV 52 19, some (.cells 1 (Ad [(0, (.ptr 16 0))])), some (.cells 11 (Ad [(0, (.ptr 17 0)), (1, sV 20), (2, aV 4 3 11 21), (3, aV 5 2 12 22), (4, aV 6 9 13 23), (5, sV 24), (6, bV 25), (7, iV 26), (8, (.ptr 11 0)), (9, bV 27), (10, aV 14 2 19 28)])), some (.cells 2 (Ad [(0, (.bool true)), (1, aV 18 3 29 30)])), rV 141 29], keep := [] }] }
theorem e6 : Ah (EF m71) [24] 20000 (d71 E0) t71 0 = some (jl (d71 E0) [1]) := by kernel_rfl
theorem iB : Ah (EF m71) [24] 20000 (d71 E0) t71 1 = some (jl (d71 E0) [1]) := by kernel_rfl
theorem c71 : Ar (EF m71) [24] 20000 (d71 E0) t71 := dk2 rfl e6 iB
end Go.Proofs.YthkffgljlhjggaaGreat.machineOwns

