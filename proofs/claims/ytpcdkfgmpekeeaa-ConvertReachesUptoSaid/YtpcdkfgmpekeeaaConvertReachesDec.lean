/- What is proved: that the functions which the law ConvertReaches reaches are the plain functions over data whose trees of tests the text before writes out (the kernel runs the evaluator over each place). Conditions: the program is the given one. -/
import Derived.Test.YtpcdkfgmpekeeaaProg
import Derived.KernelRfl
import Derived.Test.YtpcdkfgmpekeeaaConvertReachesTree
import Derived.Test.YtpcdkfgmpekeeaaConvertReachesKnownB
set_option linter.unusedVariables false
namespace Go.Proofs.Ytpcdkfgmpekeeaa.convertReaches
open Go.AE Ch
def m0 (E : Env) : List Sm := []
/- 0: phrasebook/phrasebooklaw48.known -/
def a0 : List AV := []
def p0 (E : Env) : Pt := entryPt E 9 0 a0 [] []
def d0 (E : Env) : Dec :=
 {g := 0, f := 9, p := 0, pts := [p0 E],
  shs := [{ m := 0, res := (.bool true), post := [], keep := [] }] }
theorem c0p0 : decPt (Env.ofS Try.prog l27 (m0 (Env.of Try.prog))) [] 20000 (d0 (Env.of Try.prog)) t0 0 = some (jl (d0 (Env.of Try.prog)) []) := by kernel_rfl
theorem c0 : DecOK (Env.ofS Try.prog l27 (m0 (Env.of Try.prog))) [] 20000 (d0 (Env.of Try.prog)) t0 := fun i pt h => match i, h with
 | 0, _ => ⟨_, c0p0⟩
 | i + 1, h => nomatch (show none = some pt from h)
def m1 (E : Env) : List Sm := (d0 E).smL a0 (p0 E) 0 (d0 E).shs ++ m0 E
/- 1: phrasebook/role.Name -/
def a1 : List AV := [(.ss (.var 0))]
def p1 (E : Env) : Pt := entryPt E 74 1 a1 [] []
def d1 (E : Env) : Dec :=
 {g := 1, f := 74, p := 0, pts := [p1 E,
  loopPt E 74 55 4 3 [(15, (.asl 0 1 (.lenL (.var 0)) (.bc false))), (16, (.si .i64 (.var 1))), (17, (.si .i64 (.var 2)))] [some (.arr 5 (.var 0))] [] []],
  shs := [{ m := 1, res := (.sb true (.var 0)), post := [], keep := [] }] }
theorem c1p0 : decPt (Env.ofS Try.prog l27 (m1 (Env.of Try.prog))) [4] 20000 (d1 (Env.of Try.prog)) t1 0 = some (jl (d1 (Env.of Try.prog)) [1]) := by kernel_rfl
theorem c1p1 : decPt (Env.ofS Try.prog l27 (m1 (Env.of Try.prog))) [4] 20000 (d1 (Env.of Try.prog)) t1 1 = some (jl (d1 (Env.of Try.prog)) [1, 1, 1, 1]) := by kernel_rfl
theorem c1 : DecOK (Env.ofS Try.prog l27 (m1 (Env.of Try.prog))) [4] 20000 (d1 (Env.of Try.prog)) t1 := fun i pt h => match i, h with
 | 0, _ => ⟨_, c1p0⟩
 | 1, _ => ⟨_, c1p1⟩
 | i + 2, h => nomatch (show none = some pt from h)
def m2 (E : Env) : List Sm := (d1 E).smL a1 (p1 E) 0 (d1 E).shs ++ m1 E
/- 2: slices.IndexFunc[[]phrasebook/api.CounterDef,phrasebook/api.CounterDef] -/
def a2 : List AV := [(.dat 69 (.var 0)), (.func (.func 96) [] [(.ptr 0 0)])]
def p2 (E : Env) : Pt := entryPt E 53 2 a2 [some (.cells 1 (tmpsOf [(0, (.ss (.var 1)))]))] []
def d2 (E : Env) : Dec :=
 {g := 2, f := 53, p := 1, pts := [p2 E,
  loopPt E 53 19 2 3 [(0, (.dat 69 (.var 0))), (1, (.func (.func 96) [] [(.ptr 0 0)])), (7, (.si .i64 (.lenL (.var 0)))), (8, (.si .i64 (.var 1)))] [some (.cells 1 (tmpsOf [(0, (.ss (.var 2)))]))] [] []],
  shs := [{ m := 1, res := (.si .i64 (.var 0)), post := [none], keep := [0] }] }
theorem c2p0 : decPt (Env.ofS Try.prog l27 (m2 (Env.of Try.prog))) [2] 20000 (d2 (Env.of Try.prog)) t2 0 = some (jl (d2 (Env.of Try.prog)) [1]) := by kernel_rfl
theorem c2p1 : decPt (Env.ofS Try.prog l27 (m2 (Env.of Try.prog))) [2] 20000 (d2 (Env.of Try.prog)) t2 1 = some (jl (d2 (Env.of Try.prog)) [1]) := by kernel_rfl
theorem c2 : DecOK (Env.ofS Try.prog l27 (m2 (Env.of Try.prog))) [2] 20000 (d2 (Env.of Try.prog)) t2 := fun i pt h => match i, h with
 | 0, _ => ⟨_, c2p0⟩
 | 1, _ => ⟨_, c2p1⟩
 | i + 2, h => nomatch (show none = some pt from h)
def m3 (E : Env) : List Sm := (d2 E).smL a2 (p2 E) 0 (d2 E).shs ++ m2 E
/- 3: phrasebook/role.few -/
def a3 : List AV := [(.si .i64 (.var 0)), (.si .i64 (.var 1)), (.si .i64 (.var 2)), (.func (.func 76) [] [(.ptr 0 0)])]
def p3 (E : Env) : Pt := entryPt E 75 7 a3 [some (.cells 4 (tmpsOf [(0, (.ss (.var 3))), (1, (.dat 75 (.var 4))), (2, (.dat 69 (.var 5))), (3, (.dat 64 (.var 6)))]))] []
def d3 (E : Env) : Dec :=
 {g := 3, f := 75, p := 1, pts := [p3 E,
  loopPt E 75 28 6 6 [(3, (.func (.func 76) [] [(.ptr 0 0)])), (19, (.si .i64 (.var 0))), (20, (.si .i64 (.var 1)))] [some (.cells 4 (tmpsOf [(0, (.ss (.var 2))), (1, (.dat 75 (.var 3))), (2, (.dat 69 (.var 4))), (3, (.dat 64 (.var 5)))]))] [] []],
  shs := [{ m := 1, res := (.si .i64 (.var 0)), post := [none], keep := [0] }] }
theorem c3p0 : decPt (Env.ofS Try.prog l27 (m3 (Env.of Try.prog))) [6] 20000 (d3 (Env.of Try.prog)) t3 0 = some (jl (d3 (Env.of Try.prog)) [1]) := by kernel_rfl
theorem c3p1 : decPt (Env.ofS Try.prog l27 (m3 (Env.of Try.prog))) [6] 20000 (d3 (Env.of Try.prog)) t3 1 = some (jl (d3 (Env.of Try.prog)) [1]) := by kernel_rfl
theorem c3 : DecOK (Env.ofS Try.prog l27 (m3 (Env.of Try.prog))) [6] 20000 (d3 (Env.of Try.prog)) t3 := fun i pt h => match i, h with
 | 0, _ => ⟨_, c3p0⟩
 | 1, _ => ⟨_, c3p1⟩
 | i + 2, h => nomatch (show none = some pt from h)
def m4 (E : Env) : List Sm := (d3 E).smL a3 (p3 E) 0 (d3 E).shs ++ m3 E
/- 4: slices.IndexFunc[[]phrasebook/api.State,phrasebook/api.State] -/
def a4 : List AV := [(.dat 75 (.var 0)), (.func (.func 98) [] [(.ptr 0 0)])]
def p4 (E : Env) : Pt := entryPt E 51 2 a4 [some (.cells 1 (tmpsOf [(0, (.ss (.var 1)))]))] []
def d4 (E : Env) : Dec :=
 {g := 4, f := 51, p := 1, pts := [p4 E,
  loopPt E 51 19 2 3 [(0, (.dat 75 (.var 0))), (1, (.func (.func 98) [] [(.ptr 0 0)])), (7, (.si .i64 (.lenL (.var 0)))), (8, (.si .i64 (.var 1)))] [some (.cells 1 (tmpsOf [(0, (.ss (.var 2)))]))] [] []],
  shs := [{ m := 1, res := (.si .i64 (.var 0)), post := [none], keep := [0] }] }
theorem c4p0 : decPt (Env.ofS Try.prog l27 (m4 (Env.of Try.prog))) [2] 20000 (d4 (Env.of Try.prog)) t4 0 = some (jl (d4 (Env.of Try.prog)) [1]) := by kernel_rfl
theorem c4p1 : decPt (Env.ofS Try.prog l27 (m4 (Env.of Try.prog))) [2] 20000 (d4 (Env.of Try.prog)) t4 1 = some (jl (d4 (Env.of Try.prog)) [1]) := by kernel_rfl
theorem c4 : DecOK (Env.ofS Try.prog l27 (m4 (Env.of Try.prog))) [2] 20000 (d4 (Env.of Try.prog)) t4 := fun i pt h => match i, h with
 | 0, _ => ⟨_, c4p0⟩
 | 1, _ => ⟨_, c4p1⟩
 | i + 2, h => nomatch (show none = some pt from h)
def m5 (E : Env) : List Sm := (d4 E).smL a4 (p4 E) 0 (d4 E).shs ++ m4 E
/- 5: phrasebook/role.few -/
def a5 : List AV := [(.si .i64 (.var 0)), (.si .i64 (.var 1)), (.si .i64 (.var 2)), (.func (.func 78) [] [(.ptr 0 0)])]
def p5 (E : Env) : Pt := entryPt E 75 7 a5 [some (.cells 4 (tmpsOf [(0, (.ss (.var 3))), (1, (.dat 75 (.var 4))), (2, (.dat 69 (.var 5))), (3, (.dat 64 (.var 6)))]))] []
def d5 (E : Env) : Dec :=
 {g := 5, f := 75, p := 1, pts := [p5 E,
  loopPt E 75 28 6 6 [(3, (.func (.func 78) [] [(.ptr 0 0)])), (19, (.si .i64 (.var 0))), (20, (.si .i64 (.var 1)))] [some (.cells 4 (tmpsOf [(0, (.ss (.var 2))), (1, (.dat 75 (.var 3))), (2, (.dat 69 (.var 4))), (3, (.dat 64 (.var 5)))]))] [] []],
  shs := [{ m := 1, res := (.si .i64 (.var 0)), post := [none], keep := [0] }] }
theorem c5p0 : decPt (Env.ofS Try.prog l27 (m5 (Env.of Try.prog))) [6] 20000 (d5 (Env.of Try.prog)) t5 0 = some (jl (d5 (Env.of Try.prog)) [1]) := by kernel_rfl
theorem c5p1 : decPt (Env.ofS Try.prog l27 (m5 (Env.of Try.prog))) [6] 20000 (d5 (Env.of Try.prog)) t5 1 = some (jl (d5 (Env.of Try.prog)) [1]) := by kernel_rfl
theorem c5 : DecOK (Env.ofS Try.prog l27 (m5 (Env.of Try.prog))) [6] 20000 (d5 (Env.of Try.prog)) t5 := fun i pt h => match i, h with
 | 0, _ => ⟨_, c5p0⟩
 | 1, _ => ⟨_, c5p1⟩
 | i + 2, h => nomatch (show none = some pt from h)
def m6 (E : Env) : List Sm := (d5 E).smL a5 (p5 E) 0 (d5 E).shs ++ m5 E
/- 6: slices.Index[[]phrasebook/api.Step,phrasebook/api.Step] -/
def a6 : List AV := [(.dat 64 (.var 0)), (.agg [(.ss (.var 1)), (.ss (.var 2)), (.si .i64 (.var 3)), (.ss (.var 4)), (.ss (.var 5)), (.ss (.var 6)), (.si .i64 (.var 7)), (.si .i64 (.var 8)), (.si .i64 (.var 9))])]
def p6 (E : Env) : Pt := entryPt E 110 10 a6 [] []
def d6 (E : Env) : Dec :=
 {g := 6, f := 110, p := 0, pts := [p6 E,
  loopPt E 110 19 2 11 [(0, (.dat 64 (.var 0))), (3, (.ptr 0 0)), (7, (.si .i64 (.lenL (.var 0)))), (8, (.si .i64 (.var 1)))] [some (.cells 9 (tmpsOf [(0, (.ss (.var 2))), (1, (.ss (.var 3))), (2, (.si .i64 (.var 4))), (3, (.ss (.var 5))), (4, (.ss (.var 6))), (5, (.ss (.var 7))), (6, (.si .i64 (.var 8))), (7, (.si .i64 (.var 9))), (8, (.si .i64 (.var 10)))]))] [] []],
  shs := [{ m := 1, res := (.si .i64 (.var 0)), post := [], keep := [] }] }
theorem c6p0 : decPt (Env.ofS Try.prog l27 (m6 (Env.of Try.prog))) [2] 20000 (d6 (Env.of Try.prog)) t6 0 = some (jl (d6 (Env.of Try.prog)) [1]) := by kernel_rfl
theorem c6p1 : decPt (Env.ofS Try.prog l27 (m6 (Env.of Try.prog))) [2] 20000 (d6 (Env.of Try.prog)) t6 1 = some (jl (d6 (Env.of Try.prog)) [1]) := by kernel_rfl
theorem c6 : DecOK (Env.ofS Try.prog l27 (m6 (Env.of Try.prog))) [2] 20000 (d6 (Env.of Try.prog)) t6 := fun i pt h => match i, h with
 | 0, _ => ⟨_, c6p0⟩
 | 1, _ => ⟨_, c6p1⟩
 | i + 2, h => nomatch (show none = some pt from h)
def m7 (E : Env) : List Sm := (d6 E).smL a6 (p6 E) 0 (d6 E).shs ++ m6 E
/- 7: phrasebook/role.few -/
def a7 : List AV := [(.si .i64 (.var 0)), (.si .i64 (.var 1)), (.si .i64 (.var 2)), (.func (.func 80) [] [(.ptr 0 0)])]
def p7 (E : Env) : Pt := entryPt E 75 7 a7 [some (.cells 4 (tmpsOf [(0, (.ss (.var 3))), (1, (.dat 75 (.var 4))), (2, (.dat 69 (.var 5))), (3, (.dat 64 (.var 6)))]))] []
def d7 (E : Env) : Dec :=
 {g := 7, f := 75, p := 1, pts := [p7 E,
  loopPt E 75 28 6 6 [(3, (.func (.func 80) [] [(.ptr 0 0)])), (19, (.si .i64 (.var 0))), (20, (.si .i64 (.var 1)))] [some (.cells 4 (tmpsOf [(0, (.ss (.var 2))), (1, (.dat 75 (.var 3))), (2, (.dat 69 (.var 4))), (3, (.dat 64 (.var 5)))]))] [] []],
  shs := [{ m := 1, res := (.si .i64 (.var 0)), post := [none], keep := [0] }] }
theorem c7p0 : decPt (Env.ofS Try.prog l27 (m7 (Env.of Try.prog))) [6] 20000 (d7 (Env.of Try.prog)) t7 0 = some (jl (d7 (Env.of Try.prog)) [1]) := by kernel_rfl
theorem c7p1 : decPt (Env.ofS Try.prog l27 (m7 (Env.of Try.prog))) [6] 20000 (d7 (Env.of Try.prog)) t7 1 = some (jl (d7 (Env.of Try.prog)) [1, 1, 1, 1, 1, 1, 1, 1]) := by kernel_rfl
theorem c7 : DecOK (Env.ofS Try.prog l27 (m7 (Env.of Try.prog))) [6] 20000 (d7 (Env.of Try.prog)) t7 := fun i pt h => match i, h with
 | 0, _ => ⟨_, c7p0⟩
 | 1, _ => ⟨_, c7p1⟩
 | i + 2, h => nomatch (show none = some pt from h)
def m8 (E : Env) : List Sm := (d7 E).smL a7 (p7 E) 0 (d7 E).shs ++ m7 E
/- 8: (*phrasebook/convert.queue[phrasebook/convert.key]).add -/
def a8 : List AV := [(.ptr 0 0), (.agg [(.si .i64 (.var 3)), (.si .i64 (.var 4)), (.si .i64 (.var 5)), (.si .i64 (.var 6)), (.si .i64 (.var 7))])]
def p8 (E : Env) : Pt := entryPt E 82 8 a8 [some (.cells 2 (tmpsOf [(0, (.asl 1 5 (.lenL (.var 0)) (.var 1))), (1, (.map 2))])), some (.arr 87 (.var 0)), some (.dmap 87 4 (.var 2))] []
def d8 (E : Env) : Dec :=
 {g := 8, f := 82, p := 3, pts := [p8 E],
  shs := [{ m := 3, res := (.tuple []), post := [some (.cells 2 (tmpsOf [(0, (.asl 3 5 (.lenL (.var 0)) (.var 1))), (1, (.map 2))])), none, some (.dmap 87 4 (.var 2)), some (.arr 87 (.var 0))], keep := [] }] }
theorem c8p0 : decPt (Env.ofS Try.prog l27 (m8 (Env.of Try.prog))) [] 20000 (d8 (Env.of Try.prog)) t8 0 = some (jl (d8 (Env.of Try.prog)) []) := by kernel_rfl
theorem c8 : DecOK (Env.ofS Try.prog l27 (m8 (Env.of Try.prog))) [] 20000 (d8 (Env.of Try.prog)) t8 := fun i pt h => match i, h with
 | 0, _ => ⟨_, c8p0⟩
 | i + 1, h => nomatch (show none = some pt from h)
def m9 (E : Env) : List Sm := (d8 E).smL a8 (p8 E) 0 (d8 E).shs ++ m8 E
/- 9: slices.IndexFunc[[]phrasebook/counter.counter,phrasebook/counter.counter] -/
def a9 : List AV := [(.asl 0 3 (.lenL (.var 0)) (.var 1)), (.func (.func 105) [] [(.ptr 1 0)])]
def p9 (E : Env) : Pt := entryPt E 104 3 a9 [some (.arr 164 (.var 0)), some (.cells 1 (tmpsOf [(0, (.ss (.var 2)))]))] []
def d9 (E : Env) : Dec :=
 {g := 9, f := 104, p := 2, pts := [p9 E,
  loopPt E 104 19 2 4 [(0, (.asl 0 3 (.lenL (.var 0)) (.var 1))), (1, (.func (.func 105) [] [(.ptr 1 0)])), (7, (.si .i64 (.lenL (.var 0)))), (8, (.si .i64 (.var 2)))] [some (.arr 164 (.var 0)), some (.cells 1 (tmpsOf [(0, (.ss (.var 3)))]))] [] []],
  shs := [{ m := 1, res := (.si .i64 (.var 0)), post := [none, none], keep := [0, 1] }] }
theorem c9p0 : decPt (Env.ofS Try.prog l27 (m9 (Env.of Try.prog))) [2] 20000 (d9 (Env.of Try.prog)) t9 0 = some (jl (d9 (Env.of Try.prog)) [1]) := by kernel_rfl
theorem c9p1 : decPt (Env.ofS Try.prog l27 (m9 (Env.of Try.prog))) [2] 20000 (d9 (Env.of Try.prog)) t9 1 = some (jl (d9 (Env.of Try.prog)) [1]) := by kernel_rfl
theorem c9 : DecOK (Env.ofS Try.prog l27 (m9 (Env.of Try.prog))) [2] 20000 (d9 (Env.of Try.prog)) t9 := fun i pt h => match i, h with
 | 0, _ => ⟨_, c9p0⟩
 | 1, _ => ⟨_, c9p1⟩
 | i + 2, h => nomatch (show none = some pt from h)
def m10 (E : Env) : List Sm := (d9 E).smL a9 (p9 E) 0 (d9 E).shs ++ m9 E
/- 10: phrasebook/counter.New -/
def a10 : List AV := [(.dat 69 (.var 0))]
def p10 (E : Env) : Pt := entryPt E 88 1 a10 [] []
def d10 (E : Env) : Dec :=
 {g := 10, f := 88, p := 0, pts := [p10 E,
  loopPt E 88 51 5 4 [(4, (.ptr 0 0)), (12, (.dat 69 (.var 0))), (13, (.si .i64 (.lenL (.var 0)))), (14, (.si .i64 (.var 1)))] [some (.cells 2 (tmpsOf [(0, (.bool true)), (1, (.asl 1 3 (.lenL (.var 2)) (.var 3)))])), some (.arr 164 (.var 2))] [] []],
  shs := [{ m := 0, res := (.tuple [.ptr0, (.int .i64 2)]), post := [], keep := [] }, { m := 2, res := (.tuple [(.ptr 0 0), (.int .i64 0)]), post := [some (.cells 2 (tmpsOf [(0, (.bool true)), (1, (.asl 1 3 (.lenL (.var 0)) (.var 1)))])), some (.arr 164 (.var 0))], keep := [] }] }
theorem c10p0 : decPt (Env.ofS Try.prog l27 (m10 (Env.of Try.prog))) [5] 20000 (d10 (Env.of Try.prog)) t10 0 = some (jl (d10 (Env.of Try.prog)) [1]) := by kernel_rfl
theorem c10p1 : decPt (Env.ofS Try.prog l27 (m10 (Env.of Try.prog))) [5] 20000 (d10 (Env.of Try.prog)) t10 1 = some (jl (d10 (Env.of Try.prog)) [1]) := by kernel_rfl
theorem c10 : DecOK (Env.ofS Try.prog l27 (m10 (Env.of Try.prog))) [5] 20000 (d10 (Env.of Try.prog)) t10 := fun i pt h => match i, h with
 | 0, _ => ⟨_, c10p0⟩
 | 1, _ => ⟨_, c10p1⟩
 | i + 2, h => nomatch (show none = some pt from h)
def m11 (E : Env) : List Sm := (d10 E).smL a10 (p10 E) 0 (d10 E).shs ++ m10 E
/- 11: (*phrasebook/counter.Bank).Put -/
def a11 : List AV := [.ptr0, (.dat 3 (.var 0))]
def p11 (E : Env) : Pt := entryPt E 89 1 a11 [] []
def d11 (E : Env) : Dec :=
 {g := 11, f := 89, p := 0, pts := [p11 E],
  shs := [{ m := 0, res := (.int .i64 1), post := [], keep := [] }] }
theorem c11p0 : decPt (Env.ofS Try.prog l27 (m11 (Env.of Try.prog))) [6, 12] 20000 (d11 (Env.of Try.prog)) t11 0 = some (jl (d11 (Env.of Try.prog)) []) := by kernel_rfl
theorem c11 : DecOK (Env.ofS Try.prog l27 (m11 (Env.of Try.prog))) [6, 12] 20000 (d11 (Env.of Try.prog)) t11 := fun i pt h => match i, h with
 | 0, _ => ⟨_, c11p0⟩
 | i + 1, h => nomatch (show none = some pt from h)
def m12 (E : Env) : List Sm := (d11 E).smL a11 (p11 E) 0 (d11 E).shs ++ m11 E
/- 12: (*phrasebook/counter.Bank).Put -/
def a12 : List AV := [(.ptr 0 0), (.dat 3 (.var 3))]
def p12 (E : Env) : Pt := entryPt E 89 4 a12 [some (.cells 2 (tmpsOf [(0, (.sb true (.var 0))), (1, (.asl 1 3 (.lenL (.var 1)) (.var 2)))])), some (.arr 164 (.var 1))] []
def d12 (E : Env) : Dec :=
 {g := 12, f := 89, p := 2, pts := [p12 E,
  loopPt E 89 60 6 5 [(0, (.ptr 0 0)), (1, (.dat 3 (.var 0))), (21, (.dat 3 (.var 0))), (22, (.si .i64 (.lenL (.var 0)))), (23, (.si .i64 (.var 1)))] [some (.cells 2 (tmpsOf [(0, (.sb true (.var 2))), (1, (.asl 1 3 (.lenL (.var 3)) (.var 4)))])), some (.arr 164 (.var 3))] [] [],
  loopPt E 89 60 12 6 [(0, (.ptr 0 0)), (44, (.dat 3 (.var 0))), (45, (.si .i64 (.var 1))), (46, (.si .i64 (.var 2)))] [some (.cells 2 (tmpsOf [(0, (.sb true (.var 3))), (1, (.asl 1 3 (.lenL (.var 4)) (.var 5)))])), some (.arr 164 (.var 4))] [] []],
  shs := [{ m := 2, res := (.si .i64 (.var 0)), post := [none, some (.arr 164 (.var 1))], keep := [0] }] }
theorem c12p0 : decPt (Env.ofS Try.prog l27 (m12 (Env.of Try.prog))) [6, 12] 20000 (d12 (Env.of Try.prog)) t12 0 = some (jl (d12 (Env.of Try.prog)) [1]) := by kernel_rfl
theorem c12p1 : decPt (Env.ofS Try.prog l27 (m12 (Env.of Try.prog))) [6, 12] 20000 (d12 (Env.of Try.prog)) t12 1 = some (jl (d12 (Env.of Try.prog)) [1, 2]) := by kernel_rfl
theorem c12p2 : decPt (Env.ofS Try.prog l27 (m12 (Env.of Try.prog))) [6, 12] 20000 (d12 (Env.of Try.prog)) t12 2 = some (jl (d12 (Env.of Try.prog)) [2]) := by kernel_rfl
theorem c12 : DecOK (Env.ofS Try.prog l27 (m12 (Env.of Try.prog))) [6, 12] 20000 (d12 (Env.of Try.prog)) t12 := fun i pt h => match i, h with
 | 0, _ => ⟨_, c12p0⟩
 | 1, _ => ⟨_, c12p1⟩
 | 2, _ => ⟨_, c12p2⟩
 | i + 3, h => nomatch (show none = some pt from h)
def m13 (E : Env) : List Sm := (d12 E).smL a12 (p12 E) 0 (d12 E).shs ++ m12 E
/- 13: (phrasebook/convert.key).bank -/
def a13 : List AV := [(.agg [(.si .i64 (.var 0)), (.si .i64 (.var 1)), (.si .i64 (.var 2)), (.si .i64 (.var 3)), (.si .i64 (.var 4))]), (.agg [(.ss (.var 5)), (.dat 75 (.var 6)), (.dat 69 (.var 7)), (.dat 64 (.var 8))])]
def p13 (E : Env) : Pt := entryPt E 69 9 a13 [] []
def d13 (E : Env) : Dec :=
 {g := 13, f := 69, p := 0, pts := [p13 E],
  shs := [{ m := 0, res := .ptr0, post := [], keep := [] }, { m := 3, res := (.ptr 0 0), post := [some (.cells 2 (tmpsOf [(0, (.bool true)), (1, (.asl 1 3 (.var 0) (.var 1)))])), some (.arr 164 (.var 2))], keep := [] }] }
theorem c13p0 : decPt (Env.ofS Try.prog l27 (m13 (Env.of Try.prog))) [] 20000 (d13 (Env.of Try.prog)) t13 0 = some (jl (d13 (Env.of Try.prog)) []) := by kernel_rfl
theorem c13 : DecOK (Env.ofS Try.prog l27 (m13 (Env.of Try.prog))) [] 20000 (d13 (Env.of Try.prog)) t13 := fun i pt h => match i, h with
 | 0, _ => ⟨_, c13p0⟩
 | i + 1, h => nomatch (show none = some pt from h)
def m14 (E : Env) : List Sm := (d13 E).smL a13 (p13 E) 0 (d13 E).shs ++ m13 E
/- 14: (*phrasebook/counter.Bank).Allowed -/
def a14 : List AV := [.ptr0, (.agg [(.ss (.var 0)), (.ss (.var 1)), (.si .i64 (.var 2)), (.ss (.var 3)), (.ss (.var 4)), (.ss (.var 5)), (.si .i64 (.var 6)), (.si .i64 (.var 7)), (.si .i64 (.var 8))])]
def p14 (E : Env) : Pt := entryPt E 70 9 a14 [] []
def d14 (E : Env) : Dec :=
 {g := 14, f := 70, p := 0, pts := [p14 E],
  shs := [{ m := 0, res := (.tuple [(.bool false), (.int .i64 1)]), post := [], keep := [] }] }
theorem c14p0 : decPt (Env.ofS Try.prog l27 (m14 (Env.of Try.prog))) [] 20000 (d14 (Env.of Try.prog)) t14 0 = some (jl (d14 (Env.of Try.prog)) []) := by kernel_rfl
theorem c14 : DecOK (Env.ofS Try.prog l27 (m14 (Env.of Try.prog))) [] 20000 (d14 (Env.of Try.prog)) t14 := fun i pt h => match i, h with
 | 0, _ => ⟨_, c14p0⟩
 | i + 1, h => nomatch (show none = some pt from h)
def m15 (E : Env) : List Sm := (d14 E).smL a14 (p14 E) 0 (d14 E).shs ++ m14 E
/- 15: (*phrasebook/counter.Bank).Get -/
def a15 : List AV := [(.ptr 0 0), (.ss (.var 3))]
def p15 (E : Env) : Pt := entryPt E 91 4 a15 [some (.cells 2 (tmpsOf [(0, (.sb true (.var 0))), (1, (.asl 1 3 (.lenL (.var 1)) (.var 2)))])), some (.arr 164 (.var 1))] []
def d15 (E : Env) : Dec :=
 {g := 15, f := 91, p := 2, pts := [p15 E],
  shs := [{ m := 2, res := (.tuple [(.si .i64 (.var 0)), (.si .i64 (.var 1))]), post := [none, none], keep := [0, 1] }] }
theorem c15p0 : decPt (Env.ofS Try.prog l27 (m15 (Env.of Try.prog))) [] 20000 (d15 (Env.of Try.prog)) t15 0 = some (jl (d15 (Env.of Try.prog)) []) := by kernel_rfl
theorem c15 : DecOK (Env.ofS Try.prog l27 (m15 (Env.of Try.prog))) [] 20000 (d15 (Env.of Try.prog)) t15 := fun i pt h => match i, h with
 | 0, _ => ⟨_, c15p0⟩
 | i + 1, h => nomatch (show none = some pt from h)
def m16 (E : Env) : List Sm := (d15 E).smL a15 (p15 E) 0 (d15 E).shs ++ m15 E
/- 16: (*phrasebook/counter.Bank).Allowed -/
def a16 : List AV := [(.ptr 0 0), (.agg [(.ss (.var 3)), (.ss (.var 4)), (.si .i64 (.var 5)), (.ss (.var 6)), (.ss (.var 7)), (.ss (.var 8)), (.si .i64 (.var 9)), (.si .i64 (.var 10)), (.si .i64 (.var 11))])]
def p16 (E : Env) : Pt := entryPt E 70 12 a16 [some (.cells 2 (tmpsOf [(0, (.sb true (.var 0))), (1, (.asl 1 3 (.lenL (.var 1)) (.var 2)))])), some (.arr 164 (.var 1))] []
def d16 (E : Env) : Dec :=
 {g := 16, f := 70, p := 2, pts := [p16 E],
  shs := [{ m := 2, res := (.tuple [(.sb true (.var 0)), (.si .i64 (.var 1))]), post := [none, none], keep := [0, 1] }] }
theorem c16p0 : decPt (Env.ofS Try.prog l27 (m16 (Env.of Try.prog))) [] 20000 (d16 (Env.of Try.prog)) t16 0 = some (jl (d16 (Env.of Try.prog)) []) := by kernel_rfl
theorem c16 : DecOK (Env.ofS Try.prog l27 (m16 (Env.of Try.prog))) [] 20000 (d16 (Env.of Try.prog)) t16 := fun i pt h => match i, h with
 | 0, _ => ⟨_, c16p0⟩
 | i + 1, h => nomatch (show none = some pt from h)
def m17 (E : Env) : List Sm := (d16 E).smL a16 (p16 E) 0 (d16 E).shs ++ m16 E
/- 17: (phrasebook/convert.key).enabled -/
def a17 : List AV := [(.agg [(.si .i64 (.var 0)), (.si .i64 (.var 1)), (.si .i64 (.var 2)), (.si .i64 (.var 3)), (.si .i64 (.var 4))]), (.agg [(.ss (.var 5)), (.dat 75 (.var 6)), (.dat 69 (.var 7)), (.dat 64 (.var 8))])]
def p17 (E : Env) : Pt := entryPt E 45 9 a17 [] []
def d17 (E : Env) : Dec :=
 {g := 17, f := 45, p := 0, pts := [p17 E,
  loopPt E 45 46 3 10 [(2, (.ptr 0 0)), (3, (.ptr 1 0)), (4, .slice0), (5, .ptr0), (14, (.dat 64 (.var 0))), (15, (.si .i64 (.lenL (.var 0)))), (16, (.si .i64 (.var 1)))] [some (.cells 5 (tmpsOf [(0, (.si .i64 (.var 2))), (1, (.si .i64 (.var 3))), (2, (.si .i64 (.var 4))), (3, (.si .i64 (.var 5))), (4, (.si .i64 (.var 6)))])), some (.cells 4 (tmpsOf [(0, (.ss (.var 7))), (1, (.dat 75 (.var 8))), (2, (.dat 69 (.var 9))), (3, (.dat 64 (.var 0)))]))] [] [],
  loopPt E 45 46 3 15 [(2, (.ptr 0 0)), (3, (.ptr 1 0)), (4, (.asl 4 1 (.lenL (.var 0)) (.var 1))), (5, (.ptr 2 0)), (14, (.dat 64 (.var 2))), (15, (.si .i64 (.lenL (.var 2)))), (16, (.si .i64 (.var 3)))] [some (.cells 5 (tmpsOf [(0, (.si .i64 (.var 4))), (1, (.si .i64 (.var 5))), (2, (.si .i64 (.var 6))), (3, (.si .i64 (.var 7))), (4, (.si .i64 (.var 8)))])), some (.cells 4 (tmpsOf [(0, (.ss (.var 9))), (1, (.dat 75 (.var 10))), (2, (.dat 69 (.var 11))), (3, (.dat 64 (.var 2)))])), some (.cells 2 (tmpsOf [(0, (.bool true)), (1, (.asl 3 3 (.var 12) (.var 13)))])), some (.arr 164 (.var 14)), some (.arr 3 (.var 0))] [] []],
  shs := [{ m := 2, res := (.asl 0 1 (.lenL (.var 0)) (.var 1)), post := [some (.arr 3 (.var 0))], keep := [] }] }
theorem c17p0 : decPt (Env.ofS Try.prog l27 (m17 (Env.of Try.prog))) [3] 20000 (d17 (Env.of Try.prog)) t17 0 = some (jl (d17 (Env.of Try.prog)) [1, 2]) := by kernel_rfl
theorem c17p1 : decPt (Env.ofS Try.prog l27 (m17 (Env.of Try.prog))) [3] 20000 (d17 (Env.of Try.prog)) t17 1 = some (jl (d17 (Env.of Try.prog)) [1]) := by kernel_rfl
theorem c17p2 : decPt (Env.ofS Try.prog l27 (m17 (Env.of Try.prog))) [3] 20000 (d17 (Env.of Try.prog)) t17 2 = some (jl (d17 (Env.of Try.prog)) [2, 2, 2]) := by kernel_rfl
theorem c17 : DecOK (Env.ofS Try.prog l27 (m17 (Env.of Try.prog))) [3] 20000 (d17 (Env.of Try.prog)) t17 := fun i pt h => match i, h with
 | 0, _ => ⟨_, c17p0⟩
 | 1, _ => ⟨_, c17p1⟩
 | 2, _ => ⟨_, c17p2⟩
 | i + 3, h => nomatch (show none = some pt from h)
def m18 (E : Env) : List Sm := (d17 E).smL a17 (p17 E) 0 (d17 E).shs ++ m17 E
/- 18: (*phrasebook/counter.Bank).Apply -/
def a18 : List AV := [.ptr0, (.agg [(.ss (.var 0)), (.ss (.var 1)), (.si .i64 (.var 2)), (.ss (.var 3)), (.ss (.var 4)), (.ss (.var 5)), (.si .i64 (.var 6)), (.si .i64 (.var 7)), (.si .i64 (.var 8))])]
def p18 (E : Env) : Pt := entryPt E 72 9 a18 [] []
def d18 (E : Env) : Dec :=
 {g := 18, f := 72, p := 0, pts := [p18 E],
  shs := [{ m := 0, res := (.int .i64 1), post := [], keep := [] }] }
theorem c18p0 : decPt (Env.ofS Try.prog l27 (m18 (Env.of Try.prog))) [] 20000 (d18 (Env.of Try.prog)) t18 0 = some (jl (d18 (Env.of Try.prog)) []) := by kernel_rfl
theorem c18 : DecOK (Env.ofS Try.prog l27 (m18 (Env.of Try.prog))) [] 20000 (d18 (Env.of Try.prog)) t18 := fun i pt h => match i, h with
 | 0, _ => ⟨_, c18p0⟩
 | i + 1, h => nomatch (show none = some pt from h)
def m19 (E : Env) : List Sm := (d18 E).smL a18 (p18 E) 0 (d18 E).shs ++ m18 E
/- 19: slices.IndexFunc[[]phrasebook/api.State,phrasebook/api.State] -/
def a19 : List AV := [(.dat 75 (.var 0)), (.func (.func 52) [] [(.ptr 0 0)])]
def p19 (E : Env) : Pt := entryPt E 51 2 a19 [some (.cells 1 (tmpsOf [(0, (.ss (.var 1)))]))] []
def d19 (E : Env) : Dec :=
 {g := 19, f := 51, p := 1, pts := [p19 E,
  loopPt E 51 19 2 3 [(0, (.dat 75 (.var 0))), (1, (.func (.func 52) [] [(.ptr 0 0)])), (7, (.si .i64 (.lenL (.var 0)))), (8, (.si .i64 (.var 1)))] [some (.cells 1 (tmpsOf [(0, (.ss (.var 2)))]))] [] []],
  shs := [{ m := 1, res := (.si .i64 (.var 0)), post := [none], keep := [0] }] }
theorem c19p0 : decPt (Env.ofS Try.prog l27 (m19 (Env.of Try.prog))) [2] 20000 (d19 (Env.of Try.prog)) t19 0 = some (jl (d19 (Env.of Try.prog)) [1]) := by kernel_rfl
theorem c19p1 : decPt (Env.ofS Try.prog l27 (m19 (Env.of Try.prog))) [2] 20000 (d19 (Env.of Try.prog)) t19 1 = some (jl (d19 (Env.of Try.prog)) [1]) := by kernel_rfl
theorem c19 : DecOK (Env.ofS Try.prog l27 (m19 (Env.of Try.prog))) [2] 20000 (d19 (Env.of Try.prog)) t19 := fun i pt h => match i, h with
 | 0, _ => ⟨_, c19p0⟩
 | 1, _ => ⟨_, c19p1⟩
 | i + 2, h => nomatch (show none = some pt from h)
def m20 (E : Env) : List Sm := (d19 E).smL a19 (p19 E) 0 (d19 E).shs ++ m19 E
/- 20: (*phrasebook/counter.Bank).Apply -/
def a20 : List AV := [(.ptr 0 0), (.agg [(.ss (.var 3)), (.ss (.var 4)), (.si .i64 (.var 5)), (.ss (.var 6)), (.ss (.var 7)), (.ss (.var 8)), (.si .i64 (.var 9)), (.si .i64 (.var 10)), (.si .i64 (.var 11))])]
def p20 (E : Env) : Pt := entryPt E 72 12 a20 [some (.cells 2 (tmpsOf [(0, (.sb true (.var 0))), (1, (.asl 1 3 (.lenL (.var 1)) (.var 2)))])), some (.arr 164 (.var 1))] []
def d20 (E : Env) : Dec :=
 {g := 20, f := 72, p := 2, pts := [p20 E],
  shs := [{ m := 2, res := (.si .i64 (.var 0)), post := [none, some (.arr 164 (.var 1))], keep := [0] }] }
theorem c20p0 : decPt (Env.ofS Try.prog l27 (m20 (Env.of Try.prog))) [] 20000 (d20 (Env.of Try.prog)) t20 0 = some (jl (d20 (Env.of Try.prog)) []) := by kernel_rfl
theorem c20 : DecOK (Env.ofS Try.prog l27 (m20 (Env.of Try.prog))) [] 20000 (d20 (Env.of Try.prog)) t20 := fun i pt h => match i, h with
 | 0, _ => ⟨_, c20p0⟩
 | i + 1, h => nomatch (show none = some pt from h)
def m21 (E : Env) : List Sm := (d20 E).smL a20 (p20 E) 0 (d20 E).shs ++ m20 E
/- 21: (*phrasebook/counter.Bank).Counters$1 -/
def a21 : List AV := [(.func (.yield 0) [] []), (.ptr 4 0)]
def p21 (E : Env) : Pt := entryPt E 107 4 a21 [some (loopBlk E 73 2 .ready none 14 [(2, (.ptr 1 0))] 3), some (.cells 1 (tmpsOf [(0, (.asl 2 1 (.lenL (.var 0)) (.var 1)))])), some (.arr 3 (.var 0)), some (.deferred (some [])), some (.cells 1 (tmpsOf [(0, (.asl 5 3 (.lenL (.var 2)) (.var 3)))])), some (.arr 164 (.var 2))] []
def d21 (E : Env) : Dec :=
 {g := 21, f := 107, p := 6, pts := [p21 E,
  loopPt E 107 20 1 5 [(0, (.func (.yield 0) [] [])), (5, (.asl 5 3 (.lenL (.var 0)) (.var 1))), (6, (.si .i64 (.lenL (.var 0)))), (7, (.si .i64 (.var 2)))] [some (loopBlk E 73 2 .ready none 14 [(2, (.ptr 1 0))] 3), some (.cells 1 (tmpsOf [(0, (.asl 6 1 (.lenL (.var 3)) (.var 4)))])), none, some (.deferred (some [])), some (.cells 1 (tmpsOf [(0, (.asl 5 3 (.lenL (.var 0)) (.var 1)))])), some (.arr 164 (.var 0)), some (.arr 3 (.var 3))] [] []],
  shs := [{ m := 2, res := (.tuple []), post := [none, some (.cells 1 (tmpsOf [(0, (.asl 6 1 (.lenL (.var 0)) (.var 1)))])), none, none, none, none, some (.arr 3 (.var 0))], keep := [0, 3, 4, 5] }] }
theorem c21p0 : decPt (Env.ofS Try.prog l27 (m21 (Env.of Try.prog))) [1] 20000 (d21 (Env.of Try.prog)) t21 0 = some (jl (d21 (Env.of Try.prog)) [1]) := by kernel_rfl
theorem c21p1 : decPt (Env.ofS Try.prog l27 (m21 (Env.of Try.prog))) [1] 20000 (d21 (Env.of Try.prog)) t21 1 = some (jl (d21 (Env.of Try.prog)) [1]) := by kernel_rfl
theorem c21 : DecOK (Env.ofS Try.prog l27 (m21 (Env.of Try.prog))) [1] 20000 (d21 (Env.of Try.prog)) t21 := fun i pt h => match i, h with
 | 0, _ => ⟨_, c21p0⟩
 | 1, _ => ⟨_, c21p1⟩
 | i + 2, h => nomatch (show none = some pt from h)
def m22 (E : Env) : List Sm := (d21 E).smL a21 (p21 E) 0 (d21 E).shs ++ m21 E
/- 22: (phrasebook/convert.key).do -/
def a22 : List AV := [(.agg [(.si .i64 (.var 0)), (.si .i64 (.var 1)), (.si .i64 (.var 2)), (.si .i64 (.var 3)), (.si .i64 (.var 4))]), (.agg [(.ss (.var 5)), (.dat 75 (.var 6)), (.dat 69 (.var 7)), (.dat 64 (.var 8))]), (.si .i64 (.var 9))]
def p22 (E : Env) : Pt := entryPt E 49 10 a22 [] []
def d22 (E : Env) : Dec :=
 {g := 22, f := 49, p := 0, pts := [p22 E],
  shs := [{ m := 5, res := (.agg [(.si .i64 (.var 0)), (.si .i64 (.var 1)), (.si .i64 (.var 2)), (.si .i64 (.var 3)), (.si .i64 (.var 4))]), post := [], keep := [] }] }
theorem c22p0 : decPt (Env.ofS Try.prog l27 (m22 (Env.of Try.prog))) [] 20000 (d22 (Env.of Try.prog)) t22 0 = some (jl (d22 (Env.of Try.prog)) []) := by kernel_rfl
theorem c22 : DecOK (Env.ofS Try.prog l27 (m22 (Env.of Try.prog))) [] 20000 (d22 (Env.of Try.prog)) t22 := fun i pt h => match i, h with
 | 0, _ => ⟨_, c22p0⟩
 | i + 1, h => nomatch (show none = some pt from h)
def m23 (E : Env) : List Sm := (d22 E).smL a22 (p22 E) 0 (d22 E).shs ++ m22 E
/- 23: phrasebook/convert.reachable$1 -/
def a23 : List AV := [(.agg [(.si .i64 (.var 0)), (.si .i64 (.var 1)), (.si .i64 (.var 2)), (.si .i64 (.var 3)), (.si .i64 (.var 4))]), (.func (.func 82) [(.ptr 0 0)] []), (.ptr 3 0)]
def p23 (E : Env) : Pt := entryPt E 59 12 a23 [some (.cells 2 (tmpsOf [(0, (.asl 1 5 (.lenL (.var 5)) (.var 6))), (1, (.map 2))])), some (.arr 87 (.var 5)), some (.dmap 87 4 (.var 7)), some (.cells 4 (tmpsOf [(0, (.ss (.var 8))), (1, (.dat 75 (.var 9))), (2, (.dat 69 (.var 10))), (3, (.dat 64 (.var 11)))]))] []
def d23 (E : Env) : Dec :=
 {g := 23, f := 59, p := 4, pts := [p23 E,
  loopPt E 59 23 2 16 [(1, (.func (.func 82) [(.ptr 0 0)] [])), (2, (.ptr 3 0)), (3, (.ptr 4 0)), (10, (.asl 5 1 (.lenL (.var 0)) (.var 1))), (11, (.si .i64 (.var 2))), (12, (.si .i64 (.var 3)))] [some (.cells 2 (tmpsOf [(0, (.asl 6 5 (.lenL (.var 4)) (.var 5))), (1, (.map 2))])), none, some (.dmap 87 4 (.var 6)), some (.cells 4 (tmpsOf [(0, (.ss (.var 7))), (1, (.dat 75 (.var 8))), (2, (.dat 69 (.var 9))), (3, (.dat 64 (.var 10)))])), some (.cells 5 (tmpsOf [(0, (.si .i64 (.var 11))), (1, (.si .i64 (.var 12))), (2, (.si .i64 (.var 13))), (3, (.si .i64 (.var 14))), (4, (.si .i64 (.var 15)))])), some (.arr 3 (.var 0)), some (.arr 87 (.var 4))] [] []],
  shs := [{ m := 3, res := (.bool false), post := [some (.cells 2 (tmpsOf [(0, (.asl 4 5 (.lenL (.var 0)) (.var 1))), (1, (.map 2))])), none, some (.dmap 87 4 (.var 2)), none, some (.arr 87 (.var 0))], keep := [3] }] }
theorem c23p0 : decPt (Env.ofS Try.prog l27 (m23 (Env.of Try.prog))) [2] 20000 (d23 (Env.of Try.prog)) t23 0 = some (jl (d23 (Env.of Try.prog)) [1]) := by kernel_rfl
theorem c23p1 : decPt (Env.ofS Try.prog l27 (m23 (Env.of Try.prog))) [2] 20000 (d23 (Env.of Try.prog)) t23 1 = some (jl (d23 (Env.of Try.prog)) [1]) := by kernel_rfl
theorem c23 : DecOK (Env.ofS Try.prog l27 (m23 (Env.of Try.prog))) [2] 20000 (d23 (Env.of Try.prog)) t23 := fun i pt h => match i, h with
 | 0, _ => ⟨_, c23p0⟩
 | 1, _ => ⟨_, c23p1⟩
 | i + 2, h => nomatch (show none = some pt from h)
def m24 (E : Env) : List Sm := (d23 E).smL a23 (p23 E) 0 (d23 E).shs ++ m23 E
/- 24: phrasebook/convert.search[phrasebook/convert.key] -/
def a24 : List AV := [(.asl 0 5 (.lenL (.var 0)) (.var 1)), (.si .i64 (.var 2)), (.func (.func 59) [] [(.ptr 1 0)])]
def p24 (E : Env) : Pt := entryPt E 58 7 a24 [some (.arr 87 (.var 0)), some (.cells 4 (tmpsOf [(0, (.ss (.var 3))), (1, (.dat 75 (.var 4))), (2, (.dat 69 (.var 5))), (3, (.dat 64 (.var 6)))]))] []
def d24 (E : Env) : Dec :=
 {g := 24, f := 58, p := 2, pts := [p24 E,
  loopPt E 58 65 3 11 [(1, (.si .i64 (.var 0))), (2, (.func (.func 59) [] [(.ptr 1 0)])), (8, (.ptr 2 0)), (15, (.asl 0 5 (.lenL (.var 1)) (.var 2))), (16, (.si .i64 (.lenL (.var 1)))), (17, (.si .i64 (.var 3)))] [some (.arr 87 (.var 1)), some (.cells 4 (tmpsOf [(0, (.ss (.var 4))), (1, (.dat 75 (.var 5))), (2, (.dat 69 (.var 6))), (3, (.dat 64 (.var 7)))])), some (.cells 2 (tmpsOf [(0, (.asl 4 5 (.lenL (.var 8)) (.var 9))), (1, (.map 3))])), some (.dmap 87 4 (.var 10)), some (.arr 87 (.var 8))] [] [],
  loopPt E 58 65 8 10 [(1, (.si .i64 (.var 0))), (2, (.func (.func 59) [] [(.ptr 1 0)])), (8, (.ptr 2 0)), (11, (.si .i64 (.var 1)))] [some (.arr 87 (.var 2)), some (.cells 4 (tmpsOf [(0, (.ss (.var 3))), (1, (.dat 75 (.var 4))), (2, (.dat 69 (.var 5))), (3, (.dat 64 (.var 6)))])), some (.cells 2 (tmpsOf [(0, (.asl 4 5 (.lenL (.var 7)) (.var 8))), (1, (.map 3))])), some (.dmap 87 4 (.var 9)), some (.arr 87 (.var 7))] [] []],
  shs := [{ m := 3, res := (.tuple [(.asl 2 5 (.lenL (.var 0)) (.var 1)), (.sb true (.var 2))]), post := [none, none, some (.arr 87 (.var 0))], keep := [0, 1] }] }
theorem c24p0 : decPt (Env.ofS Try.prog l27 (m24 (Env.of Try.prog))) [3, 8] 20000 (d24 (Env.of Try.prog)) t24 0 = some (jl (d24 (Env.of Try.prog)) [1]) := by kernel_rfl
theorem c24p1 : decPt (Env.ofS Try.prog l27 (m24 (Env.of Try.prog))) [3, 8] 20000 (d24 (Env.of Try.prog)) t24 1 = some (jl (d24 (Env.of Try.prog)) [1, 2]) := by kernel_rfl
theorem c24p2 : decPt (Env.ofS Try.prog l27 (m24 (Env.of Try.prog))) [3, 8] 20000 (d24 (Env.of Try.prog)) t24 2 = some (jl (d24 (Env.of Try.prog)) [2]) := by kernel_rfl
theorem c24 : DecOK (Env.ofS Try.prog l27 (m24 (Env.of Try.prog))) [3, 8] 20000 (d24 (Env.of Try.prog)) t24 := fun i pt h => match i, h with
 | 0, _ => ⟨_, c24p0⟩
 | 1, _ => ⟨_, c24p1⟩
 | 2, _ => ⟨_, c24p2⟩
 | i + 3, h => nomatch (show none = some pt from h)
def m25 (E : Env) : List Sm := (d24 E).smL a24 (p24 E) 0 (d24 E).shs ++ m24 E
/- 25: (phrasebook/convert.key).config -/
def a25 : List AV := [(.agg [(.si .i64 (.var 0)), (.si .i64 (.var 1)), (.si .i64 (.var 2)), (.si .i64 (.var 3)), (.si .i64 (.var 4))]), (.agg [(.ss (.var 5)), (.dat 75 (.var 6)), (.dat 69 (.var 7)), (.dat 64 (.var 8))])]
def p25 (E : Env) : Pt := entryPt E 36 9 a25 [] []
def d25 (E : Env) : Dec :=
 {g := 25, f := 36, p := 0, pts := [p25 E],
  shs := [{ m := 2, res := (.agg [(.ss (.var 0)), (.asl 0 1 (.lenL (.var 1)) (.bc false))]), post := [some (.arr 3 (.var 1))], keep := [] }] }
theorem c25p0 : decPt (Env.ofS Try.prog l27 (m25 (Env.of Try.prog))) [] 20000 (d25 (Env.of Try.prog)) t25 0 = some (jl (d25 (Env.of Try.prog)) []) := by kernel_rfl
theorem c25 : DecOK (Env.ofS Try.prog l27 (m25 (Env.of Try.prog))) [] 20000 (d25 (Env.of Try.prog)) t25 := fun i pt h => match i, h with
 | 0, _ => ⟨_, c25p0⟩
 | i + 1, h => nomatch (show none = some pt from h)
def m26 (E : Env) : List Sm := (d25 E).smL a25 (p25 E) 0 (d25 E).shs ++ m25 E
/- 26: phrasebook/convert.Reachable -/
def a26 : List AV := [(.agg [(.ss (.var 0)), (.dat 75 (.var 1)), (.dat 69 (.var 2)), (.dat 64 (.var 3))])]
def p26 (E : Env) : Pt := entryPt E 16 4 a26 [] []
def d26 (E : Env) : Dec :=
 {g := 26, f := 16, p := 0, pts := [p26 E,
  loopPt E 16 31 7 10 [(1, (.ptr 0 0)), (2, (.asl 2 2 (.lenL (.var 0)) (.var 1))), (17, (.asl 1 5 (.lenL (.var 2)) (.var 3))), (18, (.si .i64 (.var 4))), (19, (.si .i64 (.var 5)))] [some (.cells 4 (tmpsOf [(0, (.ss (.var 6))), (1, (.dat 75 (.var 7))), (2, (.dat 69 (.var 8))), (3, (.dat 64 (.var 9)))])), some (.arr 87 (.var 2)), some (.arr 33 (.var 0))] [] []],
  shs := [{ m := 3, res := (.tuple [(.asl 0 2 (.lenL (.var 0)) (.var 1)), (.si .i64 (.var 2))]), post := [some (.arr 33 (.var 0))], keep := [] }] }
theorem c26p0 : decPt (Env.ofS Try.prog l27 (m26 (Env.of Try.prog))) [7] 20000 (d26 (Env.of Try.prog)) t26 0 = some (jl (d26 (Env.of Try.prog)) [1]) := by kernel_rfl
theorem c26p1 : decPt (Env.ofS Try.prog l27 (m26 (Env.of Try.prog))) [7] 20000 (d26 (Env.of Try.prog)) t26 1 = some (jl (d26 (Env.of Try.prog)) [1]) := by kernel_rfl
theorem c26 : DecOK (Env.ofS Try.prog l27 (m26 (Env.of Try.prog))) [7] 20000 (d26 (Env.of Try.prog)) t26 := fun i pt h => match i, h with
 | 0, _ => ⟨_, c26p0⟩
 | 1, _ => ⟨_, c26p1⟩
 | i + 2, h => nomatch (show none = some pt from h)
def m27 (E : Env) : List Sm := (d26 E).smL a26 (p26 E) 0 (d26 E).shs ++ m26 E
/- 27: phrasebook/phrasebookref28.Name -/
def a27 : List AV := [(.ss (.var 0))]
def p27 (E : Env) : Pt := entryPt E 60 1 a27 [] []
def d27 (E : Env) : Dec :=
 {g := 27, f := 60, p := 0, pts := [p27 E,
  loopPt E 60 64 4 2 [(0, (.ss (.var 0))), (3, (.si .i64 (.var 1)))] [] [] []],
  shs := [{ m := 1, res := (.sb true (.var 0)), post := [], keep := [] }] }
theorem c27p0 : decPt (Env.ofS Try.prog l27 (m27 (Env.of Try.prog))) [4] 20000 (d27 (Env.of Try.prog)) t27 0 = some (jl (d27 (Env.of Try.prog)) [1, 1]) := by kernel_rfl
theorem c27p1 : decPt (Env.ofS Try.prog l27 (m27 (Env.of Try.prog))) [4] 20000 (d27 (Env.of Try.prog)) t27 1 = some (jl (d27 (Env.of Try.prog)) [1, 1, 1, 1]) := by kernel_rfl
theorem c27 : DecOK (Env.ofS Try.prog l27 (m27 (Env.of Try.prog))) [4] 20000 (d27 (Env.of Try.prog)) t27 := fun i pt h => match i, h with
 | 0, _ => ⟨_, c27p0⟩
 | 1, _ => ⟨_, c27p1⟩
 | i + 2, h => nomatch (show none = some pt from h)
def m28 (E : Env) : List Sm := (d27 E).smL a27 (p27 E) 0 (d27 E).shs ++ m27 E
/- 28: phrasebook/phrasebookref28.counter -/
def a28 : List AV := [(.agg [(.ss (.var 0)), (.dat 75 (.var 1)), (.dat 69 (.var 2)), (.dat 64 (.var 3))]), (.ss (.var 4))]
def p28 (E : Env) : Pt := entryPt E 61 5 a28 [] []
def d28 (E : Env) : Dec :=
 {g := 28, f := 61, p := 0, pts := [p28 E,
  loopPt E 61 22 2 6 [(1, (.ss (.var 0))), (2, (.ptr 0 0)), (5, (.si .i64 (.var 1)))] [some (.cells 4 (tmpsOf [(0, (.ss (.var 2))), (1, (.dat 75 (.var 3))), (2, (.dat 69 (.var 4))), (3, (.dat 64 (.var 5)))]))] [] []],
  shs := [{ m := 1, res := (.si .i64 (.var 0)), post := [], keep := [] }] }
theorem c28p0 : decPt (Env.ofS Try.prog l27 (m28 (Env.of Try.prog))) [2] 20000 (d28 (Env.of Try.prog)) t28 0 = some (jl (d28 (Env.of Try.prog)) [1]) := by kernel_rfl
theorem c28p1 : decPt (Env.ofS Try.prog l27 (m28 (Env.of Try.prog))) [2] 20000 (d28 (Env.of Try.prog)) t28 1 = some (jl (d28 (Env.of Try.prog)) [1]) := by kernel_rfl
theorem c28 : DecOK (Env.ofS Try.prog l27 (m28 (Env.of Try.prog))) [2] 20000 (d28 (Env.of Try.prog)) t28 := fun i pt h => match i, h with
 | 0, _ => ⟨_, c28p0⟩
 | 1, _ => ⟨_, c28p1⟩
 | i + 2, h => nomatch (show none = some pt from h)
def m29 (E : Env) : List Sm := (d28 E).smL a28 (p28 E) 0 (d28 E).shs ++ m28 E
/- 29: phrasebook/phrasebookref28.state -/
def a29 : List AV := [(.agg [(.ss (.var 0)), (.dat 75 (.var 1)), (.dat 69 (.var 2)), (.dat 64 (.var 3))]), (.ss (.var 4))]
def p29 (E : Env) : Pt := entryPt E 62 5 a29 [] []
def d29 (E : Env) : Dec :=
 {g := 29, f := 62, p := 0, pts := [p29 E,
  loopPt E 62 22 2 6 [(1, (.ss (.var 0))), (2, (.ptr 0 0)), (5, (.si .i64 (.var 1)))] [some (.cells 4 (tmpsOf [(0, (.ss (.var 2))), (1, (.dat 75 (.var 3))), (2, (.dat 69 (.var 4))), (3, (.dat 64 (.var 5)))]))] [] []],
  shs := [{ m := 1, res := (.si .i64 (.var 0)), post := [], keep := [] }] }
theorem c29p0 : decPt (Env.ofS Try.prog l27 (m29 (Env.of Try.prog))) [2] 20000 (d29 (Env.of Try.prog)) t29 0 = some (jl (d29 (Env.of Try.prog)) [1]) := by kernel_rfl
theorem c29p1 : decPt (Env.ofS Try.prog l27 (m29 (Env.of Try.prog))) [2] 20000 (d29 (Env.of Try.prog)) t29 1 = some (jl (d29 (Env.of Try.prog)) [1]) := by kernel_rfl
theorem c29 : DecOK (Env.ofS Try.prog l27 (m29 (Env.of Try.prog))) [2] 20000 (d29 (Env.of Try.prog)) t29 := fun i pt h => match i, h with
 | 0, _ => ⟨_, c29p0⟩
 | 1, _ => ⟨_, c29p1⟩
 | i + 2, h => nomatch (show none = some pt from h)
def m30 (E : Env) : List Sm := (d29 E).smL a29 (p29 E) 0 (d29 E).shs ++ m29 E
/- 30: phrasebook/phrasebookref28.allowed -/
def a30 : List AV := [(.agg [(.ss (.var 0)), (.dat 75 (.var 1)), (.dat 69 (.var 2)), (.dat 64 (.var 3))]), (.si .i64 (.var 4))]
def p30 (E : Env) : Pt := entryPt E 63 5 a30 [] []
def d30 (E : Env) : Dec :=
 {g := 30, f := 63, p := 0, pts := [p30 E,
  loopPt E 63 93 6 16 [(1, (.si .i64 (.var 0))), (2, (.ptr 0 0)), (5, (.ptr 1 0)), (6, (.si .i64 (.var 1))), (7, (.si .i64 (.var 2)))] [some (.cells 4 (tmpsOf [(0, (.ss (.var 3))), (1, (.dat 75 (.var 4))), (2, (.dat 69 (.var 5))), (3, (.dat 64 (.var 6)))])), some (.cells 9 (tmpsOf [(0, (.ss (.var 7))), (1, (.ss (.var 8))), (2, (.si .i64 (.var 9))), (3, (.ss (.var 10))), (4, (.ss (.var 11))), (5, (.ss (.var 12))), (6, (.si .i64 (.var 13))), (7, (.si .i64 (.var 14))), (8, (.si .i64 (.var 15)))]))] [] []],
  shs := [{ m := 1, res := (.sb true (.var 0)), post := [], keep := [] }] }
theorem c30p0 : decPt (Env.ofS Try.prog l27 (m30 (Env.of Try.prog))) [6] 20000 (d30 (Env.of Try.prog)) t30 0 = some (jl (d30 (Env.of Try.prog)) [1, 1]) := by kernel_rfl
theorem c30p1 : decPt (Env.ofS Try.prog l27 (m30 (Env.of Try.prog))) [6] 20000 (d30 (Env.of Try.prog)) t30 1 = some (jl (d30 (Env.of Try.prog)) [1]) := by kernel_rfl
theorem c30 : DecOK (Env.ofS Try.prog l27 (m30 (Env.of Try.prog))) [6] 20000 (d30 (Env.of Try.prog)) t30 := fun i pt h => match i, h with
 | 0, _ => ⟨_, c30p0⟩
 | 1, _ => ⟨_, c30p1⟩
 | i + 2, h => nomatch (show none = some pt from h)
def m31 (E : Env) : List Sm := (d30 E).smL a30 (p30 E) 0 (d30 E).shs ++ m30 E
/- 31: phrasebook/phrasebookref28.Check -/
def a31 : List AV := [(.agg [(.ss (.var 0)), (.dat 75 (.var 1)), (.dat 69 (.var 2)), (.dat 64 (.var 3))])]
def p31 (E : Env) : Pt := entryPt E 38 4 a31 [] []
def d31 (E : Env) : Dec :=
 {g := 31, f := 38, p := 0, pts := [p31 E,
  loopPt E 38 131 6 5 [(1, (.ptr 0 0)), (4, (.si .i64 (.var 0)))] [some (.cells 4 (tmpsOf [(0, (.ss (.var 1))), (1, (.dat 75 (.var 2))), (2, (.dat 69 (.var 3))), (3, (.dat 64 (.var 4)))]))] [] [],
  loopPt E 38 131 15 5 [(1, (.ptr 0 0)), (5, (.si .i64 (.var 0)))] [some (.cells 4 (tmpsOf [(0, (.ss (.var 1))), (1, (.dat 75 (.var 2))), (2, (.dat 69 (.var 3))), (3, (.dat 64 (.var 4)))]))] [] [],
  loopPt E 38 131 22 5 [(1, (.ptr 0 0)), (6, (.si .i64 (.var 0)))] [some (.cells 4 (tmpsOf [(0, (.ss (.var 1))), (1, (.dat 75 (.var 2))), (2, (.dat 69 (.var 3))), (3, (.dat 64 (.var 4)))]))] [] []],
  shs := [{ m := 2, res := (.tuple [(.si .i64 (.var 0)), (.si .i64 (.var 1))]), post := [], keep := [] }] }
theorem c31p0 : decPt (Env.ofS Try.prog l27 (m31 (Env.of Try.prog))) [6, 15, 22] 20000 (d31 (Env.of Try.prog)) t31 0 = some (jl (d31 (Env.of Try.prog)) [1]) := by kernel_rfl
theorem c31p1 : decPt (Env.ofS Try.prog l27 (m31 (Env.of Try.prog))) [6, 15, 22] 20000 (d31 (Env.of Try.prog)) t31 1 = some (jl (d31 (Env.of Try.prog)) [1, 2]) := by kernel_rfl
theorem c31p2 : decPt (Env.ofS Try.prog l27 (m31 (Env.of Try.prog))) [6, 15, 22] 20000 (d31 (Env.of Try.prog)) t31 2 = some (jl (d31 (Env.of Try.prog)) [2, 3]) := by kernel_rfl
theorem c31p3 : decPt (Env.ofS Try.prog l27 (m31 (Env.of Try.prog))) [6, 15, 22] 20000 (d31 (Env.of Try.prog)) t31 3 = some (jl (d31 (Env.of Try.prog)) [3]) := by kernel_rfl
theorem c31 : DecOK (Env.ofS Try.prog l27 (m31 (Env.of Try.prog))) [6, 15, 22] 20000 (d31 (Env.of Try.prog)) t31 := fun i pt h => match i, h with
 | 0, _ => ⟨_, c31p0⟩
 | 1, _ => ⟨_, c31p1⟩
 | 2, _ => ⟨_, c31p2⟩
 | 3, _ => ⟨_, c31p3⟩
 | i + 4, h => nomatch (show none = some pt from h)
def m32 (E : Env) : List Sm := (d31 E).smL a31 (p31 E) 0 (d31 E).shs ++ m31 E
/- 32: phrasebook/phrasebookref48.counter -/
def a32 : List AV := [(.agg [(.ss (.var 0)), (.dat 75 (.var 1)), (.dat 69 (.var 2)), (.dat 64 (.var 3))]), (.ss (.var 4))]
def p32 (E : Env) : Pt := entryPt E 33 5 a32 [] []
def d32 (E : Env) : Dec :=
 {g := 32, f := 33, p := 0, pts := [p32 E,
  loopPt E 33 22 2 6 [(1, (.ss (.var 0))), (2, (.ptr 0 0)), (5, (.si .i64 (.var 1)))] [some (.cells 4 (tmpsOf [(0, (.ss (.var 2))), (1, (.dat 75 (.var 3))), (2, (.dat 69 (.var 4))), (3, (.dat 64 (.var 5)))]))] [] []],
  shs := [{ m := 1, res := (.si .i64 (.var 0)), post := [], keep := [] }] }
theorem c32p0 : decPt (Env.ofS Try.prog l27 (m32 (Env.of Try.prog))) [2] 20000 (d32 (Env.of Try.prog)) t32 0 = some (jl (d32 (Env.of Try.prog)) [1]) := by kernel_rfl
theorem c32p1 : decPt (Env.ofS Try.prog l27 (m32 (Env.of Try.prog))) [2] 20000 (d32 (Env.of Try.prog)) t32 1 = some (jl (d32 (Env.of Try.prog)) [1]) := by kernel_rfl
theorem c32 : DecOK (Env.ofS Try.prog l27 (m32 (Env.of Try.prog))) [2] 20000 (d32 (Env.of Try.prog)) t32 := fun i pt h => match i, h with
 | 0, _ => ⟨_, c32p0⟩
 | 1, _ => ⟨_, c32p1⟩
 | i + 2, h => nomatch (show none = some pt from h)
def m33 (E : Env) : List Sm := (d32 E).smL a32 (p32 E) 0 (d32 E).shs ++ m32 E
/- 33: phrasebook/phrasebookref48.Enabled -/
def a33 : List AV := [(.agg [(.ss (.var 0)), (.dat 75 (.var 1)), (.dat 69 (.var 2)), (.dat 64 (.var 3))]), (.agg [(.ss (.var 4)), (.asl 0 1 (.lenL (.var 5)) (.var 6))])]
def p33 (E : Env) : Pt := entryPt E 40 7 a33 [some (.arr 3 (.var 5))] []
def d33 (E : Env) : Dec :=
 {g := 33, f := 40, p := 1, pts := [p33 E,
  loopPt E 40 59 3 10 [(2, (.ptr 1 0)), (3, (.ptr 2 0)), (5, (.asl 3 1 (.lenL (.var 0)) (.var 1))), (6, (.si .i64 (.var 2)))] [some (.arr 3 (.var 3)), some (.cells 4 (tmpsOf [(0, (.ss (.var 4))), (1, (.dat 75 (.var 5))), (2, (.dat 69 (.var 6))), (3, (.dat 64 (.var 7)))])), some (.cells 2 (tmpsOf [(0, (.ss (.var 8))), (1, (.asl 0 1 (.lenL (.var 3)) (.var 9)))])), some (.arr 3 (.var 0))] [] []],
  shs := [{ m := 2, res := (.asl 1 1 (.lenL (.var 0)) (.var 1)), post := [none, some (.arr 3 (.var 0))], keep := [0] }] }
theorem c33p0 : decPt (Env.ofS Try.prog l27 (m33 (Env.of Try.prog))) [3] 20000 (d33 (Env.of Try.prog)) t33 0 = some (jl (d33 (Env.of Try.prog)) [1]) := by kernel_rfl
theorem c33p1 : decPt (Env.ofS Try.prog l27 (m33 (Env.of Try.prog))) [3] 20000 (d33 (Env.of Try.prog)) t33 1 = some (jl (d33 (Env.of Try.prog)) [1, 1, 1, 1, 1]) := by kernel_rfl
theorem c33 : DecOK (Env.ofS Try.prog l27 (m33 (Env.of Try.prog))) [3] 20000 (d33 (Env.of Try.prog)) t33 := fun i pt h => match i, h with
 | 0, _ => ⟨_, c33p0⟩
 | 1, _ => ⟨_, c33p1⟩
 | i + 2, h => nomatch (show none = some pt from h)
def m34 (E : Env) : List Sm := (d33 E).smL a33 (p33 E) 0 (d33 E).shs ++ m33 E
/- 34: phrasebook/phrasebookref48.Same -/
def a34 : List AV := [(.agg [(.ss (.var 0)), (.dat 3 (.var 1))]), (.agg [(.ss (.var 2)), (.asl 0 1 (.lenL (.var 3)) (.var 4))])]
def p34 (E : Env) : Pt := entryPt E 13 5 a34 [some (.arr 3 (.var 3))] []
def d34 (E : Env) : Dec :=
 {g := 34, f := 13, p := 1, pts := [p34 E,
  loopPt E 13 38 4 6 [(2, (.ptr 1 0)), (3, (.ptr 2 0)), (5, (.si .i64 (.var 0)))] [some (.arr 3 (.var 1)), some (.cells 2 (tmpsOf [(0, (.ss (.var 2))), (1, (.dat 3 (.var 3)))])), some (.cells 2 (tmpsOf [(0, (.ss (.var 4))), (1, (.asl 0 1 (.lenL (.var 1)) (.var 5)))]))] [] []],
  shs := [{ m := 1, res := (.sb true (.var 0)), post := [none], keep := [0] }] }
theorem c34p0 : decPt (Env.ofS Try.prog l27 (m34 (Env.of Try.prog))) [4] 20000 (d34 (Env.of Try.prog)) t34 0 = some (jl (d34 (Env.of Try.prog)) [1]) := by kernel_rfl
theorem c34p1 : decPt (Env.ofS Try.prog l27 (m34 (Env.of Try.prog))) [4] 20000 (d34 (Env.of Try.prog)) t34 1 = some (jl (d34 (Env.of Try.prog)) [1]) := by kernel_rfl
theorem c34 : DecOK (Env.ofS Try.prog l27 (m34 (Env.of Try.prog))) [4] 20000 (d34 (Env.of Try.prog)) t34 := fun i pt h => match i, h with
 | 0, _ => ⟨_, c34p0⟩
 | 1, _ => ⟨_, c34p1⟩
 | i + 2, h => nomatch (show none = some pt from h)
def m35 (E : Env) : List Sm := (d34 E).smL a34 (p34 E) 0 (d34 E).shs ++ m34 E
/- 35: phrasebook/phrasebookref48.Among -/
def a35 : List AV := [(.asl 0 2 (.lenL (.var 0)) (.var 1)), (.agg [(.ss (.var 2)), (.asl 1 1 (.lenL (.var 3)) (.var 4))])]
def p35 (E : Env) : Pt := entryPt E 42 5 a35 [some (.arr 33 (.var 0)), some (.arr 3 (.var 3))] []
def d35 (E : Env) : Dec :=
 {g := 35, f := 42, p := 2, pts := [p35 E,
  loopPt E 42 18 2 6 [(0, (.asl 0 2 (.lenL (.var 0)) (.var 1))), (3, (.ptr 2 0)), (5, (.si .i64 (.var 2)))] [some (.arr 33 (.var 0)), some (.arr 3 (.var 3)), some (.cells 2 (tmpsOf [(0, (.ss (.var 4))), (1, (.asl 1 1 (.lenL (.var 3)) (.var 5)))]))] [] []],
  shs := [{ m := 1, res := (.sb true (.var 0)), post := [none, none], keep := [0, 1] }] }
theorem c35p0 : decPt (Env.ofS Try.prog l27 (m35 (Env.of Try.prog))) [2] 20000 (d35 (Env.of Try.prog)) t35 0 = some (jl (d35 (Env.of Try.prog)) [1]) := by kernel_rfl
theorem c35p1 : decPt (Env.ofS Try.prog l27 (m35 (Env.of Try.prog))) [2] 20000 (d35 (Env.of Try.prog)) t35 1 = some (jl (d35 (Env.of Try.prog)) [1]) := by kernel_rfl
theorem c35 : DecOK (Env.ofS Try.prog l27 (m35 (Env.of Try.prog))) [2] 20000 (d35 (Env.of Try.prog)) t35 := fun i pt h => match i, h with
 | 0, _ => ⟨_, c35p0⟩
 | 1, _ => ⟨_, c35p1⟩
 | i + 2, h => nomatch (show none = some pt from h)
def m36 (E : Env) : List Sm := (d35 E).smL a35 (p35 E) 0 (d35 E).shs ++ m35 E
/- 36: phrasebook/phrasebookref48.Enabled -/
def a36 : List AV := [(.agg [(.ss (.var 0)), (.dat 75 (.var 1)), (.dat 69 (.var 2)), (.dat 64 (.var 3))]), (.agg [(.ss (.var 4)), (.dat 3 (.var 5))])]
def p36 (E : Env) : Pt := entryPt E 40 6 a36 [] []
def d36 (E : Env) : Dec :=
 {g := 36, f := 40, p := 0, pts := [p36 E,
  loopPt E 40 59 3 9 [(2, (.ptr 0 0)), (3, (.ptr 1 0)), (5, (.asl 2 1 (.lenL (.var 0)) (.var 1))), (6, (.si .i64 (.var 2)))] [some (.cells 4 (tmpsOf [(0, (.ss (.var 3))), (1, (.dat 75 (.var 4))), (2, (.dat 69 (.var 5))), (3, (.dat 64 (.var 6)))])), some (.cells 2 (tmpsOf [(0, (.ss (.var 7))), (1, (.dat 3 (.var 8)))])), some (.arr 3 (.var 0))] [] []],
  shs := [{ m := 2, res := (.asl 0 1 (.lenL (.var 0)) (.var 1)), post := [some (.arr 3 (.var 0))], keep := [] }] }
theorem c36p0 : decPt (Env.ofS Try.prog l27 (m36 (Env.of Try.prog))) [3] 20000 (d36 (Env.of Try.prog)) t36 0 = some (jl (d36 (Env.of Try.prog)) [1]) := by kernel_rfl
theorem c36p1 : decPt (Env.ofS Try.prog l27 (m36 (Env.of Try.prog))) [3] 20000 (d36 (Env.of Try.prog)) t36 1 = some (jl (d36 (Env.of Try.prog)) [1, 1, 1, 1, 1]) := by kernel_rfl
theorem c36 : DecOK (Env.ofS Try.prog l27 (m36 (Env.of Try.prog))) [3] 20000 (d36 (Env.of Try.prog)) t36 := fun i pt h => match i, h with
 | 0, _ => ⟨_, c36p0⟩
 | 1, _ => ⟨_, c36p1⟩
 | i + 2, h => nomatch (show none = some pt from h)
def m37 (E : Env) : List Sm := (d36 E).smL a36 (p36 E) 0 (d36 E).shs ++ m36 E
/- 37: phrasebook/phrasebookref48.Reachable -/
def a37 : List AV := [(.agg [(.ss (.var 0)), (.dat 75 (.var 1)), (.dat 69 (.var 2)), (.dat 64 (.var 3))])]
def p37 (E : Env) : Pt := entryPt E 18 4 a37 [] []
def d37 (E : Env) : Dec :=
 {g := 37, f := 18, p := 0, pts := [p37 E,
  loopPt E 18 52 3 8 [(1, (.ptr 0 0)), (4, (.asl 1 2 (.lenL (.var 0)) (.var 1))), (5, (.si .i64 (.var 2)))] [some (.cells 4 (tmpsOf [(0, (.ss (.var 3))), (1, (.dat 75 (.var 4))), (2, (.dat 69 (.var 5))), (3, (.dat 64 (.var 6)))])), some (.arr 33 (.var 0)), some (.arr 3 (.var 7))] [] [],
  loopPt E 18 52 7 11 [(1, (.ptr 0 0)), (4, (.asl 1 2 (.lenL (.var 0)) (.var 1))), (5, (.si .i64 (.var 2))), (6, (.asl 2 1 (.lenL (.var 3)) (.var 4))), (7, (.si .i64 (.var 5)))] [some (.cells 4 (tmpsOf [(0, (.ss (.var 6))), (1, (.dat 75 (.var 7))), (2, (.dat 69 (.var 8))), (3, (.dat 64 (.var 9)))])), some (.arr 33 (.var 0)), some (.arr 3 (.var 3)), some (.arr 3 (.var 10))] [] []],
  shs := [{ m := 3, res := (.tuple [(.asl 0 2 (.lenL (.var 0)) (.var 1)), (.sb true (.var 2))]), post := [some (.arr 33 (.var 0))], keep := [] }] }
theorem c37p0 : decPt (Env.ofS Try.prog l27 (m37 (Env.of Try.prog))) [3, 7] 20000 (d37 (Env.of Try.prog)) t37 0 = some (jl (d37 (Env.of Try.prog)) [1]) := by kernel_rfl
theorem c37p1 : decPt (Env.ofS Try.prog l27 (m37 (Env.of Try.prog))) [3, 7] 20000 (d37 (Env.of Try.prog)) t37 1 = some (jl (d37 (Env.of Try.prog)) [2]) := by kernel_rfl
theorem c37p2 : decPt (Env.ofS Try.prog l27 (m37 (Env.of Try.prog))) [3, 7] 20000 (d37 (Env.of Try.prog)) t37 2 = some (jl (d37 (Env.of Try.prog)) [2, 2, 2, 2, 1]) := by kernel_rfl
theorem c37 : DecOK (Env.ofS Try.prog l27 (m37 (Env.of Try.prog))) [3, 7] 20000 (d37 (Env.of Try.prog)) t37 := fun i pt h => match i, h with
 | 0, _ => ⟨_, c37p0⟩
 | 1, _ => ⟨_, c37p1⟩
 | 2, _ => ⟨_, c37p2⟩
 | i + 3, h => nomatch (show none = some pt from h)
def m38 (E : Env) : List Sm := (d37 E).smL a37 (p37 E) 0 (d37 E).shs ++ m37 E
/- 38: phrasebook/phrasebookref48.Same -/
def a38 : List AV := [(.agg [(.ss (.var 0)), (.dat 3 (.var 1))]), (.agg [(.ss (.var 2)), (.dat 3 (.var 3))])]
def p38 (E : Env) : Pt := entryPt E 13 4 a38 [] []
def d38 (E : Env) : Dec :=
 {g := 38, f := 13, p := 0, pts := [p38 E,
  loopPt E 13 38 4 5 [(2, (.ptr 0 0)), (3, (.ptr 1 0)), (5, (.si .i64 (.var 0)))] [some (.cells 2 (tmpsOf [(0, (.ss (.var 1))), (1, (.dat 3 (.var 2)))])), some (.cells 2 (tmpsOf [(0, (.ss (.var 3))), (1, (.dat 3 (.var 4)))]))] [] []],
  shs := [{ m := 1, res := (.sb true (.var 0)), post := [], keep := [] }] }
theorem c38p0 : decPt (Env.ofS Try.prog l27 (m38 (Env.of Try.prog))) [4] 20000 (d38 (Env.of Try.prog)) t38 0 = some (jl (d38 (Env.of Try.prog)) [1]) := by kernel_rfl
theorem c38p1 : decPt (Env.ofS Try.prog l27 (m38 (Env.of Try.prog))) [4] 20000 (d38 (Env.of Try.prog)) t38 1 = some (jl (d38 (Env.of Try.prog)) [1]) := by kernel_rfl
theorem c38 : DecOK (Env.ofS Try.prog l27 (m38 (Env.of Try.prog))) [4] 20000 (d38 (Env.of Try.prog)) t38 := fun i pt h => match i, h with
 | 0, _ => ⟨_, c38p0⟩
 | 1, _ => ⟨_, c38p1⟩
 | i + 2, h => nomatch (show none = some pt from h)
def m39 (E : Env) : List Sm := (d38 E).smL a38 (p38 E) 0 (d38 E).shs ++ m38 E
/- 39: phrasebook/phrasebooklaw48.ConvertReaches -/
def p39 (E : Env) : Pt := lawPt E 4 [26]
def d39 (E : Env) : Dec :=
 {g := 39, f := 4, p := 0, pts := [p39 E,
  loopPt E 4 73 12 5 [(3, (.asl 0 2 (.lenL (.var 0)) (.var 1))), (5, (.asl 1 2 (.lenL (.var 2)) (.var 3))), (7, (.si .i64 (.var 4)))] [some (.arr 33 (.var 0)), some (.arr 33 (.var 2))] [] []],
  shs := [lawSh] }
theorem c39p0 : decPt (Env.ofS Try.prog l27 (m39 (Env.of Try.prog))) [12] 20000 (d39 (Env.of Try.prog)) t39 0 = some (jl (d39 (Env.of Try.prog)) [1]) := by kernel_rfl
theorem c39p1 : decPt (Env.ofS Try.prog l27 (m39 (Env.of Try.prog))) [12] 20000 (d39 (Env.of Try.prog)) t39 1 = some (jl (d39 (Env.of Try.prog)) [1]) := by kernel_rfl
theorem c39 : DecOK (Env.ofS Try.prog l27 (m39 (Env.of Try.prog))) [12] 20000 (d39 (Env.of Try.prog)) t39 := fun i pt h => match i, h with
 | 0, _ => ⟨_, c39p0⟩
 | 1, _ => ⟨_, c39p1⟩
 | i + 2, h => nomatch (show none = some pt from h)
end Go.Proofs.Ytpcdkfgmpekeeaa.convertReaches
