/- What is proved: that the functions which the law ConvertChecks reaches are the plain functions over data whose trees of tests the text before writes out (the kernel runs the evaluator over each place). Conditions: the program is the given one. -/
import Derived.Test.YtpcdkfgmpekeeaaProg
import Derived.KernelRfl
import Derived.Test.YtpcdkfgmpekeeaaConvertChecksTree
import Derived.Test.YtpcdkfgmpekeeaaConvertChecksKnownB
set_option linter.unusedVariables false
namespace Go.Proofs.Ytpcdkfgmpekeeaa.convertChecks
open Go.AE Cv
def m0 (E : Env) : List Sm := []

/- 0: phrasebook/phrasebooklaw48.known -/
def a0 : List AV := []
def p0 (E : Env) : Pt := entryPt E 9 0 a0 [] []
def d0 (E : Env) : Dec :=
  { g := 0, f := 9, p := 0, pts := [p0 E],
    shs := [{ m := 0, res := (.bool true), post := [], keep := [] }] }
theorem c0p0 : decPt (Env.ofS Try.prog l27 (m0 (Env.of Try.prog))) [] 20000 (d0 (Env.of Try.prog)) t0 0 = some (jl (d0 (Env.of Try.prog)) []) := by kernel_rfl
theorem c0 : DecOK (Env.ofS Try.prog l27 (m0 (Env.of Try.prog))) [] 20000 (d0 (Env.of Try.prog)) t0 := fun i pt h => match i, h with
  | 0, _ => ⟨_, c0p0⟩
  | i + 1, h => nomatch (show none = some pt from h)
def m1 (E : Env) : List Sm := (d0 E).smL a0 (p0 E) 0 (d0 E).shs ++ m0 E

/- 1: phrasebook/role.Name -/
def a1 : List AV := [(.ss (.var 0))]
def p1 (E : Env) : Pt := entryPt E 74 1 a1 [] []
def d1 (E : Env) : Dec :=
  { g := 1, f := 74, p := 0, pts := [p1 E,
    loopPt E 74 55 4 3 [(15, (.asl 0 1 (.lenL (.var 0)) (.bc false))), (16, (.si .i64 (.var 1))), (17, (.si .i64 (.var 2)))] [some (.arr 5 (.var 0))] [] []],
    shs := [{ m := 1, res := (.sb true (.var 0)), post := [], keep := [] }] }
theorem c1p0 : decPt (Env.ofS Try.prog l27 (m1 (Env.of Try.prog))) [4] 20000 (d1 (Env.of Try.prog)) t1 0 = some (jl (d1 (Env.of Try.prog)) [1]) := by kernel_rfl
theorem c1p1 : decPt (Env.ofS Try.prog l27 (m1 (Env.of Try.prog))) [4] 20000 (d1 (Env.of Try.prog)) t1 1 = some (jl (d1 (Env.of Try.prog)) [1, 1, 1, 1]) := by kernel_rfl
theorem c1 : DecOK (Env.ofS Try.prog l27 (m1 (Env.of Try.prog))) [4] 20000 (d1 (Env.of Try.prog)) t1 := fun i pt h => match i, h with
  | 0, _ => ⟨_, c1p0⟩
  | 1, _ => ⟨_, c1p1⟩
  | i + 2, h => nomatch (show none = some pt from h)
def m2 (E : Env) : List Sm := (d1 E).smL a1 (p1 E) 0 (d1 E).shs ++ m1 E

/- 2: slices.IndexFunc[[]phrasebook/api.CounterDef,phrasebook/api.CounterDef] -/
def a2 : List AV := [(.dat 69 (.var 0)), (.func (.func 96) [] [(.ptr 0 0)])]
def p2 (E : Env) : Pt := entryPt E 53 2 a2 [some (.cells 1 (tmpsOf [(0, (.ss (.var 1)))]))] []
def d2 (E : Env) : Dec :=
  { g := 2, f := 53, p := 1, pts := [p2 E,
    loopPt E 53 19 2 3 [(0, (.dat 69 (.var 0))), (1, (.func (.func 96) [] [(.ptr 0 0)])), (7, (.si .i64 (.lenL (.var 0)))), (8, (.si .i64 (.var 1)))] [some (.cells 1 (tmpsOf [(0, (.ss (.var 2)))]))] [] []],
    shs := [{ m := 1, res := (.si .i64 (.var 0)), post := [none], keep := [0] }] }
theorem c2p0 : decPt (Env.ofS Try.prog l27 (m2 (Env.of Try.prog))) [2] 20000 (d2 (Env.of Try.prog)) t2 0 = some (jl (d2 (Env.of Try.prog)) [1]) := by kernel_rfl
theorem c2p1 : decPt (Env.ofS Try.prog l27 (m2 (Env.of Try.prog))) [2] 20000 (d2 (Env.of Try.prog)) t2 1 = some (jl (d2 (Env.of Try.prog)) [1]) := by kernel_rfl
theorem c2 : DecOK (Env.ofS Try.prog l27 (m2 (Env.of Try.prog))) [2] 20000 (d2 (Env.of Try.prog)) t2 := fun i pt h => match i, h with
  | 0, _ => ⟨_, c2p0⟩
  | 1, _ => ⟨_, c2p1⟩
  | i + 2, h => nomatch (show none = some pt from h)
def m3 (E : Env) : List Sm := (d2 E).smL a2 (p2 E) 0 (d2 E).shs ++ m2 E

/- 3: phrasebook/role.few -/
def a3 : List AV := [(.si .i64 (.var 0)), (.si .i64 (.var 1)), (.si .i64 (.var 2)), (.func (.func 76) [] [(.ptr 0 0)])]
def p3 (E : Env) : Pt := entryPt E 75 7 a3 [some (.cells 4 (tmpsOf [(0, (.ss (.var 3))), (1, (.dat 75 (.var 4))), (2, (.dat 69 (.var 5))), (3, (.dat 64 (.var 6)))]))] []
def d3 (E : Env) : Dec :=
  { g := 3, f := 75, p := 1, pts := [p3 E,
    loopPt E 75 28 6 6 [(3, (.func (.func 76) [] [(.ptr 0 0)])), (19, (.si .i64 (.var 0))), (20, (.si .i64 (.var 1)))] [some (.cells 4 (tmpsOf [(0, (.ss (.var 2))), (1, (.dat 75 (.var 3))), (2, (.dat 69 (.var 4))), (3, (.dat 64 (.var 5)))]))] [] []],
    shs := [{ m := 1, res := (.si .i64 (.var 0)), post := [none], keep := [0] }] }
theorem c3p0 : decPt (Env.ofS Try.prog l27 (m3 (Env.of Try.prog))) [6] 20000 (d3 (Env.of Try.prog)) t3 0 = some (jl (d3 (Env.of Try.prog)) [1]) := by kernel_rfl
theorem c3p1 : decPt (Env.ofS Try.prog l27 (m3 (Env.of Try.prog))) [6] 20000 (d3 (Env.of Try.prog)) t3 1 = some (jl (d3 (Env.of Try.prog)) [1]) := by kernel_rfl
theorem c3 : DecOK (Env.ofS Try.prog l27 (m3 (Env.of Try.prog))) [6] 20000 (d3 (Env.of Try.prog)) t3 := fun i pt h => match i, h with
  | 0, _ => ⟨_, c3p0⟩
  | 1, _ => ⟨_, c3p1⟩
  | i + 2, h => nomatch (show none = some pt from h)
def m4 (E : Env) : List Sm := (d3 E).smL a3 (p3 E) 0 (d3 E).shs ++ m3 E

/- 4: slices.IndexFunc[[]phrasebook/api.State,phrasebook/api.State] -/
def a4 : List AV := [(.dat 75 (.var 0)), (.func (.func 98) [] [(.ptr 0 0)])]
def p4 (E : Env) : Pt := entryPt E 51 2 a4 [some (.cells 1 (tmpsOf [(0, (.ss (.var 1)))]))] []
def d4 (E : Env) : Dec :=
  { g := 4, f := 51, p := 1, pts := [p4 E,
    loopPt E 51 19 2 3 [(0, (.dat 75 (.var 0))), (1, (.func (.func 98) [] [(.ptr 0 0)])), (7, (.si .i64 (.lenL (.var 0)))), (8, (.si .i64 (.var 1)))] [some (.cells 1 (tmpsOf [(0, (.ss (.var 2)))]))] [] []],
    shs := [{ m := 1, res := (.si .i64 (.var 0)), post := [none], keep := [0] }] }
theorem c4p0 : decPt (Env.ofS Try.prog l27 (m4 (Env.of Try.prog))) [2] 20000 (d4 (Env.of Try.prog)) t4 0 = some (jl (d4 (Env.of Try.prog)) [1]) := by kernel_rfl
theorem c4p1 : decPt (Env.ofS Try.prog l27 (m4 (Env.of Try.prog))) [2] 20000 (d4 (Env.of Try.prog)) t4 1 = some (jl (d4 (Env.of Try.prog)) [1]) := by kernel_rfl
theorem c4 : DecOK (Env.ofS Try.prog l27 (m4 (Env.of Try.prog))) [2] 20000 (d4 (Env.of Try.prog)) t4 := fun i pt h => match i, h with
  | 0, _ => ⟨_, c4p0⟩
  | 1, _ => ⟨_, c4p1⟩
  | i + 2, h => nomatch (show none = some pt from h)
def m5 (E : Env) : List Sm := (d4 E).smL a4 (p4 E) 0 (d4 E).shs ++ m4 E

/- 5: phrasebook/role.few -/
def a5 : List AV := [(.si .i64 (.var 0)), (.si .i64 (.var 1)), (.si .i64 (.var 2)), (.func (.func 78) [] [(.ptr 0 0)])]
def p5 (E : Env) : Pt := entryPt E 75 7 a5 [some (.cells 4 (tmpsOf [(0, (.ss (.var 3))), (1, (.dat 75 (.var 4))), (2, (.dat 69 (.var 5))), (3, (.dat 64 (.var 6)))]))] []
def d5 (E : Env) : Dec :=
  { g := 5, f := 75, p := 1, pts := [p5 E,
    loopPt E 75 28 6 6 [(3, (.func (.func 78) [] [(.ptr 0 0)])), (19, (.si .i64 (.var 0))), (20, (.si .i64 (.var 1)))] [some (.cells 4 (tmpsOf [(0, (.ss (.var 2))), (1, (.dat 75 (.var 3))), (2, (.dat 69 (.var 4))), (3, (.dat 64 (.var 5)))]))] [] []],
    shs := [{ m := 1, res := (.si .i64 (.var 0)), post := [none], keep := [0] }] }
theorem c5p0 : decPt (Env.ofS Try.prog l27 (m5 (Env.of Try.prog))) [6] 20000 (d5 (Env.of Try.prog)) t5 0 = some (jl (d5 (Env.of Try.prog)) [1]) := by kernel_rfl
theorem c5p1 : decPt (Env.ofS Try.prog l27 (m5 (Env.of Try.prog))) [6] 20000 (d5 (Env.of Try.prog)) t5 1 = some (jl (d5 (Env.of Try.prog)) [1]) := by kernel_rfl
theorem c5 : DecOK (Env.ofS Try.prog l27 (m5 (Env.of Try.prog))) [6] 20000 (d5 (Env.of Try.prog)) t5 := fun i pt h => match i, h with
  | 0, _ => ⟨_, c5p0⟩
  | 1, _ => ⟨_, c5p1⟩
  | i + 2, h => nomatch (show none = some pt from h)
def m6 (E : Env) : List Sm := (d5 E).smL a5 (p5 E) 0 (d5 E).shs ++ m5 E

/- 6: slices.Index[[]phrasebook/api.Step,phrasebook/api.Step] -/
def a6 : List AV := [(.dat 64 (.var 0)), (.agg [(.ss (.var 1)), (.ss (.var 2)), (.si .i64 (.var 3)), (.ss (.var 4)), (.ss (.var 5)), (.ss (.var 6)), (.si .i64 (.var 7)), (.si .i64 (.var 8)), (.si .i64 (.var 9))])]
def p6 (E : Env) : Pt := entryPt E 110 10 a6 [] []
def d6 (E : Env) : Dec :=
  { g := 6, f := 110, p := 0, pts := [p6 E,
    loopPt E 110 19 2 11 [(0, (.dat 64 (.var 0))), (3, (.ptr 0 0)), (7, (.si .i64 (.lenL (.var 0)))), (8, (.si .i64 (.var 1)))] [some (.cells 9 (tmpsOf [(0, (.ss (.var 2))), (1, (.ss (.var 3))), (2, (.si .i64 (.var 4))), (3, (.ss (.var 5))), (4, (.ss (.var 6))), (5, (.ss (.var 7))), (6, (.si .i64 (.var 8))), (7, (.si .i64 (.var 9))), (8, (.si .i64 (.var 10)))]))] [] []],
    shs := [{ m := 1, res := (.si .i64 (.var 0)), post := [], keep := [] }] }
theorem c6p0 : decPt (Env.ofS Try.prog l27 (m6 (Env.of Try.prog))) [2] 20000 (d6 (Env.of Try.prog)) t6 0 = some (jl (d6 (Env.of Try.prog)) [1]) := by kernel_rfl
theorem c6p1 : decPt (Env.ofS Try.prog l27 (m6 (Env.of Try.prog))) [2] 20000 (d6 (Env.of Try.prog)) t6 1 = some (jl (d6 (Env.of Try.prog)) [1]) := by kernel_rfl
theorem c6 : DecOK (Env.ofS Try.prog l27 (m6 (Env.of Try.prog))) [2] 20000 (d6 (Env.of Try.prog)) t6 := fun i pt h => match i, h with
  | 0, _ => ⟨_, c6p0⟩
  | 1, _ => ⟨_, c6p1⟩
  | i + 2, h => nomatch (show none = some pt from h)
def m7 (E : Env) : List Sm := (d6 E).smL a6 (p6 E) 0 (d6 E).shs ++ m6 E

/- 7: phrasebook/role.few -/
def a7 : List AV := [(.si .i64 (.var 0)), (.si .i64 (.var 1)), (.si .i64 (.var 2)), (.func (.func 80) [] [(.ptr 0 0)])]
def p7 (E : Env) : Pt := entryPt E 75 7 a7 [some (.cells 4 (tmpsOf [(0, (.ss (.var 3))), (1, (.dat 75 (.var 4))), (2, (.dat 69 (.var 5))), (3, (.dat 64 (.var 6)))]))] []
def d7 (E : Env) : Dec :=
  { g := 7, f := 75, p := 1, pts := [p7 E,
    loopPt E 75 28 6 6 [(3, (.func (.func 80) [] [(.ptr 0 0)])), (19, (.si .i64 (.var 0))), (20, (.si .i64 (.var 1)))] [some (.cells 4 (tmpsOf [(0, (.ss (.var 2))), (1, (.dat 75 (.var 3))), (2, (.dat 69 (.var 4))), (3, (.dat 64 (.var 5)))]))] [] []],
    shs := [{ m := 1, res := (.si .i64 (.var 0)), post := [none], keep := [0] }] }
theorem c7p0 : decPt (Env.ofS Try.prog l27 (m7 (Env.of Try.prog))) [6] 20000 (d7 (Env.of Try.prog)) t7 0 = some (jl (d7 (Env.of Try.prog)) [1]) := by kernel_rfl
theorem c7p1 : decPt (Env.ofS Try.prog l27 (m7 (Env.of Try.prog))) [6] 20000 (d7 (Env.of Try.prog)) t7 1 = some (jl (d7 (Env.of Try.prog)) [1, 1, 1, 1, 1, 1, 1, 1]) := by kernel_rfl
theorem c7 : DecOK (Env.ofS Try.prog l27 (m7 (Env.of Try.prog))) [6] 20000 (d7 (Env.of Try.prog)) t7 := fun i pt h => match i, h with
  | 0, _ => ⟨_, c7p0⟩
  | 1, _ => ⟨_, c7p1⟩
  | i + 2, h => nomatch (show none = some pt from h)
def m8 (E : Env) : List Sm := (d7 E).smL a7 (p7 E) 0 (d7 E).shs ++ m7 E

/- 8: slices.IndexFunc[[]phrasebook/api.State,phrasebook/api.State] -/
def a8 : List AV := [(.dat 75 (.var 0)), (.func (.func 52) [] [(.ptr 0 0)])]
def p8 (E : Env) : Pt := entryPt E 51 2 a8 [some (.cells 1 (tmpsOf [(0, (.ss (.var 1)))]))] []
def d8 (E : Env) : Dec :=
  { g := 8, f := 51, p := 1, pts := [p8 E,
    loopPt E 51 19 2 3 [(0, (.dat 75 (.var 0))), (1, (.func (.func 52) [] [(.ptr 0 0)])), (7, (.si .i64 (.lenL (.var 0)))), (8, (.si .i64 (.var 1)))] [some (.cells 1 (tmpsOf [(0, (.ss (.var 2)))]))] [] []],
    shs := [{ m := 1, res := (.si .i64 (.var 0)), post := [none], keep := [0] }] }
theorem c8p0 : decPt (Env.ofS Try.prog l27 (m8 (Env.of Try.prog))) [2] 20000 (d8 (Env.of Try.prog)) t8 0 = some (jl (d8 (Env.of Try.prog)) [1]) := by kernel_rfl
theorem c8p1 : decPt (Env.ofS Try.prog l27 (m8 (Env.of Try.prog))) [2] 20000 (d8 (Env.of Try.prog)) t8 1 = some (jl (d8 (Env.of Try.prog)) [1]) := by kernel_rfl
theorem c8 : DecOK (Env.ofS Try.prog l27 (m8 (Env.of Try.prog))) [2] 20000 (d8 (Env.of Try.prog)) t8 := fun i pt h => match i, h with
  | 0, _ => ⟨_, c8p0⟩
  | 1, _ => ⟨_, c8p1⟩
  | i + 2, h => nomatch (show none = some pt from h)
def m9 (E : Env) : List Sm := (d8 E).smL a8 (p8 E) 0 (d8 E).shs ++ m8 E

/- 9: slices.IndexFunc[[]phrasebook/api.CounterDef,phrasebook/api.CounterDef] -/
def a9 : List AV := [(.dat 69 (.var 0)), (.func (.func 54) [] [(.ptr 0 0)])]
def p9 (E : Env) : Pt := entryPt E 53 2 a9 [some (.cells 1 (tmpsOf [(0, (.ss (.var 1)))]))] []
def d9 (E : Env) : Dec :=
  { g := 9, f := 53, p := 1, pts := [p9 E,
    loopPt E 53 19 2 3 [(0, (.dat 69 (.var 0))), (1, (.func (.func 54) [] [(.ptr 0 0)])), (7, (.si .i64 (.lenL (.var 0)))), (8, (.si .i64 (.var 1)))] [some (.cells 1 (tmpsOf [(0, (.ss (.var 2)))]))] [] []],
    shs := [{ m := 1, res := (.si .i64 (.var 0)), post := [none], keep := [0] }] }
theorem c9p0 : decPt (Env.ofS Try.prog l27 (m9 (Env.of Try.prog))) [2] 20000 (d9 (Env.of Try.prog)) t9 0 = some (jl (d9 (Env.of Try.prog)) [1]) := by kernel_rfl
theorem c9p1 : decPt (Env.ofS Try.prog l27 (m9 (Env.of Try.prog))) [2] 20000 (d9 (Env.of Try.prog)) t9 1 = some (jl (d9 (Env.of Try.prog)) [1]) := by kernel_rfl
theorem c9 : DecOK (Env.ofS Try.prog l27 (m9 (Env.of Try.prog))) [2] 20000 (d9 (Env.of Try.prog)) t9 := fun i pt h => match i, h with
  | 0, _ => ⟨_, c9p0⟩
  | 1, _ => ⟨_, c9p1⟩
  | i + 2, h => nomatch (show none = some pt from h)
def m10 (E : Env) : List Sm := (d9 E).smL a9 (p9 E) 0 (d9 E).shs ++ m9 E

/- 10: phrasebook/convert.Check -/
def a10 : List AV := [(.agg [(.ss (.var 0)), (.dat 75 (.var 1)), (.dat 69 (.var 2)), (.dat 64 (.var 3))]), (.agg [(.ss (.var 4)), (.dat 75 (.var 5)), (.dat 69 (.var 6)), (.dat 64 (.var 7))]), (.agg [(.dat 73 (.var 8)), (.dat 77 (.var 9))])]
def p10 (E : Env) : Pt := entryPt E 10 10 a10 [] []
def d10 (E : Env) : Dec :=
  { g := 10, f := 10, p := 0, pts := [p10 E,
    loopPt E 10 114 7 13 [(0, (.agg [(.ss (.var 0)), (.dat 75 (.var 1)), (.dat 69 (.var 2)), (.dat 64 (.var 3))])), (1, (.agg [(.ss (.var 4)), (.dat 75 (.var 5)), (.dat 69 (.var 6)), (.dat 64 (.var 7))])), (2, (.agg [(.dat 73 (.var 8)), (.dat 77 (.var 9))])), (3, (.ptr 0 0)), (4, (.ptr 1 0)), (5, (.ptr 2 0)), (7, (.int .i64 490)), (8, (.map 3)), (13, (.map 3)), (14, (.agg [(.ss (.var 0)), (.dat 75 (.var 1)), (.dat 69 (.var 2)), (.dat 64 (.var 3))])), (15, (.bool true)), (16, (.bool false)), (17, (.bool false)), (18, (.agg [(.ss (.var 4)), (.dat 75 (.var 5)), (.dat 69 (.var 6)), (.dat 64 (.var 7))])), (19, (.bool true)), (20, (.bool false)), (21, (.bool false)), (22, (.ptr 2 0)), (23, (.dat 73 (.var 8))), (24, (.si .i64 (.lenL (.var 8)))), (25, (.sb true (.var 10))), (26, (.ptr 2 0)), (27, (.dat 73 (.var 8))), (28, (.si .i64 (.lenL (.var 8)))), (29, (.si .i64 (.var 11)))] [some (.cells 4 (tmpsOf [(0, (.ss (.var 0))), (1, (.dat 75 (.var 1))), (2, (.dat 69 (.var 2))), (3, (.dat 64 (.var 3)))])), some (.cells 4 (tmpsOf [(0, (.ss (.var 4))), (1, (.dat 75 (.var 5))), (2, (.dat 69 (.var 6))), (3, (.dat 64 (.var 7)))])), some (.cells 2 (tmpsOf [(0, (.dat 73 (.var 8))), (1, (.dat 77 (.var 9)))])), some (.dmap 9 4 (.var 12))] [] [],
    loopPt E 10 114 17 16 [(0, (.agg [(.ss (.var 0)), (.dat 75 (.var 1)), (.dat 69 (.var 2)), (.dat 64 (.var 3))])), (1, (.agg [(.ss (.var 4)), (.dat 75 (.var 5)), (.dat 69 (.var 6)), (.dat 64 (.var 7))])), (2, (.agg [(.dat 73 (.var 8)), (.dat 77 (.var 9))])), (3, (.ptr 0 0)), (4, (.ptr 1 0)), (5, (.ptr 2 0)), (7, (.int .i64 491)), (8, (.map 3)), (13, (.map 3)), (14, (.agg [(.ss (.var 0)), (.dat 75 (.var 1)), (.dat 69 (.var 2)), (.dat 64 (.var 3))])), (15, (.bool true)), (16, (.bool false)), (17, (.bool false)), (18, (.agg [(.ss (.var 4)), (.dat 75 (.var 5)), (.dat 69 (.var 6)), (.dat 64 (.var 7))])), (19, (.bool true)), (20, (.bool false)), (21, (.bool false)), (22, (.ptr 2 0)), (23, (.dat 73 (.var 8))), (24, (.si .i64 (.lenL (.var 8)))), (25, (.sb true (.var 10))), (26, (.ptr 2 0)), (27, (.dat 73 (.var 8))), (28, (.si .i64 (.lenL (.var 8)))), (29, (.si .i64 (.var 11))), (30, (.sb true (.var 12))), (57, (.map 3)), (58, (.ptr 2 1)), (59, (.dat 77 (.var 9))), (60, (.si .i64 (.lenL (.var 9)))), (61, (.sb true (.var 13))), (62, (.ptr 2 1)), (63, (.dat 77 (.var 9))), (64, (.si .i64 (.lenL (.var 9)))), (65, (.si .i64 (.var 14)))] [some (.cells 4 (tmpsOf [(0, (.ss (.var 0))), (1, (.dat 75 (.var 1))), (2, (.dat 69 (.var 2))), (3, (.dat 64 (.var 3)))])), some (.cells 4 (tmpsOf [(0, (.ss (.var 4))), (1, (.dat 75 (.var 5))), (2, (.dat 69 (.var 6))), (3, (.dat 64 (.var 7)))])), some (.cells 2 (tmpsOf [(0, (.dat 73 (.var 8))), (1, (.dat 77 (.var 9)))])), some (.dmap 9 4 (.var 15))] [] []],
    shs := [{ m := 2, res := (.tuple [(.si .i64 (.var 0)), (.si .i64 (.var 1))]), post := [], keep := [] }] }
theorem c10p0 : decPt (Env.ofS Try.prog l27 (m10 (Env.of Try.prog))) [7, 17] 20000 (d10 (Env.of Try.prog)) t10 0 = some (jl (d10 (Env.of Try.prog)) [1]) := by kernel_rfl
theorem c10p1 : decPt (Env.ofS Try.prog l27 (m10 (Env.of Try.prog))) [7, 17] 20000 (d10 (Env.of Try.prog)) t10 1 = some (jl (d10 (Env.of Try.prog)) [1, 1, 2]) := by kernel_rfl
theorem c10p2 : decPt (Env.ofS Try.prog l27 (m10 (Env.of Try.prog))) [7, 17] 20000 (d10 (Env.of Try.prog)) t10 2 = some (jl (d10 (Env.of Try.prog)) [2, 2, 2, 2, 2, 2, 2, 2]) := by kernel_rfl
theorem c10 : DecOK (Env.ofS Try.prog l27 (m10 (Env.of Try.prog))) [7, 17] 20000 (d10 (Env.of Try.prog)) t10 := fun i pt h => match i, h with
  | 0, _ => ⟨_, c10p0⟩
  | 1, _ => ⟨_, c10p1⟩
  | 2, _ => ⟨_, c10p2⟩
  | i + 3, h => nomatch (show none = some pt from h)
def m11 (E : Env) : List Sm := (d10 E).smL a10 (p10 E) 0 (d10 E).shs ++ m10 E

/- 11: phrasebook/phrasebookref28.Name -/
def a11 : List AV := [(.ss (.var 0))]
def p11 (E : Env) : Pt := entryPt E 60 1 a11 [] []
def d11 (E : Env) : Dec :=
  { g := 11, f := 60, p := 0, pts := [p11 E,
    loopPt E 60 64 4 2 [(0, (.ss (.var 0))), (3, (.si .i64 (.var 1)))] [] [] []],
    shs := [{ m := 1, res := (.sb true (.var 0)), post := [], keep := [] }] }
theorem c11p0 : decPt (Env.ofS Try.prog l27 (m11 (Env.of Try.prog))) [4] 20000 (d11 (Env.of Try.prog)) t11 0 = some (jl (d11 (Env.of Try.prog)) [1, 1]) := by kernel_rfl
theorem c11p1 : decPt (Env.ofS Try.prog l27 (m11 (Env.of Try.prog))) [4] 20000 (d11 (Env.of Try.prog)) t11 1 = some (jl (d11 (Env.of Try.prog)) [1, 1, 1, 1]) := by kernel_rfl
theorem c11 : DecOK (Env.ofS Try.prog l27 (m11 (Env.of Try.prog))) [4] 20000 (d11 (Env.of Try.prog)) t11 := fun i pt h => match i, h with
  | 0, _ => ⟨_, c11p0⟩
  | 1, _ => ⟨_, c11p1⟩
  | i + 2, h => nomatch (show none = some pt from h)
def m12 (E : Env) : List Sm := (d11 E).smL a11 (p11 E) 0 (d11 E).shs ++ m11 E

/- 12: phrasebook/phrasebookref28.counter -/
def a12 : List AV := [(.agg [(.ss (.var 0)), (.dat 75 (.var 1)), (.dat 69 (.var 2)), (.dat 64 (.var 3))]), (.ss (.var 4))]
def p12 (E : Env) : Pt := entryPt E 61 5 a12 [] []
def d12 (E : Env) : Dec :=
  { g := 12, f := 61, p := 0, pts := [p12 E,
    loopPt E 61 22 2 6 [(1, (.ss (.var 0))), (2, (.ptr 0 0)), (5, (.si .i64 (.var 1)))] [some (.cells 4 (tmpsOf [(0, (.ss (.var 2))), (1, (.dat 75 (.var 3))), (2, (.dat 69 (.var 4))), (3, (.dat 64 (.var 5)))]))] [] []],
    shs := [{ m := 1, res := (.si .i64 (.var 0)), post := [], keep := [] }] }
theorem c12p0 : decPt (Env.ofS Try.prog l27 (m12 (Env.of Try.prog))) [2] 20000 (d12 (Env.of Try.prog)) t12 0 = some (jl (d12 (Env.of Try.prog)) [1]) := by kernel_rfl
theorem c12p1 : decPt (Env.ofS Try.prog l27 (m12 (Env.of Try.prog))) [2] 20000 (d12 (Env.of Try.prog)) t12 1 = some (jl (d12 (Env.of Try.prog)) [1]) := by kernel_rfl
theorem c12 : DecOK (Env.ofS Try.prog l27 (m12 (Env.of Try.prog))) [2] 20000 (d12 (Env.of Try.prog)) t12 := fun i pt h => match i, h with
  | 0, _ => ⟨_, c12p0⟩
  | 1, _ => ⟨_, c12p1⟩
  | i + 2, h => nomatch (show none = some pt from h)
def m13 (E : Env) : List Sm := (d12 E).smL a12 (p12 E) 0 (d12 E).shs ++ m12 E

/- 13: phrasebook/phrasebookref28.state -/
def a13 : List AV := [(.agg [(.ss (.var 0)), (.dat 75 (.var 1)), (.dat 69 (.var 2)), (.dat 64 (.var 3))]), (.ss (.var 4))]
def p13 (E : Env) : Pt := entryPt E 62 5 a13 [] []
def d13 (E : Env) : Dec :=
  { g := 13, f := 62, p := 0, pts := [p13 E,
    loopPt E 62 22 2 6 [(1, (.ss (.var 0))), (2, (.ptr 0 0)), (5, (.si .i64 (.var 1)))] [some (.cells 4 (tmpsOf [(0, (.ss (.var 2))), (1, (.dat 75 (.var 3))), (2, (.dat 69 (.var 4))), (3, (.dat 64 (.var 5)))]))] [] []],
    shs := [{ m := 1, res := (.si .i64 (.var 0)), post := [], keep := [] }] }
theorem c13p0 : decPt (Env.ofS Try.prog l27 (m13 (Env.of Try.prog))) [2] 20000 (d13 (Env.of Try.prog)) t13 0 = some (jl (d13 (Env.of Try.prog)) [1]) := by kernel_rfl
theorem c13p1 : decPt (Env.ofS Try.prog l27 (m13 (Env.of Try.prog))) [2] 20000 (d13 (Env.of Try.prog)) t13 1 = some (jl (d13 (Env.of Try.prog)) [1]) := by kernel_rfl
theorem c13 : DecOK (Env.ofS Try.prog l27 (m13 (Env.of Try.prog))) [2] 20000 (d13 (Env.of Try.prog)) t13 := fun i pt h => match i, h with
  | 0, _ => ⟨_, c13p0⟩
  | 1, _ => ⟨_, c13p1⟩
  | i + 2, h => nomatch (show none = some pt from h)
def m14 (E : Env) : List Sm := (d13 E).smL a13 (p13 E) 0 (d13 E).shs ++ m13 E

/- 14: phrasebook/phrasebookref28.allowed -/
def a14 : List AV := [(.agg [(.ss (.var 0)), (.dat 75 (.var 1)), (.dat 69 (.var 2)), (.dat 64 (.var 3))]), (.si .i64 (.var 4))]
def p14 (E : Env) : Pt := entryPt E 63 5 a14 [] []
def d14 (E : Env) : Dec :=
  { g := 14, f := 63, p := 0, pts := [p14 E,
    loopPt E 63 93 6 16 [(1, (.si .i64 (.var 0))), (2, (.ptr 0 0)), (5, (.ptr 1 0)), (6, (.si .i64 (.var 1))), (7, (.si .i64 (.var 2)))] [some (.cells 4 (tmpsOf [(0, (.ss (.var 3))), (1, (.dat 75 (.var 4))), (2, (.dat 69 (.var 5))), (3, (.dat 64 (.var 6)))])), some (.cells 9 (tmpsOf [(0, (.ss (.var 7))), (1, (.ss (.var 8))), (2, (.si .i64 (.var 9))), (3, (.ss (.var 10))), (4, (.ss (.var 11))), (5, (.ss (.var 12))), (6, (.si .i64 (.var 13))), (7, (.si .i64 (.var 14))), (8, (.si .i64 (.var 15)))]))] [] []],
    shs := [{ m := 1, res := (.sb true (.var 0)), post := [], keep := [] }] }
theorem c14p0 : decPt (Env.ofS Try.prog l27 (m14 (Env.of Try.prog))) [6] 20000 (d14 (Env.of Try.prog)) t14 0 = some (jl (d14 (Env.of Try.prog)) [1, 1]) := by kernel_rfl
theorem c14p1 : decPt (Env.ofS Try.prog l27 (m14 (Env.of Try.prog))) [6] 20000 (d14 (Env.of Try.prog)) t14 1 = some (jl (d14 (Env.of Try.prog)) [1]) := by kernel_rfl
theorem c14 : DecOK (Env.ofS Try.prog l27 (m14 (Env.of Try.prog))) [6] 20000 (d14 (Env.of Try.prog)) t14 := fun i pt h => match i, h with
  | 0, _ => ⟨_, c14p0⟩
  | 1, _ => ⟨_, c14p1⟩
  | i + 2, h => nomatch (show none = some pt from h)
def m15 (E : Env) : List Sm := (d14 E).smL a14 (p14 E) 0 (d14 E).shs ++ m14 E

/- 15: phrasebook/phrasebookref28.Check -/
def a15 : List AV := [(.agg [(.ss (.var 0)), (.dat 75 (.var 1)), (.dat 69 (.var 2)), (.dat 64 (.var 3))])]
def p15 (E : Env) : Pt := entryPt E 38 4 a15 [] []
def d15 (E : Env) : Dec :=
  { g := 15, f := 38, p := 0, pts := [p15 E,
    loopPt E 38 131 6 5 [(1, (.ptr 0 0)), (4, (.si .i64 (.var 0)))] [some (.cells 4 (tmpsOf [(0, (.ss (.var 1))), (1, (.dat 75 (.var 2))), (2, (.dat 69 (.var 3))), (3, (.dat 64 (.var 4)))]))] [] [],
    loopPt E 38 131 15 5 [(1, (.ptr 0 0)), (5, (.si .i64 (.var 0)))] [some (.cells 4 (tmpsOf [(0, (.ss (.var 1))), (1, (.dat 75 (.var 2))), (2, (.dat 69 (.var 3))), (3, (.dat 64 (.var 4)))]))] [] [],
    loopPt E 38 131 22 5 [(1, (.ptr 0 0)), (6, (.si .i64 (.var 0)))] [some (.cells 4 (tmpsOf [(0, (.ss (.var 1))), (1, (.dat 75 (.var 2))), (2, (.dat 69 (.var 3))), (3, (.dat 64 (.var 4)))]))] [] []],
    shs := [{ m := 2, res := (.tuple [(.si .i64 (.var 0)), (.si .i64 (.var 1))]), post := [], keep := [] }] }
theorem c15p0 : decPt (Env.ofS Try.prog l27 (m15 (Env.of Try.prog))) [6, 15, 22] 20000 (d15 (Env.of Try.prog)) t15 0 = some (jl (d15 (Env.of Try.prog)) [1]) := by kernel_rfl
theorem c15p1 : decPt (Env.ofS Try.prog l27 (m15 (Env.of Try.prog))) [6, 15, 22] 20000 (d15 (Env.of Try.prog)) t15 1 = some (jl (d15 (Env.of Try.prog)) [1, 2]) := by kernel_rfl
theorem c15p2 : decPt (Env.ofS Try.prog l27 (m15 (Env.of Try.prog))) [6, 15, 22] 20000 (d15 (Env.of Try.prog)) t15 2 = some (jl (d15 (Env.of Try.prog)) [2, 3]) := by kernel_rfl
theorem c15p3 : decPt (Env.ofS Try.prog l27 (m15 (Env.of Try.prog))) [6, 15, 22] 20000 (d15 (Env.of Try.prog)) t15 3 = some (jl (d15 (Env.of Try.prog)) [3]) := by kernel_rfl
theorem c15 : DecOK (Env.ofS Try.prog l27 (m15 (Env.of Try.prog))) [6, 15, 22] 20000 (d15 (Env.of Try.prog)) t15 := fun i pt h => match i, h with
  | 0, _ => ⟨_, c15p0⟩
  | 1, _ => ⟨_, c15p1⟩
  | 2, _ => ⟨_, c15p2⟩
  | 3, _ => ⟨_, c15p3⟩
  | i + 4, h => nomatch (show none = some pt from h)
def m16 (E : Env) : List Sm := (d15 E).smL a15 (p15 E) 0 (d15 E).shs ++ m15 E

/- 16: phrasebook/phrasebookref48.state -/
def a16 : List AV := [(.agg [(.ss (.var 0)), (.dat 75 (.var 1)), (.dat 69 (.var 2)), (.dat 64 (.var 3))]), (.ss (.var 4))]
def p16 (E : Env) : Pt := entryPt E 32 5 a16 [] []
def d16 (E : Env) : Dec :=
  { g := 16, f := 32, p := 0, pts := [p16 E,
    loopPt E 32 22 2 6 [(1, (.ss (.var 0))), (2, (.ptr 0 0)), (5, (.si .i64 (.var 1)))] [some (.cells 4 (tmpsOf [(0, (.ss (.var 2))), (1, (.dat 75 (.var 3))), (2, (.dat 69 (.var 4))), (3, (.dat 64 (.var 5)))]))] [] []],
    shs := [{ m := 1, res := (.si .i64 (.var 0)), post := [], keep := [] }] }
theorem c16p0 : decPt (Env.ofS Try.prog l27 (m16 (Env.of Try.prog))) [2] 20000 (d16 (Env.of Try.prog)) t16 0 = some (jl (d16 (Env.of Try.prog)) [1]) := by kernel_rfl
theorem c16p1 : decPt (Env.ofS Try.prog l27 (m16 (Env.of Try.prog))) [2] 20000 (d16 (Env.of Try.prog)) t16 1 = some (jl (d16 (Env.of Try.prog)) [1]) := by kernel_rfl
theorem c16 : DecOK (Env.ofS Try.prog l27 (m16 (Env.of Try.prog))) [2] 20000 (d16 (Env.of Try.prog)) t16 := fun i pt h => match i, h with
  | 0, _ => ⟨_, c16p0⟩
  | 1, _ => ⟨_, c16p1⟩
  | i + 2, h => nomatch (show none = some pt from h)
def m17 (E : Env) : List Sm := (d16 E).smL a16 (p16 E) 0 (d16 E).shs ++ m16 E

/- 17: phrasebook/phrasebookref48.counter -/
def a17 : List AV := [(.agg [(.ss (.var 0)), (.dat 75 (.var 1)), (.dat 69 (.var 2)), (.dat 64 (.var 3))]), (.ss (.var 4))]
def p17 (E : Env) : Pt := entryPt E 33 5 a17 [] []
def d17 (E : Env) : Dec :=
  { g := 17, f := 33, p := 0, pts := [p17 E,
    loopPt E 33 22 2 6 [(1, (.ss (.var 0))), (2, (.ptr 0 0)), (5, (.si .i64 (.var 1)))] [some (.cells 4 (tmpsOf [(0, (.ss (.var 2))), (1, (.dat 75 (.var 3))), (2, (.dat 69 (.var 4))), (3, (.dat 64 (.var 5)))]))] [] []],
    shs := [{ m := 1, res := (.si .i64 (.var 0)), post := [], keep := [] }] }
theorem c17p0 : decPt (Env.ofS Try.prog l27 (m17 (Env.of Try.prog))) [2] 20000 (d17 (Env.of Try.prog)) t17 0 = some (jl (d17 (Env.of Try.prog)) [1]) := by kernel_rfl
theorem c17p1 : decPt (Env.ofS Try.prog l27 (m17 (Env.of Try.prog))) [2] 20000 (d17 (Env.of Try.prog)) t17 1 = some (jl (d17 (Env.of Try.prog)) [1]) := by kernel_rfl
theorem c17 : DecOK (Env.ofS Try.prog l27 (m17 (Env.of Try.prog))) [2] 20000 (d17 (Env.of Try.prog)) t17 := fun i pt h => match i, h with
  | 0, _ => ⟨_, c17p0⟩
  | 1, _ => ⟨_, c17p1⟩
  | i + 2, h => nomatch (show none = some pt from h)
def m18 (E : Env) : List Sm := (d17 E).smL a17 (p17 E) 0 (d17 E).shs ++ m17 E

/- 18: phrasebook/phrasebookref48.Check -/
def a18 : List AV := [(.agg [(.ss (.var 0)), (.dat 75 (.var 1)), (.dat 69 (.var 2)), (.dat 64 (.var 3))]), (.agg [(.ss (.var 4)), (.dat 75 (.var 5)), (.dat 69 (.var 6)), (.dat 64 (.var 7))]), (.agg [(.dat 73 (.var 8)), (.dat 77 (.var 9))])]
def p18 (E : Env) : Pt := entryPt E 11 10 a18 [] []
def d18 (E : Env) : Dec :=
  { g := 18, f := 11, p := 0, pts := [p18 E,
    loopPt E 11 139 6 11 [(3, (.ptr 0 0)), (4, (.ptr 1 0)), (5, (.ptr 2 0)), (8, (.si .i64 (.var 0)))] [some (.cells 4 (tmpsOf [(0, (.ss (.var 1))), (1, (.dat 75 (.var 2))), (2, (.dat 69 (.var 3))), (3, (.dat 64 (.var 4)))])), some (.cells 4 (tmpsOf [(0, (.ss (.var 5))), (1, (.dat 75 (.var 6))), (2, (.dat 69 (.var 7))), (3, (.dat 64 (.var 8)))])), some (.cells 2 (tmpsOf [(0, (.dat 73 (.var 9))), (1, (.dat 77 (.var 10)))]))] [] [],
    loopPt E 11 139 10 13 [(3, (.ptr 0 0)), (4, (.ptr 1 0)), (5, (.ptr 2 0)), (8, (.si .i64 (.var 0))), (9, (.sb true (.var 1))), (10, (.si .i64 (.var 2)))] [some (.cells 4 (tmpsOf [(0, (.ss (.var 3))), (1, (.dat 75 (.var 4))), (2, (.dat 69 (.var 5))), (3, (.dat 64 (.var 6)))])), some (.cells 4 (tmpsOf [(0, (.ss (.var 7))), (1, (.dat 75 (.var 8))), (2, (.dat 69 (.var 9))), (3, (.dat 64 (.var 10)))])), some (.cells 2 (tmpsOf [(0, (.dat 73 (.var 11))), (1, (.dat 77 (.var 12)))]))] [] [],
    loopPt E 11 139 18 11 [(3, (.ptr 0 0)), (4, (.ptr 1 0)), (5, (.ptr 2 0)), (11, (.si .i64 (.var 0)))] [some (.cells 4 (tmpsOf [(0, (.ss (.var 1))), (1, (.dat 75 (.var 2))), (2, (.dat 69 (.var 3))), (3, (.dat 64 (.var 4)))])), some (.cells 4 (tmpsOf [(0, (.ss (.var 5))), (1, (.dat 75 (.var 6))), (2, (.dat 69 (.var 7))), (3, (.dat 64 (.var 8)))])), some (.cells 2 (tmpsOf [(0, (.dat 73 (.var 9))), (1, (.dat 77 (.var 10)))]))] [] [],
    loopPt E 11 139 23 16 [(3, (.ptr 0 0)), (4, (.ptr 1 0)), (5, (.ptr 2 0)), (11, (.si .i64 (.var 0))), (12, (.ptr 3 0)), (13, (.sb true (.var 1))), (14, (.si .i64 (.var 2)))] [some (.cells 4 (tmpsOf [(0, (.ss (.var 3))), (1, (.dat 75 (.var 4))), (2, (.dat 69 (.var 5))), (3, (.dat 64 (.var 6)))])), some (.cells 4 (tmpsOf [(0, (.ss (.var 7))), (1, (.dat 75 (.var 8))), (2, (.dat 69 (.var 9))), (3, (.dat 64 (.var 10)))])), some (.cells 2 (tmpsOf [(0, (.dat 73 (.var 11))), (1, (.dat 77 (.var 12)))])), some (.cells 3 (tmpsOf [(0, (.ss (.var 13))), (1, (.ss (.var 14))), (2, (.si .i64 (.var 15)))]))] [] []],
    shs := [{ m := 2, res := (.tuple [(.si .i64 (.var 0)), (.si .i64 (.var 1))]), post := [], keep := [] }] }
theorem c18p0 : decPt (Env.ofS Try.prog l27 (m18 (Env.of Try.prog))) [6, 10, 18, 23] 20000 (d18 (Env.of Try.prog)) t18 0 = some (jl (d18 (Env.of Try.prog)) [1]) := by kernel_rfl
theorem c18p1 : decPt (Env.ofS Try.prog l27 (m18 (Env.of Try.prog))) [6, 10, 18, 23] 20000 (d18 (Env.of Try.prog)) t18 1 = some (jl (d18 (Env.of Try.prog)) [2, 2, 3]) := by kernel_rfl
theorem c18p2 : decPt (Env.ofS Try.prog l27 (m18 (Env.of Try.prog))) [6, 10, 18, 23] 20000 (d18 (Env.of Try.prog)) t18 2 = some (jl (d18 (Env.of Try.prog)) [2, 2, 1]) := by kernel_rfl
theorem c18p3 : decPt (Env.ofS Try.prog l27 (m18 (Env.of Try.prog))) [6, 10, 18, 23] 20000 (d18 (Env.of Try.prog)) t18 3 = some (jl (d18 (Env.of Try.prog)) [4, 4, 4, 4, 4, 4]) := by kernel_rfl
theorem c18p4 : decPt (Env.ofS Try.prog l27 (m18 (Env.of Try.prog))) [6, 10, 18, 23] 20000 (d18 (Env.of Try.prog)) t18 4 = some (jl (d18 (Env.of Try.prog)) [4, 4, 3]) := by kernel_rfl
theorem c18 : DecOK (Env.ofS Try.prog l27 (m18 (Env.of Try.prog))) [6, 10, 18, 23] 20000 (d18 (Env.of Try.prog)) t18 := fun i pt h => match i, h with
  | 0, _ => ⟨_, c18p0⟩
  | 1, _ => ⟨_, c18p1⟩
  | 2, _ => ⟨_, c18p2⟩
  | 3, _ => ⟨_, c18p3⟩
  | 4, _ => ⟨_, c18p4⟩
  | i + 5, h => nomatch (show none = some pt from h)
def m19 (E : Env) : List Sm := (d18 E).smL a18 (p18 E) 0 (d18 E).shs ++ m18 E

/- 19: phrasebook/convert.keyOf -/
def a19 : List AV := [(.agg [(.ss (.var 0)), (.dat 75 (.var 1)), (.dat 69 (.var 2)), (.dat 64 (.var 3))]), (.agg [(.ss (.var 4)), (.dat 3 (.var 5))])]
def p19 (E : Env) : Pt := entryPt E 34 6 a19 [] []
def d19 (E : Env) : Dec :=
  { g := 19, f := 34, p := 0, pts := [p19 E,
    loopPt E 34 54 5 8 [(2, (.ptr 0 0)), (3, (.ptr 1 0)), (4, (.ptr 2 0)), (27, (.dat 3 (.var 0))), (28, (.si .i64 (.lenL (.var 0)))), (29, (.si .i64 (.var 1)))] [some (.cells 4 (tmpsOf [(0, (.ss (.var 2))), (1, (.dat 75 (.var 3))), (2, (.dat 69 (.var 4))), (3, (.dat 64 (.var 5)))])), some (.cells 2 (tmpsOf [(0, (.ss (.var 6))), (1, (.dat 3 (.var 0)))])), some (.cells 5 (tmpsOf [(0, (.si .i64 (.var 7))), (1, (.int .i64 0)), (2, (.int .i64 0)), (3, (.int .i64 0)), (4, (.int .i64 0))]))] [] []],
    shs := [{ m := 6, res := (.tuple [(.agg [(.si .i64 (.var 0)), (.si .i64 (.var 1)), (.si .i64 (.var 2)), (.si .i64 (.var 3)), (.si .i64 (.var 4))]), (.sb true (.var 5))]), post := [], keep := [] }] }
theorem c19p0 : decPt (Env.ofS Try.prog l27 (m19 (Env.of Try.prog))) [5] 20000 (d19 (Env.of Try.prog)) t19 0 = some (jl (d19 (Env.of Try.prog)) [1]) := by kernel_rfl
theorem c19p1 : decPt (Env.ofS Try.prog l27 (m19 (Env.of Try.prog))) [5] 20000 (d19 (Env.of Try.prog)) t19 1 = some (jl (d19 (Env.of Try.prog)) [1]) := by kernel_rfl
theorem c19 : DecOK (Env.ofS Try.prog l27 (m19 (Env.of Try.prog))) [5] 20000 (d19 (Env.of Try.prog)) t19 := fun i pt h => match i, h with
  | 0, _ => ⟨_, c19p0⟩
  | 1, _ => ⟨_, c19p1⟩
  | i + 2, h => nomatch (show none = some pt from h)
def m20 (E : Env) : List Sm := (d19 E).smL a19 (p19 E) 0 (d19 E).shs ++ m19 E

/- 20: slices.IndexFunc[[]phrasebook/api.StatePair,phrasebook/api.StatePair] -/
def a20 : List AV := [(.dat 73 (.var 0)), (.func (.func 56) [] [(.ptr 0 0), (.ptr 1 0)])]
def p20 (E : Env) : Pt := entryPt E 55 10 a20 [some (.cells 4 (tmpsOf [(0, (.ss (.var 1))), (1, (.dat 75 (.var 2))), (2, (.dat 69 (.var 3))), (3, (.dat 64 (.var 4)))])), some (.cells 5 (tmpsOf [(0, (.si .i64 (.var 5))), (1, (.si .i64 (.var 6))), (2, (.si .i64 (.var 7))), (3, (.si .i64 (.var 8))), (4, (.si .i64 (.var 9)))]))] []
def d20 (E : Env) : Dec :=
  { g := 20, f := 55, p := 2, pts := [p20 E,
    loopPt E 55 19 2 11 [(0, (.dat 73 (.var 0))), (1, (.func (.func 56) [] [(.ptr 0 0), (.ptr 1 0)])), (7, (.si .i64 (.lenL (.var 0)))), (8, (.si .i64 (.var 1)))] [some (.cells 4 (tmpsOf [(0, (.ss (.var 2))), (1, (.dat 75 (.var 3))), (2, (.dat 69 (.var 4))), (3, (.dat 64 (.var 5)))])), some (.cells 5 (tmpsOf [(0, (.si .i64 (.var 6))), (1, (.si .i64 (.var 7))), (2, (.si .i64 (.var 8))), (3, (.si .i64 (.var 9))), (4, (.si .i64 (.var 10)))]))] [] []],
    shs := [{ m := 1, res := (.si .i64 (.var 0)), post := [none, none], keep := [0, 1] }] }
theorem c20p0 : decPt (Env.ofS Try.prog l27 (m20 (Env.of Try.prog))) [2] 20000 (d20 (Env.of Try.prog)) t20 0 = some (jl (d20 (Env.of Try.prog)) [1]) := by kernel_rfl
theorem c20p1 : decPt (Env.ofS Try.prog l27 (m20 (Env.of Try.prog))) [2] 20000 (d20 (Env.of Try.prog)) t20 1 = some (jl (d20 (Env.of Try.prog)) [1]) := by kernel_rfl
theorem c20 : DecOK (Env.ofS Try.prog l27 (m20 (Env.of Try.prog))) [2] 20000 (d20 (Env.of Try.prog)) t20 := fun i pt h => match i, h with
  | 0, _ => ⟨_, c20p0⟩
  | 1, _ => ⟨_, c20p1⟩
  | i + 2, h => nomatch (show none = some pt from h)
def m21 (E : Env) : List Sm := (d20 E).smL a20 (p20 E) 0 (d20 E).shs ++ m20 E

/- 21: phrasebook/convert.convert -/
def a21 : List AV := [(.agg [(.ss (.var 0)), (.dat 75 (.var 1)), (.dat 69 (.var 2)), (.dat 64 (.var 3))]), (.agg [(.ss (.var 4)), (.dat 75 (.var 5)), (.dat 69 (.var 6)), (.dat 64 (.var 7))]), (.agg [(.dat 73 (.var 8)), (.dat 77 (.var 9))]), (.agg [(.si .i64 (.var 10)), (.si .i64 (.var 11)), (.si .i64 (.var 12)), (.si .i64 (.var 13)), (.si .i64 (.var 14))])]
def p21 (E : Env) : Pt := entryPt E 35 15 a21 [] []
def d21 (E : Env) : Dec :=
  { g := 21, f := 35, p := 0, pts := [p21 E,
    loopPt E 35 76 6 20 [(4, (.ptr 0 0)), (5, (.ptr 1 0)), (7, (.ptr 2 0)), (8, (.ptr 3 0)), (33, (.dat 77 (.var 0))), (34, (.si .i64 (.lenL (.var 0)))), (35, (.si .i64 (.var 1)))] [some (.cells 4 (tmpsOf [(0, (.ss (.var 2))), (1, (.dat 75 (.var 3))), (2, (.dat 69 (.var 4))), (3, (.dat 64 (.var 5)))])), some (.cells 4 (tmpsOf [(0, (.ss (.var 6))), (1, (.dat 75 (.var 7))), (2, (.dat 69 (.var 8))), (3, (.dat 64 (.var 9)))])), some (.cells 5 (tmpsOf [(0, (.si .i64 (.var 10))), (1, (.si .i64 (.var 11))), (2, (.si .i64 (.var 12))), (3, (.si .i64 (.var 13))), (4, (.si .i64 (.var 14)))])), some (.cells 5 (tmpsOf [(0, (.si .i64 (.var 15))), (1, (.si .i64 (.var 16))), (2, (.si .i64 (.var 17))), (3, (.si .i64 (.var 18))), (4, (.si .i64 (.var 19)))]))] [] []],
    shs := [{ m := 6, res := (.tuple [(.agg [(.si .i64 (.var 0)), (.si .i64 (.var 1)), (.si .i64 (.var 2)), (.si .i64 (.var 3)), (.si .i64 (.var 4))]), (.si .i64 (.var 5))]), post := [], keep := [] }] }
theorem c21p0 : decPt (Env.ofS Try.prog l27 (m21 (Env.of Try.prog))) [6] 20000 (d21 (Env.of Try.prog)) t21 0 = some (jl (d21 (Env.of Try.prog)) [1]) := by kernel_rfl
theorem c21p1 : decPt (Env.ofS Try.prog l27 (m21 (Env.of Try.prog))) [6] 20000 (d21 (Env.of Try.prog)) t21 1 = some (jl (d21 (Env.of Try.prog)) [1, 1, 1, 1, 1, 1, 1, 1, 1, 1, 1, 1, 1, 1, 1, 1, 1, 1, 1, 1]) := by kernel_rfl
theorem c21 : DecOK (Env.ofS Try.prog l27 (m21 (Env.of Try.prog))) [6] 20000 (d21 (Env.of Try.prog)) t21 := fun i pt h => match i, h with
  | 0, _ => ⟨_, c21p0⟩
  | 1, _ => ⟨_, c21p1⟩
  | i + 2, h => nomatch (show none = some pt from h)
def m22 (E : Env) : List Sm := (d21 E).smL a21 (p21 E) 0 (d21 E).shs ++ m21 E

/- 22: phrasebook/phrasebookref48.Is -/
def a22 : List AV := [(.agg [(.ss (.var 0)), (.dat 75 (.var 1)), (.dat 69 (.var 2)), (.dat 64 (.var 3))]), (.agg [(.ss (.var 4)), (.dat 3 (.var 5))])]
def p22 (E : Env) : Pt := entryPt E 14 6 a22 [] []
def d22 (E : Env) : Dec :=
  { g := 22, f := 14, p := 0, pts := [p22 E,
    loopPt E 14 47 4 7 [(2, (.ptr 0 0)), (3, (.ptr 1 0)), (5, (.si .i64 (.var 0)))] [some (.cells 4 (tmpsOf [(0, (.ss (.var 1))), (1, (.dat 75 (.var 2))), (2, (.dat 69 (.var 3))), (3, (.dat 64 (.var 4)))])), some (.cells 2 (tmpsOf [(0, (.ss (.var 5))), (1, (.dat 3 (.var 6)))]))] [] []],
    shs := [{ m := 1, res := (.sb true (.var 0)), post := [], keep := [] }] }
theorem c22p0 : decPt (Env.ofS Try.prog l27 (m22 (Env.of Try.prog))) [4] 20000 (d22 (Env.of Try.prog)) t22 0 = some (jl (d22 (Env.of Try.prog)) [1]) := by kernel_rfl
theorem c22p1 : decPt (Env.ofS Try.prog l27 (m22 (Env.of Try.prog))) [4] 20000 (d22 (Env.of Try.prog)) t22 1 = some (jl (d22 (Env.of Try.prog)) [1]) := by kernel_rfl
theorem c22 : DecOK (Env.ofS Try.prog l27 (m22 (Env.of Try.prog))) [4] 20000 (d22 (Env.of Try.prog)) t22 := fun i pt h => match i, h with
  | 0, _ => ⟨_, c22p0⟩
  | 1, _ => ⟨_, c22p1⟩
  | i + 2, h => nomatch (show none = some pt from h)
def m23 (E : Env) : List Sm := (d22 E).smL a22 (p22 E) 0 (d22 E).shs ++ m22 E

/- 23: phrasebook/phrasebookref48.Is -/
def a23 : List AV := [(.agg [(.ss (.var 0)), (.dat 75 (.var 1)), (.dat 69 (.var 2)), (.dat 64 (.var 3))]), (.agg [(.ss (.var 4)), (.asl 0 1 (.lenL (.var 5)) (.var 6))])]
def p23 (E : Env) : Pt := entryPt E 14 7 a23 [some (.arr 3 (.var 5))] []
def d23 (E : Env) : Dec :=
  { g := 23, f := 14, p := 1, pts := [p23 E,
    loopPt E 14 47 4 8 [(2, (.ptr 1 0)), (3, (.ptr 2 0)), (5, (.si .i64 (.var 0)))] [some (.arr 3 (.var 1)), some (.cells 4 (tmpsOf [(0, (.ss (.var 2))), (1, (.dat 75 (.var 3))), (2, (.dat 69 (.var 4))), (3, (.dat 64 (.var 5)))])), some (.cells 2 (tmpsOf [(0, (.ss (.var 6))), (1, (.asl 0 1 (.lenL (.var 1)) (.var 7)))]))] [] []],
    shs := [{ m := 1, res := (.sb true (.var 0)), post := [none], keep := [0] }] }
theorem c23p0 : decPt (Env.ofS Try.prog l27 (m23 (Env.of Try.prog))) [4] 20000 (d23 (Env.of Try.prog)) t23 0 = some (jl (d23 (Env.of Try.prog)) [1]) := by kernel_rfl
theorem c23p1 : decPt (Env.ofS Try.prog l27 (m23 (Env.of Try.prog))) [4] 20000 (d23 (Env.of Try.prog)) t23 1 = some (jl (d23 (Env.of Try.prog)) [1]) := by kernel_rfl
theorem c23 : DecOK (Env.ofS Try.prog l27 (m23 (Env.of Try.prog))) [4] 20000 (d23 (Env.of Try.prog)) t23 := fun i pt h => match i, h with
  | 0, _ => ⟨_, c23p0⟩
  | 1, _ => ⟨_, c23p1⟩
  | i + 2, h => nomatch (show none = some pt from h)
def m24 (E : Env) : List Sm := (d23 E).smL a23 (p23 E) 0 (d23 E).shs ++ m23 E

/- 24: phrasebook/phrasebookref48.Apply -/
def a24 : List AV := [(.agg [(.ss (.var 0)), (.dat 75 (.var 1)), (.dat 69 (.var 2)), (.dat 64 (.var 3))]), (.agg [(.ss (.var 4)), (.dat 75 (.var 5)), (.dat 69 (.var 6)), (.dat 64 (.var 7))]), (.agg [(.dat 73 (.var 8)), (.dat 77 (.var 9))]), (.agg [(.ss (.var 10)), (.dat 3 (.var 11))])]
def p24 (E : Env) : Pt := entryPt E 15 12 a24 [] []
def d24 (E : Env) : Dec :=
  { g := 24, f := 15, p := 0, pts := [p24 E,
    loopPt E 15 95 4 16 [(4, (.ptr 0 0)), (5, (.ptr 1 0)), (6, (.ptr 2 0)), (7, (.ptr 3 0)), (8, (.ptr 4 0)), (10, (.ptr 5 0)), (11, (.sb true (.var 0))), (12, (.si .i64 (.var 1)))] [some (.cells 4 (tmpsOf [(0, (.ss (.var 2))), (1, (.dat 75 (.var 3))), (2, (.dat 69 (.var 4))), (3, (.dat 64 (.var 5)))])), some (.cells 4 (tmpsOf [(0, (.ss (.var 6))), (1, (.dat 75 (.var 7))), (2, (.dat 69 (.var 8))), (3, (.dat 64 (.var 9)))])), some (.cells 2 (tmpsOf [(0, (.dat 73 (.var 10))), (1, (.dat 77 (.var 11)))])), some (.cells 2 (tmpsOf [(0, (.ss (.var 12))), (1, (.dat 3 (.var 13)))])), some (.cells 2 (tmpsOf [(0, (.str 0 0)), (1, .slice0)])), some (.cells 2 (tmpsOf [(0, (.ss (.var 14))), (1, (.asl 6 1 (.lenL (.var 15)) (.bc false)))])), some (.arr 3 (.var 15))] [] [],
    loopPt E 15 95 11 15 [(4, (.ptr 0 0)), (5, (.ptr 1 0)), (6, (.ptr 2 0)), (7, (.ptr 3 0)), (8, (.ptr 4 0)), (10, (.ptr 5 0)), (13, (.si .i64 (.var 0)))] [some (.cells 4 (tmpsOf [(0, (.ss (.var 1))), (1, (.dat 75 (.var 2))), (2, (.dat 69 (.var 3))), (3, (.dat 64 (.var 4)))])), some (.cells 4 (tmpsOf [(0, (.ss (.var 5))), (1, (.dat 75 (.var 6))), (2, (.dat 69 (.var 7))), (3, (.dat 64 (.var 8)))])), some (.cells 2 (tmpsOf [(0, (.dat 73 (.var 9))), (1, (.dat 77 (.var 10)))])), some (.cells 2 (tmpsOf [(0, (.ss (.var 11))), (1, (.dat 3 (.var 12)))])), some (.cells 2 (tmpsOf [(0, (.str 0 0)), (1, .slice0)])), some (.cells 2 (tmpsOf [(0, (.ss (.var 13))), (1, (.asl 6 1 (.lenL (.var 14)) (.bc false)))])), some (.arr 3 (.var 14))] [] []],
    shs := [{ m := 4, res := (.tuple [(.agg [(.ss (.var 0)), (.asl 0 1 (.lenL (.var 1)) (.var 2))]), (.si .i64 (.var 3))]), post := [some (.arr 3 (.var 1))], keep := [] }] }
theorem c24p0 : decPt (Env.ofS Try.prog l27 (m24 (Env.of Try.prog))) [4, 11] 20000 (d24 (Env.of Try.prog)) t24 0 = some (jl (d24 (Env.of Try.prog)) [1]) := by kernel_rfl
theorem c24p1 : decPt (Env.ofS Try.prog l27 (m24 (Env.of Try.prog))) [4, 11] 20000 (d24 (Env.of Try.prog)) t24 1 = some (jl (d24 (Env.of Try.prog)) [1, 1, 2]) := by kernel_rfl
theorem c24p2 : decPt (Env.ofS Try.prog l27 (m24 (Env.of Try.prog))) [4, 11] 20000 (d24 (Env.of Try.prog)) t24 2 = some (jl (d24 (Env.of Try.prog)) [2, 2]) := by kernel_rfl
theorem c24 : DecOK (Env.ofS Try.prog l27 (m24 (Env.of Try.prog))) [4, 11] 20000 (d24 (Env.of Try.prog)) t24 := fun i pt h => match i, h with
  | 0, _ => ⟨_, c24p0⟩
  | 1, _ => ⟨_, c24p1⟩
  | 2, _ => ⟨_, c24p2⟩
  | i + 3, h => nomatch (show none = some pt from h)
def m25 (E : Env) : List Sm := (d24 E).smL a24 (p24 E) 0 (d24 E).shs ++ m24 E

/- 25: phrasebook/phrasebookref48.Same -/
def a25 : List AV := [(.agg [(.ss (.var 0)), (.asl 0 1 (.lenL (.var 1)) (.var 2))]), (.agg [(.ss (.var 3)), (.asl 1 1 (.lenL (.var 4)) (.var 5))])]
def p25 (E : Env) : Pt := entryPt E 13 6 a25 [some (.arr 3 (.var 1)), some (.arr 3 (.var 4))] []
def d25 (E : Env) : Dec :=
  { g := 25, f := 13, p := 2, pts := [p25 E,
    loopPt E 13 38 4 7 [(2, (.ptr 2 0)), (3, (.ptr 3 0)), (5, (.si .i64 (.var 0)))] [some (.arr 3 (.var 1)), some (.arr 3 (.var 2)), some (.cells 2 (tmpsOf [(0, (.ss (.var 3))), (1, (.asl 0 1 (.lenL (.var 1)) (.var 4)))])), some (.cells 2 (tmpsOf [(0, (.ss (.var 5))), (1, (.asl 1 1 (.lenL (.var 2)) (.var 6)))]))] [] []],
    shs := [{ m := 1, res := (.sb true (.var 0)), post := [none, none], keep := [0, 1] }] }
theorem c25p0 : decPt (Env.ofS Try.prog l27 (m25 (Env.of Try.prog))) [4] 20000 (d25 (Env.of Try.prog)) t25 0 = some (jl (d25 (Env.of Try.prog)) [1]) := by kernel_rfl
theorem c25p1 : decPt (Env.ofS Try.prog l27 (m25 (Env.of Try.prog))) [4] 20000 (d25 (Env.of Try.prog)) t25 1 = some (jl (d25 (Env.of Try.prog)) [1]) := by kernel_rfl
theorem c25 : DecOK (Env.ofS Try.prog l27 (m25 (Env.of Try.prog))) [4] 20000 (d25 (Env.of Try.prog)) t25 := fun i pt h => match i, h with
  | 0, _ => ⟨_, c25p0⟩
  | 1, _ => ⟨_, c25p1⟩
  | i + 2, h => nomatch (show none = some pt from h)
def m26 (E : Env) : List Sm := (d25 E).smL a25 (p25 E) 0 (d25 E).shs ++ m25 E

/- 26: phrasebook/phrasebooklaw48.ConvertChecks -/
def p26 (E : Env) : Pt := lawPt E 3 [26, 26, 30, 33]
def d26 (E : Env) : Dec :=
  { g := 26, f := 3, p := 0, pts := [p26 E],
    shs := [lawSh] }
theorem c26p0 : decPt (Env.ofS Try.prog l27 (m26 (Env.of Try.prog))) [] 20000 (d26 (Env.of Try.prog)) t26 0 = some (jl (d26 (Env.of Try.prog)) []) := by kernel_rfl
theorem c26 : DecOK (Env.ofS Try.prog l27 (m26 (Env.of Try.prog))) [] 20000 (d26 (Env.of Try.prog)) t26 := fun i pt h => match i, h with
  | 0, _ => ⟨_, c26p0⟩
  | i + 1, h => nomatch (show none = some pt from h)

end Go.Proofs.Ytpcdkfgmpekeeaa.convertChecks
