/- What is proved: that the functions which the law CounterReaches reaches are the plain functions over data whose trees of tests the text before writes out (the kernel runs the evaluator over each place). Conditions: the program is the given one. -/
import Derived.Test.YthhmhljmamjgnaaProg
import Derived.KernelRfl
import Derived.Test.YthhmhljmamjgnaaCounterReachesTree
set_option linter.unusedVariables false
namespace Go.Proofs.Ythhmhljmamjgnaa.counterReaches
open Go.AE Go.CR
def m0 (E : Env) : List Sm := []

/- 0: phrasebook/phrasebooklaw30.known -/
def a0 : List AV := []
def p0 (E : Env) : Pt := entryPt E 9 0 a0 [] []
def d0 (E : Env) : Dec :=
  { g := 0, f := 9, p := 0, pts := [p0 E],
    shs := [{ m := 0, res := (.bool true), post := [], keep := [] }] }
theorem c0p0 : decPt (Env.ofS Try.prog [] (m0 (Env.of Try.prog))) [] 20000 (d0 (Env.of Try.prog)) t0 0 = some (jl (d0 (Env.of Try.prog)) []) := by kernel_rfl
theorem c0 : DecOK (Env.ofS Try.prog [] (m0 (Env.of Try.prog))) [] 20000 (d0 (Env.of Try.prog)) t0 := fun i pt h => match i, h with
  | 0, _ => ⟨_, c0p0⟩
  | i + 1, h => nomatch (show none = some pt from h)
def m1 (E : Env) : List Sm := (d0 E).smL a0 (p0 E) 0 (d0 E).shs ++ m0 E

/- 1: slices.IndexFunc[[]phrasebook/api.Step,phrasebook/api.Step] -/
def a1 : List AV := [(.dat 55 (.var 0)), (.func (.func 43) [] [])]
def p1 (E : Env) : Pt := entryPt E 45 1 a1 [] []
def d1 (E : Env) : Dec :=
  { g := 1, f := 45, p := 0, pts := [p1 E,
    loopPt E 45 19 2 2 [(0, (.dat 55 (.var 0))), (1, (.func (.func 43) [] [])), (7, (.si .i64 (.lenL (.var 0)))), (8, (.si .i64 (.var 1)))] [] [] []],
    shs := [{ m := 1, res := (.si .i64 (.var 0)), post := [], keep := [] }] }
theorem c1p0 : decPt (Env.ofS Try.prog [] (m1 (Env.of Try.prog))) [2] 20000 (d1 (Env.of Try.prog)) t1 0 = some (jl (d1 (Env.of Try.prog)) [1]) := by kernel_rfl
theorem c1p1 : decPt (Env.ofS Try.prog [] (m1 (Env.of Try.prog))) [2] 20000 (d1 (Env.of Try.prog)) t1 1 = some (jl (d1 (Env.of Try.prog)) [1]) := by kernel_rfl
theorem c1 : DecOK (Env.ofS Try.prog [] (m1 (Env.of Try.prog))) [2] 20000 (d1 (Env.of Try.prog)) t1 := fun i pt h => match i, h with
  | 0, _ => ⟨_, c1p0⟩
  | 1, _ => ⟨_, c1p1⟩
  | i + 2, h => nomatch (show none = some pt from h)
def m2 (E : Env) : List Sm := (d1 E).smL a1 (p1 E) 0 (d1 E).shs ++ m1 E

/- 2: phrasebook/counter.search -/
def a2 : List AV := [(.si .i64 (.var 0)), (.dat 55 (.var 1))]
def p2 (E : Env) : Pt := entryPt E 33 2 a2 [] []
def d2 (E : Env) : Dec :=
  { g := 2, f := 33, p := 0, pts := [p2 E,
    loopPt E 33 92 6 6 [(0, (.si .i64 (.var 0))), (1, (.dat 55 (.var 1))), (7, (.asl 0 1 (.lenL (.var 2)) (.bc false))), (8, (.asl 1 1 (.lenL (.var 3)) (.bc false))), (9, (.asl 2 1 (.lenL (.var 4)) (.var 5)))] [some (.arr 23 (.var 2)), some (.arr 4 (.var 3)), some (.arr 3 (.var 4))] [] [],
    loopPt E 33 92 9 10 [(0, (.si .i64 (.var 0))), (1, (.dat 55 (.var 1))), (7, (.asl 0 1 (.lenL (.var 2)) (.bc false))), (8, (.asl 1 1 (.lenL (.var 3)) (.bc false))), (10, (.asl 3 1 (.lenL (.var 4)) (.var 5))), (38, (.asl 2 1 (.lenL (.var 6)) (.var 7))), (39, (.si .i64 (.var 8))), (40, (.si .i64 (.var 9)))] [some (.arr 23 (.var 2)), some (.arr 4 (.var 3)), some (.arr 3 (.var 6)), some (.arr 3 (.var 4))] [] [],
    loopPt E 33 92 12 12 [(0, (.si .i64 (.var 0))), (1, (.dat 55 (.var 1))), (7, (.asl 0 1 (.lenL (.var 2)) (.bc false))), (8, (.asl 1 1 (.lenL (.var 3)) (.bc false))), (10, (.asl 3 1 (.lenL (.var 4)) (.var 5))), (12, (.si .i64 (.var 6))), (38, (.asl 2 1 (.lenL (.var 7)) (.var 8))), (39, (.si .i64 (.var 9))), (40, (.si .i64 (.var 10))), (44, (.dat 55 (.var 1))), (45, (.si .i64 (.lenL (.var 1)))), (46, (.si .i64 (.var 11)))] [some (.arr 23 (.var 2)), some (.arr 4 (.var 3)), some (.arr 3 (.var 7)), some (.arr 3 (.var 4))] [] []],
    shs := [{ m := 5, res := (.tuple [(.asl 0 1 (.lenL (.var 0)) (.var 1)), (.asl 1 1 (.lenL (.var 2)) (.var 3)), (.si .i64 (.var 4))]), post := [some (.arr 23 (.var 0)), some (.arr 4 (.var 2))], keep := [] }] }
theorem c2p0 : decPt (Env.ofS Try.prog [] (m2 (Env.of Try.prog))) [6, 9, 12] 20000 (d2 (Env.of Try.prog)) t2 0 = some (jl (d2 (Env.of Try.prog)) [1]) := by kernel_rfl
theorem c2p1 : decPt (Env.ofS Try.prog [] (m2 (Env.of Try.prog))) [6, 9, 12] 20000 (d2 (Env.of Try.prog)) t2 1 = some (jl (d2 (Env.of Try.prog)) [2]) := by kernel_rfl
theorem c2p2 : decPt (Env.ofS Try.prog [] (m2 (Env.of Try.prog))) [6, 9, 12] 20000 (d2 (Env.of Try.prog)) t2 2 = some (jl (d2 (Env.of Try.prog)) [3, 1]) := by kernel_rfl
theorem c2p3 : decPt (Env.ofS Try.prog [] (m2 (Env.of Try.prog))) [6, 9, 12] 20000 (d2 (Env.of Try.prog)) t2 3 = some (jl (d2 (Env.of Try.prog)) [3, 3, 3, 3, 3, 3, 3, 2]) := by kernel_rfl
theorem c2 : DecOK (Env.ofS Try.prog [] (m2 (Env.of Try.prog))) [6, 9, 12] 20000 (d2 (Env.of Try.prog)) t2 := fun i pt h => match i, h with
  | 0, _ => ⟨_, c2p0⟩
  | 1, _ => ⟨_, c2p1⟩
  | 2, _ => ⟨_, c2p2⟩
  | 3, _ => ⟨_, c2p3⟩
  | i + 4, h => nomatch (show none = some pt from h)
def m3 (E : Env) : List Sm := (d2 E).smL a2 (p2 E) 0 (d2 E).shs ++ m2 E

/- 3: phrasebook/counter.Reach -/
def a3 : List AV := [(.si .i64 (.var 0)), (.dat 55 (.var 1))]
def p3 (E : Env) : Pt := entryPt E 16 2 a3 [] []
def d3 (E : Env) : Dec :=
  { g := 3, f := 16, p := 0, pts := [p3 E,
    loopPt E 16 32 3 7 [(4, (.asl 1 1 (.lenL (.var 0)) (.var 1))), (5, (.si .i64 (.var 2))), (17, (.asl 0 1 (.lenL (.var 3)) (.var 4))), (18, (.si .i64 (.var 5))), (19, (.si .i64 (.var 6)))] [some (.arr 4 (.var 3)), some (.arr 3 (.var 0))] [] []],
    shs := [{ m := 3, res := (.tuple [(.asl 0 1 (.lenL (.var 0)) (.var 1)), (.si .i64 (.var 2))]), post := [some (.arr 3 (.var 0))], keep := [] }] }
theorem c3p0 : decPt (Env.ofS Try.prog [] (m3 (Env.of Try.prog))) [3] 20000 (d3 (Env.of Try.prog)) t3 0 = some (jl (d3 (Env.of Try.prog)) [1]) := by kernel_rfl
theorem c3p1 : decPt (Env.ofS Try.prog [] (m3 (Env.of Try.prog))) [3] 20000 (d3 (Env.of Try.prog)) t3 1 = some (jl (d3 (Env.of Try.prog)) [1, 1]) := by kernel_rfl
theorem c3 : DecOK (Env.ofS Try.prog [] (m3 (Env.of Try.prog))) [3] 20000 (d3 (Env.of Try.prog)) t3 := fun i pt h => match i, h with
  | 0, _ => ⟨_, c3p0⟩
  | 1, _ => ⟨_, c3p1⟩
  | i + 2, h => nomatch (show none = some pt from h)
def m4 (E : Env) : List Sm := (d3 E).smL a3 (p3 E) 0 (d3 E).shs ++ m3 E

/- 4: phrasebook/phrasebookref30.valid -/
def a4 : List AV := [(.si .i64 (.var 0)), (.dat 55 (.var 1))]
def p4 (E : Env) : Pt := entryPt E 34 2 a4 [] []
def d4 (E : Env) : Dec :=
  { g := 4, f := 34, p := 0, pts := [p4 E,
    loopPt E 34 32 2 3 [(0, (.si .i64 (.var 0))), (1, (.dat 55 (.var 1))), (5, (.si .i64 (.var 2)))] [] [] []],
    shs := [{ m := 1, res := (.sb true (.var 0)), post := [], keep := [] }] }
theorem c4p0 : decPt (Env.ofS Try.prog [] (m4 (Env.of Try.prog))) [2] 20000 (d4 (Env.of Try.prog)) t4 0 = some (jl (d4 (Env.of Try.prog)) [1]) := by kernel_rfl
theorem c4p1 : decPt (Env.ofS Try.prog [] (m4 (Env.of Try.prog))) [2] 20000 (d4 (Env.of Try.prog)) t4 1 = some (jl (d4 (Env.of Try.prog)) [1]) := by kernel_rfl
theorem c4 : DecOK (Env.ofS Try.prog [] (m4 (Env.of Try.prog))) [2] 20000 (d4 (Env.of Try.prog)) t4 := fun i pt h => match i, h with
  | 0, _ => ⟨_, c4p0⟩
  | 1, _ => ⟨_, c4p1⟩
  | i + 2, h => nomatch (show none = some pt from h)
def m5 (E : Env) : List Sm := (d4 E).smL a4 (p4 E) 0 (d4 E).shs ++ m4 E

/- 5: phrasebook/phrasebookref30.distances -/
def a5 : List AV := [(.si .i64 (.var 0)), (.dat 55 (.var 1))]
def p5 (E : Env) : Pt := entryPt E 35 2 a5 [] []
def d5 (E : Env) : Dec :=
  { g := 5, f := 35, p := 0, pts := [p5 E,
    loopPt E 35 67 3 4 [(0, (.si .i64 (.var 0))), (1, (.dat 55 (.var 1))), (5, (.asl 0 1 (.lenL (.var 2)) (.bc false))), (6, (.si .i64 (.var 3)))] [some (.arr 3 (.var 2))] [] [],
    loopPt E 35 67 7 5 [(0, (.si .i64 (.var 0))), (1, (.dat 55 (.var 1))), (5, (.asl 0 1 (.lenL (.var 2)) (.bc false))), (7, (.si .i64 (.var 3))), (8, (.sb true (.var 4)))] [some (.arr 3 (.var 2))] [] [],
    loopPt E 35 67 11 6 [(0, (.si .i64 (.var 0))), (1, (.dat 55 (.var 1))), (5, (.asl 0 1 (.lenL (.var 2)) (.bc false))), (7, (.si .i64 (.var 3))), (8, (.sb true (.var 4))), (9, (.si .i64 (.var 5)))] [some (.arr 3 (.var 2))] [] [],
    loopPt E 35 67 14 7 [(0, (.si .i64 (.var 0))), (1, (.dat 55 (.var 1))), (5, (.asl 0 1 (.lenL (.var 2)) (.bc false))), (7, (.si .i64 (.var 3))), (8, (.sb true (.var 4))), (9, (.si .i64 (.var 5))), (10, (.si .i64 (.var 6)))] [some (.arr 3 (.var 2))] [] []],
    shs := [{ m := 1, res := (.asl 0 1 (.lenL (.var 0)) (.bc false)), post := [some (.arr 3 (.var 0))], keep := [] }] }
theorem c5p0 : decPt (Env.ofS Try.prog [] (m5 (Env.of Try.prog))) [3, 7, 11, 14] 20000 (d5 (Env.of Try.prog)) t5 0 = some (jl (d5 (Env.of Try.prog)) [1]) := by kernel_rfl
theorem c5p1 : decPt (Env.ofS Try.prog [] (m5 (Env.of Try.prog))) [3, 7, 11, 14] 20000 (d5 (Env.of Try.prog)) t5 1 = some (jl (d5 (Env.of Try.prog)) [2, 1]) := by kernel_rfl
theorem c5p2 : decPt (Env.ofS Try.prog [] (m5 (Env.of Try.prog))) [3, 7, 11, 14] 20000 (d5 (Env.of Try.prog)) t5 2 = some (jl (d5 (Env.of Try.prog)) [3]) := by kernel_rfl
theorem c5p3 : decPt (Env.ofS Try.prog [] (m5 (Env.of Try.prog))) [3, 7, 11, 14] 20000 (d5 (Env.of Try.prog)) t5 3 = some (jl (d5 (Env.of Try.prog)) [2, 4]) := by kernel_rfl
theorem c5p4 : decPt (Env.ofS Try.prog [] (m5 (Env.of Try.prog))) [3, 7, 11, 14] 20000 (d5 (Env.of Try.prog)) t5 4 = some (jl (d5 (Env.of Try.prog)) [4, 4, 4, 4, 4, 4, 4, 4, 3, 3]) := by kernel_rfl
theorem c5 : DecOK (Env.ofS Try.prog [] (m5 (Env.of Try.prog))) [3, 7, 11, 14] 20000 (d5 (Env.of Try.prog)) t5 := fun i pt h => match i, h with
  | 0, _ => ⟨_, c5p0⟩
  | 1, _ => ⟨_, c5p1⟩
  | 2, _ => ⟨_, c5p2⟩
  | 3, _ => ⟨_, c5p3⟩
  | 4, _ => ⟨_, c5p4⟩
  | i + 5, h => nomatch (show none = some pt from h)
def m6 (E : Env) : List Sm := (d5 E).smL a5 (p5 E) 0 (d5 E).shs ++ m5 E

/- 6: phrasebook/phrasebookref30.Reach -/
def a6 : List AV := [(.si .i64 (.var 0)), (.dat 55 (.var 1))]
def p6 (E : Env) : Pt := entryPt E 17 2 a6 [] []
def d6 (E : Env) : Dec :=
  { g := 6, f := 17, p := 0, pts := [p6 E,
    loopPt E 17 31 6 5 [(0, (.si .i64 (.var 0))), (6, (.asl 0 1 (.lenL (.var 1)) (.bc false))), (7, (.asl 1 1 (.lenL (.var 2)) (.var 3))), (8, (.si .i64 (.var 4)))] [some (.arr 3 (.var 1)), some (.arr 3 (.var 2))] [] []],
    shs := [{ m := 3, res := (.tuple [(.asl 0 1 (.lenL (.var 0)) (.var 1)), (.si .i64 (.var 2))]), post := [some (.arr 3 (.var 0))], keep := [] }] }
theorem c6p0 : decPt (Env.ofS Try.prog [] (m6 (Env.of Try.prog))) [6] 20000 (d6 (Env.of Try.prog)) t6 0 = some (jl (d6 (Env.of Try.prog)) [1]) := by kernel_rfl
theorem c6p1 : decPt (Env.ofS Try.prog [] (m6 (Env.of Try.prog))) [6] 20000 (d6 (Env.of Try.prog)) t6 1 = some (jl (d6 (Env.of Try.prog)) [1, 1]) := by kernel_rfl
theorem c6 : DecOK (Env.ofS Try.prog [] (m6 (Env.of Try.prog))) [6] 20000 (d6 (Env.of Try.prog)) t6 := fun i pt h => match i, h with
  | 0, _ => ⟨_, c6p0⟩
  | 1, _ => ⟨_, c6p1⟩
  | i + 2, h => nomatch (show none = some pt from h)
def m7 (E : Env) : List Sm := (d6 E).smL a6 (p6 E) 0 (d6 E).shs ++ m6 E

/- 7: phrasebook/phrasebookref30.leads -/
def a7 : List AV := [(.si .i64 (.var 0)), (.dat 55 (.var 1)), (.si .i64 (.var 2)), (.si .i64 (.var 3))]
def p7 (E : Env) : Pt := entryPt E 36 4 a7 [] []
def d7 (E : Env) : Dec :=
  { g := 7, f := 36, p := 0, pts := [p7 E,
    loopPt E 36 76 4 6 [(0, (.si .i64 (.var 0))), (1, (.dat 55 (.var 1))), (3, (.si .i64 (.var 2))), (9, (.asl 0 1 (.lenL (.var 3)) (.bc false))), (10, (.si .i64 (.var 4)))] [some (.arr 83 (.var 3)), some (.arr 4 (.var 5))] [] [],
    loopPt E 36 76 8 9 [(0, (.si .i64 (.var 0))), (1, (.dat 55 (.var 1))), (3, (.si .i64 (.var 2))), (9, (.asl 0 1 (.lenL (.var 3)) (.var 4))), (10, (.si .i64 (.var 5))), (11, (.asl 1 1 (.lenL (.var 6)) (.bc false))), (12, (.si .i64 (.var 7)))] [some (.arr 83 (.var 3)), some (.arr 4 (.var 6)), some (.arr 4 (.var 8))] [] [],
    loopPt E 36 76 11 10 [(0, (.si .i64 (.var 0))), (1, (.dat 55 (.var 1))), (3, (.si .i64 (.var 2))), (9, (.asl 0 1 (.lenL (.var 3)) (.var 4))), (10, (.si .i64 (.var 5))), (11, (.asl 1 1 (.lenL (.var 6)) (.bc false))), (12, (.si .i64 (.var 7))), (13, (.si .i64 (.var 8)))] [some (.arr 83 (.var 3)), some (.arr 4 (.var 6)), some (.arr 4 (.var 9))] [] []],
    shs := [{ m := 1, res := (.asl 0 1 (.lenL (.var 0)) (.bc false)), post := [some (.arr 83 (.var 0))], keep := [] }] }
theorem c7p0 : decPt (Env.ofS Try.prog [] (m7 (Env.of Try.prog))) [4, 8, 11] 20000 (d7 (Env.of Try.prog)) t7 0 = some (jl (d7 (Env.of Try.prog)) [1]) := by kernel_rfl
theorem c7p1 : decPt (Env.ofS Try.prog [] (m7 (Env.of Try.prog))) [4, 8, 11] 20000 (d7 (Env.of Try.prog)) t7 1 = some (jl (d7 (Env.of Try.prog)) [2]) := by kernel_rfl
theorem c7p2 : decPt (Env.ofS Try.prog [] (m7 (Env.of Try.prog))) [4, 8, 11] 20000 (d7 (Env.of Try.prog)) t7 2 = some (jl (d7 (Env.of Try.prog)) [1, 3]) := by kernel_rfl
theorem c7p3 : decPt (Env.ofS Try.prog [] (m7 (Env.of Try.prog))) [4, 8, 11] 20000 (d7 (Env.of Try.prog)) t7 3 = some (jl (d7 (Env.of Try.prog)) [3, 3, 3, 3, 3, 3, 3, 3, 3, 3, 3, 3, 3, 3, 2]) := by kernel_rfl
theorem c7 : DecOK (Env.ofS Try.prog [] (m7 (Env.of Try.prog))) [4, 8, 11] 20000 (d7 (Env.of Try.prog)) t7 := fun i pt h => match i, h with
  | 0, _ => ⟨_, c7p0⟩
  | 1, _ => ⟨_, c7p1⟩
  | 2, _ => ⟨_, c7p2⟩
  | 3, _ => ⟨_, c7p3⟩
  | i + 4, h => nomatch (show none = some pt from h)
def m8 (E : Env) : List Sm := (d7 E).smL a7 (p7 E) 0 (d7 E).shs ++ m7 E

/- 8: phrasebook/phrasebookref30.Path -/
def a8 : List AV := [(.si .i64 (.var 0)), (.dat 55 (.var 1)), (.si .i64 (.var 2))]
def p8 (E : Env) : Pt := entryPt E 19 3 a8 [] []
def d8 (E : Env) : Dec :=
  { g := 8, f := 19, p := 0, pts := [p8 E,
    loopPt E 19 82 10 7 [(0, (.si .i64 (.var 0))), (1, (.dat 55 (.var 1))), (9, (.asl 0 1 (.lenL (.var 2)) (.bc false))), (10, (.asl 1 1 (.lenL (.var 3)) (.var 4))), (11, (.si .i64 (.var 5))), (12, (.si .i64 (.var 6)))] [some (.arr 83 (.var 2)), some (.arr 3 (.var 3))] [] [],
    loopPt E 19 82 13 8 [(0, (.si .i64 (.var 0))), (1, (.dat 55 (.var 1))), (9, (.asl 0 1 (.lenL (.var 2)) (.bc false))), (10, (.asl 1 1 (.lenL (.var 3)) (.var 4))), (11, (.si .i64 (.var 5))), (12, (.si .i64 (.var 6))), (13, (.si .i64 (.var 7)))] [some (.arr 83 (.var 2)), some (.arr 3 (.var 3))] [] []],
    shs := [{ m := 3, res := (.tuple [(.asl 0 1 (.lenL (.var 0)) (.var 1)), (.si .i64 (.var 2))]), post := [some (.arr 3 (.var 0))], keep := [] }] }
theorem c8p0 : decPt (Env.ofS Try.prog [] (m8 (Env.of Try.prog))) [10, 13] 20000 (d8 (Env.of Try.prog)) t8 0 = some (jl (d8 (Env.of Try.prog)) [1]) := by kernel_rfl
theorem c8p1 : decPt (Env.ofS Try.prog [] (m8 (Env.of Try.prog))) [10, 13] 20000 (d8 (Env.of Try.prog)) t8 1 = some (jl (d8 (Env.of Try.prog)) [2]) := by kernel_rfl
theorem c8p2 : decPt (Env.ofS Try.prog [] (m8 (Env.of Try.prog))) [10, 13] 20000 (d8 (Env.of Try.prog)) t8 2 = some (jl (d8 (Env.of Try.prog)) [2, 2, 2, 2, 2, 2, 1, 2, 1]) := by kernel_rfl
theorem c8 : DecOK (Env.ofS Try.prog [] (m8 (Env.of Try.prog))) [10, 13] 20000 (d8 (Env.of Try.prog)) t8 := fun i pt h => match i, h with
  | 0, _ => ⟨_, c8p0⟩
  | 1, _ => ⟨_, c8p1⟩
  | 2, _ => ⟨_, c8p2⟩
  | i + 3, h => nomatch (show none = some pt from h)
def m9 (E : Env) : List Sm := (d8 E).smL a8 (p8 E) 0 (d8 E).shs ++ m8 E

/- 9: phrasebook/phrasebooklaw30.same -/
def a9 : List AV := [(.asl 0 1 (.lenL (.var 0)) (.var 1)), (.asl 1 1 (.lenL (.var 2)) (.var 3))]
def p9 (E : Env) : Pt := entryPt E 20 4 a9 [some (.arr 3 (.var 0)), some (.arr 3 (.var 2))] []
def d9 (E : Env) : Dec :=
  { g := 9, f := 20, p := 2, pts := [p9 E,
    loopPt E 20 26 4 5 [(0, (.asl 0 1 (.lenL (.var 0)) (.var 1))), (1, (.asl 1 1 (.lenL (.var 2)) (.var 3))), (5, (.si .i64 (.var 4)))] [some (.arr 3 (.var 0)), some (.arr 3 (.var 2))] [] []],
    shs := [{ m := 1, res := (.sb true (.var 0)), post := [none, none], keep := [0, 1] }] }
theorem c9p0 : decPt (Env.ofS Try.prog [] (m9 (Env.of Try.prog))) [4] 20000 (d9 (Env.of Try.prog)) t9 0 = some (jl (d9 (Env.of Try.prog)) [1]) := by kernel_rfl
theorem c9p1 : decPt (Env.ofS Try.prog [] (m9 (Env.of Try.prog))) [4] 20000 (d9 (Env.of Try.prog)) t9 1 = some (jl (d9 (Env.of Try.prog)) [1]) := by kernel_rfl
theorem c9 : DecOK (Env.ofS Try.prog [] (m9 (Env.of Try.prog))) [4] 20000 (d9 (Env.of Try.prog)) t9 := fun i pt h => match i, h with
  | 0, _ => ⟨_, c9p0⟩
  | 1, _ => ⟨_, c9p1⟩
  | i + 2, h => nomatch (show none = some pt from h)
def m10 (E : Env) : List Sm := (d9 E).smL a9 (p9 E) 0 (d9 E).shs ++ m9 E

/- 10: phrasebook/phrasebooklaw30.same -/
def a10 : List AV := [(.dat 3 (.var 0)), (.asl 0 1 (.lenL (.var 1)) (.var 2))]
def p10 (E : Env) : Pt := entryPt E 20 3 a10 [some (.arr 3 (.var 1))] []
def d10 (E : Env) : Dec :=
  { g := 10, f := 20, p := 1, pts := [p10 E,
    loopPt E 20 26 4 4 [(0, (.dat 3 (.var 0))), (1, (.asl 0 1 (.lenL (.var 1)) (.var 2))), (5, (.si .i64 (.var 3)))] [some (.arr 3 (.var 1))] [] []],
    shs := [{ m := 1, res := (.sb true (.var 0)), post := [none], keep := [0] }] }
theorem c10p0 : decPt (Env.ofS Try.prog [] (m10 (Env.of Try.prog))) [4] 20000 (d10 (Env.of Try.prog)) t10 0 = some (jl (d10 (Env.of Try.prog)) [1]) := by kernel_rfl
theorem c10p1 : decPt (Env.ofS Try.prog [] (m10 (Env.of Try.prog))) [4] 20000 (d10 (Env.of Try.prog)) t10 1 = some (jl (d10 (Env.of Try.prog)) [1]) := by kernel_rfl
theorem c10 : DecOK (Env.ofS Try.prog [] (m10 (Env.of Try.prog))) [4] 20000 (d10 (Env.of Try.prog)) t10 := fun i pt h => match i, h with
  | 0, _ => ⟨_, c10p0⟩
  | 1, _ => ⟨_, c10p1⟩
  | i + 2, h => nomatch (show none = some pt from h)
def m11 (E : Env) : List Sm := (d10 E).smL a10 (p10 E) 0 (d10 E).shs ++ m10 E

/- 11: phrasebook/phrasebooklaw30.CounterReaches -/
def p11 (E : Env) : Pt := lawPt E 4 [3, 43, 3]
def d11 (E : Env) : Dec :=
  { g := 11, f := 4, p := 0, pts := [p11 E],
    shs := [lawSh] }
theorem c11p0 : decPt (Env.ofS Try.prog [] (m11 (Env.of Try.prog))) [] 20000 (d11 (Env.of Try.prog)) t11 0 = some (jl (d11 (Env.of Try.prog)) []) := by kernel_rfl
theorem c11 : DecOK (Env.ofS Try.prog [] (m11 (Env.of Try.prog))) [] 20000 (d11 (Env.of Try.prog)) t11 := fun i pt h => match i, h with
  | 0, _ => ⟨_, c11p0⟩
  | i + 1, h => nomatch (show none = some pt from h)

end Go.Proofs.Ythhmhljmamjgnaa.counterReaches
