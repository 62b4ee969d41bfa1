/- What is proved: that the functions which the law CounterHolds reaches are the plain functions over data whose trees of tests the text before writes out (the kernel runs the evaluator over each place). Conditions: the program is the given one. -/
import Derived.Test.YthhmhljmamjgnaaProg
import Derived.KernelRfl
import Derived.Test.YthhmhljmamjgnaaCounterHoldsTree
set_option linter.unusedVariables false
namespace Go.Proofs.Ythhmhljmamjgnaa.counterHolds
open Go.AE Go.CH
def m0 (E : Env) : List Sm := []

/- 0: phrasebook/phrasebooklaw30.known -/
def a0 : List AV := []
def p0 (E : Env) : Pt := entryPt E 9 0 a0 [] []
def d0 (E : Env) : Dec :=
  { g := 0, f := 9, p := 0, pts := [p0 E],
    shs := [{ m := 0, res := (.bool true), post := [], keep := [] }] }
theorem c0p0 : decPt (Env.ofS Try.prog [] (m0 (Env.of Try.prog))) [] 20000 (d0 (Env.of Try.prog)) t0 0 = some (jl (d0 (Env.of Try.prog)) []) := by kernel_rfl
theorem c0 : DecOK (Env.ofS Try.prog [] (m0 (Env.of Try.prog))) [] 20000 (d0 (Env.of Try.prog)) t0 := fun i pt h => match i, h with
  | 0, _ => ⟨_, c0p0⟩
  | i + 1, h => nomatch (show none = some pt from h)
def m1 (E : Env) : List Sm := (d0 E).smL a0 (p0 E) 0 (d0 E).shs ++ m0 E

/- 1: slices.IndexFunc[[]phrasebook/api.Step,phrasebook/api.Step] -/
def a1 : List AV := [(.asl 0 9 (.lenL (.var 0)) (.var 1)), (.func (.func 43) [] [])]
def p1 (E : Env) : Pt := entryPt E 45 2 a1 [some (.arr 55 (.var 0))] []
def d1 (E : Env) : Dec :=
  { g := 1, f := 45, p := 1, pts := [p1 E,
    loopPt E 45 19 2 3 [(0, (.asl 0 9 (.lenL (.var 0)) (.var 1))), (1, (.func (.func 43) [] [])), (7, (.si .i64 (.lenL (.var 0)))), (8, (.si .i64 (.var 2)))] [some (.arr 55 (.var 0))] [] []],
    shs := [{ m := 1, res := (.si .i64 (.var 0)), post := [none], keep := [0] }] }
theorem c1p0 : decPt (Env.ofS Try.prog [] (m1 (Env.of Try.prog))) [2] 20000 (d1 (Env.of Try.prog)) t1 0 = some (jl (d1 (Env.of Try.prog)) [1]) := by kernel_rfl
theorem c1p1 : decPt (Env.ofS Try.prog [] (m1 (Env.of Try.prog))) [2] 20000 (d1 (Env.of Try.prog)) t1 1 = some (jl (d1 (Env.of Try.prog)) [1]) := by kernel_rfl
theorem c1 : DecOK (Env.ofS Try.prog [] (m1 (Env.of Try.prog))) [2] 20000 (d1 (Env.of Try.prog)) t1 := fun i pt h => match i, h with
  | 0, _ => ⟨_, c1p0⟩
  | 1, _ => ⟨_, c1p1⟩
  | i + 2, h => nomatch (show none = some pt from h)
def m2 (E : Env) : List Sm := (d1 E).smL a1 (p1 E) 0 (d1 E).shs ++ m1 E

/- 2: phrasebook/counter.search -/
def a2 : List AV := [(.si .i64 (.var 0)), (.asl 0 9 (.lenL (.var 1)) (.var 2))]
def p2 (E : Env) : Pt := entryPt E 33 3 a2 [some (.arr 55 (.var 1))] []
def d2 (E : Env) : Dec :=
  { g := 2, f := 33, p := 1, pts := [p2 E,
    loopPt E 33 92 6 7 [(0, (.si .i64 (.var 0))), (1, (.asl 0 9 (.lenL (.var 1)) (.var 2))), (7, (.asl 1 1 (.lenL (.var 3)) (.bc false))), (8, (.asl 2 1 (.lenL (.var 4)) (.bc false))), (9, (.asl 3 1 (.lenL (.var 5)) (.var 6)))] [some (.arr 55 (.var 1)), some (.arr 23 (.var 3)), some (.arr 4 (.var 4)), some (.arr 3 (.var 5))] [] [],
    loopPt E 33 92 9 11 [(0, (.si .i64 (.var 0))), (1, (.asl 0 9 (.lenL (.var 1)) (.var 2))), (7, (.asl 1 1 (.lenL (.var 3)) (.bc false))), (8, (.asl 2 1 (.lenL (.var 4)) (.bc false))), (10, (.asl 4 1 (.lenL (.var 5)) (.var 6))), (38, (.asl 3 1 (.lenL (.var 7)) (.var 8))), (39, (.si .i64 (.var 9))), (40, (.si .i64 (.var 10)))] [some (.arr 55 (.var 1)), some (.arr 23 (.var 3)), some (.arr 4 (.var 4)), some (.arr 3 (.var 7)), some (.arr 3 (.var 5))] [] [],
    loopPt E 33 92 12 13 [(0, (.si .i64 (.var 0))), (1, (.asl 0 9 (.lenL (.var 1)) (.var 2))), (7, (.asl 1 1 (.lenL (.var 3)) (.bc false))), (8, (.asl 2 1 (.lenL (.var 4)) (.bc false))), (10, (.asl 4 1 (.lenL (.var 5)) (.var 6))), (12, (.si .i64 (.var 7))), (38, (.asl 3 1 (.lenL (.var 8)) (.var 9))), (39, (.si .i64 (.var 10))), (40, (.si .i64 (.var 11))), (44, (.asl 0 9 (.lenL (.var 1)) (.var 2))), (45, (.si .i64 (.lenL (.var 1)))), (46, (.si .i64 (.var 12)))] [some (.arr 55 (.var 1)), some (.arr 23 (.var 3)), some (.arr 4 (.var 4)), some (.arr 3 (.var 8)), some (.arr 3 (.var 5))] [] []],
    shs := [{ m := 5, res := (.tuple [(.asl 1 1 (.lenL (.var 0)) (.var 1)), (.asl 2 1 (.lenL (.var 2)) (.var 3)), (.si .i64 (.var 4))]), post := [none, some (.arr 23 (.var 0)), some (.arr 4 (.var 2))], keep := [0] }] }
theorem c2p0 : decPt (Env.ofS Try.prog [] (m2 (Env.of Try.prog))) [6, 9, 12] 20000 (d2 (Env.of Try.prog)) t2 0 = some (jl (d2 (Env.of Try.prog)) [1]) := by kernel_rfl
theorem c2p1 : decPt (Env.ofS Try.prog [] (m2 (Env.of Try.prog))) [6, 9, 12] 20000 (d2 (Env.of Try.prog)) t2 1 = some (jl (d2 (Env.of Try.prog)) [2]) := by kernel_rfl
theorem c2p2 : decPt (Env.ofS Try.prog [] (m2 (Env.of Try.prog))) [6, 9, 12] 20000 (d2 (Env.of Try.prog)) t2 2 = some (jl (d2 (Env.of Try.prog)) [3, 1]) := by kernel_rfl
theorem c2p3 : decPt (Env.ofS Try.prog [] (m2 (Env.of Try.prog))) [6, 9, 12] 20000 (d2 (Env.of Try.prog)) t2 3 = some (jl (d2 (Env.of Try.prog)) [3, 3, 3, 3, 3, 3, 3, 2]) := by kernel_rfl
theorem c2 : DecOK (Env.ofS Try.prog [] (m2 (Env.of Try.prog))) [6, 9, 12] 20000 (d2 (Env.of Try.prog)) t2 := fun i pt h => match i, h with
  | 0, _ => ⟨_, c2p0⟩
  | 1, _ => ⟨_, c2p1⟩
  | 2, _ => ⟨_, c2p2⟩
  | 3, _ => ⟨_, c2p3⟩
  | i + 4, h => nomatch (show none = some pt from h)
def m3 (E : Env) : List Sm := (d2 E).smL a2 (p2 E) 0 (d2 E).shs ++ m2 E

/- 3: phrasebook/counter.Reach -/
def a3 : List AV := [(.si .i64 (.var 0)), (.asl 0 9 (.lenL (.var 1)) (.var 2))]
def p3 (E : Env) : Pt := entryPt E 16 3 a3 [some (.arr 55 (.var 1))] []
def d3 (E : Env) : Dec :=
  { g := 3, f := 16, p := 1, pts := [p3 E,
    loopPt E 16 32 3 8 [(4, (.asl 2 1 (.lenL (.var 0)) (.var 1))), (5, (.si .i64 (.var 2))), (17, (.asl 1 1 (.lenL (.var 3)) (.var 4))), (18, (.si .i64 (.var 5))), (19, (.si .i64 (.var 6)))] [some (.arr 55 (.var 7)), some (.arr 4 (.var 3)), some (.arr 3 (.var 0))] [] []],
    shs := [{ m := 3, res := (.tuple [(.asl 1 1 (.lenL (.var 0)) (.var 1)), (.si .i64 (.var 2))]), post := [none, some (.arr 3 (.var 0))], keep := [0] }] }
theorem c3p0 : decPt (Env.ofS Try.prog [] (m3 (Env.of Try.prog))) [3] 20000 (d3 (Env.of Try.prog)) t3 0 = some (jl (d3 (Env.of Try.prog)) [1]) := by kernel_rfl
theorem c3p1 : decPt (Env.ofS Try.prog [] (m3 (Env.of Try.prog))) [3] 20000 (d3 (Env.of Try.prog)) t3 1 = some (jl (d3 (Env.of Try.prog)) [1, 1]) := by kernel_rfl
theorem c3 : DecOK (Env.ofS Try.prog [] (m3 (Env.of Try.prog))) [3] 20000 (d3 (Env.of Try.prog)) t3 := fun i pt h => match i, h with
  | 0, _ => ⟨_, c3p0⟩
  | 1, _ => ⟨_, c3p1⟩
  | i + 2, h => nomatch (show none = some pt from h)
def m4 (E : Env) : List Sm := (d3 E).smL a3 (p3 E) 0 (d3 E).shs ++ m3 E

/- 4: slices.IndexFunc[[]phrasebook/counter.counter,phrasebook/counter.counter] -/
def a4 : List AV := [(.asl 0 3 (.lenL (.var 0)) (.var 1)), (.func (.func 41) [] [(.ptr 1 0)])]
def p4 (E : Env) : Pt := entryPt E 40 3 a4 [some (.arr 79 (.var 0)), some (.cells 1 (tmpsOf [(0, (.ss (.var 2)))]))] []
def d4 (E : Env) : Dec :=
  { g := 4, f := 40, p := 2, pts := [p4 E,
    loopPt E 40 19 2 4 [(0, (.asl 0 3 (.lenL (.var 0)) (.var 1))), (1, (.func (.func 41) [] [(.ptr 1 0)])), (7, (.si .i64 (.lenL (.var 0)))), (8, (.si .i64 (.var 2)))] [some (.arr 79 (.var 0)), some (.cells 1 (tmpsOf [(0, (.ss (.var 3)))]))] [] []],
    shs := [{ m := 1, res := (.si .i64 (.var 0)), post := [none, none], keep := [0, 1] }] }
theorem c4p0 : decPt (Env.ofS Try.prog [] (m4 (Env.of Try.prog))) [2] 20000 (d4 (Env.of Try.prog)) t4 0 = some (jl (d4 (Env.of Try.prog)) [1]) := by kernel_rfl
theorem c4p1 : decPt (Env.ofS Try.prog [] (m4 (Env.of Try.prog))) [2] 20000 (d4 (Env.of Try.prog)) t4 1 = some (jl (d4 (Env.of Try.prog)) [1]) := by kernel_rfl
theorem c4 : DecOK (Env.ofS Try.prog [] (m4 (Env.of Try.prog))) [2] 20000 (d4 (Env.of Try.prog)) t4 := fun i pt h => match i, h with
  | 0, _ => ⟨_, c4p0⟩
  | 1, _ => ⟨_, c4p1⟩
  | i + 2, h => nomatch (show none = some pt from h)
def m5 (E : Env) : List Sm := (d4 E).smL a4 (p4 E) 0 (d4 E).shs ++ m4 E

/- 5: phrasebook/counter.New -/
def a5 : List AV := [(.asl 0 2 (.lenL (.var 0)) (.var 1))]
def p5 (E : Env) : Pt := entryPt E 10 2 a5 [some (.arr 41 (.var 0))] []
def d5 (E : Env) : Dec :=
  { g := 5, f := 10, p := 1, pts := [p5 E,
    loopPt E 10 51 5 5 [(4, (.ptr 1 0)), (12, (.asl 0 2 (.lenL (.var 0)) (.var 1))), (13, (.si .i64 (.lenL (.var 0)))), (14, (.si .i64 (.var 2)))] [some (.arr 41 (.var 0)), some (.cells 2 (tmpsOf [(0, (.bool true)), (1, (.asl 2 3 (.lenL (.var 3)) (.var 4)))])), some (.arr 79 (.var 3))] [] []],
    shs := [{ m := 0, res := (.tuple [.ptr0, (.int .i64 2)]), post := [none], keep := [0] }, { m := 2, res := (.tuple [(.ptr 1 0), (.int .i64 0)]), post := [none, some (.cells 2 (tmpsOf [(0, (.bool true)), (1, (.asl 2 3 (.lenL (.var 0)) (.var 1)))])), some (.arr 79 (.var 0))], keep := [0] }] }
theorem c5p0 : decPt (Env.ofS Try.prog [] (m5 (Env.of Try.prog))) [5] 20000 (d5 (Env.of Try.prog)) t5 0 = some (jl (d5 (Env.of Try.prog)) [1]) := by kernel_rfl
theorem c5p1 : decPt (Env.ofS Try.prog [] (m5 (Env.of Try.prog))) [5] 20000 (d5 (Env.of Try.prog)) t5 1 = some (jl (d5 (Env.of Try.prog)) [1]) := by kernel_rfl
theorem c5 : DecOK (Env.ofS Try.prog [] (m5 (Env.of Try.prog))) [5] 20000 (d5 (Env.of Try.prog)) t5 := fun i pt h => match i, h with
  | 0, _ => ⟨_, c5p0⟩
  | 1, _ => ⟨_, c5p1⟩
  | i + 2, h => nomatch (show none = some pt from h)
def m6 (E : Env) : List Sm := (d5 E).smL a5 (p5 E) 0 (d5 E).shs ++ m5 E

/- 6: (*phrasebook/counter.Bank).Put -/
def a6 : List AV := [(.ptr 0 0), (.asl 2 1 (.lenL (.var 3)) (.var 4))]
def p6 (E : Env) : Pt := entryPt E 14 5 a6 [some (.cells 2 (tmpsOf [(0, (.sb true (.var 0))), (1, (.asl 1 3 (.lenL (.var 1)) (.var 2)))])), some (.arr 79 (.var 1)), some (.arr 3 (.var 3))] []
def d6 (E : Env) : Dec :=
  { g := 6, f := 14, p := 3, pts := [p6 E,
    loopPt E 14 60 6 6 [(0, (.ptr 0 0)), (1, (.asl 2 1 (.lenL (.var 0)) (.var 1))), (21, (.asl 2 1 (.lenL (.var 0)) (.var 1))), (22, (.si .i64 (.lenL (.var 0)))), (23, (.si .i64 (.var 2)))] [some (.cells 2 (tmpsOf [(0, (.sb true (.var 3))), (1, (.asl 1 3 (.lenL (.var 4)) (.var 5)))])), some (.arr 79 (.var 4)), some (.arr 3 (.var 0))] [] [],
    loopPt E 14 60 12 7 [(0, (.ptr 0 0)), (44, (.asl 2 1 (.lenL (.var 0)) (.var 1))), (45, (.si .i64 (.var 2))), (46, (.si .i64 (.var 3)))] [some (.cells 2 (tmpsOf [(0, (.sb true (.var 4))), (1, (.asl 1 3 (.lenL (.var 5)) (.var 6)))])), some (.arr 79 (.var 5)), some (.arr 3 (.var 0))] [] []],
    shs := [{ m := 2, res := (.si .i64 (.var 0)), post := [none, some (.arr 79 (.var 1)), none], keep := [0, 2] }] }
theorem c6p0 : decPt (Env.ofS Try.prog [] (m6 (Env.of Try.prog))) [6, 12] 20000 (d6 (Env.of Try.prog)) t6 0 = some (jl (d6 (Env.of Try.prog)) [1]) := by kernel_rfl
theorem c6p1 : decPt (Env.ofS Try.prog [] (m6 (Env.of Try.prog))) [6, 12] 20000 (d6 (Env.of Try.prog)) t6 1 = some (jl (d6 (Env.of Try.prog)) [1, 2]) := by kernel_rfl
theorem c6p2 : decPt (Env.ofS Try.prog [] (m6 (Env.of Try.prog))) [6, 12] 20000 (d6 (Env.of Try.prog)) t6 2 = some (jl (d6 (Env.of Try.prog)) [2]) := by kernel_rfl
theorem c6 : DecOK (Env.ofS Try.prog [] (m6 (Env.of Try.prog))) [6, 12] 20000 (d6 (Env.of Try.prog)) t6 := fun i pt h => match i, h with
  | 0, _ => ⟨_, c6p0⟩
  | 1, _ => ⟨_, c6p1⟩
  | 2, _ => ⟨_, c6p2⟩
  | i + 3, h => nomatch (show none = some pt from h)
def m7 (E : Env) : List Sm := (d6 E).smL a6 (p6 E) 0 (d6 E).shs ++ m6 E

/- 7: phrasebook/phrasebooklaw30.CounterHolds -/
def p7 (E : Env) : Pt := lawPt E 5 [3, 43, 52]
def d7 (E : Env) : Dec :=
  { g := 7, f := 5, p := 0, pts := [p7 E,
    loopPt E 5 210 5 6 [(0, (.si .i64 (.var 0))), (1, (.dat 55 (.var 1))), (2, (.dat 5 (.var 2))), (7, (.asl 0 9 (.lenL (.var 3)) (.var 4))), (8, (.si .i64 (.var 5)))] [some (.arr 55 (.var 3))] [] [],
    loopPt E 5 210 17 9 [(0, (.si .i64 (.var 0))), (2, (.dat 5 (.var 1))), (7, (.asl 3 9 (.lenL (.var 2)) (.var 3))), (10, (.asl 0 1 (.lenL (.var 4)) (.var 5))), (12, (.ptr 1 0)), (14, (.si .i64 (.var 6)))] [some (.arr 3 (.var 4)), some (.cells 2 (tmpsOf [(0, (.bool true)), (1, (.asl 2 3 (.lenL (.var 7)) (.var 8)))])), some (.arr 79 (.var 7)), some (.arr 55 (.var 2))] [] [],
    loopPt E 5 210 24 13 [(0, (.si .i64 (.var 0))), (2, (.dat 5 (.var 1))), (7, (.asl 3 9 (.lenL (.var 2)) (.var 3))), (10, (.asl 0 1 (.lenL (.var 4)) (.var 5))), (12, (.ptr 1 0)), (14, (.si .i64 (.var 6))), (15, (.si .i64 (.var 7))), (16, (.si .i64 (.var 8))), (17, (.sb true (.var 9))), (18, (.si .i64 (.var 10)))] [some (.arr 3 (.var 4)), some (.cells 2 (tmpsOf [(0, (.bool true)), (1, (.asl 2 3 (.lenL (.var 11)) (.var 12)))])), some (.arr 79 (.var 11)), some (.arr 55 (.var 2))] [] [],
    loopPt E 5 210 30 10 [(0, (.si .i64 (.var 0))), (7, (.asl 3 9 (.lenL (.var 1)) (.var 2))), (10, (.asl 0 1 (.lenL (.var 3)) (.var 4))), (12, (.ptr 1 0)), (19, (.si .i64 (.var 5)))] [some (.arr 3 (.var 3)), some (.cells 2 (tmpsOf [(0, (.sb true (.var 6))), (1, (.asl 2 3 (.var 7) (.var 8)))])), some (.arr 79 (.var 9)), some (.arr 55 (.var 1))] [] [],
    loopPt E 5 210 36 12 [(0, (.si .i64 (.var 0))), (7, (.asl 3 9 (.lenL (.var 1)) (.var 2))), (10, (.asl 0 1 (.lenL (.var 3)) (.var 4))), (12, (.ptr 1 0)), (19, (.si .i64 (.var 5))), (20, (.dat 3 (.var 6))), (22, (.si .i64 (.var 7)))] [some (.arr 3 (.var 3)), some (.cells 2 (tmpsOf [(0, (.sb true (.var 8))), (1, (.asl 2 3 (.var 9) (.var 10)))])), some (.arr 79 (.var 11)), some (.arr 55 (.var 1))] [] [],
    loopPt E 5 210 1000022 11 [(0, (.si .i64 (.var 0))), (2, (.dat 5 (.var 1))), (7, (.asl 0 9 (.lenL (.var 2)) (.var 3))), (10, (.asl 1 1 (.lenL (.var 4)) (.var 5))), (12, (.ptr 2 0)), (14, (.si .i64 (.var 6))), (15, (.si .i64 (.var 7))), (16, (.si .i64 (.var 8)))] [some (.arr 55 (.var 2)), some (.arr 3 (.var 4)), some (.cells 2 (tmpsOf [(0, (.bool true)), (1, (.asl 3 3 (.lenL (.var 9)) (.var 10)))])), some (.arr 79 (.var 9))] [] []],
    shs := [lawSh] }
theorem c7p0 : decPt (Env.ofS Try.prog [] (m7 (Env.of Try.prog))) [5, 17, 24, 30, 36, 1000022] 20000 (d7 (Env.of Try.prog)) t7 0 = some (jl (d7 (Env.of Try.prog)) [1]) := by kernel_rfl
theorem c7p1 : decPt (Env.ofS Try.prog [] (m7 (Env.of Try.prog))) [5, 17, 24, 30, 36, 1000022] 20000 (d7 (Env.of Try.prog)) t7 1 = some (jl (d7 (Env.of Try.prog)) [1, 2]) := by kernel_rfl
theorem c7p2 : decPt (Env.ofS Try.prog [] (m7 (Env.of Try.prog))) [5, 17, 24, 30, 36, 1000022] 20000 (d7 (Env.of Try.prog)) t7 2 = some (jl (d7 (Env.of Try.prog)) [6, 6, 6, 6, 6, 6, 6, 6, 6, 6, 6, 6, 6, 6, 6, 6, 4]) := by kernel_rfl
theorem c7p3 : decPt (Env.ofS Try.prog [] (m7 (Env.of Try.prog))) [5, 17, 24, 30, 36, 1000022] 20000 (d7 (Env.of Try.prog)) t7 3 = some (jl (d7 (Env.of Try.prog)) [3, 3, 2]) := by kernel_rfl
theorem c7p4 : decPt (Env.ofS Try.prog [] (m7 (Env.of Try.prog))) [5, 17, 24, 30, 36, 1000022] 20000 (d7 (Env.of Try.prog)) t7 4 = some (jl (d7 (Env.of Try.prog)) [5]) := by kernel_rfl
theorem c7p5 : decPt (Env.ofS Try.prog [] (m7 (Env.of Try.prog))) [5, 17, 24, 30, 36, 1000022] 20000 (d7 (Env.of Try.prog)) t7 5 = some (jl (d7 (Env.of Try.prog)) [5, 5, 4]) := by kernel_rfl
theorem c7p6 : decPt (Env.ofS Try.prog [] (m7 (Env.of Try.prog))) [5, 17, 24, 30, 36, 1000022] 20000 (d7 (Env.of Try.prog)) t7 6 = some (jl (d7 (Env.of Try.prog)) [3]) := by kernel_rfl
theorem c7 : DecOK (Env.ofS Try.prog [] (m7 (Env.of Try.prog))) [5, 17, 24, 30, 36, 1000022] 20000 (d7 (Env.of Try.prog)) t7 := fun i pt h => match i, h with
  | 0, _ => ⟨_, c7p0⟩
  | 1, _ => ⟨_, c7p1⟩
  | 2, _ => ⟨_, c7p2⟩
  | 3, _ => ⟨_, c7p3⟩
  | 4, _ => ⟨_, c7p4⟩
  | 5, _ => ⟨_, c7p5⟩
  | 6, _ => ⟨_, c7p6⟩
  | i + 7, h => nomatch (show none = some pt from h)

end Go.Proofs.Ythhmhljmamjgnaa.counterHolds
