/- What is proved: that the functions which the law CounterPlays reaches are the plain functions over data whose trees of tests the text before writes out (the kernel runs the evaluator over each place). Conditions: the program is the given one. -/
import Derived.Test.YthhmhljmamjgnaaProg
import Derived.KernelRfl
import Derived.Test.YthhmhljmamjgnaaCounterPlaysTree
set_option linter.unusedVariables false
namespace Go.Proofs.Ythhmhljmamjgnaa.counterPlays
open Go.AE Go.CP
def m0 (E : Env) : List Sm := []

/- 0: phrasebook/phrasebooklaw30.few -/
def a0 : List AV := [(.dat 41 (.var 0))]
def p0 (E : Env) : Pt := entryPt E 8 1 a0 [] []
def d0 (E : Env) : Dec :=
  { g := 0, f := 8, p := 0, pts := [p0 E,
    loopPt E 8 24 2 2 [(0, (.dat 41 (.var 0))), (3, (.si .i64 (.var 1)))] [] [] []],
    shs := [{ m := 1, res := (.sb true (.var 0)), post := [], keep := [] }] }
theorem c0p0 : decPt (Env.ofS Try.prog [] (m0 (Env.of Try.prog))) [2] 20000 (d0 (Env.of Try.prog)) t0 0 = some (jl (d0 (Env.of Try.prog)) [1]) := by kernel_rfl
theorem c0p1 : decPt (Env.ofS Try.prog [] (m0 (Env.of Try.prog))) [2] 20000 (d0 (Env.of Try.prog)) t0 1 = some (jl (d0 (Env.of Try.prog)) [1]) := by kernel_rfl
theorem c0 : DecOK (Env.ofS Try.prog [] (m0 (Env.of Try.prog))) [2] 20000 (d0 (Env.of Try.prog)) t0 := fun i pt h => match i, h with
  | 0, _ => ⟨_, c0p0⟩
  | 1, _ => ⟨_, c0p1⟩
  | i + 2, h => nomatch (show none = some pt from h)
def m1 (E : Env) : List Sm := (d0 E).smL a0 (p0 E) 0 (d0 E).shs ++ m0 E

/- 1: phrasebook/phrasebooklaw30.known -/
def a1 : List AV := []
def p1 (E : Env) : Pt := entryPt E 9 0 a1 [] []
def d1 (E : Env) : Dec :=
  { g := 1, f := 9, p := 0, pts := [p1 E],
    shs := [{ m := 0, res := (.bool true), post := [], keep := [] }] }
theorem c1p0 : decPt (Env.ofS Try.prog [] (m1 (Env.of Try.prog))) [] 20000 (d1 (Env.of Try.prog)) t1 0 = some (jl (d1 (Env.of Try.prog)) []) := by kernel_rfl
theorem c1 : DecOK (Env.ofS Try.prog [] (m1 (Env.of Try.prog))) [] 20000 (d1 (Env.of Try.prog)) t1 := fun i pt h => match i, h with
  | 0, _ => ⟨_, c1p0⟩
  | i + 1, h => nomatch (show none = some pt from h)
def m2 (E : Env) : List Sm := (d1 E).smL a1 (p1 E) 0 (d1 E).shs ++ m1 E

/- 2: slices.IndexFunc[[]phrasebook/counter.counter,phrasebook/counter.counter] -/
def a2 : List AV := [(.asl 0 3 (.lenL (.var 0)) (.var 1)), (.func (.func 41) [] [(.ptr 1 0)])]
def p2 (E : Env) : Pt := entryPt E 40 3 a2 [some (.arr 79 (.var 0)), some (.cells 1 (tmpsOf [(0, (.ss (.var 2)))]))] []
def d2 (E : Env) : Dec :=
  { g := 2, f := 40, p := 2, pts := [p2 E,
    loopPt E 40 19 2 4 [(0, (.asl 0 3 (.lenL (.var 0)) (.var 1))), (1, (.func (.func 41) [] [(.ptr 1 0)])), (7, (.si .i64 (.lenL (.var 0)))), (8, (.si .i64 (.var 2)))] [some (.arr 79 (.var 0)), some (.cells 1 (tmpsOf [(0, (.ss (.var 3)))]))] [] []],
    shs := [{ m := 1, res := (.si .i64 (.var 0)), post := [none, none], keep := [0, 1] }] }
theorem c2p0 : decPt (Env.ofS Try.prog [] (m2 (Env.of Try.prog))) [2] 20000 (d2 (Env.of Try.prog)) t2 0 = some (jl (d2 (Env.of Try.prog)) [1]) := by kernel_rfl
theorem c2p1 : decPt (Env.ofS Try.prog [] (m2 (Env.of Try.prog))) [2] 20000 (d2 (Env.of Try.prog)) t2 1 = some (jl (d2 (Env.of Try.prog)) [1]) := by kernel_rfl
theorem c2 : DecOK (Env.ofS Try.prog [] (m2 (Env.of Try.prog))) [2] 20000 (d2 (Env.of Try.prog)) t2 := fun i pt h => match i, h with
  | 0, _ => ⟨_, c2p0⟩
  | 1, _ => ⟨_, c2p1⟩
  | i + 2, h => nomatch (show none = some pt from h)
def m3 (E : Env) : List Sm := (d2 E).smL a2 (p2 E) 0 (d2 E).shs ++ m2 E

/- 3: (*phrasebook/counter.Bank).find -/
def a3 : List AV := [(.ptr 0 0), (.ss (.var 3))]
def p3 (E : Env) : Pt := entryPt E 29 4 a3 [some (.cells 2 (tmpsOf [(0, (.sb true (.var 0))), (1, (.asl 1 3 (.lenL (.var 1)) (.var 2)))])), some (.arr 79 (.var 1))] []
def d3 (E : Env) : Dec :=
  { g := 3, f := 29, p := 2, pts := [p3 E],
    shs := [{ m := 1, res := (.si .i64 (.var 0)), post := [none, none], keep := [0, 1] }] }
theorem c3p0 : decPt (Env.ofS Try.prog [] (m3 (Env.of Try.prog))) [] 20000 (d3 (Env.of Try.prog)) t3 0 = some (jl (d3 (Env.of Try.prog)) []) := by kernel_rfl
theorem c3 : DecOK (Env.ofS Try.prog [] (m3 (Env.of Try.prog))) [] 20000 (d3 (Env.of Try.prog)) t3 := fun i pt h => match i, h with
  | 0, _ => ⟨_, c3p0⟩
  | i + 1, h => nomatch (show none = some pt from h)
def m4 (E : Env) : List Sm := (d3 E).smL a3 (p3 E) 0 (d3 E).shs ++ m3 E

/- 4: phrasebook/counter.New -/
def a4 : List AV := [(.dat 41 (.var 0))]
def p4 (E : Env) : Pt := entryPt E 10 1 a4 [] []
def d4 (E : Env) : Dec :=
  { g := 4, f := 10, p := 0, pts := [p4 E,
    loopPt E 10 51 5 4 [(4, (.ptr 0 0)), (12, (.dat 41 (.var 0))), (13, (.si .i64 (.lenL (.var 0)))), (14, (.si .i64 (.var 1)))] [some (.cells 2 (tmpsOf [(0, (.bool true)), (1, (.asl 1 3 (.lenL (.var 2)) (.var 3)))])), some (.arr 79 (.var 2))] [] []],
    shs := [{ m := 0, res := (.tuple [.ptr0, (.int .i64 2)]), post := [], keep := [] }, { m := 2, res := (.tuple [(.ptr 0 0), (.int .i64 0)]), post := [some (.cells 2 (tmpsOf [(0, (.bool true)), (1, (.asl 1 3 (.lenL (.var 0)) (.var 1)))])), some (.arr 79 (.var 0))], keep := [] }] }
theorem c4p0 : decPt (Env.ofS Try.prog [] (m4 (Env.of Try.prog))) [5] 20000 (d4 (Env.of Try.prog)) t4 0 = some (jl (d4 (Env.of Try.prog)) [1]) := by kernel_rfl
theorem c4p1 : decPt (Env.ofS Try.prog [] (m4 (Env.of Try.prog))) [5] 20000 (d4 (Env.of Try.prog)) t4 1 = some (jl (d4 (Env.of Try.prog)) [1]) := by kernel_rfl
theorem c4 : DecOK (Env.ofS Try.prog [] (m4 (Env.of Try.prog))) [5] 20000 (d4 (Env.of Try.prog)) t4 := fun i pt h => match i, h with
  | 0, _ => ⟨_, c4p0⟩
  | 1, _ => ⟨_, c4p1⟩
  | i + 2, h => nomatch (show none = some pt from h)
def m5 (E : Env) : List Sm := (d4 E).smL a4 (p4 E) 0 (d4 E).shs ++ m4 E

/- 5: phrasebook/phrasebookref30.New -/
def a5 : List AV := [(.dat 41 (.var 0))]
def p5 (E : Env) : Pt := entryPt E 11 1 a5 [] []
def d5 (E : Env) : Dec :=
  { g := 5, f := 11, p := 0, pts := [p5 E,
    loopPt E 11 72 5 6 [(0, (.dat 41 (.var 0))), (2, (.ptr 0 0)), (4, (.ptr 1 0)), (5, (.si .i64 (.var 1)))] [some (.cells 2 (tmpsOf [(0, .slice0), (1, .slice0)])), some (.cells 2 (tmpsOf [(0, (.asl 2 2 (.lenL (.var 2)) (.var 3))), (1, (.asl 3 1 (.lenL (.var 4)) (.var 5)))])), some (.arr 41 (.var 2)), some (.arr 3 (.var 4))] [] [],
    loopPt E 11 72 10 7 [(0, (.dat 41 (.var 0))), (2, (.ptr 0 0)), (4, (.ptr 1 0)), (5, (.si .i64 (.var 1))), (6, (.si .i64 (.var 2)))] [some (.cells 2 (tmpsOf [(0, .slice0), (1, .slice0)])), some (.cells 2 (tmpsOf [(0, (.asl 2 2 (.lenL (.var 3)) (.var 4))), (1, (.asl 3 1 (.lenL (.var 5)) (.var 6)))])), some (.arr 41 (.var 3)), some (.arr 3 (.var 5))] [] []],
    shs := [{ m := 5, res := (.tuple [(.agg [(.asl 0 2 (.lenL (.var 0)) (.var 1)), (.asl 1 1 (.lenL (.var 2)) (.var 3))]), (.si .i64 (.var 4))]), post := [some (.arr 41 (.var 0)), some (.arr 3 (.var 2))], keep := [] }] }
theorem c5p0 : decPt (Env.ofS Try.prog [] (m5 (Env.of Try.prog))) [5, 10] 20000 (d5 (Env.of Try.prog)) t5 0 = some (jl (d5 (Env.of Try.prog)) [1]) := by kernel_rfl
theorem c5p1 : decPt (Env.ofS Try.prog [] (m5 (Env.of Try.prog))) [5, 10] 20000 (d5 (Env.of Try.prog)) t5 1 = some (jl (d5 (Env.of Try.prog)) [2]) := by kernel_rfl
theorem c5p2 : decPt (Env.ofS Try.prog [] (m5 (Env.of Try.prog))) [5, 10] 20000 (d5 (Env.of Try.prog)) t5 2 = some (jl (d5 (Env.of Try.prog)) [2, 1]) := by kernel_rfl
theorem c5 : DecOK (Env.ofS Try.prog [] (m5 (Env.of Try.prog))) [5, 10] 20000 (d5 (Env.of Try.prog)) t5 := fun i pt h => match i, h with
  | 0, _ => ⟨_, c5p0⟩
  | 1, _ => ⟨_, c5p1⟩
  | 2, _ => ⟨_, c5p2⟩
  | i + 3, h => nomatch (show none = some pt from h)
def m6 (E : Env) : List Sm := (d5 E).smL a5 (p5 E) 0 (d5 E).shs ++ m5 E

/- 6: phrasebook/phrasebookref30.Find -/
def a6 : List AV := [(.agg [(.asl 0 2 (.lenL (.var 0)) (.var 1)), (.asl 1 1 (.lenL (.var 2)) (.var 3))]), (.ss (.var 4))]
def p6 (E : Env) : Pt := entryPt E 38 5 a6 [some (.arr 41 (.var 0)), some (.arr 3 (.var 2))] []
def d6 (E : Env) : Dec :=
  { g := 6, f := 38, p := 2, pts := [p6 E,
    loopPt E 38 22 2 6 [(1, (.ss (.var 0))), (2, (.ptr 2 0)), (5, (.si .i64 (.var 1)))] [some (.arr 41 (.var 2)), some (.arr 3 (.var 3)), some (.cells 2 (tmpsOf [(0, (.asl 0 2 (.lenL (.var 2)) (.var 4))), (1, (.asl 1 1 (.lenL (.var 3)) (.var 5)))]))] [] []],
    shs := [{ m := 1, res := (.si .i64 (.var 0)), post := [none, none], keep := [0, 1] }] }
theorem c6p0 : decPt (Env.ofS Try.prog [] (m6 (Env.of Try.prog))) [2] 20000 (d6 (Env.of Try.prog)) t6 0 = some (jl (d6 (Env.of Try.prog)) [1]) := by kernel_rfl
theorem c6p1 : decPt (Env.ofS Try.prog [] (m6 (Env.of Try.prog))) [2] 20000 (d6 (Env.of Try.prog)) t6 1 = some (jl (d6 (Env.of Try.prog)) [1]) := by kernel_rfl
theorem c6 : DecOK (Env.ofS Try.prog [] (m6 (Env.of Try.prog))) [2] 20000 (d6 (Env.of Try.prog)) t6 := fun i pt h => match i, h with
  | 0, _ => ⟨_, c6p0⟩
  | 1, _ => ⟨_, c6p1⟩
  | i + 2, h => nomatch (show none = some pt from h)
def m7 (E : Env) : List Sm := (d6 E).smL a6 (p6 E) 0 (d6 E).shs ++ m6 E

/- 7: phrasebook/phrasebookref30.Allowed -/
def a7 : List AV := [(.agg [(.asl 0 2 (.lenL (.var 0)) (.var 1)), (.asl 1 1 (.lenL (.var 2)) (.var 3))]), (.agg [(.ss (.var 4)), (.ss (.var 5)), (.si .i64 (.var 6)), (.ss (.var 7)), (.ss (.var 8)), (.ss (.var 9)), (.si .i64 (.var 10)), (.si .i64 (.var 11)), (.si .i64 (.var 12))])]
def p7 (E : Env) : Pt := entryPt E 26 13 a7 [some (.arr 41 (.var 0)), some (.arr 3 (.var 2))] []
def d7 (E : Env) : Dec :=
  { g := 7, f := 26, p := 2, pts := [p7 E],
    shs := [{ m := 2, res := (.tuple [(.sb true (.var 0)), (.si .i64 (.var 1))]), post := [none, none], keep := [0, 1] }] }
theorem c7p0 : decPt (Env.ofS Try.prog [] (m7 (Env.of Try.prog))) [] 20000 (d7 (Env.of Try.prog)) t7 0 = some (jl (d7 (Env.of Try.prog)) []) := by kernel_rfl
theorem c7 : DecOK (Env.ofS Try.prog [] (m7 (Env.of Try.prog))) [] 20000 (d7 (Env.of Try.prog)) t7 := fun i pt h => match i, h with
  | 0, _ => ⟨_, c7p0⟩
  | i + 1, h => nomatch (show none = some pt from h)
def m8 (E : Env) : List Sm := (d7 E).smL a7 (p7 E) 0 (d7 E).shs ++ m7 E

/- 8: phrasebook/phrasebookref30.Apply -/
def a8 : List AV := [(.agg [(.asl 0 2 (.lenL (.var 0)) (.var 1)), (.asl 1 1 (.lenL (.var 2)) (.var 3))]), (.agg [(.ss (.var 4)), (.ss (.var 5)), (.si .i64 (.var 6)), (.ss (.var 7)), (.ss (.var 8)), (.ss (.var 9)), (.si .i64 (.var 10)), (.si .i64 (.var 11)), (.si .i64 (.var 12))])]
def p8 (E : Env) : Pt := entryPt E 23 13 a8 [some (.arr 41 (.var 0)), some (.arr 3 (.var 2))] []
def d8 (E : Env) : Dec :=
  { g := 8, f := 23, p := 2, pts := [p8 E],
    shs := [{ m := 5, res := (.tuple [(.agg [(.asl 0 2 (.lenL (.var 0)) (.var 1)), (.asl 1 1 (.lenL (.var 2)) (.var 3))]), (.si .i64 (.var 4))]), post := [some (.arr 41 (.var 0)), some (.arr 3 (.var 2))], keep := [] }, { m := 4, res := (.tuple [(.agg [(.asl 0 2 (.lenL (.var 0)) (.var 1)), (.asl 2 1 (.lenL (.var 2)) (.var 3))]), (.int .i64 0)]), post := [some (.arr 41 (.var 0)), none, some (.arr 3 (.var 2))], keep := [1] }] }
theorem c8p0 : decPt (Env.ofS Try.prog [] (m8 (Env.of Try.prog))) [] 20000 (d8 (Env.of Try.prog)) t8 0 = some (jl (d8 (Env.of Try.prog)) []) := by kernel_rfl
theorem c8 : DecOK (Env.ofS Try.prog [] (m8 (Env.of Try.prog))) [] 20000 (d8 (Env.of Try.prog)) t8 := fun i pt h => match i, h with
  | 0, _ => ⟨_, c8p0⟩
  | i + 1, h => nomatch (show none = some pt from h)
def m9 (E : Env) : List Sm := (d8 E).smL a8 (p8 E) 0 (d8 E).shs ++ m8 E

/- 9: (*phrasebook/counter.Bank).Get -/
def a9 : List AV := [(.ptr 0 0), (.ss (.var 3))]
def p9 (E : Env) : Pt := entryPt E 22 4 a9 [some (.cells 2 (tmpsOf [(0, (.sb true (.var 0))), (1, (.asl 1 3 (.lenL (.var 1)) (.var 2)))])), some (.arr 79 (.var 1))] []
def d9 (E : Env) : Dec :=
  { g := 9, f := 22, p := 2, pts := [p9 E],
    shs := [{ m := 2, res := (.tuple [(.si .i64 (.var 0)), (.si .i64 (.var 1))]), post := [none, none], keep := [0, 1] }] }
theorem c9p0 : decPt (Env.ofS Try.prog [] (m9 (Env.of Try.prog))) [] 20000 (d9 (Env.of Try.prog)) t9 0 = some (jl (d9 (Env.of Try.prog)) []) := by kernel_rfl
theorem c9 : DecOK (Env.ofS Try.prog [] (m9 (Env.of Try.prog))) [] 20000 (d9 (Env.of Try.prog)) t9 := fun i pt h => match i, h with
  | 0, _ => ⟨_, c9p0⟩
  | i + 1, h => nomatch (show none = some pt from h)
def m10 (E : Env) : List Sm := (d9 E).smL a9 (p9 E) 0 (d9 E).shs ++ m9 E

/- 10: (*phrasebook/counter.Bank).Allowed -/
def a10 : List AV := [(.ptr 0 0), (.agg [(.ss (.var 3)), (.ss (.var 4)), (.si .i64 (.var 5)), (.ss (.var 6)), (.ss (.var 7)), (.ss (.var 8)), (.si .i64 (.var 9)), (.si .i64 (.var 10)), (.si .i64 (.var 11))])]
def p10 (E : Env) : Pt := entryPt E 25 12 a10 [some (.cells 2 (tmpsOf [(0, (.sb true (.var 0))), (1, (.asl 1 3 (.lenL (.var 1)) (.var 2)))])), some (.arr 79 (.var 1))] []
def d10 (E : Env) : Dec :=
  { g := 10, f := 25, p := 2, pts := [p10 E],
    shs := [{ m := 2, res := (.tuple [(.sb true (.var 0)), (.si .i64 (.var 1))]), post := [none, none], keep := [0, 1] }] }
theorem c10p0 : decPt (Env.ofS Try.prog [] (m10 (Env.of Try.prog))) [] 20000 (d10 (Env.of Try.prog)) t10 0 = some (jl (d10 (Env.of Try.prog)) []) := by kernel_rfl
theorem c10 : DecOK (Env.ofS Try.prog [] (m10 (Env.of Try.prog))) [] 20000 (d10 (Env.of Try.prog)) t10 := fun i pt h => match i, h with
  | 0, _ => ⟨_, c10p0⟩
  | i + 1, h => nomatch (show none = some pt from h)
def m11 (E : Env) : List Sm := (d10 E).smL a10 (p10 E) 0 (d10 E).shs ++ m10 E

/- 11: (*phrasebook/counter.Bank).Apply -/
def a11 : List AV := [(.ptr 0 0), (.agg [(.ss (.var 3)), (.ss (.var 4)), (.si .i64 (.var 5)), (.ss (.var 6)), (.ss (.var 7)), (.ss (.var 8)), (.si .i64 (.var 9)), (.si .i64 (.var 10)), (.si .i64 (.var 11))])]
def p11 (E : Env) : Pt := entryPt E 21 12 a11 [some (.cells 2 (tmpsOf [(0, (.sb true (.var 0))), (1, (.asl 1 3 (.lenL (.var 1)) (.var 2)))])), some (.arr 79 (.var 1))] []
def d11 (E : Env) : Dec :=
  { g := 11, f := 21, p := 2, pts := [p11 E],
    shs := [{ m := 2, res := (.si .i64 (.var 0)), post := [none, some (.arr 79 (.var 1))], keep := [0] }] }
theorem c11p0 : decPt (Env.ofS Try.prog [] (m11 (Env.of Try.prog))) [] 20000 (d11 (Env.of Try.prog)) t11 0 = some (jl (d11 (Env.of Try.prog)) []) := by kernel_rfl
theorem c11 : DecOK (Env.ofS Try.prog [] (m11 (Env.of Try.prog))) [] 20000 (d11 (Env.of Try.prog)) t11 := fun i pt h => match i, h with
  | 0, _ => ⟨_, c11p0⟩
  | i + 1, h => nomatch (show none = some pt from h)
def m12 (E : Env) : List Sm := (d11 E).smL a11 (p11 E) 0 (d11 E).shs ++ m11 E

/- 12: (*phrasebook/counter.Bank).Counters$1 -/
def a12 : List AV := [(.func (.yield 0) [] []), (.ptr 4 0)]
def p12 (E : Env) : Pt := entryPt E 32 4 a12 [some (loopBlk E 28 2 .ready none 14 [(2, (.ptr 1 0))] 3), some (.cells 1 (tmpsOf [(0, (.asl 2 1 (.lenL (.var 0)) (.var 1)))])), some (.arr 3 (.var 0)), some (.deferred (some [])), some (.cells 1 (tmpsOf [(0, (.asl 5 3 (.lenL (.var 2)) (.var 3)))])), some (.arr 79 (.var 2))] []
def d12 (E : Env) : Dec :=
  { g := 12, f := 32, p := 6, pts := [p12 E,
    loopPt E 32 20 1 5 [(0, (.func (.yield 0) [] [])), (5, (.asl 5 3 (.lenL (.var 0)) (.var 1))), (6, (.si .i64 (.lenL (.var 0)))), (7, (.si .i64 (.var 2)))] [some (loopBlk E 28 2 .ready none 14 [(2, (.ptr 1 0))] 3), some (.cells 1 (tmpsOf [(0, (.asl 6 1 (.lenL (.var 3)) (.var 4)))])), none, some (.deferred (some [])), some (.cells 1 (tmpsOf [(0, (.asl 5 3 (.lenL (.var 0)) (.var 1)))])), some (.arr 79 (.var 0)), some (.arr 3 (.var 3))] [] []],
    shs := [{ m := 2, res := (.tuple []), post := [none, some (.cells 1 (tmpsOf [(0, (.asl 6 1 (.lenL (.var 0)) (.var 1)))])), none, none, none, none, some (.arr 3 (.var 0))], keep := [0, 3, 4, 5] }] }
theorem c12p0 : decPt (Env.ofS Try.prog [] (m12 (Env.of Try.prog))) [1] 20000 (d12 (Env.of Try.prog)) t12 0 = some (jl (d12 (Env.of Try.prog)) [1]) := by kernel_rfl
theorem c12p1 : decPt (Env.ofS Try.prog [] (m12 (Env.of Try.prog))) [1] 20000 (d12 (Env.of Try.prog)) t12 1 = some (jl (d12 (Env.of Try.prog)) [1]) := by kernel_rfl
theorem c12 : DecOK (Env.ofS Try.prog [] (m12 (Env.of Try.prog))) [1] 20000 (d12 (Env.of Try.prog)) t12 := fun i pt h => match i, h with
  | 0, _ => ⟨_, c12p0⟩
  | 1, _ => ⟨_, c12p1⟩
  | i + 2, h => nomatch (show none = some pt from h)
def m13 (E : Env) : List Sm := (d12 E).smL a12 (p12 E) 0 (d12 E).shs ++ m12 E

/- 13: (*phrasebook/counter.Bank).All -/
def a13 : List AV := [(.ptr 0 0)]
def p13 (E : Env) : Pt := entryPt E 28 3 a13 [some (.cells 2 (tmpsOf [(0, (.sb true (.var 0))), (1, (.asl 1 3 (.lenL (.var 1)) (.var 2)))])), some (.arr 79 (.var 1))] []
def d13 (E : Env) : Dec :=
  { g := 13, f := 28, p := 2, pts := [p13 E],
    shs := [{ m := 2, res := (.asl 2 1 (.lenL (.var 0)) (.var 1)), post := [none, none, some (.arr 3 (.var 0))], keep := [0, 1] }] }
theorem c13p0 : decPt (Env.ofS Try.prog [] (m13 (Env.of Try.prog))) [] 20000 (d13 (Env.of Try.prog)) t13 0 = some (jl (d13 (Env.of Try.prog)) []) := by kernel_rfl
theorem c13 : DecOK (Env.ofS Try.prog [] (m13 (Env.of Try.prog))) [] 20000 (d13 (Env.of Try.prog)) t13 := fun i pt h => match i, h with
  | 0, _ => ⟨_, c13p0⟩
  | i + 1, h => nomatch (show none = some pt from h)
def m14 (E : Env) : List Sm := (d13 E).smL a13 (p13 E) 0 (d13 E).shs ++ m13 E

/- 14: phrasebook/phrasebooklaw30.same -/
def a14 : List AV := [(.asl 0 1 (.lenL (.var 0)) (.var 1)), (.asl 1 1 (.lenL (.var 2)) (.var 3))]
def p14 (E : Env) : Pt := entryPt E 20 4 a14 [some (.arr 3 (.var 0)), some (.arr 3 (.var 2))] []
def d14 (E : Env) : Dec :=
  { g := 14, f := 20, p := 2, pts := [p14 E,
    loopPt E 20 26 4 5 [(0, (.asl 0 1 (.lenL (.var 0)) (.var 1))), (1, (.asl 1 1 (.lenL (.var 2)) (.var 3))), (5, (.si .i64 (.var 4)))] [some (.arr 3 (.var 0)), some (.arr 3 (.var 2))] [] []],
    shs := [{ m := 1, res := (.sb true (.var 0)), post := [none, none], keep := [0, 1] }] }
theorem c14p0 : decPt (Env.ofS Try.prog [] (m14 (Env.of Try.prog))) [4] 20000 (d14 (Env.of Try.prog)) t14 0 = some (jl (d14 (Env.of Try.prog)) [1]) := by kernel_rfl
theorem c14p1 : decPt (Env.ofS Try.prog [] (m14 (Env.of Try.prog))) [4] 20000 (d14 (Env.of Try.prog)) t14 1 = some (jl (d14 (Env.of Try.prog)) [1]) := by kernel_rfl
theorem c14 : DecOK (Env.ofS Try.prog [] (m14 (Env.of Try.prog))) [4] 20000 (d14 (Env.of Try.prog)) t14 := fun i pt h => match i, h with
  | 0, _ => ⟨_, c14p0⟩
  | 1, _ => ⟨_, c14p1⟩
  | i + 2, h => nomatch (show none = some pt from h)
def m15 (E : Env) : List Sm := (d14 E).smL a14 (p14 E) 0 (d14 E).shs ++ m14 E

/- 15: phrasebook/phrasebooklaw30.agrees -/
def a15 : List AV := [(.ptr 0 0), (.agg [(.asl 2 2 (.lenL (.var 3)) (.var 4)), (.asl 3 1 (.lenL (.var 5)) (.var 6))])]
def p15 (E : Env) : Pt := entryPt E 27 7 a15 [some (.cells 2 (tmpsOf [(0, (.sb true (.var 0))), (1, (.asl 1 3 (.lenL (.var 1)) (.var 2)))])), some (.arr 79 (.var 1)), some (.arr 41 (.var 3)), some (.arr 3 (.var 5))] []
def d15 (E : Env) : Dec :=
  { g := 15, f := 27, p := 4, pts := [p15 E,
    loopPt E 27 43 2 8 [(0, (.ptr 0 0)), (3, (.ptr 4 0)), (5, (.si .i64 (.var 0)))] [some (.cells 2 (tmpsOf [(0, (.sb true (.var 1))), (1, (.asl 1 3 (.lenL (.var 2)) (.var 3)))])), some (.arr 79 (.var 2)), some (.arr 41 (.var 4)), some (.arr 3 (.var 5)), some (.cells 2 (tmpsOf [(0, (.asl 2 2 (.lenL (.var 4)) (.var 6))), (1, (.asl 3 1 (.lenL (.var 5)) (.var 7)))]))] [] []],
    shs := [{ m := 1, res := (.sb true (.var 0)), post := [none, none, none, none], keep := [0, 1, 2, 3] }] }
theorem c15p0 : decPt (Env.ofS Try.prog [] (m15 (Env.of Try.prog))) [2] 20000 (d15 (Env.of Try.prog)) t15 0 = some (jl (d15 (Env.of Try.prog)) [1]) := by kernel_rfl
theorem c15p1 : decPt (Env.ofS Try.prog [] (m15 (Env.of Try.prog))) [2] 20000 (d15 (Env.of Try.prog)) t15 1 = some (jl (d15 (Env.of Try.prog)) [1]) := by kernel_rfl
theorem c15 : DecOK (Env.ofS Try.prog [] (m15 (Env.of Try.prog))) [2] 20000 (d15 (Env.of Try.prog)) t15 := fun i pt h => match i, h with
  | 0, _ => ⟨_, c15p0⟩
  | 1, _ => ⟨_, c15p1⟩
  | i + 2, h => nomatch (show none = some pt from h)
def m16 (E : Env) : List Sm := (d15 E).smL a15 (p15 E) 0 (d15 E).shs ++ m15 E

/- 16: phrasebook/phrasebookref30.Put -/
def a16 : List AV := [(.agg [(.asl 0 2 (.lenL (.var 0)) (.var 1)), (.asl 1 1 (.lenL (.var 2)) (.var 3))]), (.dat 3 (.var 4))]
def p16 (E : Env) : Pt := entryPt E 13 5 a16 [some (.arr 41 (.var 0)), some (.arr 3 (.var 2))] []
def d16 (E : Env) : Dec :=
  { g := 16, f := 13, p := 2, pts := [p16 E,
    loopPt E 13 44 4 6 [(1, (.dat 3 (.var 0))), (2, (.ptr 2 0)), (4, (.ptr 3 0)), (6, (.si .i64 (.var 1)))] [some (.arr 41 (.var 2)), some (.arr 3 (.var 3)), some (.cells 2 (tmpsOf [(0, (.asl 0 2 (.lenL (.var 2)) (.var 4))), (1, (.asl 1 1 (.lenL (.var 3)) (.var 5)))])), some (.cells 2 (tmpsOf [(0, .slice0), (1, .slice0)]))] [] []],
    shs := [{ m := 5, res := (.tuple [(.agg [(.asl 0 2 (.lenL (.var 0)) (.var 1)), (.asl 1 1 (.lenL (.var 2)) (.var 3))]), (.si .i64 (.var 4))]), post := [some (.arr 41 (.var 0)), some (.arr 3 (.var 2))], keep := [] }, { m := 4, res := (.tuple [(.agg [(.asl 0 2 (.lenL (.var 0)) (.var 1)), (.asl 2 1 (.lenL (.var 2)) (.var 3))]), (.int .i64 0)]), post := [some (.arr 41 (.var 0)), none, some (.arr 3 (.var 2))], keep := [1] }] }
theorem c16p0 : decPt (Env.ofS Try.prog [] (m16 (Env.of Try.prog))) [4] 20000 (d16 (Env.of Try.prog)) t16 0 = some (jl (d16 (Env.of Try.prog)) [1]) := by kernel_rfl
theorem c16p1 : decPt (Env.ofS Try.prog [] (m16 (Env.of Try.prog))) [4] 20000 (d16 (Env.of Try.prog)) t16 1 = some (jl (d16 (Env.of Try.prog)) [1]) := by kernel_rfl
theorem c16 : DecOK (Env.ofS Try.prog [] (m16 (Env.of Try.prog))) [4] 20000 (d16 (Env.of Try.prog)) t16 := fun i pt h => match i, h with
  | 0, _ => ⟨_, c16p0⟩
  | 1, _ => ⟨_, c16p1⟩
  | i + 2, h => nomatch (show none = some pt from h)
def m17 (E : Env) : List Sm := (d16 E).smL a16 (p16 E) 0 (d16 E).shs ++ m16 E

/- 17: (*phrasebook/counter.Bank).Put -/
def a17 : List AV := [(.ptr 0 0), (.dat 3 (.var 3))]
def p17 (E : Env) : Pt := entryPt E 14 4 a17 [some (.cells 2 (tmpsOf [(0, (.sb true (.var 0))), (1, (.asl 1 3 (.lenL (.var 1)) (.var 2)))])), some (.arr 79 (.var 1))] []
def d17 (E : Env) : Dec :=
  { g := 17, f := 14, p := 2, pts := [p17 E,
    loopPt E 14 60 6 5 [(0, (.ptr 0 0)), (1, (.dat 3 (.var 0))), (21, (.dat 3 (.var 0))), (22, (.si .i64 (.lenL (.var 0)))), (23, (.si .i64 (.var 1)))] [some (.cells 2 (tmpsOf [(0, (.sb true (.var 2))), (1, (.asl 1 3 (.lenL (.var 3)) (.var 4)))])), some (.arr 79 (.var 3))] [] [],
    loopPt E 14 60 12 6 [(0, (.ptr 0 0)), (44, (.dat 3 (.var 0))), (45, (.si .i64 (.var 1))), (46, (.si .i64 (.var 2)))] [some (.cells 2 (tmpsOf [(0, (.sb true (.var 3))), (1, (.asl 1 3 (.lenL (.var 4)) (.var 5)))])), some (.arr 79 (.var 4))] [] []],
    shs := [{ m := 2, res := (.si .i64 (.var 0)), post := [none, some (.arr 79 (.var 1))], keep := [0] }] }
theorem c17p0 : decPt (Env.ofS Try.prog [] (m17 (Env.of Try.prog))) [6, 12] 20000 (d17 (Env.of Try.prog)) t17 0 = some (jl (d17 (Env.of Try.prog)) [1]) := by kernel_rfl
theorem c17p1 : decPt (Env.ofS Try.prog [] (m17 (Env.of Try.prog))) [6, 12] 20000 (d17 (Env.of Try.prog)) t17 1 = some (jl (d17 (Env.of Try.prog)) [1, 2]) := by kernel_rfl
theorem c17p2 : decPt (Env.ofS Try.prog [] (m17 (Env.of Try.prog))) [6, 12] 20000 (d17 (Env.of Try.prog)) t17 2 = some (jl (d17 (Env.of Try.prog)) [2]) := by kernel_rfl
theorem c17 : DecOK (Env.ofS Try.prog [] (m17 (Env.of Try.prog))) [6, 12] 20000 (d17 (Env.of Try.prog)) t17 := fun i pt h => match i, h with
  | 0, _ => ⟨_, c17p0⟩
  | 1, _ => ⟨_, c17p1⟩
  | 2, _ => ⟨_, c17p2⟩
  | i + 3, h => nomatch (show none = some pt from h)
def m18 (E : Env) : List Sm := (d17 E).smL a17 (p17 E) 0 (d17 E).shs ++ m17 E

/- 18: (*phrasebook/counter.Bank).Copy -/
def a18 : List AV := [(.ptr 0 0)]
def p18 (E : Env) : Pt := entryPt E 24 3 a18 [some (.cells 2 (tmpsOf [(0, (.sb true (.var 0))), (1, (.asl 1 3 (.lenL (.var 1)) (.var 2)))])), some (.arr 79 (.var 1))] []
def d18 (E : Env) : Dec :=
  { g := 18, f := 24, p := 2, pts := [p18 E],
    shs := [{ m := 2, res := (.ptr 2 0), post := [none, none, some (.cells 2 (tmpsOf [(0, (.bool true)), (1, (.asl 3 3 (.lenL (.var 0)) (.var 1)))])), some (.arr 79 (.var 0))], keep := [0, 1] }, { m := 0, res := .ptr0, post := [none, none], keep := [0, 1] }] }
theorem c18p0 : decPt (Env.ofS Try.prog [] (m18 (Env.of Try.prog))) [] 20000 (d18 (Env.of Try.prog)) t18 0 = some (jl (d18 (Env.of Try.prog)) []) := by kernel_rfl
theorem c18 : DecOK (Env.ofS Try.prog [] (m18 (Env.of Try.prog))) [] 20000 (d18 (Env.of Try.prog)) t18 := fun i pt h => match i, h with
  | 0, _ => ⟨_, c18p0⟩
  | i + 1, h => nomatch (show none = some pt from h)
def m19 (E : Env) : List Sm := (d18 E).smL a18 (p18 E) 0 (d18 E).shs ++ m18 E

/- 19: phrasebook/phrasebooklaw30.CounterPlays -/
def p19 (E : Env) : Pt := lawPt E 6 [22, 60]
def d19 (E : Env) : Dec :=
  { g := 19, f := 6, p := 0, pts := [p19 E,
    loopPt E 6 152 10 8 [(1, (.dat 62 (.var 0))), (5, (.ptr 0 0)), (7, (.ptr 1 0)), (9, (.si .i64 (.var 1)))] [some (.cells 2 (tmpsOf [(0, (.bool true)), (1, (.asl 2 3 (.lenL (.var 2)) (.var 3)))])), some (.cells 2 (tmpsOf [(0, (.asl 3 2 (.lenL (.var 4)) (.var 5))), (1, (.asl 4 1 (.lenL (.var 6)) (.var 7)))])), some (.arr 79 (.var 2)), some (.arr 41 (.var 4)), some (.arr 3 (.var 6))] [] []],
    shs := [lawSh] }
theorem c19p0 : decPt (Env.ofS Try.prog [] (m19 (Env.of Try.prog))) [10] 20000 (d19 (Env.of Try.prog)) t19 0 = some (jl (d19 (Env.of Try.prog)) [1]) := by kernel_rfl
theorem c19p1 : decPt (Env.ofS Try.prog [] (m19 (Env.of Try.prog))) [10] 20000 (d19 (Env.of Try.prog)) t19 1 = some (jl (d19 (Env.of Try.prog)) [1, 1, 1, 1, 1, 1, 1, 1, 1, 1, 1]) := by kernel_rfl
theorem c19 : DecOK (Env.ofS Try.prog [] (m19 (Env.of Try.prog))) [10] 20000 (d19 (Env.of Try.prog)) t19 := fun i pt h => match i, h with
  | 0, _ => ⟨_, c19p0⟩
  | 1, _ => ⟨_, c19p1⟩
  | i + 2, h => nomatch (show none = some pt from h)

end Go.Proofs.Ythhmhljmamjgnaa.counterPlays
