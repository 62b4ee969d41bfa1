/- What is proved: that the functions which the law IndexNone reaches are the plain functions over data whose trees of tests the text before writes out (the kernel runs the evaluator over each place). Conditions: the program is the given one. -/
import Derived.Test.YtkhnegoolkefjaaGreatDoorProg
import Derived.KernelRfl
import Derived.Test.YtkhnegoolkefjaaGreatDoorIndexNoneTree
import Derived.Test.YtkhnegoolkefjaaGreatDoorIndexNoneKnownB
set_option linter.unusedVariables false
set_option linter.unusedSectionVars false
set_option linter.unusedSimpArgs false
namespace Go.Proofs.YtkhnegoolkefjaaGreatDoor.indexNone
open Go.AE Ix
def m0 (E : Env) : List Sm := []
instance pg : Pg Tryz.prog l46 := ⟨trivial⟩
def a0 : List AV := [(.func (.yield 0) [] []), (.ptr 3 0)]
def p0 (E : Env) : Pt := CB E 70 3 a0 [some (KI E 3 13 .ready none 120 [(4, (.ptr 1 0))] 2), some (.cells 1 (Cc [(0, bV 0)])), some (.deferred (some [])), some (.cells 1 (Cc [(0, aV 4 1 1 2)])), rV 3 1] []
def z0 : Ag := (.cells 1 (Cc [(0, (.bool false))]))
def d0 (E : Env) : Dec :=
 {g := 0, f := 70, p := 5, pts := [p0 E,
  Kn E 70 16 1 3 [(0, (.func (.yield 0) [] [])), (5, aV 4 1 0 1), (6, (.si .i64 (.lenL (.var 0)))), (7, (.int .i64 0))] [some (KI E 3 13 .ready none 120 [(4, (.ptr 1 0))] 2), some (.cells 1 (Cc [(0, bV 2)])), some (.deferred (some [])), some (.cells 1 (Cc [(0, aV 4 1 0 1)])), rV 3 0] [] []],
  shs := [{ m := 0, res := (.tuple []), post := [some (KI E 3 13 .done (some .ret) 120 [] 2), some z0, none, none, none], keep := [2, 3, 4] }, { m := 0, res := (.tuple []), post := [none, none, none, none, none], keep := [0, 1, 2, 3, 4] }] }
theorem Td : B5 (EF m0) [1] 20000 (d0 E0) t0 0 = some (jl (d0 E0) [1]) := by kernel_rfl
theorem Ti : B5 (EF m0) [1] 20000 (d0 E0) t0 1 = some (jl (d0 E0) []) := by kernel_rfl
theorem c0 : Hq (EF m0) [1] 20000 (d0 E0) t0 := dk2 rfl Td Ti
def m1 (E : Env) : List Sm := (d0 E).smL a0 (p0 E) 0 (d0 E).shs ++ m0 E
def p1 (E : Env) : Pt := Iq E 3 [3, 24]
def z1 : Ag := (.cells 8 (Cc [(0, iV 1), (1, iV 2), (2, dV 3 3), (3, sV 4), (4, sV 5), (5, iV 6), (6, iV 7), (7, bV 8)]))
def z2 : Ag := (.cells 6 (Cc [(0, .slice0), (1, .slice0), (2, .map0), (3, .map0), (4, .slice0), (5, (.bool false))]))
def d1 (E : Env) : Dec :=
 {g := 1, f := 3, p := 0, pts := [p1 E,
  Kn E 3 120 4 9 [(0, iV 0), (3, (.ptr 0 0)), (4, (.ptr 1 0)), (33, (.slice 2 0 2 1)), (34, (.int .i64 2)), (35, (.int .i64 0))] [some z1, some z0, some (.cells 2 (Cc [(0, .ptr0), (1, (.ptr 3 0))])), some z2] [] [],
  Kn E 3 120 4 9 [(0, iV 0), (3, (.ptr 0 0)), (4, (.ptr 1 0)), (33, (.slice 2 0 2 1)), (34, (.int .i64 2)), (35, (.int .i64 1))] [some z1, some z0, some (.cells 2 (Cc [(0, .ptr0), (1, (.ptr 4 0))])), some (.deferred (some [])), some z2] [] [3],
  Kn E 3 120 4 9 [(0, iV 0), (3, (.ptr 0 0)), (4, (.ptr 1 0)), (33, (.slice 2 0 2 1)), (34, (.int .i64 2)), (35, (.int .i64 2))] [some z1, some z0, some (.cells 2 (Cc [(0, .ptr0), (1, (.ptr 5 0))])), some (.deferred (some [])), some (.deferred (some [])), some z2] [] [3, 4]],
  shs := [IB] }
theorem Ty : B5 (EF m1) [4] 20000 (d1 E0) t1 0 = some (jl (d1 E0) [1]) := by kernel_rfl
theorem Tv : B5 (EF m1) [4] 20000 (d1 E0) t1 1 = some (jl (d1 E0) [2]) := by kernel_rfl
theorem S8 : B5 (EF m1) [4] 20000 (d1 E0) t1 2 = some (jl (d1 E0) [3]) := by kernel_rfl
theorem Tk : B5 (EF m1) [4] 20000 (d1 E0) t1 3 = some (jl (d1 E0) []) := by kernel_rfl
theorem c1 : Hq (EF m1) [4] 20000 (d1 E0) t1 := dk4 rfl Ty Tv S8 Tk
end Go.Proofs.YtkhnegoolkefjaaGreatDoor.indexNone

