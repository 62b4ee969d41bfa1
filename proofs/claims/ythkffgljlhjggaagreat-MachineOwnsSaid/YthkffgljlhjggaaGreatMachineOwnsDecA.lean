/- What is proved: that the law MachineOwns itself is the plain function over data whose tree of tests was written out before: place 0. Conditions: the program is the given one. -/
import Derived.Test.YthkffgljlhjggaaGreatMachineOwnsDec
set_option linter.unusedVariables false
set_option linter.unusedSectionVars false
set_option linter.unusedSimpArgs false
namespace Go.Proofs.YthkffgljlhjggaaGreat.machineOwns
open Go.AE Mo
def m72 (E : Env) : List Sm := (d71 E).smL a71 (p71 E) 0 (d71 E).shs ++ m71 E
def p72 (E : Env) : Pt := EC E 5 [26, 27]
def z39 : Ao := (.cells 1 (Ad [(0, (.ptr 5 0))]))
def z40 : Ao := (.cells 10 (Ad [(0, sV 6), (1, dV 63 7), (2, dV 65 8), (3, dV 68 9), (4, sV 10), (5, (.int .i64 0)), (6, dV 65 11), (7, dV 3 12), (8, (.int .i64 0)), (9, (.dat 53 .nilL))]))
def z41 : Ao := (.cells 4 (Ad [(0, sV 2), (1, aV 6 3 13 14), (2, aV 7 2 15 16), (3, aV 8 9 17 18)]))
def z42 : Ao := (.cells 8 (Ad [(0, sV 2), (1, aV 6 3 13 19), (2, aV 7 2 15 20), (3, aV 8 9 17 21), (4, sV 22), (5, aV 9 3 23 24), (6, aV 10 2 25 26), (7, aV 11 9 27 28)]))
def z43 : Ao := (.cells 11 (Ad [(0, (.ptr 12 0)), (1, sV 29), (2, aV 13 3 30 31), (3, aV 14 2 32 33), (4, aV 15 9 34 35), (5, sV 36), (6, bV 37), (7, iV 38), (8, (.ptr 16 0)), (9, (.bool false)), (10, (.asl 17 2 (.lenL (.var 39)) (.bc true)))]))
def z44 : Ao := (.cells 2 (Ad [(0, (.bool true)), (1, aV 18 3 40 41)]))
def z45 : Ao := (.cells 3 (Ad [(0, (.int .i64 0)), (1, (.nmap 19 (.var 42))), (2, aV 20 2 43 44)]))
def z46 : Ao := (.cells 4 (Ad [(0, sV 13), (1, aV 6 3 14 15), (2, aV 7 2 16 17), (3, aV 8 9 18 19)]))
def z47 : Ao := (.cells 8 (Ad [(0, sV 2), (1, aV 9 3 20 21), (2, aV 10 2 22 23), (3, aV 11 9 24 25), (4, sV 13), (5, aV 6 3 14 15), (6, aV 7 2 16 17), (7, aV 8 9 18 19)]))
def z48 : Ao := (.cells 11 (Ad [(0, (.ptr 12 0)), (1, sV 26), (2, aV 13 3 27 28), (3, aV 14 2 29 30), (4, aV 15 9 31 32), (5, sV 33), (6, bV 34), (7, iV 35), (8, (.ptr 16 0)), (9, (.bool false)), (10, (.asl 17 2 (.lenL (.var 36)) (.bc true)))]))
def z49 : Ao := (.cells 2 (Ad [(0, (.bool true)), (1, aV 18 3 37 38)]))
def z50 : Ao := (.cells 3 (Ad [(0, (.int .i64 0)), (1, (.nmap 19 (.var 39))), (2, aV 20 2 40 41)]))
def d72 (E : Env) : Dec :=
 {g := 72, f := 5, p := 0, pts := [p72 E,
  Ax E 5 159 14 46 [(1, dV 44 0), (2, (.ptr 0 0)), (6, (.ptr 1 0)), (8, (.ptr 2 0)), (12, (.ptr 3 0)), (13, iV 1), (71, (.slice 4 0 2 4)), (72, (.int .i64 2)), (73, (.int .i64 0))] [some z5, some z39, some z40, some z41, some z42, some z43, rV 63 13, rV 65 15, rV 68 17, rV 63 23, rV 65 25, rV 68 27, some z44, rV 63 30, rV 65 32, rV 68 34, some z45, rV 52 39, rV 141 40, some (.dmap 3 3 (.var 45)), rV 158 43] [] [],
  Ax E 5 159 18 46 [(1, dV 44 0), (2, (.ptr 0 0)), (6, (.ptr 1 0)), (8, (.ptr 2 0)), (12, (.ptr 3 0)), (14, iV 1), (71, (.slice 4 0 2 4)), (72, (.int .i64 2)), (73, (.int .i64 0))] [some z5, some z39, some z40, some z41, some z42, some z43, rV 63 13, rV 65 15, rV 68 17, rV 63 23, rV 65 25, rV 68 27, some z44, rV 63 30, rV 65 32, rV 68 34, some z45, rV 52 39, rV 141 40, some (.dmap 3 3 (.var 45)), rV 158 43] [] [],
  Ax E 5 159 22 46 [(1, dV 44 0), (2, (.ptr 0 0)), (6, (.ptr 1 0)), (8, (.ptr 2 0)), (12, (.ptr 3 0)), (15, iV 1), (71, (.slice 4 0 2 4)), (72, (.int .i64 2)), (73, (.int .i64 0))] [some z5, some z39, some z40, some z41, some z42, some z43, rV 63 13, rV 65 15, rV 68 17, rV 63 23, rV 65 25, rV 68 27, some z44, rV 63 30, rV 65 32, rV 68 34, some z45, rV 52 39, rV 141 40, some (.dmap 3 3 (.var 45)), rV 158 43] [] [],
  Ax E 5 159 14 43 [(1, dV 44 0), (2, (.ptr 0 0)), (6, (.ptr 1 0)), (8, (.ptr 2 0)), (12, (.ptr 3 0)), (13, iV 1), (71, (.slice 4 0 2 4)), (72, (.int .i64 2)), (73, (.int .i64 1))] [some z5, some z39, some z40, some z46, some z47, some z48, rV 63 14, rV 65 16, rV 68 18, rV 63 20, rV 65 22, rV 68 24, some z49, rV 63 27, rV 65 29, rV 68 31, some z50, rV 52 36, rV 141 37, some (.dmap 3 3 (.var 42)), rV 158 40] [] [],
  Ax E 5 159 18 43 [(1, dV 44 0), (2, (.ptr 0 0)), (6, (.ptr 1 0)), (8, (.ptr 2 0)), (12, (.ptr 3 0)), (14, iV 1), (71, (.slice 4 0 2 4)), (72, (.int .i64 2)), (73, (.int .i64 1))] [some z5, some z39, some z40, some z46, some z47, some z48, rV 63 14, rV 65 16, rV 68 18, rV 63 20, rV 65 22, rV 68 24, some z49, rV 63 27, rV 65 29, rV 68 31, some z50, rV 52 36, rV 141 37, some (.dmap 3 3 (.var 42)), rV 158 40] [] [],
  Ax E 5 159 22 43 [(1, dV 44 0), (2, (.ptr 0 0)), (6, (.ptr 1 0)), (8, (.ptr 2 0)), (12, (.ptr 3 0)), (15, iV 1), (71, (.slice 4 0 2 4)), (72, (.int .i64 2)), (73, (.int .i64 1))] [some z5, some z39, some z40, some z46, some z47, some z48, rV 63 14, rV 65 16, rV 68 18, rV 63 20, rV 65 22, rV 68 24, some z49, rV 63 27, rV 65 29, rV 68 31, some z50, rV 52 36, rV 141 37, some (.dmap 3 3 (.var 42)), rV 158 40] [] [],
  Ax E 5 159 28 33 [(1, dV 44 0), (6, (.ptr 0 0)), (8, (.ptr 1 0)), (16, bV 1), (17, iV 2)] [some (.cells 1 (Ad [(0, (.ptr 2 0))])), some z31, some (.cells 11 (Ad [(0, (.ptr 3 0)), (1, sV 13), (2, aV 4 3 14 15), (3, aV 5 2 16 17), (4, aV 6 9 18 19), (5, sV 20), (6, bV 21), (7, iV 22), (8, (.ptr 7 0)), (9, bV 23), (10, aV 8 2 24 25)])), some (.cells 2 (Ad [(0, (.bool true)), (1, aV 9 3 26 27)])), rV 63 14, rV 65 16, rV 68 18, some (.cells 3 (Ad [(0, iV 28), (1, (.nmap 10 (.var 29))), (2, aV 11 2 30 31)])), rV 52 24, rV 141 26, some (.dmap 3 3 (.var 32)), rV 158 30] [] []],
  shs := [EE] }
theorem dQ : Ah (EF m72) [14, 18, 22, 28] 20000 (d72 E0) t72 0 = some (jl (d72 E0) [1]) := by kernel_rfl
end Go.Proofs.YthkffgljlhjggaaGreat.machineOwns

