/- What is proved: that the law MachineBegins itself is the plain function over data whose tree of tests was written out before: place 0. Conditions: the program is the given one. -/
import Derived.Test.YthkffgljlhjggaaGreatMachineBeginsDec
set_option linter.unusedVariables false
set_option linter.unusedSectionVars false
set_option linter.unusedSimpArgs false
namespace Go.Proofs.YthkffgljlhjggaaGreat.machineBegins
open Go.AE Mb
def m81 (E : Env) : List Sm := (d80 E).smL a80 (p80 E) 0 (d80 E).shs ++ m80 E
def p81 (E : Env) : Pt := EP E 6 [26, 70, 3, 27]
def z43 : Aq := (.cells 1 (Af [(0, (.ptr 3 0))]))
def d81 (E : Env) : Dec :=
 {g := 81, f := 6, p := 0, pts := [p81 E,
  AA E 6 163 12 33 [(3, dV 44 0), (10, (.ptr 0 0)), (12, (.ptr 1 0)), (14, bV 1), (15, iV 2)] [some z15, some z30, some (.cells 11 (Af [(0, (.ptr 3 0)), (1, sV 13), (2, aV 4 3 14 15), (3, aV 5 2 16 17), (4, aV 6 9 18 19), (5, sV 20), (6, bV 21), (7, iV 22), (8, (.ptr 7 0)), (9, bV 23), (10, aV 8 2 24 25)])), some (.cells 2 (Af [(0, (.bool true)), (1, aV 9 3 26 27)])), rV 63 14, rV 65 16, rV 68 18, some (.cells 3 (Af [(0, iV 28), (1, (.nmap 10 (.var 29))), (2, aV 11 2 30 31)])), rV 52 24, rV 141 26, some (.dmap 3 3 (.var 32)), rV 158 30] [] [],
  AA E 6 163 1000018 36 [(3, dV 44 0), (10, (.ptr 0 0)), (12, (.ptr 1 0)), (14, bV 1), (15, iV 2), (16, (.ptr 2 0))] [some z43, some z30, some (.cells 2 (Af [(0, sV 13), (1, aV 4 1 14 15)])), some (.cells 11 (Af [(0, (.ptr 5 0)), (1, sV 16), (2, aV 6 3 17 18), (3, aV 7 2 19 20), (4, aV 8 9 21 22), (5, sV 23), (6, bV 24), (7, iV 25), (8, (.ptr 9 0)), (9, bV 26), (10, aV 10 2 27 28)])), rV 3 14, some (.cells 2 (Af [(0, (.bool true)), (1, aV 11 3 29 30)])), rV 63 17, rV 65 19, rV 68 21, some (.cells 3 (Af [(0, iV 31), (1, (.nmap 12 (.var 32))), (2, aV 13 2 33 34)])), rV 52 27, rV 141 29, some (.dmap 3 3 (.var 35)), rV 158 33] [] [],
  AA E 6 163 20 37 [(3, dV 44 0), (10, (.ptr 0 0)), (12, (.ptr 1 0)), (14, bV 1), (15, iV 2), (16, (.ptr 2 0)), (17, iV 3)] [some z43, some z42, some (.cells 2 (Af [(0, sV 14), (1, aV 4 1 15 16)])), some (.cells 11 (Af [(0, (.ptr 5 0)), (1, sV 17), (2, aV 6 3 18 19), (3, aV 7 2 20 21), (4, aV 8 9 22 23), (5, sV 24), (6, bV 25), (7, iV 26), (8, (.ptr 9 0)), (9, bV 27), (10, aV 10 2 28 29)])), rV 3 15, some (.cells 2 (Af [(0, (.bool true)), (1, aV 11 3 30 31)])), rV 63 18, rV 65 20, rV 68 22, some (.cells 3 (Af [(0, iV 32), (1, (.nmap 12 (.var 33))), (2, aV 13 2 34 35)])), rV 52 28, rV 141 30, some (.dmap 3 3 (.var 36)), rV 158 34] [] []],
  shs := [EO] }
theorem bU : Ai (EF m81) [12, 20, 1000018] 20000 (d81 E0) t81 0 = some (jl (d81 E0) [1]) := by kernel_rfl
end Go.Proofs.YthkffgljlhjggaaGreat.machineBegins

