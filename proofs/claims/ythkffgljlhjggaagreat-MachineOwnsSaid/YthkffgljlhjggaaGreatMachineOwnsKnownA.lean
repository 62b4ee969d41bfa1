/- What is proved: that certain calls which the law MachineOwns makes come to the results that are written here (part 1 of 1). Conditions: the memory that such a call reaches is as written here; the kernel runs the evaluator over each. -/
import Derived.Test.YthkffgljlhjggaaGreatBeF
import Derived.Test.YthkffgljlhjggaaGreatChecked
import Derived.KernelRfl
set_option linter.unusedVariables false
set_option linter.unusedSectionVars false
set_option linter.unusedSimpArgs false
namespace Go.Proofs.YthkffgljlhjggaaGreat.machineOwns
open Go.AE
theorem okE (l : List Orc) (m : List Sm) : ∀ [U : Unk], U.K = (Env.of Tryz.prog).kinds → OK (Env.ofS Tryz.prog l m) := fun {U} h => OK.of (U := U) (P := Tryz.prog) (Checked.mixed Tryz.checked) (by kernel_rfl) h
theorem w0 (G : Nat → D → D) : Ai (Env.ofS Tryz.prog [] []) G := Ai.none (U := GE)
def y0 : T AV := (lf (.int .i64 (.ofNat 2)))
def y1 : Ao := (.cells 3 (nd (.str 1 110) y0 y0))
def y2 : T AV := (lf (.int .i64 (.ofNat 0)))
def y3 : T AV := (nd (.int .i64 (.ofNat 1)) y2 .nil)
def y4 : T Ao := (no (no (lf (.cells 18 (nd (.str 1 97) (nd (.str 1 98) (nd (.str 1 109) y3 (lf (.int .i64 (.ofNat 3)))) (nd (.str 1 110) (nd (.str 1 98) y2 .nil) (lf (.str 0 0)))) (nd (.int .i64 (.ofNat 1)) (nd (.str 1 115) y3 (lf (.str 0 0))) (nd (.int .i64 (.ofNat 0)) (lf (.str 1 97)) (lf (.str 0 0))))))) .nil) .nil)
def y5 : T AV := (lf (.int .i64 (.ofNat 5)))
def y6 : T Ao := (no (no (lf (.cells 6 (nd (.str 1 97) (nd (.bool false) (lf (.str 1 98)) y5) (nd (.int .i64 (.ofNat 0)) (lf (.bool true)) .nil)))) .nil) .nil)
def y7 : Ao := (.cells 2 (nd (.bool true) (lf (.slice 63 0 1 3)) .nil))
def y8 : T Ao := (no .nil (no (lf (.cells 1 (lf (.ptr 73 0)))) .nil))
def y9 : T Ao := (no (no (no (lf (.cells 2 (nd (.str 1 110) y0 .nil))) .nil) .nil) .nil)
def y10 : T Ao := (no .nil (no (lf (.cells 2 (nd (.int .i64 (.ofNat 13)) y2 .nil))) .nil))
def y11 : T AV := (lf (.int .i64 (.ofNat 8)))
def y12 : T Ao := (no .nil (lf (.cells 8 (nd (.int .i64 (.ofNat 0)) (nd (.int .i64 (.ofNat 3)) (nd (.int .i64 (.ofNat 8)) (lf (.int .i64 (.ofNat 20))) .nil) y11) (nd (.int .i64 (.ofNat 1)) y2 (lf (.int .i64 (.ofNat 1))))))))
def y13 : T Ao := (no (no (lf (.cells 11 (nd (.ptr 59 0) (nd (.str 1 99) (nd (.slice 69 0 1 2) y2 .nil) (nd (.str 1 97) (lf (.bool false)) .nil)) (nd (.slice 67 0 2 3) (nd (.slice 71 0 2 9) (lf (.ptr 348 0)) .nil) (nd (.bool false) (lf (.slice 383 0 4 2)) .nil))))) .nil) (no (no .nil (no (lf (.map [] 2)) .nil)) .nil))
def y14 : T Ao := (no (no .nil (no .nil (no .nil (no (no .nil (no (lf (.cells 3 (nd (.int .i64 (.ofNat 20)) (lf (.map 345)) (lf (.slice 347 0 0 2))))) .nil)) .nil)))) .nil)
def o1 : Orc :=
 { f := 14, args := [(.ptr 81 0), (.int .i64 (.ofNat 20)), (.int .i64 (.ofNat 1))], part := (no (no (no (no (no (no (lf y1) .nil) .nil) y4) (no y6 (no (no .nil (no (no (lf (.cells 3 (nd (.int .i64 (.ofNat 8)) (lf (.map 297)) (lf (.slice 340 0 1 2))))) .nil) .nil)) (lf y7)))) (no (no y8 (no (no (lf (.cells 11 (nd (.ptr 59 0) (nd (.str 1 99) (nd (.slice 69 0 1 2) y5 .nil) (nd (.str 1 98) (lf (.bool false)) .nil)) (nd (.slice 67 0 2 3) (nd (.slice 71 0 2 9) (lf (.ptr 299 0)) .nil) (nd (.bool true) (lf (.slice 342 0 3 2)) .nil))))) (no (no (lf (.map [⟨(.int .i64 (.ofNat 0)), (.int .i64 (.ofNat 13)), 1⟩] 2)) .nil) .nil)) .nil)) y9)) (no (no .nil (no (no .nil (no y10 .nil)) .nil)) (no .nil (no (no .nil (no (no .nil (no (lf (.cells 6 (nd (.int .i64 (.ofNat 0)) (nd (.int .i64 (.ofNat 3)) y11 y11) y3))) .nil)) .nil)) .nil)))), nx := 343, ok := true, v := (.int .i64 (.ofNat 0)), out := (no (no (no (no (no (no (no y12 .nil) .nil) .nil) .nil) (no .nil (no .nil (no y10 .nil)))) (no (no .nil y13) .nil)) y14), nx' := 384, wr := [73, 342] }
def l1 : List Orc := o1 :: []
theorem k1 : ∀ [F : Facts], K9 (Env.ofS Tryz.prog [] []) 20000 o1 = true := by
 intro F
 kernel_rfl
theorem w1 (G : Nat → D → D) : Ai (Env.ofS Tryz.prog l1 []) G := Ai.add (U := GE) (okE [] []) (w0 G) k1
def o2 : Orc :=
 { f := 14, args := [(.ptr 81 0), (.int .i64 (.ofNat 20)), (.int .i64 (.ofNat 0))], part := (no (no (no (no (no (no (nd y1 y12 .nil) .nil) .nil) y4) (no y6 (no .nil (nd y7 y10 .nil)))) (no (no y8 y13) y9)) y14), nx := 384, ok := true, v := (.int .i64 (.ofNat 8)), out := .nil, nx' := 406, wr := [] }
def l2 : List Orc := o2 :: l1
theorem k2 : ∀ [F : Facts], K9 (Env.ofS Tryz.prog l1 []) 20000 o2 = true := by
 intro F
 kernel_rfl
theorem w2 (G : Nat → D → D) : Ai (Env.ofS Tryz.prog l2 []) G := Ai.add (U := GE) (okE l1 []) (w1 G) k2
end Go.Proofs.YthkffgljlhjggaaGreat.machineOwns

