/- What is proved: that certain calls which the law ConvertReplaces makes come to the results that are written here (part 2 of 2). Conditions: the memory that such a call reaches is as written here; the kernel runs the evaluator over each. -/
import Derived.Test.YtpcdkfgmpekeeaaConvertReplacesKnownA
set_option linter.unusedVariables false
set_option linter.unusedSectionVars false
set_option linter.unusedSimpArgs false
namespace Go.Proofs.Ytpcdkfgmpekeeaa.convertReplaces
open Go.AE
def y48 : T Aj := (no .nil (no (no (no (no .nil (lf (.cells 0 .nil))) .nil) .nil) .nil))
def o19 : Orc :=
 { f := 16, args := [(.agg [(.str 1 110), (.slice 1386 0 3 3), .slice0, (.slice 1390 0 3 9)])], part := (no .nil (no .nil (no (no .nil (no (no .nil (no .nil (no (no .nil (no (lf y7) .nil)) .nil))) .nil)) (no .nil (no (no .nil (no .nil (no (no .nil (no y8 .nil)) .nil))) .nil))))), nx := 1391, ok := true, v := (.tuple [(.slice 1600 0 3 2), (.int .i64 (.ofNat 0))]), out := (no (no (no (no .nil (no .nil y48)) .nil) .nil) (no (no (no (no (no (no .nil (no (no (no .nil (lf (.cells 6 (nd (.str 1 88) (nd (.slice 1584 0 0 1) (lf (.slice 1591 0 0 1)) (lf (.slice 1598 0 0 1))) (nd (.str 1 89) (lf (.str 1 90)) .nil))))) .nil) .nil)) .nil) y48) .nil) .nil) (no .nil (no .nil (no .nil y48))))), nx' := 1601, wr := [] }
def l19 : List Orc := o19 :: l18
theorem k19 : ∀ [F : Facts], A4 (Env.ofS Try.prog l18 []) 20000 o19 = true := by
 intro F
 kernel_rfl
theorem w19 (G : Nat → D → D) : Af (Env.ofS Try.prog l19 []) G := Af.add (U := BC) (okE l18 []) (w18 G) k19
def y49 : T Aj := (no .nil (no .nil (lf y7)))
def o20 : Orc :=
 { f := 75, args := [(.int .i64 (.ofNat 3)), (.int .i64 (.ofNat 0)), (.int .i64 (.ofNat 80)), (.func (.func 80) [] [(.ptr 1894 0)])], part := (no (no (no (no .nil (no (no .nil (no (no (no .nil (no .nil y8)) .nil) .nil)) .nil)) (no (no (no .nil (no (no y49 .nil) .nil)) .nil) .nil)) .nil) (no .nil (no .nil (no (no (no .nil (no .nil (no (no .nil (no .nil (lf (.cells 4 (nd (.str 1 110) (nd (.slice 1827 0 3 3) (lf (.slice 1831 0 3 9)) .nil) (lf .slice0)))))) .nil))) .nil) .nil)))), nx := 1914, ok := true, v := (.int .i64 (.negSucc 0)), out := .nil, nx' := 1970, wr := [] }
def l20 : List Orc := o20 :: l19
theorem k20 : ∀ [F : Facts], A4 (Env.ofS Try.prog l19 []) 20000 o20 = true := by
 intro F
 kernel_rfl
theorem w20 (G : Nat → D → D) : Af (Env.ofS Try.prog l20 []) G := Af.add (U := BC) (okE l19 []) (w19 G) k20
def o21 : Orc :=
 { f := 10, args := [(.agg [(.str 1 111), (.slice 1999 0 2 3), .slice0, (.slice 2002 0 2 9)]), (.agg [(.str 1 110), (.slice 2004 0 3 3), .slice0, (.slice 2008 0 3 9)]), (.agg [(.slice 1996 0 2 2), .slice0])], part := (no (no (no (no (no .nil (no (no .nil (no .nil (no .nil (no .nil y1)))) .nil)) .nil) .nil) .nil) (no (no (no .nil (no .nil (no (no .nil (no .nil (no .nil (no .nil y8)))) .nil))) (no (no .nil (no (no .nil (no .nil y49)) .nil)) (no (no (no .nil (no .nil (no .nil (no .nil (lf (.cells 4 (nd (.str 1 65) y5 (lf (.str 1 65))))))))) .nil) .nil))) (no (no (no .nil (no (no .nil (no .nil (no .nil (no .nil (lf y4))))) .nil)) .nil) .nil))), nx := 2009, ok := true, v := (.tuple [(.int .i64 (.ofNat 1)), (.int .i64 (.ofNat 490))]), out := .nil, nx' := 2155, wr := [] }
def l21 : List Orc := o21 :: l20
theorem k21 : ∀ [F : Facts], A4 (Env.ofS Try.prog l20 []) 20000 o21 = true := by
 intro F
 kernel_rfl
theorem w21 (G : Nat → D → D) : Af (Env.ofS Try.prog l21 []) G := Af.add (U := BC) (okE l20 []) (w20 G) k21
def y50 : T Aj := (no .nil (no (no (no (lf (.cells 4 (nd (.str 1 111) (nd (.slice 2156 0 2 3) (lf (.slice 2159 0 2 9)) .nil) (lf .slice0)))) .nil) .nil) .nil))
def y51 : T Aj := (no .nil (no .nil (no (no (no (no (lf y4) .nil) .nil) .nil) .nil)))
def y52 : T Aj := (no (no .nil (no .nil (no (no (no (no y1 .nil) .nil) .nil) .nil))) .nil)
def y53 : T Aj := (no (no .nil (no .nil y52)) .nil)
def o22 : Orc :=
 { f := 75, args := [(.int .i64 (.ofNat 2)), (.int .i64 (.ofNat 0)), (.int .i64 (.ofNat 80)), (.func (.func 80) [] [(.ptr 2175 0)])], part := (no (no (no (no (no (no (no y50 .nil) .nil) y51) .nil) .nil) .nil) y53), nx := 2188, ok := true, v := (.int .i64 (.negSucc 0)), out := .nil, nx' := 2224, wr := [] }
def l22 : List Orc := o22 :: l21
theorem k22 : ∀ [F : Facts], A4 (Env.ofS Try.prog l21 []) 20000 o22 = true := by
 intro F
 kernel_rfl
theorem w22 (G : Nat → D → D) : Af (Env.ofS Try.prog l22 []) G := Af.add (U := BC) (okE l21 []) (w21 G) k22
def y54 : T Aj := (no (no (no (no (lf y7) .nil) .nil) .nil) .nil)
def y55 : T Aj := (no (no .nil (no .nil (no .nil (no (no (no (no y8 .nil) .nil) .nil) .nil)))) .nil)
def o23 : Orc :=
 { f := 75, args := [(.int .i64 (.ofNat 3)), (.int .i64 (.ofNat 0)), (.int .i64 (.ofNat 80)), (.func (.func 80) [] [(.ptr 2225 0)])], part := (no (no .nil (no (no (no .nil (no .nil (no (no .nil (no (no (no (lf (.cells 4 (nd (.str 1 110) (nd (.slice 2161 0 3 3) (lf (.slice 2165 0 3 9)) .nil) (lf .slice0)))) .nil) .nil) .nil)) y54))) .nil) y55)) .nil), nx := 2245, ok := true, v := (.int .i64 (.negSucc 0)), out := .nil, nx' := 2301, wr := [] }
def l23 : List Orc := o23 :: l22
theorem k23 : ∀ [F : Facts], A4 (Env.ofS Try.prog l22 []) 20000 o23 = true := by
 intro F
 kernel_rfl
theorem w23 (G : Nat → D → D) : Af (Env.ofS Try.prog l23 []) G := Af.add (U := BC) (okE l22 []) (w22 G) k23
def y56 : AV := (.agg [(.str 1 110), (.slice 2161 0 3 3), .slice0, (.slice 2165 0 3 9)])
def y57 : T Aj := (no (no (no .nil (no .nil (no .nil y54))) .nil) y55)
def o24 : Orc :=
 { f := 50, args := [y56], part := (no (no .nil y57) .nil), nx := 2225, ok := true, v := (.tuple [(.int .i64 (.ofNat 0)), (.int .i64 (.ofNat 0))]), out := .nil, nx' := 2301, wr := [] }
def l24 : List Orc := o24 :: l23
theorem k24 : ∀ [F : Facts], A4 (Env.ofS Try.prog l23 []) 20000 o24 = true := by
 intro F
 kernel_rfl
theorem w24 (G : Nat → D → D) : Af (Env.ofS Try.prog l24 []) G := Af.add (U := BC) (okE l23 []) (w23 G) k24
def o25 : Orc :=
 { f := 10, args := [(.agg [(.str 1 111), (.slice 2156 0 2 3), .slice0, (.slice 2159 0 2 9)]), y56, (.agg [.slice0, .slice0])], part := (no (no (no (no (no .nil y51) .nil) .nil) y57) y53), nx := 2170, ok := true, v := (.tuple [(.int .i64 (.ofNat 0)), (.int .i64 (.ofNat 0))]), out := .nil, nx' := 2301, wr := [] }
def l25 : List Orc := o25 :: l24
theorem k25 : ∀ [F : Facts], A4 (Env.ofS Try.prog l24 []) 20000 o25 = true := by
 intro F
 kernel_rfl
theorem w25 (G : Nat → D → D) : Af (Env.ofS Try.prog l25 []) G := Af.add (U := BC) (okE l24 []) (w24 G) k25
def y58 : AV := (.agg [(.int .i64 (.ofNat 0)), (.int .i64 (.ofNat 0)), (.int .i64 (.ofNat 0)), (.int .i64 (.ofNat 0)), (.int .i64 (.ofNat 0))])
def y59 : T Aj := (no .nil (no .nil (no .nil y50)))
def y60 : AV := (.agg [(.int .i64 (.ofNat 1)), (.int .i64 (.ofNat 0)), (.int .i64 (.ofNat 0)), (.int .i64 (.ofNat 0)), (.int .i64 (.ofNat 0))])
def y61 : T Aj := (no (no (no (no .nil (no (no (lf (.map [⟨y58, (.bool true), 0⟩, ⟨y60, (.bool true), 1⟩] 2)) .nil) .nil)) .nil) .nil) .nil)
def y62 : T Aj := (no (no .nil (no (no (no .nil (no (no (lf (.cells 10 (nd (.int .i64 (.ofNat 0)) y38 y24))) .nil) .nil)) .nil) .nil)) .nil)
def y63 : T Aj := (no (no (no (no (no (no .nil (no (no (lf (.cells 2 (nd (.slice 2341 0 2 5) (lf (.map 2303)) .nil))) .nil) .nil)) .nil) .nil) .nil) .nil) .nil)
def o26 : Orc :=
 { f := 59, args := [y58, (.func (.func 82) [(.ptr 2304 0)] []), (.ptr 2301 0)], part := (no (no (no (no (no (no (no (no (no .nil (no (no (lf (.map [⟨y58, (.bool true), 0⟩] 1)) .nil) .nil)) .nil) .nil) .nil) y51) .nil) .nil) (no .nil (no .nil y59))) (no (no (no (no (no (no (no (no .nil (no (no (lf (.cells 2 (nd (.slice 2308 0 1 5) (lf (.map 2303)) .nil))) .nil) .nil)) .nil) .nil) .nil) .nil) .nil) (no (no (no (no (no (no .nil (no (no (lf (.cells 5 y29)) .nil) .nil)) .nil) .nil) .nil) .nil) y52)) .nil)), nx := 2309, ok := true, v := (.bool false), out := (no (no (no (no (no y61 .nil) .nil) .nil) (no .nil (no y62 .nil))) (no (no y63 .nil) .nil)), nx' := 2342, wr := [2304, 2308, 2303] }
def l26 : List Orc := o26 :: l25
theorem k26 : ∀ [F : Facts], A4 (Env.ofS Try.prog l25 []) 20000 o26 = true := by
 intro F
 kernel_rfl
theorem w26 (G : Nat → D → D) : Af (Env.ofS Try.prog l26 []) G := Af.add (U := BC) (okE l25 []) (w25 G) k26
def o27 : Orc :=
 { f := 59, args := [y60, (.func (.func 82) [(.ptr 2304 0)] []), (.ptr 2301 0)], part := (no (no (no (no (no y61 y51) .nil) .nil) (no .nil (no y62 y59))) (no (no y63 (no .nil y52)) .nil)), nx := 2342, ok := true, v := (.bool false), out := .nil, nx' := 2372, wr := [] }
def l27 : List Orc := o27 :: l26
theorem k27 : ∀ [F : Facts], A4 (Env.ofS Try.prog l26 []) 20000 o27 = true := by
 intro F
 kernel_rfl
theorem w27 (G : Nat → D → D) : Af (Env.ofS Try.prog l27 []) G := Af.add (U := BC) (okE l26 []) (w26 G) k27
end Go.Proofs.Ytpcdkfgmpekeeaa.convertReplaces

