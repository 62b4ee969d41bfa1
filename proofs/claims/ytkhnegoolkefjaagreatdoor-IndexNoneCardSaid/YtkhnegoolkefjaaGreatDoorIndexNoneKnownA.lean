/- What is proved: that certain calls which the law IndexNone makes come to the results that are written here (part 1 of 2). Conditions: the memory that such a call reaches is as written here; the kernel runs the evaluator over each. -/
import Derived.Test.YtkhnegoolkefjaaGreatDoorBeG
import Derived.Test.YtkhnegoolkefjaaGreatDoorChecked
import Derived.KernelRfl
set_option linter.unusedVariables false
set_option linter.unusedSectionVars false
set_option linter.unusedSimpArgs false
namespace Go.Proofs.YtkhnegoolkefjaaGreatDoor.indexNone
open Go.AE
theorem okE (l : List Orc) (m : List Sm) : ∀ [U : Unk], U.K = (Env.of Tryz.prog).kinds → OK (Env.ofS Tryz.prog l m) := fun {U} h => OK.of (U := U) (P := Tryz.prog) (Checked.mixed Tryz.checked) (by kernel_rfl) h
theorem w0 (G : Nat → D → D) : Ai (Env.ofS Tryz.prog [] []) G := Ai.none (U := AK)
def y0 : AV := (.agg [(.str 1 97), (.int .i64 (.ofNat 1)), (.int .i64 (.ofNat 8)), (.bool false), (.bool false), (.int .i64 (.ofNat 1)), (.int .i64 (.ofNat 9)), (.int .i64 (.ofNat 0)), .slice0, (.str 0 0), (.str 0 0), (.str 0 0), .slice0, (.int .i64 (.ofNat 0)), (.int .i64 (.ofNat 0))])
def y1 : T Ag := (no (lf (.map [] 0)) .nil)
def y2 : T Ag := (no .nil (no (no (no y1 .nil) .nil) .nil))
def y3 : T Ag := (no .nil (lf (.cells 2 (nd (.str 1 109) (lf (.slice 120 0 1 15)) .nil))))
def y4 : T Ag := (no (no .nil (no .nil y3)) .nil)
def y5 : T AV := (lf (.int .i64 (.ofNat 0)))
def y6 : T Ag := (no .nil (lf (.cells 15 (nd (.str 1 97) (nd (.int .i64 (.ofNat 1)) (nd (.bool false) y5 (lf (.str 0 0))) (nd (.int .i64 (.ofNat 1)) (lf (.str 0 0)) y5)) (nd (.int .i64 (.ofNat 8)) (nd (.bool false) (lf .slice0) (lf .slice0)) (nd (.int .i64 (.ofNat 9)) (lf (.str 0 0)) y5))))))
def y7 : T AV := (nd (.map 266) (lf (.str 1 109)) .nil)
def y8 : T AV := (nd (.map 267) (lf (.slice 120 0 1 15)) .nil)
def o1 : Orc :=
 { f := 245, args := [(.ptr 268 0), y0], part := (no (no (no .nil y2) y4) (no (no (no .nil (no .nil y6)) (no .nil (no (no (no (no (lf (.cells 9 (nd (.str 1 100) (nd (.slice 121 0 1 2) y7 y5) (nd (.str 1 109) y8 y5)))) .nil) .nil) .nil) .nil))) (no y2 .nil))), nx := 278, ok := true, v := (.tuple []), out := .nil, nx' := 295, wr := [] }
def l1 : List Orc := o1 :: []
theorem k1 : ∀ [F : Facts], Ap (Env.ofS Tryz.prog [] []) 100000 o1 = true := by
 intro F
 kernel_rfl
theorem w1 (G : Nat → D → D) : Ai (Env.ofS Tryz.prog l1 []) G := Ai.add (U := AK) (okE [] []) (w0 G) k1
def y9 : AV := (.agg [(.str 1 100), (.slice 121 0 1 2), (.str 1 109)])
def y10 : T Ag := (no (no .nil (no .nil y6)) .nil)
def y11 : T Ag := (no (no .nil y4) (no y10 .nil))
def y12 : AV := (.agg [(.int .i64 (.ofNat 0)), (.int .i64 (.ofNat 0)), (.int .i64 (.ofNat 0))])
def y13 : T Ag := (lf (.map [⟨(.str 1 109), (.bool true), 0⟩] 1))
def y14 : T Ag := (no (no (no y13 .nil) .nil) .nil)
def y15 : T AV := (lf (.int .i64 (.negSucc 0)))
def y16 : T Ag := (lf (.map [⟨(.str 1 109), (.int .i64 (.ofNat 1)), 0⟩] 1))
def y17 : T Ag := (no (no (no y16 .nil) .nil) .nil)
def o2 : Orc :=
 { f := 149, args := [y9], part := y11, nx := 263, ok := true, v := (.tuple [(.ptr 268 0), y12, (.bool false)]), out := (no (no (no .nil (no .nil (no y14 .nil))) .nil) (no (no .nil (no .nil (no (no (no (no (lf (.cells 9 (nd (.str 1 100) (nd (.slice 121 0 1 2) y7 y15) (nd (.str 1 109) y8 y15)))) .nil) .nil) .nil) .nil))) (no (no .nil (no y17 .nil)) .nil))), nx' := 301, wr := [] }
def l2 : List Orc := o2 :: l1
theorem k2 : ∀ [F : Facts], Ap (Env.ofS Tryz.prog l1 []) 100000 o2 = true := by
 intro F
 kernel_rfl
theorem w2 (G : Nat → D → D) : Ai (Env.ofS Tryz.prog l2 []) G := Ai.add (U := AK) (okE l1 []) (w1 G) k2
def y18 : T Ag := (no (lf (.cells 1 y5)) .nil)
def y19 : T Ag := (no (no (no .nil y18) .nil) .nil)
def y20 : T Ag := (no (no .nil (lf (.cells 1 (lf (.int .u8 (.ofNat 5)))))) .nil)
def y21 : T AV := (nd (.str 1 100) (lf .slice0) (lf .map0))
def y22 : T AV := (nd (.str 0 0) (lf .map0) .nil)
def y23 : T AV := (nd (.int .i64 (.ofNat 0)) (nd (.slice 121 0 1 2) (lf (.str 0 0)) (lf .slice0)) y22)
def y24 : AV := (.agg [(.str 1 109), (.int .i64 (.ofNat 0)), .slice0, .slice0, (.slice 354 0 1 5)])
def y25 : T AV := (lf (.int .i64 (.ofNat 2)))
def y26 : T Ag := (no (lf (.cells 1 y25)) .nil)
def y27 : T Ag := (no (no (no .nil y26) .nil) .nil)
def y28 : T AV := (nd .slice0 (lf .slice0) .nil)
def y29 : T Ag := (lf (.cells 5 (nd (.str 1 97) (nd (.int .i64 (.ofNat 5)) (lf .slice0) .nil) y28)))
def y30 : T Ag := (no (no .nil (no .nil (no y29 .nil))) .nil)
def y31 : T Ag := (no .nil (no (no y30 .nil) .nil))
def o3 : Orc :=
 { f := 120, args := [(.ptr 324 0), (.str 1 109), (.slice 200 0 1 1), (.int .i64 (.ofNat 0)), (.str 0 0)], part := (no (no (no .nil (no y19 .nil)) y4) (no (no (no .nil (no y20 y6)) (no (no (no (no .nil (no (lf (.cells 13 (nd .slice0 (nd (.int .i64 (.ofNat 0)) y21 (nd (.str 1 109) (lf (.ptr 323 0)) .nil)) y23))) .nil)) .nil) .nil) .nil)) .nil)), nx := 325, ok := true, v := (.tuple [y24, (.int .i64 (.ofNat 1))]), out := (no (no (no .nil (no y27 .nil)) .nil) y31), nx' := 356, wr := [323] }
def l3 : List Orc := o3 :: l2
theorem k3 : ∀ [F : Facts], Ap (Env.ofS Tryz.prog l2 []) 100000 o3 = true := by
 intro F
 kernel_rfl
theorem w3 (G : Nat → D → D) : Ai (Env.ofS Tryz.prog l3 []) G := Ai.add (U := AK) (okE l2 []) (w2 G) k3
def y32 : AV := (.agg [(.int .i64 (.ofNat 0)), (.int .i64 (.ofNat 0)), (.str 0 0)])
def o4 : Orc :=
 { f := 81, args := [y9, (.str 1 109), (.slice 200 0 1 1)], part := (no (no .nil y4) (no (no (no .nil (no y20 y6)) .nil) .nil)), nx := 252, ok := true, v := (.tuple [y24, (.int .i64 (.ofNat 1)), y32, (.int .i64 (.ofNat 0))]), out := (no .nil y31), nx' := 356, wr := [] }
def l4 : List Orc := o4 :: l3
theorem k4 : ∀ [F : Facts], Ap (Env.ofS Tryz.prog l3 []) 100000 o4 = true := by
 intro F
 kernel_rfl
theorem w4 (G : Nat → D → D) : Ai (Env.ofS Tryz.prog l4 []) G := Ai.add (U := AK) (okE l3 []) (w3 G) k4
def o5 : Orc :=
 { f := 52, args := [y24], part := (no .nil y31), nx := 368, ok := true, v := (.bool true), out := .nil, nx' := 391, wr := [] }
def l5 : List Orc := o5 :: l4
theorem k5 : ∀ [F : Facts], Ap (Env.ofS Tryz.prog l4 []) 100000 o5 = true := by
 intro F
 kernel_rfl
theorem w5 (G : Nat → D → D) : Ai (Env.ofS Tryz.prog l5 []) G := Ai.add (U := AK) (okE l4 []) (w4 G) k5
def y33 : T AV := (nd (.int .i64 (.ofNat 0)) y5 .nil)
def y34 : T AV := (nd .slice0 (lf (.map 187)) (lf (.bool true)))
def y35 : T Ag := (no y30 (no .nil (no .nil y1)))
def y36 : T Ag := (no .nil (no .nil (no .nil (no (lf (.map [⟨(.str 0 0), (.slice 410 0 1 2), 0⟩, ⟨(.str 1 97), (.slice 425 0 1 2), 1⟩] 2)) .nil))))
def y37 : T Ag := (no .nil (no (no .nil (no (no .nil (lf (.cells 2 (nd (.int .i64 (.ofNat 5)) y5 .nil)))) .nil)) .nil))
def y38 : T Ag := (no (no .nil (lf (.cells 1 y5))) .nil)
def y39 : T Ag := (no (no .nil (lf (.cells 2 y33))) .nil)
def y40 : T Ag := (no .nil (no y39 (no (lf (.map [⟨(.str 1 109), (.slice 412 0 1 1), 0⟩] 1)) .nil)))
def o6 : Orc :=
 { f := 46, args := [(.ptr 188 0), (.int .i64 (.ofNat 0)), y24], part := (no (no (no .nil (no .nil (no (no .nil (no .nil y18)) (no .nil y1)))) (no (no .nil (no (no .nil (no .nil (no (lf (.cells 9 (nd (.int .i64 (.ofNat 1)) (nd (.int .i64 (.ofNat 0)) (nd (.str 1 109) (lf (.slice 354 0 1 5)) .nil) (lf .slice0)) (nd (.slice 200 0 1 1) y33 (lf .slice0))))) .nil))) .nil)) .nil)) (no (no (no .nil (no y20 .nil)) (no .nil (no .nil (no .nil (no (lf (.cells 6 (nd (.slice 361 0 1 9) y34 (nd (.map 186) (lf (.slice 363 0 1 1)) .nil)))) .nil))))) (no y35 .nil))), nx := 364, ok := true, v := (.tuple []), out := (no (no (no .nil y36) (no y37 .nil)) (no (no .nil (no .nil (no .nil (no y38 .nil)))) (no (no .nil y40) .nil))), nx' := 427, wr := [187, 186] }
def l6 : List Orc := o6 :: l5
theorem k6 : ∀ [F : Facts], Ap (Env.ofS Tryz.prog l5 []) 100000 o6 = true := by
 intro F
 kernel_rfl
theorem w6 (G : Nat → D → D) : Ai (Env.ofS Tryz.prog l6 []) G := Ai.add (U := AK) (okE l5 []) (w5 G) k6
def y41 : T AV := (nd (.map 445) (lf (.str 1 109)) .nil)
def y42 : T AV := (nd (.map 446) (lf (.slice 120 0 1 15)) .nil)
def y43 : T Ag := (no .nil (lf (.map [] 0)))
def y44 : T Ag := (no .nil (no .nil (no .nil (no y43 .nil))))
def o7 : Orc :=
 { f := 245, args := [(.ptr 447 0), y0], part := (no (no (no (no (no (no (no .nil (no .nil (lf (.cells 9 (nd (.str 1 100) (nd (.slice 121 0 1 2) y41 y5) (nd (.str 1 109) y42 y5)))))) .nil) .nil) .nil) .nil) (no (no .nil (no .nil y3)) y44)) (no y10 (no .nil y44))), nx := 457, ok := true, v := (.tuple []), out := .nil, nx' := 474, wr := [] }
def l7 : List Orc := o7 :: l6
theorem k7 : ∀ [F : Facts], Ap (Env.ofS Tryz.prog l6 []) 100000 o7 = true := by
 intro F
 kernel_rfl
theorem w7 (G : Nat → D → D) : Ai (Env.ofS Tryz.prog l7 []) G := Ai.add (U := AK) (okE l6 []) (w6 G) k7
def o8 : Orc :=
 { f := 149, args := [y9], part := y11, nx := 442, ok := true, v := (.tuple [(.ptr 447 0), y12, (.bool false)]), out := (no (no (no (no (no (no (no .nil (no .nil (lf (.cells 9 (nd (.str 1 100) (nd (.slice 121 0 1 2) y41 y15) (nd (.str 1 109) y42 y15)))))) .nil) .nil) .nil) .nil) (no .nil (no .nil (no .nil (no .nil (no (no .nil y16) .nil)))))) (no .nil (no .nil (no .nil (no .nil (no .nil (no (no .nil y13) .nil))))))), nx' := 480, wr := [] }
def l8 : List Orc := o8 :: l7
theorem k8 : ∀ [F : Facts], Ap (Env.ofS Tryz.prog l7 []) 100000 o8 = true := by
 intro F
 kernel_rfl
theorem w8 (G : Nat → D → D) : Ai (Env.ofS Tryz.prog l8 []) G := Ai.add (U := AK) (okE l7 []) (w7 G) k8
def y45 : Ag := (.cells 1 (lf (.int .u8 (.ofNat 10))))
def y46 : T Ag := (no (no .nil (lf y45)) .nil)
def o9 : Orc :=
 { f := 81, args := [y9, (.str 1 109), (.slice 206 0 1 1)], part := (no (no .nil y4) (no y10 (no .nil (no .nil (no y46 .nil))))), nx := 431, ok := true, v := (.tuple [(.agg [(.str 0 0), (.int .i64 (.ofNat 0)), .slice0, .slice0, .slice0]), (.int .i64 (.ofNat 0)), (.agg [(.int .i64 (.ofNat 0)), (.int .i64 (.ofNat 3)), (.str 1 97)]), (.int .i64 (.ofNat 3))]), out := .nil, nx' := 533, wr := [] }
def l9 : List Orc := o9 :: l8
theorem k9 : ∀ [F : Facts], Ap (Env.ofS Tryz.prog l8 []) 100000 o9 = true := by
 intro F
 kernel_rfl
theorem w9 (G : Nat → D → D) : Ai (Env.ofS Tryz.prog l9 []) G := Ai.add (U := AK) (okE l8 []) (w8 G) k9
def y47 : T Ag := (no .nil (no (no y1 .nil) .nil))
def y48 : T AV := (nd (.map 559) (lf (.str 1 109)) .nil)
def y49 : T AV := (nd (.map 560) (lf (.slice 120 0 1 15)) .nil)
def y50 : T Ag := (no (no .nil y47) (no .nil y6))
def o10 : Orc :=
 { f := 245, args := [(.ptr 561 0), y0], part := (no (no (no (no (no .nil y47) .nil) .nil) (no (no (no .nil (no .nil (no (no (no (lf (.cells 9 (nd (.str 1 100) (nd (.slice 121 0 1 2) y48 y5) (nd (.str 1 109) y49 y5)))) .nil) .nil) .nil))) (no .nil y3)) .nil)) (no (no y50 .nil) .nil)), nx := 571, ok := true, v := (.tuple []), out := .nil, nx' := 588, wr := [] }
def l10 : List Orc := o10 :: l9
theorem k10 : ∀ [F : Facts], Ap (Env.ofS Tryz.prog l9 []) 100000 o10 = true := by
 intro F
 kernel_rfl
theorem w10 (G : Nat → D → D) : Ai (Env.ofS Tryz.prog l10 []) G := Ai.add (U := AK) (okE l9 []) (w9 G) k10
def y51 : T Ag := (no (no .nil (no .nil y17)) .nil)
def y52 : T Ag := (no (no .nil (no .nil y14)) .nil)
def o11 : Orc :=
 { f := 149, args := [y9], part := y11, nx := 556, ok := true, v := (.tuple [(.ptr 561 0), y12, (.bool false)]), out := (no (no (no y51 .nil) (no (no (no .nil (no .nil (no (no (no (lf (.cells 9 (nd (.str 1 100) (nd (.slice 121 0 1 2) y48 y15) (nd (.str 1 109) y49 y15)))) .nil) .nil) .nil))) .nil) .nil)) (no (no y52 .nil) .nil)), nx' := 594, wr := [] }
def l11 : List Orc := o11 :: l10
theorem k11 : ∀ [F : Facts], Ap (Env.ofS Tryz.prog l10 []) 100000 o11 = true := by
 intro F
 kernel_rfl
theorem w11 (G : Nat → D → D) : Ai (Env.ofS Tryz.prog l11 []) G := Ai.add (U := AK) (okE l10 []) (w10 G) k11
def y53 : T Ag := (no .nil (no (no .nil (no .nil (no y18 .nil))) y6))
def y54 : T Ag := (no .nil (no (no .nil (lf (.cells 1 (lf (.int .u8 (.ofNat 7)))))) .nil))
def y55 : AV := (.agg [(.str 1 109), (.int .i64 (.ofNat 0)), .slice0, .slice0, (.slice 647 0 1 5)])
def y56 : T Ag := (no (no (no (no .nil (no (lf (.cells 5 (nd (.str 1 97) (nd (.int .i64 (.ofNat 7)) (lf .slice0) .nil) y28))) .nil)) .nil) .nil) .nil)
def y57 : T Ag := (no (no (no .nil y56) .nil) .nil)
def y58 : T Ag := (no .nil (no (no .nil (no .nil (no y26 .nil))) .nil))
def o12 : Orc :=
 { f := 120, args := [(.ptr 617 0), (.str 1 109), (.slice 212 0 1 1), (.int .i64 (.ofNat 0)), (.str 0 0)], part := (no (no .nil (no (no .nil (no (no .nil (no .nil (no (no (lf (.cells 13 (nd .slice0 (nd (.int .i64 (.ofNat 0)) y21 (nd (.str 1 109) (lf (.ptr 616 0)) .nil)) y23))) .nil) .nil))) y3)) .nil)) (no (no y53 (no y54 .nil)) .nil)), nx := 618, ok := true, v := (.tuple [y55, (.int .i64 (.ofNat 1))]), out := (no y57 (no (no y58 .nil) .nil)), nx' := 649, wr := [616] }
def l12 : List Orc := o12 :: l11
theorem k12 : ∀ [F : Facts], Ap (Env.ofS Tryz.prog l11 []) 100000 o12 = true := by
 intro F
 kernel_rfl
theorem w12 (G : Nat → D → D) : Ai (Env.ofS Tryz.prog l12 []) G := Ai.add (U := AK) (okE l11 []) (w11 G) k12
def o13 : Orc :=
 { f := 81, args := [y9, (.str 1 109), (.slice 212 0 1 1)], part := (no (no .nil y4) (no (no (no .nil (no .nil y6)) (no y54 .nil)) .nil)), nx := 545, ok := true, v := (.tuple [y55, (.int .i64 (.ofNat 1)), y32, (.int .i64 (.ofNat 0))]), out := (no y57 .nil), nx' := 649, wr := [] }
def l13 : List Orc := o13 :: l12
theorem k13 : ∀ [F : Facts], Ap (Env.ofS Tryz.prog l12 []) 100000 o13 = true := by
 intro F
 kernel_rfl
theorem w13 (G : Nat → D → D) : Ai (Env.ofS Tryz.prog l13 []) G := Ai.add (U := AK) (okE l12 []) (w12 G) k13
def o14 : Orc :=
 { f := 52, args := [y55], part := (no y57 .nil), nx := 661, ok := true, v := (.bool true), out := .nil, nx' := 684, wr := [] }
def l14 : List Orc := o14 :: l13
theorem k14 : ∀ [F : Facts], Ap (Env.ofS Tryz.prog l13 []) 100000 o14 = true := by
 intro F
 kernel_rfl
theorem w14 (G : Nat → D → D) : Ai (Env.ofS Tryz.prog l14 []) G := Ai.add (U := AK) (okE l13 []) (w13 G) k14
def y59 : T AV := (lf (.int .i64 (.ofNat 1)))
def y60 : T Ag := (no .nil (no (lf (.cells 3 (nd (.int .i64 (.ofNat 0)) y59 y25))) .nil))
def y61 : T Ag := (no (no .nil (no (no y60 .nil) .nil)) (no y20 .nil))
def y62 : T Ag := (no (lf (.cells 6 (nd (.slice 654 0 3 9) y34 (nd (.map 186) (lf (.slice 656 0 3 1)) .nil)))) .nil)
def y63 : T AV := (lf (.int .i64 (.ofNat 3)))
def y64 : T AV := (nd (.int .i64 (.ofNat 0)) (lf (.str 1 109)) .nil)
def y65 : T AV := (nd (.int .i64 (.ofNat 0)) (lf .slice0) (lf .slice0))
def y66 : T AV := (nd .slice0 (nd (.int .i64 (.ofNat 1)) (lf (.int .i64 (.ofNat 4))) y5) (nd .slice0 y5 .nil))
def y67 : T Ag := (no .nil (no (lf (.cells 27 (nd (.int .i64 (.ofNat 1)) (nd (.int .i64 (.ofNat 0)) (nd (.str 1 109) (nd (.slice 354 0 1 5) (lf .slice0) (lf .slice0)) (nd (.slice 206 0 1 1) y5 .nil)) (nd .slice0 (nd (.int .i64 (.ofNat 1)) y63 (lf (.slice 647 0 1 5))) y64)) (nd (.slice 200 0 1 1) (nd (.int .i64 (.ofNat 0)) y65 (nd (.str 0 0) (lf (.slice 212 0 1 1)) .nil)) y66)))) .nil))
def y68 : T AV := (nd (.int .i64 (.ofNat 0)) y25 .nil)
def y69 : T Ag := (no (no (no .nil (no .nil (no (lf (.cells 4 (nd (.int .i64 (.ofNat 0)) y68 y5))) .nil))) .nil) .nil)
def y70 : T Ag := (no .nil (no .nil (no .nil (no (lf (.map [⟨(.str 0 0), (.slice 703 0 2 2), 0⟩, ⟨(.str 1 97), (.slice 718 0 2 2), 1⟩] 2)) .nil))))
def y71 : T Ag := (no (no (no (no .nil (no .nil (no (lf (.cells 2 y68)) .nil))) .nil) .nil) .nil)
def y72 : T Ag := (no .nil (no .nil (no (lf (.map [⟨(.str 1 109), (.slice 705 0 2 1), 0⟩] 1)) .nil)))
def y73 : T Ag := (no (lf (.cells 4 (nd (.int .i64 (.ofNat 5)) y68 (lf (.int .i64 (.ofNat 7)))))) .nil)
def y74 : T Ag := (no (no .nil (no .nil y73)) .nil)
def o15 : Orc :=
 { f := 46, args := [(.ptr 188 0), (.int .i64 (.ofNat 2)), y55], part := (no (no (no (no .nil y56) y36) (no y37 .nil)) (no (no y61 (no y54 (no .nil (no y38 y62)))) (no (no y30 y40) (no .nil (no (no (no y67 (lf y45)) .nil) .nil))))), nx := 657, ok := true, v := (.tuple []), out := (no (no (no (no y69 .nil) y70) (no y71 .nil)) (no .nil (no (no .nil y72) (no .nil (no y74 .nil))))), nx' := 720, wr := [187, 425, 186, 412, 410] }
def l15 : List Orc := o15 :: l14
theorem k15 : ∀ [F : Facts], Ap (Env.ofS Tryz.prog l14 []) 100000 o15 = true := by
 intro F
 kernel_rfl
theorem w15 (G : Nat → D → D) : Ai (Env.ofS Tryz.prog l15 []) G := Ai.add (U := AK) (okE l14 []) (w14 G) k15
def y75 : AV := (.agg [(.int .i64 (.ofNat 0)), (.int .i64 (.ofNat 9)), .slice0, (.str 0 0), (.str 0 0), (.int .i64 (.ofNat 0)), (.int .i64 (.ofNat 0)), (.bool false)])
def y76 : T Ag := (no (no y61 (no y54 (no .nil (no .nil y62)))) (no (no y30 y72) (no .nil (no (no (no y67 (nd y45 .nil y73)) .nil) .nil))))
def y77 : T Ag := (no (no (no (no y69 y56) y70) (no y71 .nil)) y76)
def o16 : Orc :=
 { f := 7, args := [(.ptr 188 0), y75], part := y77, nx := 728, ok := true, v := (.tuple [(.slice 750 0 3 1), (.int .i64 (.ofNat 0))]), out := (no .nil (no .nil (no .nil (no .nil (no (no .nil (no .nil y60)) .nil))))), nx' := 751, wr := [] }
def l16 : List Orc := o16 :: l15
theorem k16 : ∀ [F : Facts], Ap (Env.ofS Tryz.prog l15 []) 100000 o16 = true := by
 intro F
 kernel_rfl
theorem w16 (G : Nat → D → D) : Ai (Env.ofS Tryz.prog l16 []) G := Ai.add (U := AK) (okE l15 []) (w15 G) k16
def y78 : AV := (.agg [(.int .i64 (.ofNat 0)), (.int .i64 (.ofNat 1)), .slice0, (.str 0 0), (.str 0 0), (.int .i64 (.ofNat 0)), (.int .i64 (.ofNat 0)), (.bool false)])
def y79 : T Ag := (no .nil (no (no (no (no (no .nil (lf (.cells 2 (nd (.int .i64 (.ofNat 0)) y59 .nil)))) .nil) .nil) .nil) .nil))
def o17 : Orc :=
 { f := 7, args := [(.ptr 188 0), y78], part := y77, nx := 758, ok := true, v := (.tuple [(.slice 777 0 2 1), (.int .i64 (.ofNat 0))]), out := (no (no .nil (no y79 .nil)) .nil), nx' := 778, wr := [] }
def l17 : List Orc := o17 :: l16
theorem k17 : ∀ [F : Facts], Ap (Env.ofS Tryz.prog l16 []) 100000 o17 = true := by
 intro F
 kernel_rfl
theorem w17 (G : Nat → D → D) : Ai (Env.ofS Tryz.prog l17 []) G := Ai.add (U := AK) (okE l16 []) (w16 G) k17
def y80 : T Ag := (no .nil (no (no .nil (no .nil y18)) .nil))
def y81 : T Ag := (no (no .nil (no (no (no .nil (lf (.cells 2 y68))) .nil) .nil)) .nil)
def o18 : Orc :=
 { f := 7, args := [(.ptr 188 0), (.agg [(.int .i64 (.ofNat 0)), (.int .i64 (.ofNat 9)), (.slice 725 0 1 1), (.str 0 0), (.str 0 0), (.int .i64 (.ofNat 0)), (.int .i64 (.ofNat 0)), (.bool false)])], part := (no (no (no (no y69 y56) y70) (no y71 (no y80 .nil))) y76), nx := 785, ok := true, v := (.tuple [(.slice 805 0 2 1), (.int .i64 (.ofNat 0))]), out := (no (no .nil (no .nil (no y81 .nil))) .nil), nx' := 806, wr := [] }
def l18 : List Orc := o18 :: l17
theorem k18 : ∀ [F : Facts], Ap (Env.ofS Tryz.prog l17 []) 100000 o18 = true := by
 intro F
 kernel_rfl
theorem w18 (G : Nat → D → D) : Ai (Env.ofS Tryz.prog l18 []) G := Ai.add (U := AK) (okE l17 []) (w17 G) k18
def y82 : AV := (.agg [(.int .i64 (.ofNat 0)), (.int .i64 (.ofNat 9)), .slice0, (.str 0 0), (.str 1 97), (.int .i64 (.ofNat 6)), (.int .i64 (.ofNat 9)), (.bool false)])
def y83 : T Ag := (no (no (no .nil (no (no .nil (lf (.cells 1 y25))) .nil)) .nil) .nil)
def o19 : Orc :=
 { f := 7, args := [(.ptr 188 0), y82], part := y77, nx := 813, ok := true, v := (.tuple [(.slice 836 0 1 1), (.int .i64 (.ofNat 0))]), out := (no .nil (no (no .nil (no y83 .nil)) .nil)), nx' := 837, wr := [] }
def l19 : List Orc := o19 :: l18
theorem k19 : ∀ [F : Facts], Ap (Env.ofS Tryz.prog l18 []) 100000 o19 = true := by
 intro F
 kernel_rfl
theorem w19 (G : Nat → D → D) : Ai (Env.ofS Tryz.prog l19 []) G := Ai.add (U := AK) (okE l18 []) (w18 G) k19
def y84 : AV := (.agg [(.int .i64 (.ofNat 0)), (.int .i64 (.ofNat 9)), .slice0, (.str 0 0), (.str 0 0), (.int .i64 (.ofNat 0)), (.int .i64 (.ofNat 0)), (.bool true)])
def y85 : T Ag := (no .nil (no (no .nil (lf (.cells 1 y59))) .nil))
def o20 : Orc :=
 { f := 7, args := [(.ptr 188 0), y84], part := y77, nx := 844, ok := true, v := (.tuple [(.slice 861 0 1 1), (.int .i64 (.ofNat 0))]), out := (no (no .nil (no .nil (no .nil (no .nil (no y85 .nil))))) .nil), nx' := 863, wr := [] }
def l20 : List Orc := o20 :: l19
theorem k20 : ∀ [F : Facts], Ap (Env.ofS Tryz.prog l19 []) 100000 o20 = true := by
 intro F
 kernel_rfl
theorem w20 (G : Nat → D → D) : Ai (Env.ofS Tryz.prog l20 []) G := Ai.add (U := AK) (okE l19 []) (w19 G) k20
def y86 : AV := (.agg [(.int .i64 (.ofNat 0)), (.int .i64 (.ofNat 9)), .slice0, (.str 1 120), (.str 0 0), (.int .i64 (.ofNat 0)), (.int .i64 (.ofNat 0)), (.bool false)])
def o21 : Orc :=
 { f := 7, args := [(.ptr 188 0), y86], part := y77, nx := 870, ok := true, v := (.tuple [.slice0, (.int .i64 (.ofNat 0))]), out := .nil, nx' := 886, wr := [] }
def l21 : List Orc := o21 :: l20
theorem k21 : ∀ [F : Facts], Ap (Env.ofS Tryz.prog l20 []) 100000 o21 = true := by
 intro F
 kernel_rfl
theorem w21 (G : Nat → D → D) : Ai (Env.ofS Tryz.prog l21 []) G := Ai.add (U := AK) (okE l20 []) (w20 G) k21
def y87 : T Ag := (no (no (no (no (no .nil (no .nil y29)) .nil) .nil) .nil) .nil)
def o22 : Orc :=
 { f := 52, args := [(.agg [(.str 1 109), (.int .i64 (.ofNat 0)), .slice0, .slice0, (.slice 898 0 1 5)])], part := (no .nil (no .nil (no y87 .nil))), nx := 903, ok := true, v := (.bool true), out := .nil, nx' := 926, wr := [] }
def l22 : List Orc := o22 :: l21
theorem k22 : ∀ [F : Facts], Ap (Env.ofS Tryz.prog l21 []) 100000 o22 = true := by
 intro F
 kernel_rfl
theorem w22 (G : Nat → D → D) : Ai (Env.ofS Tryz.prog l22 []) G := Ai.add (U := AK) (okE l21 []) (w21 G) k22
def o23 : Orc :=
 { f := 4, args := [], part := .nil, nx := 2, ok := true, v := (.bool true), out := .nil, nx' := 972, wr := [] }
def l23 : List Orc := o23 :: l22
theorem k23 : ∀ [F : Facts], Ap (Env.ofS Tryz.prog l22 []) 100000 o23 = true := by
 intro F
 kernel_rfl
theorem w23 (G : Nat → D → D) : Ai (Env.ofS Tryz.prog l23 []) G := Ai.add (U := AK) (okE l22 []) (w22 G) k23
def y88 : T Ag := (no .nil (lf (.cells 2 (nd (.str 1 109) (lf (.slice 124 0 1 15)) .nil))))
def y89 : T Ag := (no .nil (no .nil (no .nil y88)))
def y90 : T AV := (nd (.map 270) (lf (.str 1 109)) .nil)
def y91 : T AV := (nd (.map 271) (lf (.slice 124 0 1 15)) .nil)
def o24 : Orc :=
 { f := 245, args := [(.ptr 272 0), y0], part := (no (no (no (no y47 .nil) .nil) y89) (no (no (no (no .nil (no (no (no (lf (.cells 9 (nd (.str 1 100) (nd (.slice 125 0 1 2) y90 y5) (nd (.str 1 109) y91 y5)))) .nil) .nil) .nil)) .nil) (no .nil (no .nil y6))) (no .nil y2))), nx := 282, ok := true, v := (.tuple []), out := .nil, nx' := 299, wr := [] }
def l24 : List Orc := o24 :: l23
theorem k24 : ∀ [F : Facts], Ap (Env.ofS Tryz.prog l23 []) 100000 o24 = true := by
 intro F
 kernel_rfl
theorem w24 (G : Nat → D → D) : Ai (Env.ofS Tryz.prog l24 []) G := Ai.add (U := AK) (okE l23 []) (w23 G) k24
end Go.Proofs.YtkhnegoolkefjaaGreatDoor.indexNone

