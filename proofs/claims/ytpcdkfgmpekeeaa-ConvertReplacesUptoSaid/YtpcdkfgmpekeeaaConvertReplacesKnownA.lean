/- What is proved: that certain calls which the law ConvertReplaces makes come to the results that are written here (part 1 of 2). Conditions: the memory that such a call reaches is as written here; the kernel runs the evaluator over each. -/
import Derived.Test.YtpcdkfgmpekeeaaBeF
import Derived.Test.YtpcdkfgmpekeeaaChecked
import Derived.KernelRfl
set_option linter.unusedVariables false
set_option linter.unusedSectionVars false
set_option linter.unusedSimpArgs false
namespace Go.Proofs.Ytpcdkfgmpekeeaa.convertReplaces
open Go.AE
theorem okE (l : List Orc) (m : List Sm) : ∀ [U : Unk], U.K = (Env.of Try.prog).kinds → OK (Env.ofS Try.prog l m) := fun {U} h => OK.of (U := U) (P := Try.prog) (Checked.mixed Try.checked) (by kernel_rfl) h
theorem w0 (G : Nat → D → D) : Af (Env.ofS Try.prog [] []) G := Af.none (U := BC)
def y0 : T AV := (lf (.int .i64 (.ofNat 0)))
def y1 : T Aj := (lf (.cells 6 (nd (.str 1 65) (nd (.bool false) (lf (.str 1 66)) y0) (nd (.int .i64 (.ofNat 0)) (lf (.bool false)) .nil))))
def y2 : T AV := (nd (.int .i64 (.ofNat 0)) y0 .nil)
def y3 : T AV := (lf (.int .i64 (.ofNat 2)))
def y4 : Aj := (.cells 18 (nd (.str 1 65) (nd (.str 1 66) (nd (.str 1 109) y2 y3) (nd (.str 0 0) (nd (.str 1 66) y0 .nil) (lf (.str 1 112)))) (nd (.int .i64 (.ofNat 1)) (nd (.str 1 112) y2 (lf (.str 1 107))) (nd (.int .i64 (.ofNat 0)) (lf (.str 1 65)) (lf (.str 0 0))))))
def y5 : T AV := (nd (.str 1 88) (lf (.str 1 89)) .nil)
def y6 : T Aj := (lf (.cells 4 (nd (.str 1 65) y5 (lf (.str 1 66)))))
def y7 : Aj := (.cells 9 (nd (.str 1 88) (nd (.bool false) (nd (.str 1 89) (lf (.bool false)) .nil) y0) (nd (.int .i64 (.ofNat 0)) (nd (.bool false) y0 .nil) (lf (.str 1 90)))))
def y8 : T Aj := (lf (.cells 27 (nd (.str 1 88) (nd (.str 1 89) (nd (.str 1 109) (nd (.int .i64 (.ofNat 0)) y0 (lf (.str 0 0))) (nd (.int .i64 (.ofNat 2)) (lf (.str 1 90)) .nil)) (nd (.str 0 0) (nd (.str 1 89) y0 y0) (nd (.str 1 112) (lf (.str 1 108)) .nil))) (nd (.int .i64 (.ofNat 1)) (nd (.str 1 112) (nd (.int .i64 (.ofNat 0)) y0 y0) (nd (.str 1 107) y3 .nil)) (nd (.int .i64 (.ofNat 0)) (nd (.str 1 88) (lf (.str 1 89)) y0) (nd (.str 0 0) (lf (.str 1 112)) .nil))))))
def y9 : T Aj := (no .nil (no (lf (.cells 0 .nil)) .nil))
def o1 : Orc :=
 { f := 12, args := [(.agg [(.str 1 111), (.slice 1 0 2 3), .slice0, (.slice 4 0 2 9)]), (.agg [(.str 1 110), (.slice 6 0 3 3), .slice0, (.slice 10 0 3 9)]), (.agg [(.slice 12 0 2 2), .slice0]), (.agg [(.str 1 66), .slice0])], part := (no y1 (no (nd y4 .nil y6) (nd y7 y8 .nil))), nx := 13, ok := true, v := (.tuple [(.agg [(.str 1 89), (.slice 188 0 0 1)]), (.int .i64 (.ofNat 0))]), out := (no .nil (no (no .nil (no .nil (no .nil y9))) .nil)), nx' := 189, wr := [] }
def l1 : List Orc := o1 :: []
theorem k1 : ∀ [F : Facts], A4 (Env.ofS Try.prog [] []) 20000 o1 = true := by
 intro F
 kernel_rfl
theorem w1 (G : Nat → D → D) : Af (Env.ofS Try.prog l1 []) G := Af.add (U := BC) (okE [] []) (w0 G) k1
def y10 : AV := (.agg [(.int .i64 (.ofNat 0)), (.int .i64 (.ofNat 0)), (.int .i64 (.ofNat 0)), (.int .i64 (.ofNat 0)), (.int .i64 (.ofNat 0)), (.int .i64 (.ofNat 0)), (.int .i64 (.ofNat 0)), (.int .i64 (.ofNat 0)), (.int .i64 (.ofNat 0)), (.int .i64 (.ofNat 0))])
def y11 : T Aj := (no (no (no .nil y1) .nil) .nil)
def y12 : T AV := (nd .slice0 (lf (.str 0 0)) .nil)
def y13 : T Aj := (no (no (no (no .nil (no .nil (lf (.cells 14 (nd (.str 1 111) (nd (.slice 191 0 2 3) (nd (.slice 194 0 2 9) (lf (.slice 200 0 3 9)) (lf .slice0)) (nd (.slice 196 0 3 3) (lf .slice0) y0)) (nd .slice0 (nd (.str 1 110) (lf (.str 0 0)) y0) y12)))))) .nil) .nil) .nil)
def y14 : T Aj := (no (no (no y11 .nil) .nil) (no .nil y13))
def y15 : T Aj := (no (no (no .nil y8) .nil) .nil)
def y16 : T Aj := (no (no (no .nil (lf y7)) .nil) .nil)
def y17 : T Aj := (no (no .nil y15) (no y16 .nil))
def y18 : T Aj := (no (no .nil (lf y4)) .nil)
def y19 : T Aj := (no (no (no y18 .nil) .nil) .nil)
def y20 : T Aj := (no (lf (.cells 1 y0)) .nil)
def y21 : T Aj := (no .nil (no (no y20 .nil) .nil))
def o2 : Orc :=
 { f := 68, args := [(.ptr 453 0), y10, (.bool true)], part := (no y14 (no y17 y19)), nx := 537, ok := true, v := (.tuple [(.slice 549 0 0 1), (.slice 562 0 0 1)]), out := (no (no .nil (no .nil (no (no y21 .nil) .nil))) (no .nil (no (no (no .nil y21) .nil) .nil))), nx' := 567, wr := [] }
def l2 : List Orc := o2 :: l1
theorem k2 : ∀ [F : Facts], A4 (Env.ofS Try.prog l1 []) 20000 o2 = true := by
 intro F
 kernel_rfl
theorem w2 (G : Nat → D → D) : Af (Env.ofS Try.prog l2 []) G := Af.add (U := BC) (okE l1 []) (w1 G) k2
def y22 : T Aj := (no (no .nil (no y20 .nil)) .nil)
def o3 : Orc :=
 { f := 68, args := [(.ptr 453 0), y10, (.bool false)], part := (no y14 (no y17 y19)), nx := 567, ok := true, v := (.tuple [(.slice 579 0 1 1), (.slice 592 0 1 1)]), out := (no (no (no .nil (no (no y22 .nil) .nil)) .nil) (no (no (no (no .nil y22) .nil) .nil) .nil)), nx' := 597, wr := [] }
def l3 : List Orc := o3 :: l2
theorem k3 : ∀ [F : Facts], A4 (Env.ofS Try.prog l2 []) 20000 o3 = true := by
 intro F
 kernel_rfl
theorem w3 (G : Nat → D → D) : Af (Env.ofS Try.prog l3 []) G := Af.add (U := BC) (okE l2 []) (w2 G) k3
def y23 : T AV := (lf (.int .i64 (.ofNat 1)))
def y24 : T AV := (nd (.int .i64 (.ofNat 0)) y2 y0)
def y25 : T AV := (nd (.int .i64 (.ofNat 1)) y0 .nil)
def y26 : T Aj := (lf (.cells 20 (nd (.int .i64 (.ofNat 0)) (nd (.int .i64 (.ofNat 0)) (nd (.int .i64 (.ofNat 0)) (nd (.int .i64 (.ofNat 0)) y23 .nil) y2) y24) (nd (.int .i64 (.ofNat 0)) y24 (nd (.int .i64 (.ofNat 0)) y25 y0)))))
def y27 : T Aj := (no (no .nil (no .nil y26)) .nil)
def y28 : T Aj := (no (no (no .nil (no .nil (lf (.cells 2 (nd (.slice 463 0 2 10) (lf (.map 454)) .nil))))) .nil) .nil)
def y29 : T AV := (nd (.int .i64 (.ofNat 0)) y2 y2)
def y30 : T Aj := (lf (.cells 10 (nd (.int .i64 (.ofNat 0)) y29 y24)))
def y31 : T Aj := (lf (.cells 1 (lf (.ptr 453 0))))
def y32 : T Aj := (lf (.cells 1 (lf (.func (.func 64) [(.ptr 455 0)] []))))
def y33 : AV := (.agg [(.int .i64 (.ofNat 1)), (.int .i64 (.ofNat 0)), (.int .i64 (.ofNat 0)), (.int .i64 (.ofNat 0)), (.int .i64 (.ofNat 0)), (.int .i64 (.ofNat 1)), (.int .i64 (.ofNat 0)), (.int .i64 (.ofNat 0)), (.int .i64 (.ofNat 0)), (.int .i64 (.ofNat 0))])
def y34 : T Aj := (lf (.map [⟨y10, (.bool true), 0⟩, ⟨y33, (.bool true), 1⟩] 2))
def y35 : T Aj := (no (no (no .nil (no .nil y34)) .nil) .nil)
def o4 : Orc :=
 { f := 66, args := [(.int .i64 (.ofNat 0)), (.int .i64 (.ofNat 0)), (.ptr 464 0), (.ptr 466 0), (.ptr 465 0)], part := (no (no (no (no (no (no (no .nil y1) .nil) y27) y28) .nil) (no (no (no .nil (no (no .nil (no .nil y30)) .nil)) .nil) y13)) (no (no (no (no .nil (no (no .nil (no .nil y31)) .nil)) y15) (no y16 .nil)) (no (no (no y18 (no (no .nil (no .nil y32)) .nil)) .nil) (no y35 .nil)))), nx := 597, ok := true, v := (.tuple []), out := .nil, nx' := 638, wr := [] }
def l4 : List Orc := o4 :: l3
theorem k4 : ∀ [F : Facts], A4 (Env.ofS Try.prog l3 []) 20000 o4 = true := by
 intro F
 kernel_rfl
theorem w4 (G : Nat → D → D) : Af (Env.ofS Try.prog l4 []) G := Af.add (U := BC) (okE l3 []) (w3 G) k4
def y36 : T Aj := (no .nil (no (lf (.cells 2 (nd (.int .i64 (.ofNat 1)) y3 .nil))) .nil))
def y37 : T Aj := (no .nil (no (lf (.cells 1 y23)) .nil))
def o5 : Orc :=
 { f := 68, args := [(.ptr 453 0), y33, (.bool true)], part := (no y14 (no y17 y19)), nx := 642, ok := true, v := (.tuple [(.slice 656 0 1 1), (.slice 673 0 2 1)]), out := (no (no .nil (no (no (no (no .nil (no y36 .nil)) .nil) .nil) .nil)) (no (no (no (no .nil (no (no y37 .nil) .nil)) .nil) .nil) .nil)), nx' := 674, wr := [] }
def l5 : List Orc := o5 :: l4
theorem k5 : ∀ [F : Facts], A4 (Env.ofS Try.prog l4 []) 20000 o5 = true := by
 intro F
 kernel_rfl
theorem w5 (G : Nat → D → D) : Af (Env.ofS Try.prog l5 []) G := Af.add (U := BC) (okE l4 []) (w4 G) k5
def o6 : Orc :=
 { f := 68, args := [(.ptr 453 0), y33, (.bool false)], part := (no y14 (no y17 y19)), nx := 681, ok := true, v := (.tuple [(.slice 695 0 0 1), (.slice 712 0 0 1)]), out := (no (no (no (no .nil (no .nil (no .nil (no (no .nil y20) .nil)))) .nil) .nil) (no (no (no .nil (no (no (no .nil (no .nil (no (lf (.cells 2 y2)) .nil))) .nil) .nil)) .nil) .nil)), nx' := 713, wr := [] }
def l6 : List Orc := o6 :: l5
theorem k6 : ∀ [F : Facts], A4 (Env.ofS Try.prog l5 []) 20000 o6 = true := by
 intro F
 kernel_rfl
theorem w6 (G : Nat → D → D) : Af (Env.ofS Try.prog l6 []) G := Af.add (U := BC) (okE l5 []) (w5 G) k6
def o7 : Orc :=
 { f := 68, args := [(.ptr 453 0), y33, (.bool true)], part := (no y14 (no y17 y19)), nx := 715, ok := true, v := (.tuple [(.slice 729 0 1 1), (.slice 746 0 2 1)]), out := (no (no .nil (no (no .nil (no .nil (no (no .nil y37) .nil))) .nil)) (no .nil (no (no .nil (no (no .nil (no .nil y36)) .nil)) .nil))), nx' := 747, wr := [] }
def l7 : List Orc := o7 :: l6
theorem k7 : ∀ [F : Facts], A4 (Env.ofS Try.prog l6 []) 20000 o7 = true := by
 intro F
 kernel_rfl
theorem w7 (G : Nat → D → D) : Af (Env.ofS Try.prog l7 []) G := Af.add (U := BC) (okE l6 []) (w6 G) k7
def y38 : T AV := (nd (.int .i64 (.ofNat 0)) y2 y25)
def o8 : Orc :=
 { f := 66, args := [(.int .i64 (.ofNat 1)), (.int .i64 (.ofNat 1)), (.ptr 638 0), (.ptr 640 0), (.ptr 639 0)], part := (no (no (no (no (no (no (no (no .nil (no (lf (.cells 10 (nd (.int .i64 (.ofNat 1)) y38 y24))) .nil)) y1) .nil) y27) y28) .nil) (no .nil y13)) (no (no (no (no (no (no (no .nil (no y32 .nil)) .nil) .nil) .nil) y15) (no y16 .nil)) (no (no (no y18 .nil) .nil) (no y35 (no .nil (no .nil (no .nil (no (no y31 .nil) .nil)))))))), nx := 747, ok := true, v := (.tuple []), out := .nil, nx' := 786, wr := [] }
def l8 : List Orc := o8 :: l7
theorem k8 : ∀ [F : Facts], A4 (Env.ofS Try.prog l7 []) 20000 o8 = true := by
 intro F
 kernel_rfl
theorem w8 (G : Nat → D → D) : Af (Env.ofS Try.prog l8 []) G := Af.add (U := BC) (okE l7 []) (w7 G) k8
def o9 : Orc :=
 { f := 68, args := [(.ptr 453 0), y33, (.bool false)], part := (no y14 (no y17 y19)), nx := 790, ok := true, v := (.tuple [(.slice 804 0 0 1), (.slice 821 0 0 1)]), out := (no (no .nil (no .nil (no (no .nil (no .nil (no (no (no .nil (lf (.cells 2 y2))) .nil) .nil))) .nil))) (no (no .nil (no (no (no .nil (no (no (no .nil (lf (.cells 1 y0))) .nil) .nil)) .nil) .nil)) .nil)), nx' := 822, wr := [] }
def l9 : List Orc := o9 :: l8
theorem k9 : ∀ [F : Facts], A4 (Env.ofS Try.prog l8 []) 20000 o9 = true := by
 intro F
 kernel_rfl
theorem w9 (G : Nat → D → D) : Af (Env.ofS Try.prog l9 []) G := Af.add (U := BC) (okE l8 []) (w8 G) k9
def o10 : Orc :=
 { f := 43, args := [(.slice 452 0 2 10), (.int .i64 (.ofNat 4000)), (.func (.func 44) [(.ptr 453 0)] [])], part := (no y14 (no (no (no .nil y15) (no (no (no (no .nil (nd y7 .nil y26)) .nil) .nil) .nil)) y19)), nx := 454, ok := true, v := (.tuple [(.slice 463 0 2 10), (.bool false)]), out := (no (no (no (no (no .nil y27) .nil) .nil) .nil) .nil), nx' := 822, wr := [] }
def l10 : List Orc := o10 :: l9
theorem k10 : ∀ [F : Facts], A4 (Env.ofS Try.prog l9 []) 20000 o10 = true := by
 intro F
 kernel_rfl
theorem w10 (G : Nat → D → D) : Af (Env.ofS Try.prog l10 []) G := Af.add (U := BC) (okE l9 []) (w9 G) k10
def o11 : Orc :=
 { f := 19, args := [(.agg [(.str 1 111), (.slice 191 0 2 3), .slice0, (.slice 194 0 2 9)]), (.agg [(.str 1 110), (.slice 196 0 3 3), .slice0, (.slice 200 0 3 9)]), (.agg [(.slice 202 0 2 2), .slice0])], part := (no (no (no (no y11 .nil) .nil) .nil) (no y17 (no (no (no y18 .nil) (no (no (no .nil y6) .nil) .nil)) .nil))), nx := 203, ok := true, v := (.tuple [(.agg [(.str 0 0), .slice0, (.str 0 0), .slice0, (.int .i64 (.ofNat 0)), (.int .i64 (.ofNat 0))]), (.bool true), (.int .i64 (.ofNat 0))]), out := .nil, nx' := 822, wr := [] }
def l11 : List Orc := o11 :: l10
theorem k11 : ∀ [F : Facts], A4 (Env.ofS Try.prog l10 []) 20000 o11 = true := by
 intro F
 kernel_rfl
theorem w11 (G : Nat → D → D) : Af (Env.ofS Try.prog l11 []) G := Af.add (U := BC) (okE l10 []) (w10 G) k11
def y39 : T Aj := (no (no .nil (no .nil (no .nil (no (no (no (lf (.cells 14 (nd (.str 1 110) (nd (.slice 824 0 3 3) (nd (.slice 828 0 3 9) (lf (.slice 833 0 2 9)) (lf .slice0)) (nd (.slice 830 0 2 3) (lf .slice0) y0)) (nd .slice0 (nd (.str 1 111) (lf (.str 0 0)) y0) y12)))) .nil) .nil) .nil)))) .nil)
def y40 : T Aj := (no (no (no (no .nil y18) .nil) .nil) .nil)
def y41 : T Aj := (no .nil (no .nil (no .nil y11)))
def y42 : T Aj := (no (no (no .nil (no .nil (no .nil y16))) (no .nil (no .nil (no .nil y15)))) (no .nil y41))
def y43 : T Aj := (no (no (no y39 .nil) (no y40 .nil)) y42)
def o12 : Orc :=
 { f := 68, args := [(.ptr 1135 0), y10, (.bool false)], part := y43, nx := 1182, ok := true, v := (.tuple [(.slice 1194 0 1 1), (.slice 1209 0 1 1)]), out := (no (no .nil (no (no .nil (no .nil (no .nil y22))) .nil)) (no .nil (no (no .nil (no (no .nil y22) .nil)) .nil))), nx' := 1212, wr := [] }
def l12 : List Orc := o12 :: l11
theorem k12 : ∀ [F : Facts], A4 (Env.ofS Try.prog l11 []) 20000 o12 = true := by
 intro F
 kernel_rfl
theorem w12 (G : Nat → D → D) : Af (Env.ofS Try.prog l12 []) G := Af.add (U := BC) (okE l11 []) (w11 G) k12
def y44 : T Aj := (no .nil (no .nil (no y20 .nil)))
def o13 : Orc :=
 { f := 68, args := [(.ptr 1135 0), y10, (.bool true)], part := y43, nx := 1219, ok := true, v := (.tuple [(.slice 1231 0 0 1), (.slice 1246 0 0 1)]), out := (no (no (no (no (no .nil (no y44 .nil)) .nil) .nil) .nil) (no .nil (no .nil (no .nil (no .nil (no y44 .nil)))))), nx' := 1249, wr := [] }
def l13 : List Orc := o13 :: l12
theorem k13 : ∀ [F : Facts], A4 (Env.ofS Try.prog l12 []) 20000 o13 = true := by
 intro F
 kernel_rfl
theorem w13 (G : Nat → D → D) : Af (Env.ofS Try.prog l13 []) G := Af.add (U := BC) (okE l12 []) (w12 G) k13
def o14 : Orc :=
 { f := 68, args := [(.ptr 1135 0), y10, (.bool false)], part := y43, nx := 1249, ok := true, v := (.tuple [(.slice 1261 0 1 1), (.slice 1276 0 1 1)]), out := (no (no .nil (no .nil (no .nil (no (no .nil y44) .nil)))) (no (no .nil (no .nil (no .nil (no .nil y44)))) .nil)), nx' := 1279, wr := [] }
def l14 : List Orc := o14 :: l13
theorem k14 : ∀ [F : Facts], A4 (Env.ofS Try.prog l13 []) 20000 o14 = true := by
 intro F
 kernel_rfl
theorem w14 (G : Nat → D → D) : Af (Env.ofS Try.prog l14 []) G := Af.add (U := BC) (okE l13 []) (w13 G) k14
def y45 : T Aj := (no .nil (no .nil (no (no (no y26 .nil) .nil) .nil)))
def o15 : Orc :=
 { f := 66, args := [(.int .i64 (.ofNat 0)), (.int .i64 (.ofNat 0)), (.ptr 1146 0), (.ptr 1148 0), (.ptr 1147 0)], part := (no (no (no y39 (no .nil (no .nil (no .nil (no .nil (no (no (no y30 .nil) .nil) .nil)))))) (no (no (no (no (no .nil y18) .nil) (no .nil (no .nil (no (no (no (lf (.cells 2 (nd (.slice 1145 0 2 10) (lf (.map 1136)) .nil))) .nil) .nil) .nil)))) (no .nil y45)) .nil)) (no (no (no (no .nil (no .nil (no .nil (no (no (no y34 .nil) .nil) .nil)))) (no .nil (no .nil y16))) (no .nil (no .nil (no .nil (no (no (no .nil y8) .nil) (no (no (no (lf (.cells 1 (lf (.func (.func 64) [(.ptr 1137 0)] [])))) .nil) .nil) .nil)))))) (no (no .nil (no .nil (no .nil (no .nil (no (no (no (lf (.cells 1 (lf (.ptr 1135 0)))) .nil) .nil) .nil))))) y41))), nx := 1279, ok := true, v := (.tuple []), out := .nil, nx' := 1320, wr := [] }
def l15 : List Orc := o15 :: l14
theorem k15 : ∀ [F : Facts], A4 (Env.ofS Try.prog l14 []) 20000 o15 = true := by
 intro F
 kernel_rfl
theorem w15 (G : Nat → D → D) : Af (Env.ofS Try.prog l15 []) G := Af.add (U := BC) (okE l14 []) (w14 G) k15
def o16 : Orc :=
 { f := 68, args := [(.ptr 1135 0), y33, (.bool true)], part := y43, nx := 1324, ok := true, v := (.tuple [(.slice 1342 0 2 1), (.slice 1355 0 1 1)]), out := (no (no (no .nil (no .nil (no (no (no .nil (no y37 .nil)) .nil) .nil))) .nil) (no .nil (no .nil (no .nil (no .nil (no .nil (no (no y36 .nil) .nil))))))), nx' := 1356, wr := [] }
def l16 : List Orc := o16 :: l15
theorem k16 : ∀ [F : Facts], A4 (Env.ofS Try.prog l15 []) 20000 o16 = true := by
 intro F
 kernel_rfl
theorem w16 (G : Nat → D → D) : Af (Env.ofS Try.prog l16 []) G := Af.add (U := BC) (okE l15 []) (w15 G) k16
def y46 : T Aj := (no .nil (no .nil (no y9 .nil)))
def y47 : T Aj := (no .nil (no .nil (no (no .nil (no y9 .nil)) .nil)))
def o17 : Orc :=
 { f := 43, args := [(.slice 1125 0 2 10), (.int .i64 (.ofNat 4000)), (.func (.func 44) [(.ptr 1135 0)] [])], part := (no (no (no y39 .nil) (no y40 (no (no y45 .nil) .nil))) y42), nx := 1136, ok := true, v := (.tuple [(.slice 1145 0 2 10), (.bool false)]), out := (no (no (no (no (no y46 (no .nil (no .nil (no (no (no (lf (.cells 14 (nd (.str 1 110) (nd (.slice 824 0 3 3) (nd (.slice 828 0 3 9) (lf (.slice 833 0 2 9)) (lf (.slice 1375 0 0 1))) (nd (.slice 830 0 2 3) (lf (.slice 1371 0 0 1)) y3)) (nd .slice0 (nd (.str 1 111) (lf (.str 1 89)) y23) (nd .slice0 (lf (.str 1 66)) .nil))))) .nil) .nil) .nil)))) .nil) y47) (no (no .nil (no .nil y45)) .nil)) .nil), nx' := 1376, wr := [1135] }
def l17 : List Orc := o17 :: l16
theorem k17 : ∀ [F : Facts], A4 (Env.ofS Try.prog l16 []) 20000 o17 = true := by
 intro F
 kernel_rfl
theorem w17 (G : Nat → D → D) : Af (Env.ofS Try.prog l17 []) G := Af.add (U := BC) (okE l16 []) (w16 G) k17
def o18 : Orc :=
 { f := 19, args := [(.agg [(.str 1 110), (.slice 824 0 3 3), .slice0, (.slice 828 0 3 9)]), (.agg [(.str 1 111), (.slice 830 0 2 3), .slice0, (.slice 833 0 2 9)]), (.agg [(.slice 835 0 2 2), .slice0])], part := (no (no (no .nil (no (no (no (no .nil (no (no .nil (lf (.cells 4 (nd (.str 1 88) (nd (.str 1 65) (lf (.str 1 66)) .nil) (lf (.str 1 89)))))) .nil)) .nil) .nil) .nil)) (no y40 .nil)) y42), nx := 836, ok := true, v := (.tuple [(.agg [(.str 1 89), (.slice 1371 0 0 1), (.str 1 66), (.slice 1375 0 0 1), (.int .i64 (.ofNat 1)), (.int .i64 (.ofNat 2))]), (.bool false), (.int .i64 (.ofNat 0))]), out := (no (no (no (no (no y46 .nil) .nil) y47) .nil) .nil), nx' := 1376, wr := [] }
def l18 : List Orc := o18 :: l17
theorem k18 : ∀ [F : Facts], A4 (Env.ofS Try.prog l17 []) 20000 o18 = true := by
 intro F
 kernel_rfl
theorem w18 (G : Nat → D → D) : Af (Env.ofS Try.prog l18 []) G := Af.add (U := BC) (okE l17 []) (w17 G) k18
end Go.Proofs.Ytpcdkfgmpekeeaa.convertReplaces

