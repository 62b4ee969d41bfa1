/- What is proved: that certain calls which the law IndexNone makes come to the results that are written here (part 2 of 2). Conditions: the memory that such a call reaches is as written here; the kernel runs the evaluator over each. -/
import Derived.Test.YtkhnegoolkefjaaGreatDoorIndexNoneKnownA
set_option linter.unusedVariables false
set_option linter.unusedSectionVars false
set_option linter.unusedSimpArgs false
namespace Go.Proofs.YtkhnegoolkefjaaGreatDoor.indexNone
open Go.AE
def y92 : AV := (.agg [(.str 1 100), (.slice 125 0 1 2), (.str 1 109)])
def y93 : T Ag := (no .nil (no .nil (no .nil y6)))
def y94 : T Ag := (no (no .nil y89) (no y93 .nil))
def o25 : Orc :=
 { f := 149, args := [y92], part := y94, nx := 267, ok := true, v := (.tuple [(.ptr 272 0), y12, (.bool false)]), out := (no (no (no (no (no .nil y14) .nil) .nil) .nil) (no (no (no (no .nil (no (no (no (lf (.cells 9 (nd (.str 1 100) (nd (.slice 125 0 1 2) y90 y15) (nd (.str 1 109) y91 y15)))) .nil) .nil) .nil)) .nil) .nil) (no .nil (no .nil (no y17 .nil))))), nx' := 305, wr := [] }
def l25 : List Orc := o25 :: l24
theorem k25 : ∀ [F : Facts], Ap (Env.ofS Tryz.prog l24 []) 100000 o25 = true := by
 intro F
 kernel_rfl
theorem w25 (G : Nat → D → D) : Ai (Env.ofS Tryz.prog l25 []) G := Ai.add (U := AK) (okE l24 []) (w24 G) k25
def y95 : T AV := (nd (.int .i64 (.ofNat 0)) (nd (.slice 125 0 1 2) (lf (.str 0 0)) (lf .slice0)) y22)
def y96 : AV := (.agg [(.str 1 109), (.int .i64 (.ofNat 0)), .slice0, .slice0, (.slice 358 0 1 5)])
def y97 : T Ag := (no .nil (no .nil (no y30 .nil)))
def o26 : Orc :=
 { f := 120, args := [(.ptr 328 0), (.str 1 109), (.slice 204 0 1 1), (.int .i64 (.ofNat 0)), (.str 0 0)], part := (no (no (no (no .nil y19) .nil) y89) (no (no (no .nil (no (no (no .nil (no (lf (.cells 13 (nd .slice0 (nd (.int .i64 (.ofNat 0)) y21 (nd (.str 1 109) (lf (.ptr 327 0)) .nil)) y95))) .nil)) .nil) .nil)) (no .nil (no y20 y6))) .nil)), nx := 329, ok := true, v := (.tuple [y96, (.int .i64 (.ofNat 1))]), out := (no (no (no (no .nil y27) .nil) .nil) y97), nx' := 360, wr := [327] }
def l26 : List Orc := o26 :: l25
theorem k26 : ∀ [F : Facts], Ap (Env.ofS Tryz.prog l25 []) 100000 o26 = true := by
 intro F
 kernel_rfl
theorem w26 (G : Nat → D → D) : Ai (Env.ofS Tryz.prog l26 []) G := Ai.add (U := AK) (okE l25 []) (w25 G) k26
def o27 : Orc :=
 { f := 81, args := [y92, (.str 1 109), (.slice 204 0 1 1)], part := (no (no .nil y89) (no (no .nil (no .nil (no y20 y6))) .nil)), nx := 256, ok := true, v := (.tuple [y96, (.int .i64 (.ofNat 1)), y32, (.int .i64 (.ofNat 0))]), out := (no .nil y97), nx' := 360, wr := [] }
def l27 : List Orc := o27 :: l26
theorem k27 : ∀ [F : Facts], Ap (Env.ofS Tryz.prog l26 []) 100000 o27 = true := by
 intro F
 kernel_rfl
theorem w27 (G : Nat → D → D) : Ai (Env.ofS Tryz.prog l27 []) G := Ai.add (U := AK) (okE l26 []) (w26 G) k27
def o28 : Orc :=
 { f := 52, args := [y96], part := (no .nil y97), nx := 372, ok := true, v := (.bool true), out := .nil, nx' := 395, wr := [] }
def l28 : List Orc := o28 :: l27
theorem k28 : ∀ [F : Facts], Ap (Env.ofS Tryz.prog l27 []) 100000 o28 = true := by
 intro F
 kernel_rfl
theorem w28 (G : Nat → D → D) : Ai (Env.ofS Tryz.prog l28 []) G := Ai.add (U := AK) (okE l27 []) (w27 G) k28
def y98 : T AV := (nd .slice0 (lf (.map 191)) (lf (.bool true)))
def y99 : T Ag := (no (no (no (no .nil (lf (.map [⟨(.str 0 0), (.slice 414 0 1 2), 0⟩, ⟨(.str 1 97), (.slice 429 0 1 2), 1⟩] 2))) .nil) .nil) .nil)
def SF : T Ag := (no .nil (no y39 (no (lf (.map [⟨(.str 1 109), (.slice 416 0 1 1), 0⟩] 1)) .nil)))
def o29 : Orc :=
 { f := 46, args := [(.ptr 192 0), (.int .i64 (.ofNat 0)), y96], part := (no (no (no (no (no (no y43 .nil) (no .nil (no .nil y18))) .nil) .nil) (no .nil (no .nil (no (no .nil (no .nil (no (lf (.cells 9 (nd (.int .i64 (.ofNat 1)) (nd (.int .i64 (.ofNat 0)) (nd (.str 1 109) (lf (.slice 358 0 1 5)) .nil) (lf .slice0)) (nd (.slice 204 0 1 1) y33 (lf .slice0))))) .nil))) .nil)))) (no (no (no (no (no (no .nil (lf (.cells 6 (nd (.slice 365 0 1 9) y98 (nd (.map 190) (lf (.slice 367 0 1 1)) .nil))))) .nil) .nil) .nil) (no .nil (no y20 .nil))) (no .nil y35))), nx := 368, ok := true, v := (.tuple []), out := (no (no (no y99 .nil) (no .nil y37)) (no (no (no (no (no .nil y38) .nil) .nil) .nil) (no .nil (no .nil SF)))), nx' := 431, wr := [191, 190] }
def l29 : List Orc := o29 :: l28
theorem k29 : ∀ [F : Facts], Ap (Env.ofS Tryz.prog l28 []) 100000 o29 = true := by
 intro F
 kernel_rfl
theorem w29 (G : Nat → D → D) : Ai (Env.ofS Tryz.prog l29 []) G := Ai.add (U := AK) (okE l28 []) (w28 G) k29
def Sy : T AV := (nd (.map 449) (lf (.str 1 109)) .nil)
def S0 : T AV := (nd (.map 450) (lf (.slice 124 0 1 15)) .nil)
def St : T Ag := (no (no (no (no .nil y43) .nil) .nil) .nil)
def o30 : Orc :=
 { f := 245, args := [(.ptr 451 0), y0], part := (no (no (no .nil (no (no (no (no .nil (no .nil (lf (.cells 9 (nd (.str 1 100) (nd (.slice 125 0 1 2) Sy y5) (nd (.str 1 109) S0 y5)))))) .nil) .nil) .nil)) (no St (no .nil (no .nil y88)))) (no y93 (no St .nil))), nx := 461, ok := true, v := (.tuple []), out := .nil, nx' := 478, wr := [] }
def l30 : List Orc := o30 :: l29
theorem k30 : ∀ [F : Facts], Ap (Env.ofS Tryz.prog l29 []) 100000 o30 = true := by
 intro F
 kernel_rfl
theorem w30 (G : Nat → D → D) : Ai (Env.ofS Tryz.prog l30 []) G := Ai.add (U := AK) (okE l29 []) (w29 G) k30
def o31 : Orc :=
 { f := 149, args := [y92], part := y94, nx := 446, ok := true, v := (.tuple [(.ptr 451 0), y12, (.bool false)]), out := (no (no (no .nil (no (no (no (no .nil (no .nil (lf (.cells 9 (nd (.str 1 100) (nd (.slice 125 0 1 2) Sy y15) (nd (.str 1 109) S0 y15)))))) .nil) .nil) .nil)) (no (no (no (no (no .nil (no .nil y16)) .nil) .nil) .nil) .nil)) (no .nil (no (no (no (no (no .nil (no .nil y13)) .nil) .nil) .nil) .nil))), nx' := 484, wr := [] }
def l31 : List Orc := o31 :: l30
theorem k31 : ∀ [F : Facts], Ap (Env.ofS Tryz.prog l30 []) 100000 o31 = true := by
 intro F
 kernel_rfl
theorem w31 (G : Nat → D → D) : Ai (Env.ofS Tryz.prog l31 []) G := Ai.add (U := AK) (okE l30 []) (w30 G) k31
def o32 : Orc :=
 { f := 81, args := [y92, (.str 1 109), (.slice 210 0 1 1)], part := (no (no .nil y89) (no y93 (no (no (no .nil y46) .nil) .nil))), nx := 435, ok := true, v := (.tuple [(.agg [(.str 0 0), (.int .i64 (.ofNat 0)), .slice0, .slice0, .slice0]), (.int .i64 (.ofNat 0)), (.agg [(.int .i64 (.ofNat 0)), (.int .i64 (.ofNat 3)), (.str 1 97)]), (.int .i64 (.ofNat 3))]), out := .nil, nx' := 537, wr := [] }
def l32 : List Orc := o32 :: l31
theorem k32 : ∀ [F : Facts], Ap (Env.ofS Tryz.prog l31 []) 100000 o32 = true := by
 intro F
 kernel_rfl
theorem w32 (G : Nat → D → D) : Ai (Env.ofS Tryz.prog l32 []) G := Ai.add (U := AK) (okE l31 []) (w31 G) k32
def SZ : T AV := (nd (.map 563) (lf (.str 1 109)) .nil)
def SO : T AV := (nd (.map 564) (lf (.slice 124 0 1 15)) .nil)
def o33 : Orc :=
 { f := 245, args := [(.ptr 565 0), y0], part := (no (no (no .nil (no (no .nil y47) .nil)) (no .nil (no (no .nil (no .nil (no (no (no (lf (.cells 9 (nd (.str 1 100) (nd (.slice 125 0 1 2) SZ y5) (nd (.str 1 109) SO y5)))) .nil) .nil) .nil))) (no .nil y88)))) (no (no .nil y50) .nil)), nx := 575, ok := true, v := (.tuple []), out := .nil, nx' := 592, wr := [] }
def l33 : List Orc := o33 :: l32
theorem k33 : ∀ [F : Facts], Ap (Env.ofS Tryz.prog l32 []) 100000 o33 = true := by
 intro F
 kernel_rfl
theorem w33 (G : Nat → D → D) : Ai (Env.ofS Tryz.prog l33 []) G := Ai.add (U := AK) (okE l32 []) (w32 G) k33
def o34 : Orc :=
 { f := 149, args := [y92], part := y94, nx := 560, ok := true, v := (.tuple [(.ptr 565 0), y12, (.bool false)]), out := (no (no (no .nil y51) (no .nil (no (no .nil (no .nil (no (no (no (lf (.cells 9 (nd (.str 1 100) (nd (.slice 125 0 1 2) SZ y15) (nd (.str 1 109) SO y15)))) .nil) .nil) .nil))) .nil))) (no (no .nil y52) .nil)), nx' := 598, wr := [] }
def l34 : List Orc := o34 :: l33
theorem k34 : ∀ [F : Facts], Ap (Env.ofS Tryz.prog l33 []) 100000 o34 = true := by
 intro F
 kernel_rfl
theorem w34 (G : Nat → D → D) : Ai (Env.ofS Tryz.prog l34 []) G := Ai.add (U := AK) (okE l33 []) (w33 G) k34
def Rf : AV := (.agg [(.str 1 109), (.int .i64 (.ofNat 0)), .slice0, .slice0, (.slice 651 0 1 5)])
def Sd : T Ag := (no (no .nil (no .nil y56)) .nil)
def o35 : Orc :=
 { f := 120, args := [(.ptr 621 0), (.str 1 109), (.slice 216 0 1 1), (.int .i64 (.ofNat 0)), (.str 0 0)], part := (no (no .nil (no .nil (no .nil (no (no .nil (no .nil (no (no (lf (.cells 13 (nd .slice0 (nd (.int .i64 (.ofNat 0)) y21 (nd (.str 1 109) (lf (.ptr 620 0)) .nil)) y95))) .nil) .nil))) y88)))) (no (no (no .nil y54) y53) .nil)), nx := 622, ok := true, v := (.tuple [Rf, (.int .i64 (.ofNat 1))]), out := (no Sd (no (no .nil y58) .nil)), nx' := 653, wr := [620] }
def l35 : List Orc := o35 :: l34
theorem k35 : ∀ [F : Facts], Ap (Env.ofS Tryz.prog l34 []) 100000 o35 = true := by
 intro F
 kernel_rfl
theorem w35 (G : Nat → D → D) : Ai (Env.ofS Tryz.prog l35 []) G := Ai.add (U := AK) (okE l34 []) (w34 G) k35
def o36 : Orc :=
 { f := 81, args := [y92, (.str 1 109), (.slice 216 0 1 1)], part := (no (no .nil y89) (no (no (no .nil y54) (no .nil (no .nil y6))) .nil)), nx := 549, ok := true, v := (.tuple [Rf, (.int .i64 (.ofNat 1)), y32, (.int .i64 (.ofNat 0))]), out := (no Sd .nil), nx' := 653, wr := [] }
def l36 : List Orc := o36 :: l35
theorem k36 : ∀ [F : Facts], Ap (Env.ofS Tryz.prog l35 []) 100000 o36 = true := by
 intro F
 kernel_rfl
theorem w36 (G : Nat → D → D) : Ai (Env.ofS Tryz.prog l36 []) G := Ai.add (U := AK) (okE l35 []) (w35 G) k36
def o37 : Orc :=
 { f := 52, args := [Rf], part := (no Sd .nil), nx := 665, ok := true, v := (.bool true), out := .nil, nx' := 688, wr := [] }
def l37 : List Orc := o37 :: l36
theorem k37 : ∀ [F : Facts], Ap (Env.ofS Tryz.prog l36 []) 100000 o37 = true := by
 intro F
 kernel_rfl
theorem w37 (G : Nat → D → D) : Ai (Env.ofS Tryz.prog l37 []) G := Ai.add (U := AK) (okE l36 []) (w36 G) k37
def SH : T Ag := (no .nil (lf (.cells 6 (nd (.slice 658 0 3 9) y98 (nd (.map 190) (lf (.slice 660 0 3 1)) .nil)))))
def Sr : T Ag := (no .nil (no (lf (.cells 27 (nd (.int .i64 (.ofNat 1)) (nd (.int .i64 (.ofNat 0)) (nd (.str 1 109) (nd (.slice 358 0 1 5) (lf .slice0) (lf .slice0)) (nd (.slice 210 0 1 1) y5 .nil)) (nd .slice0 (nd (.int .i64 (.ofNat 1)) y63 (lf (.slice 651 0 1 5))) y64)) (nd (.slice 204 0 1 1) (nd (.int .i64 (.ofNat 0)) y65 (nd (.str 0 0) (lf (.slice 216 0 1 1)) .nil)) y66)))) .nil))
def R7 : T Ag := (no (no (no (no .nil (lf (.map [⟨(.str 0 0), (.slice 707 0 2 2), 0⟩, ⟨(.str 1 97), (.slice 722 0 2 2), 1⟩] 2))) .nil) .nil) .nil)
def SJ : T Ag := (no .nil (no .nil (no (lf (.map [⟨(.str 1 109), (.slice 709 0 2 1), 0⟩] 1)) .nil)))
def o38 : Orc :=
 { f := 46, args := [(.ptr 192 0), (.int .i64 (.ofNat 2)), Rf], part := (no (no (no y99 (no .nil y56)) (no .nil y37)) (no (no (no (no (no SH y38) .nil) y54) y61) (no (no (no .nil (no (no Sr (lf y45)) .nil)) .nil) (no y30 SF)))), nx := 661, ok := true, v := (.tuple []), out := (no (no (no R7 (no y69 .nil)) (no .nil y71)) (no .nil (no (no (no .nil y74) .nil) (no .nil SJ)))), nx' := 724, wr := [191, 429, 190, 416, 414] }
def l38 : List Orc := o38 :: l37
theorem k38 : ∀ [F : Facts], Ap (Env.ofS Tryz.prog l37 []) 100000 o38 = true := by
 intro F
 kernel_rfl
theorem w38 (G : Nat → D → D) : Ai (Env.ofS Tryz.prog l38 []) G := Ai.add (U := AK) (okE l37 []) (w37 G) k38
def SY : T Ag := (no (no (no (no (no SH .nil) .nil) y54) y61) (no (no (no .nil (no (no Sr (nd y45 .nil y73)) .nil)) .nil) (no y30 SJ)))
def PE : T Ag := (no (no (no R7 (no y69 y56)) (no .nil y71)) SY)
def o39 : Orc :=
 { f := 7, args := [(.ptr 192 0), y75], part := PE, nx := 732, ok := true, v := (.tuple [(.slice 754 0 3 1), (.int .i64 (.ofNat 0))]), out := (no .nil (no .nil (no (no (no .nil (no .nil (no .nil y60))) .nil) .nil))), nx' := 755, wr := [] }
def l39 : List Orc := o39 :: l38
theorem k39 : ∀ [F : Facts], Ap (Env.ofS Tryz.prog l38 []) 100000 o39 = true := by
 intro F
 kernel_rfl
theorem w39 (G : Nat → D → D) : Ai (Env.ofS Tryz.prog l39 []) G := Ai.add (U := AK) (okE l38 []) (w38 G) k39
def o40 : Orc :=
 { f := 7, args := [(.ptr 192 0), y78], part := PE, nx := 762, ok := true, v := (.tuple [(.slice 781 0 2 1), (.int .i64 (.ofNat 0))]), out := (no (no .nil (no .nil y79)) .nil), nx' := 782, wr := [] }
def l40 : List Orc := o40 :: l39
theorem k40 : ∀ [F : Facts], Ap (Env.ofS Tryz.prog l39 []) 100000 o40 = true := by
 intro F
 kernel_rfl
theorem w40 (G : Nat → D → D) : Ai (Env.ofS Tryz.prog l40 []) G := Ai.add (U := AK) (okE l39 []) (w39 G) k40
def o41 : Orc :=
 { f := 7, args := [(.ptr 192 0), (.agg [(.int .i64 (.ofNat 0)), (.int .i64 (.ofNat 9)), (.slice 729 0 1 1), (.str 0 0), (.str 0 0), (.int .i64 (.ofNat 0)), (.int .i64 (.ofNat 0)), (.bool false)])], part := (no (no (no R7 (no y69 y56)) (no (no .nil y80) y71)) SY), nx := 789, ok := true, v := (.tuple [(.slice 809 0 2 1), (.int .i64 (.ofNat 0))]), out := (no (no .nil (no (no .nil y81) .nil)) .nil), nx' := 810, wr := [] }
def l41 : List Orc := o41 :: l40
theorem k41 : ∀ [F : Facts], Ap (Env.ofS Tryz.prog l40 []) 100000 o41 = true := by
 intro F
 kernel_rfl
theorem w41 (G : Nat → D → D) : Ai (Env.ofS Tryz.prog l41 []) G := Ai.add (U := AK) (okE l40 []) (w40 G) k41
def o42 : Orc :=
 { f := 7, args := [(.ptr 192 0), y82], part := PE, nx := 817, ok := true, v := (.tuple [(.slice 840 0 1 1), (.int .i64 (.ofNat 0))]), out := (no .nil (no (no (no .nil y83) .nil) .nil)), nx' := 841, wr := [] }
def l42 : List Orc := o42 :: l41
theorem k42 : ∀ [F : Facts], Ap (Env.ofS Tryz.prog l41 []) 100000 o42 = true := by
 intro F
 kernel_rfl
theorem w42 (G : Nat → D → D) : Ai (Env.ofS Tryz.prog l42 []) G := Ai.add (U := AK) (okE l41 []) (w41 G) k42
def o43 : Orc :=
 { f := 7, args := [(.ptr 192 0), y84], part := PE, nx := 848, ok := true, v := (.tuple [(.slice 865 0 1 1), (.int .i64 (.ofNat 0))]), out := (no (no .nil (no (no (no (no .nil y85) .nil) .nil) .nil)) .nil), nx' := 867, wr := [] }
def l43 : List Orc := o43 :: l42
theorem k43 : ∀ [F : Facts], Ap (Env.ofS Tryz.prog l42 []) 100000 o43 = true := by
 intro F
 kernel_rfl
theorem w43 (G : Nat → D → D) : Ai (Env.ofS Tryz.prog l43 []) G := Ai.add (U := AK) (okE l42 []) (w42 G) k43
def o44 : Orc :=
 { f := 7, args := [(.ptr 192 0), y86], part := PE, nx := 874, ok := true, v := (.tuple [.slice0, (.int .i64 (.ofNat 0))]), out := .nil, nx' := 890, wr := [] }
def l44 : List Orc := o44 :: l43
theorem k44 : ∀ [F : Facts], Ap (Env.ofS Tryz.prog l43 []) 100000 o44 = true := by
 intro F
 kernel_rfl
theorem w44 (G : Nat → D → D) : Ai (Env.ofS Tryz.prog l44 []) G := Ai.add (U := AK) (okE l43 []) (w43 G) k44
def o45 : Orc :=
 { f := 52, args := [(.agg [(.str 1 109), (.int .i64 (.ofNat 0)), .slice0, .slice0, (.slice 902 0 1 5)])], part := (no .nil (no .nil (no .nil y87))), nx := 907, ok := true, v := (.bool true), out := .nil, nx' := 930, wr := [] }
def l45 : List Orc := o45 :: l44
theorem k45 : ∀ [F : Facts], Ap (Env.ofS Tryz.prog l44 []) 100000 o45 = true := by
 intro F
 kernel_rfl
theorem w45 (G : Nat → D → D) : Ai (Env.ofS Tryz.prog l45 []) G := Ai.add (U := AK) (okE l44 []) (w44 G) k45
def o46 : Orc :=
 { f := 4, args := [], part := .nil, nx := 6, ok := true, v := (.bool true), out := .nil, nx' := 976, wr := [] }
def l46 : List Orc := o46 :: l45
theorem k46 : ∀ [F : Facts], Ap (Env.ofS Tryz.prog l45 []) 100000 o46 = true := by
 intro F
 kernel_rfl
theorem w46 (G : Nat → D → D) : Ai (Env.ofS Tryz.prog l46 []) G := Ai.add (U := AK) (okE l45 []) (w45 G) k46
end Go.Proofs.YtkhnegoolkefjaaGreatDoor.indexNone

