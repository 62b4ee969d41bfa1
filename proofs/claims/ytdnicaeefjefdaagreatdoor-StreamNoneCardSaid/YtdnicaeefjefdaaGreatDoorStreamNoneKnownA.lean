/- What is proved: that certain calls which the law StreamNone makes come to the results that are written here (part 1 of 1). Conditions: the memory that such a call reaches is as written here; the kernel runs the evaluator over each. -/
import Derived.Test.YtdnicaeefjefdaaGreatDoorBeF
import Derived.Test.YtdnicaeefjefdaaGreatDoorChecked
import Derived.KernelRfl
set_option linter.unusedVariables false
set_option linter.unusedSectionVars false
set_option linter.unusedSimpArgs false
namespace Go.Proofs.YtdnicaeefjefdaaGreatDoor.streamNone
open Go.AE
theorem okE (l : List Orc) (m : List Sm) : ∀ [U : Unk], U.K = (Env.of Tryz.prog).kinds → OK (Env.ofS Tryz.prog l m) := fun {U} h => OK.of (U := U) (P := Tryz.prog) (Checked.mixed Tryz.checked) (by kernel_rfl) h
theorem w0 (G : Nat → D → D) : AG (Env.ofS Tryz.prog [] []) G := AG.none (U := DP)
def y0 : T AV := (lf (.int .i64 (.ofNat 1)))
def y1 : Ah := (.cells 2 (nd (.str 1 97) y0 .nil))
def y2 : T AV := (lf (.int .i64 (.ofNat 4)))
def y3 : T AV := (lf (.int .i64 (.ofNat 0)))
def y4 : T AV := (nd (.int .i64 (.ofNat 1)) (nd (.bool false) (nd (.int .i64 (.ofNat 0)) (nd (.str 1 107) y2 y3) (nd .slice0 (lf (.str 0 0)) (lf (.str 0 0)))) (nd (.str 0 0) (nd (.bool false) y3 y3) (nd .slice0 y3 y3))) (nd (.int .i64 (.ofNat 0)) (nd (.str 0 0) (nd (.int .i64 (.ofNat 4)) (lf (.bool false)) (lf (.bool false))) (nd (.str 0 0) (lf (.str 0 0)) (lf .slice0))) (nd (.int .i64 (.ofNat 0)) (nd (.int .i64 (.ofNat 0)) y3 (lf .slice0)) (nd (.int .i64 (.ofNat 0)) (lf (.str 1 115)) .nil))))
def y5 : T AV := (nd (.int .i64 (.ofNat 0)) y3 .nil)
def y6 : T AV := (nd (.bool false) (nd .slice0 (nd (.int .i64 (.ofNat 2)) y3 (lf (.bool false))) (nd (.str 0 0) (lf (.str 0 0)) (lf (.str 1 97)))) (nd .slice0 (nd (.int .i64 (.ofNat 5)) y3 y3) y5))
def y7 : T AV := (nd (.str 0 0) (nd (.bool false) (lf (.bool false)) y3) (nd (.str 0 0) (lf .slice0) y0))
def y8 : T AV := (nd (.str 1 98) (lf (.int .i64 (.ofNat 11))) .nil)
def y9 : T AV := (lf (.int .i64 (.negSucc 0)))
def y10 : T Ah := (no .nil (lf (.map [] 0)))
def y11 : T Ah := (lf (.map [⟨(.str 1 109), (.bool true), 0⟩] 1))
def y12 : T Ah := (lf (.map [⟨(.str 1 109), (.int .i64 (.ofNat 1)), 0⟩] 1))
def o1 : Orc :=
 { f := 157, args := [(.ptr 16 0), (.agg [(.str 1 109), (.slice 1 0 4 15)])], part := (nd y1 (nd (.cells 60 (nd (.str 1 97) y4 (nd (.int .i64 (.ofNat 4)) y6 (nd (.int .i64 (.ofNat 9)) y7 (nd (.int .i64 (.ofNat 0)) (nd (.int .i64 (.ofNat 0)) (lf (.slice 0 0 1 2)) (lf (.str 0 0))) y8))))) (no (no (lf (.map [] 0)) .nil) .nil) .nil) (nd (.cells 2 (nd (.str 1 109) (lf (.slice 1 0 4 15)) .nil)) (no (no (lf (.cells 9 (nd (.str 1 100) (nd (.slice 2 0 1 2) (nd (.map 14) (lf (.str 0 0)) .nil) y3) (nd (.str 1 109) (nd (.map 15) (lf .slice0) .nil) y9)))) .nil) .nil) y10)), nx := 20, ok := true, v := (.tuple []), out := (no (no (no (no y11 .nil) .nil) .nil) (no (no (no (lf (.cells 9 (nd (.str 1 100) (nd (.slice 2 0 1 2) (nd (.map 14) (lf (.str 1 109)) .nil) y3) (nd (.str 1 109) (nd (.map 15) (lf (.slice 1 0 4 15)) .nil) y9)))) .nil) .nil) (no .nil y12))), nx' := 195, wr := [15, 14, 16] }
def l1 : List Orc := o1 :: []
theorem k1 : ∀ [F : Facts], Dx (Env.ofS Tryz.prog [] []) 20000 o1 = true := by
 intro F
 kernel_rfl
theorem w1 (G : Nat → D → D) : AG (Env.ofS Tryz.prog l1 []) G := AG.add (U := DP) (okE [] []) (w0 G) k1
def y13 : T Ah := (no (lf (.map [⟨(.str 1 109), (.int .i64 (.ofNat 2)), 0⟩] 1)) .nil)
def y14 : T AV := (nd (.str 1 109) (nd (.int .i64 (.ofNat 0)) (lf (.bool false)) .nil) (lf (.bool false)))
def y15 : T AV := (lf (.int .i64 (.ofNat 2)))
def y16 : T AV := (nd .slice0 (lf .slice0) (lf (.str 0 0)))
def y17 : T AV := (nd (.int .i64 (.negSucc 0)) y9 .nil)
def y18 : T AV := (nd (.int .i64 (.ofNat 0)) y9 .nil)
def y19 : T AV := (nd (.int .i64 (.ofNat 4)) y9 .nil)
def y20 : T AV := (lf (.int .i64 (.ofNat 3)))
def y21 : T Ah := (lf (.cells 48 (nd (.int .i64 (.ofNat 1)) (nd (.int .i64 (.negSucc 0)) (nd (.int .i64 (.negSucc 0)) (nd (.int .i64 (.negSucc 0)) (nd (.int .i64 (.negSucc 0)) y3 y9) y17) (nd (.int .i64 (.negSucc 0)) y18 (nd (.int .i64 (.negSucc 0)) y3 .nil))) (nd (.int .i64 (.ofNat 2)) (nd (.int .i64 (.negSucc 0)) y17 y18) (nd (.int .i64 (.ofNat 0)) y5 y17))) (nd (.int .i64 (.negSucc 0)) (nd (.int .i64 (.negSucc 0)) (nd (.int .i64 (.negSucc 0)) (nd (.int .i64 (.negSucc 0)) y15 .nil) y19) (nd (.int .i64 (.ofNat 3)) (nd (.int .i64 (.ofNat 0)) y2 .nil) y17)) (nd (.int .i64 (.ofNat 2)) (nd (.int .i64 (.negSucc 0)) y19 (nd (.int .i64 (.ofNat 1)) (lf (.int .i64 (.ofNat 10))) .nil)) (nd (.int .i64 (.negSucc 0)) (nd (.int .i64 (.negSucc 0)) y20 .nil) y19))))))
def y22 : T Ah := (no .nil (no (no .nil y21) .nil))
def y23 : T AV := (nd (.int .i64 (.ofNat 0)) y0 .nil)
def y24 : T Ah := (no .nil (lf (.cells 4 (nd (.int .i64 (.ofNat 0)) y23 y3))))
def y25 : T Ah := (no (no (no (lf (.cells 6 (nd (.str 1 100) (nd (.slice 262 0 1 2) (lf (.slice 369 0 8 6)) (lf (.map 268))) (nd (.str 1 109) (lf (.map 267)) .nil)))) .nil) .nil) .nil)
def y26 : T Ah := (no .nil (no (no (no (no (lf (.cells 60 (nd (.str 1 97) y4 (nd (.int .i64 (.ofNat 4)) y6 (nd (.int .i64 (.ofNat 9)) y7 (nd (.int .i64 (.ofNat 0)) (nd (.int .i64 (.ofNat 0)) (lf (.slice 266 0 1 2)) (lf (.str 0 0))) y8)))))) .nil) .nil) .nil) (no .nil (no .nil (no (lf (.cells 60 (nd (.str 1 97) y4 (nd (.int .i64 (.ofNat 4)) y6 (nd (.int .i64 (.ofNat 9)) y7 (nd (.int .i64 (.ofNat 0)) (nd (.int .i64 (.ofNat 0)) (lf (.slice 378 0 1 2)) (lf (.str 0 0))) y8)))))) .nil)))))
def y27 : T Ah := (no (no .nil (no (no .nil (lf (.map [⟨(.str 1 115), (.ptr 433 0), 0⟩] 1))) .nil)) .nil)
def y28 : T Ah := (no (no (no y12 .nil) .nil) .nil)
def y29 : T Ah := (no .nil (no .nil (no (lf y1) .nil)))
def y30 : T Ah := (no .nil (no (no (no (no (lf y1) .nil) .nil) .nil) y29))
def y31 : T Ah := (no (no (lf (.cells 2 (nd (.str 1 109) (lf (.slice 264 0 4 15)) .nil))) .nil) .nil)
def y32 : T AV := (nd (.str 0 0) (lf (.bool true)) y3)
def y33 : T AV := (nd (.slice 376 0 4 15) y32 (nd (.map 419) y3 .nil))
def y34 : T Ah := (no .nil (no .nil (no (lf (.cells 2 (nd (.str 1 109) (lf (.slice 376 0 4 15)) .nil))) .nil)))
def o2 : Orc :=
 { f := 14, args := [], part := .nil, nx := 0, ok := true, v := (.ptr 379 0), out := (no (no (no .nil (no (no (no .nil (no y10 .nil)) .nil) (no (no (no y13 .nil) .nil) (no .nil (no .nil (no (lf (.cells 16 (nd (.slice 417 0 8 6) (nd (.str 1 100) y14 (nd (.slice 422 0 1 12) y15 y3)) (nd (.slice 374 0 1 2) (nd (.ptr 269 0) y3 y3) y16)))) .nil)))))) (no (no (no y22 (no .nil (no y24 (no y21 .nil)))) .nil) (no .nil (no y25 .nil)))) (no (no y26 (no y27 (no y28 .nil))) (no y30 (no (no (no y31 (no (no .nil (lf (.cells 12 (nd (.str 1 109) y33 (nd (.int .i64 (.ofNat 3)) y23 (nd (.map 420) y9 .nil)))))) .nil)) y34) .nil)))), nx' := 446, wr := [] }
def l2 : List Orc := o2 :: l1
theorem k2 : ∀ [F : Facts], Dx (Env.ofS Tryz.prog l1 []) 20000 o2 = true := by
 intro F
 kernel_rfl
theorem w2 (G : Nat → D → D) : AG (Env.ofS Tryz.prog l2 []) G := AG.add (U := DP) (okE l1 []) (w1 G) k2
def y35 : T Ah := (no .nil (no (no (no .nil y10) .nil) .nil))
def y36 : T Ah := (no (no .nil (lf y1)) .nil)
def o3 : Orc :=
 { f := 157, args := [(.ptr 462 0), (.agg [(.str 1 109), (.slice 447 0 4 15)])], part := (no (no (no (no (no (no (no .nil (no .nil (lf (.cells 60 (nd (.str 1 97) y4 (nd (.int .i64 (.ofNat 4)) y6 (nd (.int .i64 (.ofNat 9)) y7 (nd (.int .i64 (.ofNat 0)) (nd (.int .i64 (.ofNat 0)) (lf (.slice 446 0 1 2)) (lf (.str 0 0))) y8)))))))) .nil) .nil) .nil) .nil) (no .nil y35)) (no (no (no (no (no (no .nil (no .nil (lf (.cells 2 (nd (.str 1 109) (lf (.slice 447 0 4 15)) .nil))))) .nil) .nil) .nil) y35) (no .nil (no .nil (no (no (no .nil (no .nil (lf (.cells 9 (nd (.str 1 100) (nd (.slice 448 0 1 2) (nd (.map 460) (lf (.str 0 0)) .nil) y3) (nd (.str 1 109) (nd (.map 461) (lf .slice0) .nil) y9)))))) .nil) (no .nil y36)))))), nx := 466, ok := true, v := (.tuple []), out := (no (no .nil (no .nil (no .nil (no (no (no .nil (no .nil y11)) .nil) .nil)))) (no (no .nil (no .nil (no (no (no .nil (no .nil y12)) .nil) .nil))) (no .nil (no .nil (no (no (no .nil (no .nil (lf (.cells 9 (nd (.str 1 100) (nd (.slice 448 0 1 2) (nd (.map 460) (lf (.str 1 109)) .nil) y3) (nd (.str 1 109) (nd (.map 461) (lf (.slice 447 0 4 15)) .nil) y9)))))) .nil) .nil))))), nx' := 641, wr := [461, 460, 462] }
def l3 : List Orc := o3 :: l2
theorem k3 : ∀ [F : Facts], Dx (Env.ofS Tryz.prog l2 []) 20000 o3 = true := by
 intro F
 kernel_rfl
theorem w3 (G : Nat → D → D) : AG (Env.ofS Tryz.prog l3 []) G := AG.add (U := DP) (okE l2 []) (w2 G) k3
def y37 : T Ah := (no (no .nil y22) (no .nil (no (no (no .nil y21) .nil) (no y24 .nil))))
def y38 : T Ah := (no .nil (no .nil (no (lf (.cells 6 (nd (.str 1 100) (nd (.slice 708 0 1 2) (lf (.slice 815 0 8 6)) (lf (.map 714))) (nd (.str 1 109) (lf (.map 713)) .nil)))) .nil)))
def y39 : T Ah := (no .nil (no (no y38 .nil) .nil))
def y40 : T AV := (nd (.slice 868 0 1 12) y15 y3)
def y41 : T Ah := (no (no (no (no .nil (no .nil (no y10 .nil))) .nil) (no (no (no .nil (no .nil y13)) .nil) (no .nil (no (no (no .nil (lf (.cells 16 (nd (.slice 863 0 8 6) (nd (.str 1 100) y14 y40) (nd (.slice 820 0 1 2) (nd (.ptr 715 0) y3 y3) y16))))) .nil) .nil)))) .nil)
def y42 : T Ah := (no .nil (no (no y29 .nil) (no .nil (no y36 .nil))))
def y43 : T Ah := (no .nil (no .nil (no (lf (.cells 2 (nd (.str 1 109) (lf (.slice 710 0 4 15)) .nil))) .nil)))
def y44 : T AV := (nd (.slice 822 0 4 15) y32 (nd (.map 865) y3 .nil))
def y45 : T Ah := (no .nil (no (no (no .nil (lf (.cells 2 (nd (.str 1 109) (lf (.slice 822 0 4 15)) .nil)))) .nil) .nil))
def y46 : T Ah := (no (no (no (no .nil (no .nil (no (no .nil (lf (.map [⟨(.str 1 115), (.ptr 879 0), 0⟩] 1))) .nil))) .nil) (no (no (no .nil (no .nil (no y12 .nil))) .nil) .nil)) (no (no (no (no .nil (no .nil (no (lf (.cells 60 (nd (.str 1 97) y4 (nd (.int .i64 (.ofNat 4)) y6 (nd (.int .i64 (.ofNat 9)) y7 (nd (.int .i64 (.ofNat 0)) (nd (.int .i64 (.ofNat 0)) (lf (.slice 712 0 1 2)) (lf (.str 0 0))) y8)))))) .nil))) .nil) (no .nil (no (no (no .nil (lf (.cells 60 (nd (.str 1 97) y4 (nd (.int .i64 (.ofNat 4)) y6 (nd (.int .i64 (.ofNat 9)) y7 (nd (.int .i64 (.ofNat 0)) (nd (.int .i64 (.ofNat 0)) (lf (.slice 824 0 1 2)) (lf (.str 0 0))) y8))))))) .nil) .nil))) .nil))
def y47 : T Ah := (no (no y42 (no (no (no y43 (no .nil (no (no .nil (lf (.cells 12 (nd (.str 1 109) y44 (nd (.int .i64 (.ofNat 3)) y23 (nd (.map 866) y9 .nil)))))) .nil))) y45) .nil)) y46)
def o4 : Orc :=
 { f := 14, args := [], part := .nil, nx := 446, ok := true, v := (.ptr 825 0), out := (no (no (no (no y37 .nil) y39) y41) y47), nx' := 892, wr := [] }
def l4 : List Orc := o4 :: l3
theorem k4 : ∀ [F : Facts], Dx (Env.ofS Tryz.prog l3 []) 20000 o4 = true := by
 intro F
 kernel_rfl
theorem w4 (G : Nat → D → D) : AG (Env.ofS Tryz.prog l4 []) G := AG.add (U := DP) (okE l3 []) (w3 G) k4
def y48 : T Ah := (no .nil (no (no .nil (lf (.map [⟨(.str 1 97), (.int .i64 (.ofNat 2)), 0⟩] 1))) .nil))
def y49 : T AV := (nd (.slice 422 0 1 12) y20 y3)
def y50 : T AV := (lf (.int .u8 (.ofNat 98)))
def o5 : Orc :=
 { f := 7, args := [(.ptr 379 0), (.str 2 30818), (.int .i64 (.ofNat 0)), (.slice 1084 0 1 7)], part := (no (no (no .nil (no (no y48 .nil) (no (no (no y13 .nil) .nil) (no .nil (no .nil (no (lf (.cells 16 (nd (.slice 417 0 8 6) (nd (.str 1 100) (nd (.str 1 109) (nd (.int .i64 (.ofNat 8)) (lf (.bool false)) .nil) (lf (.bool false))) y49) (nd (.slice 374 0 1 2) (nd (.ptr 269 0) y15 y3) (nd (.slice 1033 0 1 1) (lf .slice0) (lf (.str 0 0))))))) .nil)))))) (no (no (no y22 (no .nil (no (no .nil (lf (.cells 4 (nd (.int .i64 (.ofNat 9472)) y23 y0)))) (no y21 .nil)))) (no (no (no (no (no (no (lf (.cells 1 (lf (.int .u8 (.ofNat 97))))) .nil) .nil) .nil) .nil) .nil) .nil)) (no .nil (no y25 (no .nil (no .nil (no (no .nil (lf (.cells 2 (nd (.int .u8 (.ofNat 97)) y50 .nil)))) .nil))))))) (no (no y26 (no y27 (no y28 (no .nil (no (no (no (no (lf (.cells 7 (nd (.str 1 98) (nd (.str 1 98) (lf (.slice 893 0 2 1)) (lf .slice0)) (nd (.int .i64 (.ofNat 0)) (lf .slice0) y20)))) .nil) .nil) .nil) .nil))))) (no y30 (no (no (no y31 (no (no .nil (lf (.cells 12 (nd (.str 1 109) y33 (nd (.int .i64 (.ofNat 5)) y23 (nd (.map 420) y9 .nil)))))) .nil)) y34) .nil)))), nx := 1085, ok := true, v := (.bool true), out := (no (no (no .nil (no .nil (no .nil (no .nil (no .nil (no (lf (.cells 16 (nd (.slice 417 0 8 6) (nd (.str 1 100) (nd (.str 1 109) (nd (.int .i64 (.ofNat 24)) (lf (.bool false)) .nil) (lf (.bool false))) y49) (nd (.slice 374 0 1 2) (nd (.ptr 269 0) y2 y3) (nd (.slice 1086 2 1 1) (lf .slice0) (lf (.str 0 0))))))) .nil)))))) (no (no (no .nil (no .nil (no (no .nil (lf (.cells 4 (nd (.int .i64 (.ofNat 34657)) y23 y20)))) .nil))) .nil) .nil)) (no .nil (no .nil (no (no (no .nil (no (no .nil (lf (.cells 12 (nd (.str 1 109) y33 (nd (.int .i64 (.ofNat 6)) y23 (nd (.map 420) y9 .nil)))))) .nil)) .nil) (no .nil (no .nil (no (no (no (no (lf (.cells 3 (nd (.int .u8 (.ofNat 97)) y50 (lf (.int .u8 (.ofNat 120)))))) .nil) .nil) .nil) .nil))))))), nx' := 1183, wr := [379, 422, 433, 1033] }
def l5 : List Orc := o5 :: l4
theorem k5 : ∀ [F : Facts], Dx (Env.ofS Tryz.prog l4 []) 20000 o5 = true := by
 intro F
 kernel_rfl
theorem w5 (G : Nat → D → D) : AG (Env.ofS Tryz.prog l5 []) G := AG.add (U := DP) (okE l4 []) (w4 G) k5
def y51 : T Ah := (no .nil (no .nil (no (no (lf (.cells 7 (nd (.str 1 97) (nd (.str 1 97) (lf .slice0) (lf .slice0)) (nd (.int .i64 (.ofNat 2)) (lf .slice0) y0)))) .nil) .nil)))
def y52 : T AV := (nd (.int .i64 (.ofNat 4)) y23 (nd (.map 866) y9 .nil))
def y53 : T AV := (nd (.str 1 100) (nd (.str 1 109) (nd (.int .i64 (.ofNat 4)) (lf (.bool true)) .nil) (lf (.bool false))) (nd .slice0 y15 (lf (.int .i64 (.ofNat 6)))))
def y54 : T Ah := (no (no .nil (no (no (no .nil (no .nil (no (no .nil (lf (.cells 12 (nd (.str 1 109) y44 y52)))) .nil))) .nil) .nil)) .nil)
def o6 : Orc :=
 { f := 38, args := [(.ptr 825 0)], part := (no (no (no (no y37 .nil) (no .nil (no (no y38 y51) .nil))) (no (no (no (no .nil y48) .nil) (no (no (no .nil (no .nil (no (nd (.map [⟨(.str 1 109), (.int .i64 (.ofNat 2)), 0⟩] 1) (lf (.cells 1 (lf (.int .u8 (.ofNat 38))))) .nil) .nil))) .nil) (no .nil (no (no (no .nil (lf (.cells 16 (nd (.slice 863 0 8 6) (nd (.str 1 100) (nd (.str 1 109) (nd (.int .i64 (.ofNat 4)) (lf (.bool false)) .nil) (lf (.bool false))) y40) (nd (.slice 820 0 1 2) (nd (.ptr 715 0) y0 y3) (nd (.slice 1225 0 1 1) (lf (.slice 1259 0 1 7)) (lf (.str 0 0)))))))) .nil) .nil)))) .nil)) (no (no y42 (no (no (no y43 (no .nil (no (no .nil (lf (.cells 12 (nd (.str 1 109) (nd (.slice 822 0 4 15) (nd (.str 0 0) (lf (.bool false)) y3) (nd (.map 865) y3 .nil)) y52)))) .nil))) y45) .nil)) y46)), nx := 1260, ok := true, v := (.bool false), out := (no (no .nil (no (no .nil (no .nil (no .nil (no (no (no .nil (lf (.cells 16 (nd (.slice 863 0 8 6) y53 (nd (.slice 820 0 1 2) (nd (.ptr 715 0) y0 y3) (nd .slice0 (lf (.slice 1259 0 1 7)) (lf (.str 1 107)))))))) .nil) .nil)))) .nil)) y54), nx' := 1295, wr := [825, 868] }
def l6 : List Orc := o6 :: l5
theorem k6 : ∀ [F : Facts], Dx (Env.ofS Tryz.prog l5 []) 20000 o6 = true := by
 intro F
 kernel_rfl
theorem w6 (G : Nat → D → D) : AG (Env.ofS Tryz.prog l6 []) G := AG.add (U := DP) (okE l5 []) (w5 G) k6
def o7 : Orc :=
 { f := 7, args := [(.ptr 825 0), (.str 1 38), (.int .i64 (.ofNat 6)), (.slice 1223 0 1 7)], part := (no (no (no (no y37 (no (no y51 .nil) .nil)) y39) y41) y47), nx := 1224, ok := true, v := (.bool true), out := (no (no .nil (no (no (no (no .nil y48) .nil) (no .nil (no .nil (no (no (no .nil (lf (.cells 16 (nd (.slice 863 0 8 6) y53 (nd (.slice 820 0 1 2) (nd (.ptr 715 0) y0 y3) (nd .slice0 (lf .slice0) (lf (.str 1 107)))))))) .nil) .nil)))) .nil)) y54), nx' := 1297, wr := [825, 868, 865] }
def l7 : List Orc := o7 :: l6
theorem k7 : ∀ [F : Facts], Dx (Env.ofS Tryz.prog l6 []) 20000 o7 = true := by
 intro F
 kernel_rfl
theorem w7 (G : Nat → D → D) : AG (Env.ofS Tryz.prog l7 []) G := AG.add (U := DP) (okE l6 []) (w6 G) k7
end Go.Proofs.YtdnicaeefjefdaaGreatDoor.streamNone

