/- What is proved: that certain calls which the law FamilyExamples makes come to the results that are written here (part 11 of 16). Conditions: the memory that such a call reaches is as written here; the kernel runs the evaluator over each. -/
import Derived.Test.YtmjeljjkhblgeaaGreatDoorFamilyExamplesKnownA
import Derived.Test.YtmjeljjkhblgeaaGreatDoorFamilyExamplesKnownJ
set_option linter.unusedVariables false
set_option linter.unusedSectionVars false
set_option linter.unusedSimpArgs false
namespace Go.Proofs.YtmjeljjkhblgeaaGreatDoor.familyExamples
open Go.AE
def Vd:Orc:=
 {f:=13,args:=[(.agg [(.str 6 127978942194000),(.int .i64 (.ofNat 0)),.slice0,.slice0,(.slice 4426 0 9 5)]),(.agg [(.str 6 127978942194000),(.int .i64 (.ofNat 0)),.slice0,.slice0,(.slice 8516 0 9 5)])],part:=(no (no (no kn mi) (no .nil (no j9 eO))) (no (no jT jw) (no (no .nil (no pN dr)) .nil))),nx:=8777,ok:=true,v:=(.bool true),out:=.nil,nx':=8807,wr:=[]}
theorem ve:∀[F:Facts],Ab (Env.ofS Tryz.prog [] []) 1000000 Vd=true:=by
 intro F
 kernel_rfl
theorem xo (G:Nat→D→D):Vd.Valid Tryz.prog G:=Ad.val (okE _ []) (w0 G) ve
def cB:Orc:=R6.move 8192
theorem xB (G:Nat→D→D):cB.Valid Tryz.prog G:=Orc.Valid.move (mH G) (by kernel_rfl) 8192
def VB:Orc:=
 {f:=13,args:=[(.agg [(.str 6 127978942194000),(.int .i64 (.ofNat 0)),.slice0,.slice0,(.slice 12618 0 9 5)]),(.agg [(.str 6 127978942194000),(.int .i64 (.ofNat 0)),.slice0,.slice0,(.slice 8516 0 9 5)])],part:=(no (no (no kn (no .nil (no (no .nil (no (no (no .nil (no (no (no (no .nil (lf (.cells 15 (nd (.str 4 1701667182) YV (nd (.slice 12544 0 3 1) KL XV))))) .nil) .nil) .nil)) .nil) .nil)) .nil))) (no .nil (no j9 (no (no .nil (no (no (no .nil (no (no (no (no .nil (lf (.cells 5 (nd (.str 8 7957695015460107601) Cc (nd .slice0 (lf (.slice 12587 0 3 5)) .nil))))) .nil) .nil) .nil)) .nil) .nil)) .nil)))) (no (no (no (no (no (no (no (no .nil (no (no (no (no .nil eP) .nil) .nil) .nil)) .nil) .nil) .nil) .nil) .nil) jw) (no (no .nil (no (no (no .nil (no (no .nil (no (no (no (no .nil (lf (.cells 45 (nd (.str 2 25705) (nd (.int .i64 (.ofNat 7)) (nd .slice0 (nd .slice0 Zu (nd .slice0 (lf (.slice 12589 0 1 5)) .nil)) cR) aF) aU)))) .nil) .nil) .nil)) .nil)) .nil) dr)) .nil))),nx:=12879,ok:=true,v:=(.bool true),out:=.nil,nx':=12909,wr:=[]}
theorem qG:∀[F:Facts],Ab (Env.ofS Tryz.prog [] []) 1000000 VB=true:=by
 intro F
 kernel_rfl
theorem yE (G:Nat→D→D):VB.Valid Tryz.prog G:=Ad.val (okE _ []) (w0 G) qG
def Xl:Orc:=X5.move 102395
theorem uy (G:Nat→D→D):Xl.Valid Tryz.prog G:=Orc.Valid.move (Abl G) (by kernel_rfl) 102395
def cx:Orc:=
 {f:=32,args:=[(.ptr 4105 0)],part:=(no (no .nil (no (no .nil (no (no (no (no (no (no (no (no (lf (.cells 3 (nd UL (lf (.int .i64 (.ofNat 42))) (lf (.int .i64 (.ofNat 2)))))) .nil) .nil) .nil) .nil) .nil) .nil) .nil) .nil)) .nil)) .nil),nx:=4228,ok:=true,v:=(.agg [(.str 6 121424789663823),(.int .i64 (.ofNat 0)),.slice0,.slice0,(.slice 4345 0 2 5)]),out:=(no (no YK (no (no .nil (no (no (no (no (no (no (no (no (lf (.cells 3 (nd UL (lf (.int .i64 (.ofNat 85))) (lf (.int .i64 (.ofNat 2)))))) .nil) .nil) .nil) .nil) .nil) .nil) .nil) Xi)) XD)) .nil),nx':=4346,wr:=[4105]}
theorem wH:∀[F:Facts],Ab (Env.ofS Tryz.prog [] []) 1000000 cx=true:=by
 intro F
 kernel_rfl
theorem Abk (G:Nat→D→D):cx.Valid Tryz.prog G:=Ad.val (okE _ []) (w0 G) wH
def Xh:Orc:=
 {f:=32,args:=[(.ptr 4105 0)],part:=(no (no .nil (no (no .nil (no (no (no (no (no (no (no (no (lf (.cells 3 (nd UL (lf (.int .i64 (.ofNat 34))) (lf (.int .i64 (.ofNat 1)))))) .nil) .nil) .nil) .nil) .nil) .nil) .nil) .nil)) .nil)) .nil),nx:=4203,ok:=true,v:=(.agg [(.str 7 32491047111389295),(.int .i64 (.ofNat 0)),.slice0,.slice0,(.slice 4454 0 2 5)]),out:=(no (no YK (no (no .nil (no (no (no (no (no (no (no (no (lf (.cells 3 (nd UL (lf (.int .i64 (.ofNat 127))) (lf (.int .i64 (.ofNat 1)))))) .nil) .nil) .nil) .nil) .nil) .nil) .nil) Xi)) XD)) (no (no (no n6 .nil) iP) kO)),nx':=4455,wr:=[4105]}
theorem qI:∀[F:Facts],Ab (Env.ofS Tryz.prog [cx] []) 1000000 Xh=true:=by
 intro F
 kernel_rfl
theorem tQ (G:Nat→D→D):Xh.Valid Tryz.prog G:=Ad.val (okE _ []) (.cons (Abk G) (w0 G)) qI
end Go.Proofs.YtmjeljjkhblgeaaGreatDoor.familyExamples

