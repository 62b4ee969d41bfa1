/- What is proved: that certain calls which the law FamilyExamples makes come to the results that are written here (part 10 of 16). Conditions: the memory that such a call reaches is as written here; the kernel runs the evaluator over each. -/
import Derived.Test.YtmjeljjkhblgeaaGreatDoorFamilyExamplesKnownA
import Derived.Test.YtmjeljjkhblgeaaGreatDoorFamilyExamplesKnownG
import Derived.Test.YtmjeljjkhblgeaaGreatDoorFamilyExamplesKnownH
import Derived.Test.YtmjeljjkhblgeaaGreatDoorFamilyExamplesKnownI
set_option linter.unusedVariables false
set_option linter.unusedSectionVars false
set_option linter.unusedSimpArgs false
namespace Go.Proofs.YtmjeljjkhblgeaaGreatDoor.familyExamples
open Go.AE
def X5:Orc:=
 {f:=9,args:=[],part:=.nil,nx:=5,ok:=true,v:=(.bool true),out:=.nil,nx':=3054,wr:=[]}
theorem Abj:∀[F:Facts],Ab (Env.ofS Tryz.prog [Zb,ck,ZN,cU,YM,Xz,Zd,Xc] []) 1000000 X5=true:=by
 intro F
 kernel_rfl
theorem Abl (G:Nat→D→D):X5.Valid Tryz.prog G:=Ad.val (okE _ []) (.cons (zg G) (.cons (yl G) (.cons (tS G) (.cons (rE G) (.cons (ro G) (.cons (z4 G) (.cons (qb G) (.cons (sk G) (w0 G))))))))) Abj
def WI:Orc:=
 {f:=32,args:=[(.ptr 4104 0)],part:=(no .nil (no (no (no .nil (no (no (no (no (no (no (no (no (lf (.cells 3 (nd US (lf (.int .i64 (.ofNat 55))) (lf (.int .i64 (.ofNat 1)))))) .nil) .nil) .nil) .nil) .nil) .nil) .nil) .nil)) .nil) .nil)),nx:=4277,ok:=true,v:=(.agg [(.str 9 2129333263492058543473),(.int .i64 (.ofNat 0)),.slice0,.slice0,(.slice 4397 0 1 5)]),out:=(no Wt (no (no (no YQ (no (no (no (no (no (no (no (no (lf (.cells 3 (nd US (lf (.int .i64 (.ofNat 102))) (lf (.int .i64 (.ofNat 1)))))) .nil) .nil) .nil) .nil) .nil) .nil) .nil) .nil)) .nil) .nil)),nx':=4398,wr:=[4104]}
theorem rP:∀[F:Facts],Ab (Env.ofS Tryz.prog [] []) 1000000 WI=true:=by
 intro F
 kernel_rfl
theorem sU (G:Nat→D→D):WI.Valid Tryz.prog G:=Ad.val (okE _ []) (w0 G) rP
def cE:Orc:=
 {f:=32,args:=[(.ptr 4104 0)],part:=(no .nil (no (no (no .nil (no (no (no (no (no (no (no (no (lf (.cells 3 (nd US (lf (.int .i64 (.ofNat 0))) (lf (.int .i64 (.ofNat 0)))))) .nil) .nil) .nil) .nil) .nil) .nil) .nil) .nil)) .nil) .nil)),nx:=4105,ok:=true,v:=(.agg [(.str 6 127978942194000),(.int .i64 (.ofNat 0)),.slice0,.slice0,(.slice 4426 0 9 5)]),out:=(no Wt (no (no (no YQ (no (no (no (no (no (no (no (no (lf (.cells 3 (nd US (lf (.int .i64 (.ofNat 111))) (lf (.int .i64 (.ofNat 0)))))) .nil) .nil) .nil) .nil) .nil) .nil) .nil) .nil)) .nil) oh)),nx':=4427,wr:=[4104]}
theorem zO:∀[F:Facts],Ab (Env.ofS Tryz.prog [WI] []) 1000000 cE=true:=by
 intro F
 kernel_rfl
theorem za (G:Nat→D→D):cE.Valid Tryz.prog G:=Ad.val (okE _ []) (.cons (sU G) (w0 G)) zO
def UI:Orc:=
 {f:=14,args:=[(.str 111 nP)],part:=.nil,nx:=4102,ok:=true,v:=dm,out:=ge,nx':=4686,wr:=[]}
theorem Aaz:∀[F:Facts],Ab (Env.ofS Tryz.prog [cE] []) 1000000 UI=true:=by
 intro F
 kernel_rfl
theorem gQ (G:Nat→D→D):UI.Valid Tryz.prog G:=Ad.val (okE _ []) (.cons (za G) (w0 G)) Aaz
def R6:Orc:=
 {f:=12,args:=[(.str 5 495622906222)],part:=.nil,nx:=4096,ok:=true,v:=dm,out:=ge,nx':=4686,wr:=[]}
theorem sc:∀[F:Facts],Ab (Env.ofS Tryz.prog [UI] []) 1000000 R6=true:=by
 intro F
 kernel_rfl
theorem mH (G:Nat→D→D):R6.Valid Tryz.prog G:=Ad.val (okE _ []) (.cons (gQ G) (w0 G)) sc
def af:Orc:=UI.move 4090
theorem qZ (G:Nat→D→D):af.Valid Tryz.prog G:=Orc.Valid.move (gQ G) (by kernel_rfl) 4090
end Go.Proofs.YtmjeljjkhblgeaaGreatDoor.familyExamples

