/- What is proved: that certain calls which the law FamilyExamples makes come to the results that are written here (part 15 of 16). Conditions: the memory that such a call reaches is as written here; the kernel runs the evaluator over each. -/
import Derived.Test.YtmjeljjkhblgeaaGreatDoorFamilyExamplesKnownA
import Derived.Test.YtmjeljjkhblgeaaGreatDoorFamilyExamplesKnownN
set_option linter.unusedVariables false
set_option linter.unusedSectionVars false
set_option linter.unusedSimpArgs false
namespace Go.Proofs.YtmjeljjkhblgeaaGreatDoor.familyExamples
open Go.AE
def UQ:Orc:=
 {f:=13,args:=[(.agg [(.str 7 32777976897693010),(.int .i64 (.ofNat 0)),.slice0,.slice0,(.slice 4234 0 4 5)]),(.agg [(.str 7 32777976897693010),(.int .i64 (.ofNat 0)),.slice0,.slice0,(.slice 8319 0 4 5)])],part:=(no (no nS (no mz (no lx (no .nil (no .nil (no m3 iR)))))) (no f9 (no (no mM oi) .nil))),nx:=8436,ok:=true,v:=(.bool true),out:=.nil,nx':=8448,wr:=[]}
theorem tt:∀[F:Facts],Ab (Env.ofS Tryz.prog [] []) 1000000 UQ=true:=by
 intro F
 kernel_rfl
theorem pS (G:Nat→D→D):UQ.Valid Tryz.prog G:=Ad.val (okE _ []) (w0 G) tt
def aw:Orc:=S4.move 8192
theorem xU (G:Nat→D→D):aw.Valid Tryz.prog G:=Orc.Valid.move (i9 G) (by kernel_rfl) 8192
def UV:Orc:=
 {f:=13,args:=[(.agg [(.str 7 32777976897693010),(.int .i64 (.ofNat 0)),.slice0,.slice0,(.slice 12426 0 4 5)]),(.agg [(.str 7 32777976897693010),(.int .i64 (.ofNat 0)),.slice0,.slice0,(.slice 8319 0 4 5)])],part:=(no (no nS (no mz (no lx (no .nil (no .nil (no (no (no (no (no (no (no .nil kf) .nil) .nil) .nil) .nil) .nil) iR)))))) (no (no (no (no .nil (no (no .nil (no (no (no (no (no (no .nil l8) .nil) .nil) .nil) .nil) .nil)) .nil)) (no (no (no (no .nil (no (no (no (no (no .nil jC) .nil) .nil) .nil) .nil)) .nil) .nil) .nil)) (no .nil (no (no .nil (no .nil (no (no (no (no (no (no .nil jb) .nil) .nil) .nil) .nil) .nil))) .nil))) (no (no mM (no (no (no (no .nil (no (no (no (no (no .nil (lf (.cells 20 (nd (.str 6 110429656606061) (nd (.int .i64 (.ofNat 0)) (nd .slice0 (nd (.slice 12368 0 1 1) (lf (.str 6 126875152509286)) .nil) Cc) Xu) (nd (.slice 12349 0 3 1) (nd .slice0 Q3 (lf (.slice 12396 0 1 1))) (nd (.int .i64 (.ofNat 0)) (nd (.str 7 31084746137298294) (lf (.slice 12424 0 1 2)) .nil) (lf .slice0))))))) .nil) .nil) .nil) .nil)) .nil) .nil) .nil)) .nil))),nx:=12543,ok:=true,v:=(.bool true),out:=.nil,nx':=12555,wr:=[]}
theorem sJ:∀[F:Facts],Ab (Env.ofS Tryz.prog [] []) 1000000 UV=true:=by
 intro F
 kernel_rfl
theorem uW (G:Nat→D→D):UV.Valid Tryz.prog G:=Ad.val (okE _ []) (w0 G) sJ
def ZT:Orc:=
 {f:=32,args:=[(.ptr 4110 0)],part:=(no .nil (no .nil (no .nil (no .nil (no (no (no (no (no (no (no (no (lf (.cells 3 (nd Uw (lf (.int .i64 (.ofNat 66))) (lf (.int .i64 (.ofNat 2)))))) .nil) .nil) .nil) .nil) .nil) .nil) .nil) .nil))))),nx:=4295,ok:=true,v:=(.agg [(.str 7 29113321536776514),(.int .i64 (.ofNat 0)),.slice0,.slice0,(.slice 4421 0 4 5)]),out:=(no (no (no .nil (no (no jM .nil) .nil)) (no (no .nil (no (no (no lJ .nil) .nil) .nil)) ib)) (no .nil (no .nil (no .nil (no (no (no (no (no (no (no (no (lf (.cells 3 (nd Uw (lf (.int .i64 (.ofNat 110))) (lf (.int .i64 (.ofNat 2)))))) .nil) .nil) .nil) .nil) .nil) .nil) .nil) .nil))))),nx':=4422,wr:=[4110]}
theorem s9:∀[F:Facts],Ab (Env.ofS Tryz.prog [] []) 1000000 ZT=true:=by
 intro F
 kernel_rfl
theorem vG (G:Nat→D→D):ZT.Valid Tryz.prog G:=Ad.val (okE _ []) (w0 G) s9
def cy:Orc:=
 {f:=32,args:=[(.ptr 4110 0)],part:=(no .nil (no .nil (no .nil (no .nil (no (no (no (no (no (no (no (no (lf (.cells 3 (nd Uw (lf (.int .i64 (.ofNat 0))) (lf (.int .i64 (.ofNat 0)))))) .nil) .nil) .nil) .nil) .nil) .nil) .nil) .nil))))),nx:=4111,ok:=true,v:=(.agg [(.str 6 127978942194000),(.int .i64 (.ofNat 0)),.slice0,.slice0,(.slice 4425 0 7 5)]),out:=(no oT (no .nil (no .nil (no .nil (no (no (no (no (no (no (no (no (lf (.cells 3 (nd Uw (lf (.int .i64 (.ofNat 112))) (lf (.int .i64 (.ofNat 0)))))) .nil) .nil) .nil) .nil) .nil) .nil) .nil) .nil))))),nx':=4426,wr:=[4110]}
theorem tP:∀[F:Facts],Ab (Env.ofS Tryz.prog [ZT] []) 1000000 cy=true:=by
 intro F
 kernel_rfl
theorem zu (G:Nat→D→D):cy.Valid Tryz.prog G:=Ad.val (okE _ []) (.cons (vG G) (w0 G)) tP
def Uk:Orc:=
 {f:=14,args:=[(.str 112 fw)],part:=.nil,nx:=4108,ok:=true,v:=nV,out:=gq,nx':=4697,wr:=[]}
theorem tH:∀[F:Facts],Ab (Env.ofS Tryz.prog [cy] []) 1000000 Uk=true:=by
 intro F
 kernel_rfl
theorem kW (G:Nat→D→D):Uk.Valid Tryz.prog G:=Ad.val (okE _ []) (.cons (zu G) (w0 G)) tH
def SX:Orc:=
 {f:=12,args:=[(.str 7 32497592573780591)],part:=.nil,nx:=4096,ok:=true,v:=nV,out:=gq,nx':=4697,wr:=[]}
theorem uv:∀[F:Facts],Ab (Env.ofS Tryz.prog [Uk] []) 1000000 SX=true:=by
 intro F
 kernel_rfl
theorem pK (G:Nat→D→D):SX.Valid Tryz.prog G:=Ad.val (okE _ []) (.cons (kW G) (w0 G)) uv
def Yv:Orc:=Uk.move 4084
theorem wW (G:Nat→D→D):Yv.Valid Tryz.prog G:=Orc.Valid.move (kW G) (by kernel_rfl) 4084
end Go.Proofs.YtmjeljjkhblgeaaGreatDoor.familyExamples

