/- What is proved: that certain calls which the law FamilyExamples makes come to the results that are written here (part 12 of 16). Conditions: the memory that such a call reaches is as written here; the kernel runs the evaluator over each. -/
import Derived.Test.YtmjeljjkhblgeaaGreatDoorFamilyExamplesKnownA
import Derived.Test.YtmjeljjkhblgeaaGreatDoorFamilyExamplesKnownK
set_option linter.unusedVariables false
set_option linter.unusedSectionVars false
set_option linter.unusedSimpArgs false
namespace Go.Proofs.YtmjeljjkhblgeaaGreatDoor.familyExamples
open Go.AE
def Ua:Orc:=
 {f:=14,args:=[(.str 128 il)],part:=.nil,nx:=4103,ok:=true,v:=cW,out:=jO,nx':=4798,wr:=[]}
theorem uo:∀[F:Facts],Ab (Env.ofS Tryz.prog [Xh] []) 1000000 Ua=true:=by
 intro F
 kernel_rfl
theorem ek (G:Nat→D→D):Ua.Valid Tryz.prog G:=Ad.val (okE _ []) (.cons (tQ G) (w0 G)) uo
def R0:Orc:=
 {f:=12,args:=[(.str 5 435727459692)],part:=.nil,nx:=4096,ok:=true,v:=cW,out:=jO,nx':=4798,wr:=[]}
theorem xY:∀[F:Facts],Ab (Env.ofS Tryz.prog [Ua] []) 1000000 R0=true:=by
 intro F
 kernel_rfl
theorem lI (G:Nat→D→D):R0.Valid Tryz.prog G:=Ad.val (okE _ []) (.cons (ek G) (w0 G)) xY
def Xo:Orc:=Ua.move 4089
theorem va (G:Nat→D→D):Xo.Valid Tryz.prog G:=Orc.Valid.move (ek G) (by kernel_rfl) 4089
def UK:Orc:=
 {f:=13,args:=[(.agg [(.str 6 127978942194000),(.int .i64 (.ofNat 0)),.slice0,.slice0,(.slice 4456 0 5 5)]),(.agg [(.str 6 127978942194000),(.int .i64 (.ofNat 0)),.slice0,.slice0,(.slice 8545 0 5 5)])],part:=(no (no (no (no iF od) (no kX iC)) (no (no eJ (no .nil (no mw ei))) (no dn mu))) (no (no (no (no pF dt) io) (no jp kN)) (no (no (no da kE) .nil) (no jo lz)))),nx:=8888,ok:=true,v:=(.bool true),out:=.nil,nx':=8924,wr:=[]}
theorem tf:∀[F:Facts],Ab (Env.ofS Tryz.prog [] []) 1000000 UK=true:=by
 intro F
 kernel_rfl
theorem Aad (G:Nat→D→D):UK.Valid Tryz.prog G:=Ad.val (okE _ []) (w0 G) tf
def X2:Orc:=R0.move 8192
theorem uz (G:Nat→D→D):X2.Valid Tryz.prog G:=Orc.Valid.move (lI G) (by kernel_rfl) 8192
def Vl:Orc:=
 {f:=13,args:=[(.agg [(.str 6 127978942194000),(.int .i64 (.ofNat 0)),.slice0,.slice0,(.slice 12648 0 5 5)]),(.agg [(.str 6 127978942194000),(.int .i64 (.ofNat 0)),.slice0,.slice0,(.slice 8545 0 5 5)])],part:=(no (no (no (no iF (no .nil (no .nil (no .nil (no .nil (no (no (no (no (no .nil (lf (.cells 5 (nd (.str 5 474214394960) Cc (nd .slice0 (lf (.slice 12533 0 2 5)) .nil))))) .nil) .nil) .nil) .nil)))))) (no (no .nil (no .nil (no .nil (no .nil (no (no (no (no (no .nil hY) .nil) .nil) .nil) .nil))))) iC)) (no (no eJ (no .nil (no mw (no .nil (no .nil (no (no (no (no (no .nil (lf (.cells 10 (nd (.str 4 1701080931) (nd (.int .i64 (.ofNat 12)) (nd .slice0 (lf .slice0) .nil) (nd (.str 4 2036625250) (lf (.slice 12535 0 1 5)) .nil)) IP)))) .nil) .nil) .nil) .nil)))))) (no (no .nil (no .nil (no .nil (no .nil (no (no (no (no (no .nil (lf (.cells 10 (nd (.str 4 1702521203) (nd (.int .i64 (.ofNat 1)) (nd .slice0 (lf (.slice 12531 0 1 1)) .nil) Zp) IP)))) .nil) .nil) .nil) .nil))))) mu))) (no (no (no (no (no .nil (no .nil (no (no .nil (no (no (no (no .nil fK) .nil) .nil) .nil)) .nil))) dt) (no (no .nil (no .nil (no (no .nil (no (no (no (no .nil (lf (.cells 25 (nd (.str 2 28783) bT (nd .slice0 (nd .slice0 (nd .slice0 (lf (.int .i64 (.ofNat 2))) (lf (.slice 12646 0 2 5))) Yb) bk))))) .nil) .nil) .nil)) .nil))) .nil)) (no (no (no .nil (no .nil (no (no .nil (no (no (no (no .nil (lf (.cells 10 (nd (.str 4 1701080931) (nd (.int .i64 (.ofNat 51)) (nd .slice0 (lf .slice0) .nil) (nd (.str 4 2036625250) (lf (.slice 12642 0 1 5)) .nil)) IP)))) .nil) .nil) .nil)) .nil))) .nil) kN)) (no (no (no (no .nil (no .nil (no (no .nil (no (no (no (no .nil (lf (.cells 5 (nd (.str 4 1701669204) Cc (nd .slice0 (lf (.slice 12640 0 1 5)) .nil))))) .nil) .nil) .nil)) .nil))) kE) .nil) (no (no (no .nil (no .nil (no (no .nil (no (no (no (no .nil (lf (.cells 10 (nd (.str 6 121424789663823) (nd (.int .i64 (.ofNat 0)) (nd .slice0 (lf .slice0) .nil) (nd (.str 6 121424789663823) (lf (.slice 12644 0 2 5)) .nil)) (nd .slice0 (nd (.slice 12537 0 2 5) (lf .slice0) .nil) (lf (.int .i64 (.ofNat 0)))))))) .nil) .nil) .nil)) .nil))) .nil) lz)))),nx:=12991,ok:=true,v:=(.bool true),out:=.nil,nx':=13027,wr:=[]}
theorem yY:∀[F:Facts],Ab (Env.ofS Tryz.prog [] []) 1000000 Vl=true:=by
 intro F
 kernel_rfl
theorem ui (G:Nat→D→D):Vl.Valid Tryz.prog G:=Ad.val (okE _ []) (w0 G) yY
def YP:Orc:=
 {f:=32,args:=[(.ptr 4106 0)],part:=(no .nil (no .nil (no (no .nil (no (no (no (no (no (no (no (no (lf (.cells 3 (nd pI (lf (.int .i64 (.ofNat 0))) (lf (.int .i64 (.ofNat 0)))))) .nil) .nil) .nil) .nil) .nil) .nil) .nil) .nil)) .nil))),nx:=4107,ok:=true,v:=(.agg [(.str 6 127978942194000),(.int .i64 (.ofNat 0)),.slice0,.slice0,(.slice 4243 0 2 5)]),out:=(no iN (no .nil (no (no .nil (no (no (no (no (no (no (no (no (lf (.cells 3 (nd pI (lf (.int .i64 (.ofNat 51))) (lf (.int .i64 (.ofNat 0)))))) .nil) .nil) .nil) .nil) .nil) .nil) .nil) .nil)) .nil))),nx':=4244,wr:=[4106]}
theorem tp:∀[F:Facts],Ab (Env.ofS Tryz.prog [] []) 1000000 YP=true:=by
 intro F
 kernel_rfl
theorem Aa5 (G:Nat→D→D):YP.Valid Tryz.prog G:=Ad.val (okE _ []) (w0 G) tp
end Go.Proofs.YtmjeljjkhblgeaaGreatDoor.familyExamples

