/- What is proved: that certain calls which the law FamilyLists makes come to the results that are written here (part 9 of 10). Conditions: the memory that such a call reaches is as written here; the kernel runs the evaluator over each. -/
import Derived.Test.YtmjeljjkhblgeaaGreatDoorFamilyListsKnownH
set_option linter.unusedVariables false
set_option linter.unusedSectionVars false
set_option linter.unusedSimpArgs false
namespace Go.Proofs.YtmjeljjkhblgeaaGreatDoor.familyLists
open Go.AE
def XU:Orc:=
 {f:=140,args:=[(.ptr 2274 0)],part:=(no (no (no .nil (no (no (no .nil (no .nil (no .nil (no (no (no (lf (.cells 4 (nd (.str 7 31084746137363827) (nd (.str 6 126870807932788) (lf (.str 1 50)) .nil) (lf (.str 7 28259039672824431))))) .nil) .nil) .nil)))) .nil) .nil)) (no (no g6 .nil) .nil)) (no .nil (no (no (no (no .nil (no .nil (no .nil (no (no (no (lf (.cells 3 (nd (.slice 2273 0 14 1) (lf (.int .i64 (.ofNat 1))) (lf (.slice 2275 4 0 1))))) .nil) .nil) .nil)))) .nil) .nil) .nil))),nx:=2279,ok:=true,v:=(.agg [(.str 6 111477645534564),(.slice 2297 0 2 3),(.slice 2286 0 1 2),(.slice 2341 0 3 9)]),out:=(no (no .nil (no (no .nil (no .nil (no bI il))) ZE)) (no .nil (no fD (no .nil (no dG .nil))))),nx':=2343,wr:=[2274]}
theorem nR:∀[F:Facts],Ab (Env.ofS Tryz.prog [VS] []) 1000000 XU=true:=by
 intro F
 kernel_rfl
theorem lS (G:Nat→D→D):XU.Valid Tryz.prog G:=Af.val (okE _ []) (.cons (kJ G) (w0 G)) nR
def aS:Orc:=
 {f:=140,args:=[(.ptr 2274 0)],part:=(no e9 kj),nx:=2345,ok:=true,v:=(.agg [(.str 6 125779919729250),(.slice 2358 0 2 3),.slice0,(.slice 2398 0 3 9)]),out:=(no .nil (no .nil (no (no (no (no .nil (no .nil (no .nil (no (no (no (lf (.cells 3 (nd (.slice 2273 0 14 1) (lf (.int .i64 (.ofNat 14))) (lf (.slice 2386 6 0 1))))) .nil) .nil) .nil)))) (no (no .nil (no (no .nil (no (no (lf (.cells 6 (nd (.str 4 1885697139) (nd (.str 4 1702259020) (lf (.str 7 28559167692432754)) (lf (.str 6 111477645534564))) (nd (.str 4 1701602377) (lf (.str 4 1735289168)) .nil)))) .nil) .nil)) .nil)) .nil)) .nil) (no hJ (no .nil di))))),nx':=2399,wr:=[2274]}
theorem sJ:∀[F:Facts],Ab (Env.ofS Tryz.prog [] []) 1000000 aS=true:=by
 intro F
 kernel_rfl
theorem l7 (G:Nat→D→D):aS.Valid Tryz.prog G:=Af.val (okE _ []) (w0 G) sJ
def Zg:Orc:=
 {f:=196,args:=[(.slice 2341 0 3 9),(.func (.func 147) [] [(.ptr 2402 0)])],part:=bf,nx:=2556,ok:=true,v:=(.int .i64 (.negSucc 0)),out:=.nil,nx':=2571,wr:=[]}
theorem rH:∀[F:Facts],Ab (Env.ofS Tryz.prog [] []) 1000000 Zg=true:=by
 intro F
 kernel_rfl
theorem lT (G:Nat→D→D):Zg.Valid Tryz.prog G:=Af.val (okE _ []) (w0 G) rH
def Z1:Orc:=
 {f:=196,args:=[(.slice 2398 0 3 9),(.func (.func 147) [] [(.ptr 2402 0)])],part:=bf,nx:=2572,ok:=true,v:=(.int .i64 (.negSucc 0)),out:=.nil,nx':=2584,wr:=[]}
theorem rk:∀[F:Facts],Ab (Env.ofS Tryz.prog [] []) 1000000 Z1=true:=by
 intro F
 kernel_rfl
theorem l6 (G:Nat→D→D):Z1.Valid Tryz.prog G:=Af.val (okE _ []) (w0 G) rk
def YI:Orc:=
 {f:=51,args:=[(.agg [(.str 6 126870807932788),(.slice 2400 0 2 4),(.int .i64 (.ofNat 1)),(.int .i64 (.ofNat 2))])],part:=(no (no .nil (no (no .nil iq) ZE)) (no a8 (no .nil f6))),nx:=2401,ok:=true,v:=(.tuple [(.int .i64 (.ofNat 0)),(.int .i64 (.ofNat 0))]),out:=.nil,nx':=2584,wr:=[]}
theorem pU:∀[F:Facts],Ab (Env.ofS Tryz.prog [Z1,Zg] []) 1000000 YI=true:=by
 intro F
 kernel_rfl
theorem nI (G:Nat→D→D):YI.Valid Tryz.prog G:=Af.val (okE _ []) (.cons (l6 G) (.cons (lT G) (w0 G))) pU
def YY:Orc:=
 {f:=32,args:=[(.ptr 2601 0)],part:=(no (no .nil (no (no .nil (no (no .nil (no (no (no (no .nil (no (lf (.cells 3 (nd RF (lf (.int .i64 (.ofNat 29))) (lf (.int .i64 (.ofNat 2)))))) .nil)) .nil) .nil) .nil)) .nil)) .nil)) .nil),nx:=2687,ok:=true,v:=(.agg [(.str 4 1684104530),(.int .i64 (.ofNat 0)),.slice0,.slice0,(.slice 2752 0 2 5)]),out:=(no (no .nil (no (no .nil (no (no .nil (no (no (no (no .nil (no (lf (.cells 3 (nd RF (lf (.int .i64 (.ofNat 54))) (lf (.int .i64 (.ofNat 2)))))) .nil)) .nil) .nil) .nil)) .nil)) .nil)) (no aW .nil)),nx':=2753,wr:=[2601]}
theorem mU:∀[F:Facts],Ab (Env.ofS Tryz.prog [] []) 1000000 YY=true:=by
 intro F
 kernel_rfl
theorem mS (G:Nat→D→D):YY.Valid Tryz.prog G:=Af.val (okE _ []) (w0 G) mU
def ZD:Orc:=
 {f:=32,args:=[(.ptr 2601 0)],part:=(no (no .nil (no (no .nil (no (no .nil (no (no (no (no .nil (no (lf (.cells 3 (nd RF (lf (.int .i64 (.ofNat 24))) (lf (.int .i64 (.ofNat 1)))))) .nil)) .nil) .nil) .nil)) .nil)) .nil)) .nil),nx:=2671,ok:=true,v:=(.agg [(.str 4 2036625250),(.int .i64 (.ofNat 0)),.slice0,.slice0,(.slice 2754 0 1 5)]),out:=(no (no .nil (no (no .nil (no (no .nil (no (no (no (no .nil (no (lf (.cells 3 (nd RF (lf (.int .i64 (.ofNat 55))) (lf (.int .i64 (.ofNat 1)))))) .nil)) .nil) .nil) .nil)) .nil)) .nil)) (no aW jz)),nx':=2755,wr:=[2601]}
theorem kB:∀[F:Facts],Ab (Env.ofS Tryz.prog [YY] []) 1000000 ZD=true:=by
 intro F
 kernel_rfl
theorem ub (G:Nat→D→D):ZD.Valid Tryz.prog G:=Af.val (okE _ []) (.cons (mS G) (w0 G)) kB
def aw:Orc:=
 {f:=32,args:=[(.ptr 2601 0)],part:=(no (no .nil (no (no .nil (no (no .nil (no (no (no (no .nil (no (lf (.cells 3 (nd RF (lf (.int .i64 (.ofNat 0))) (lf (.int .i64 (.ofNat 0)))))) .nil)) .nil) .nil) .nil)) .nil)) .nil)) .nil),nx:=2602,ok:=true,v:=(.agg [(.str 5 435626799686),(.int .i64 (.ofNat 0)),.slice0,.slice0,(.slice 2756 0 3 5)]),out:=(no (no .nil (no (no .nil (no (no .nil (no (no (no (no .nil (no (lf (.cells 3 (nd RF (lf (.int .i64 (.ofNat 56))) (lf (.int .i64 (.ofNat 0)))))) .nil)) .nil) .nil) .nil)) .nil)) .nil)) io),nx':=2757,wr:=[2601]}
theorem nB:∀[F:Facts],Ab (Env.ofS Tryz.prog [ZD] []) 1000000 aw=true:=by
 intro F
 kernel_rfl
theorem rT (G:Nat→D→D):aw.Valid Tryz.prog G:=Af.val (okE _ []) (.cons (ub G) (w0 G)) nB
def Yc:Orc:=
 {f:=60,args:=[(.agg [(.str 5 435626799686),(.int .i64 (.ofNat 0)),.slice0,.slice0,(.slice 2756 0 3 5)])],part:=(no .nil io),nx:=2894,ok:=true,v:=(.bool true),out:=.nil,nx':=2977,wr:=[]}
theorem pI:∀[F:Facts],Ab (Env.ofS Tryz.prog [] []) 1000000 Yc=true:=by
 intro F
 kernel_rfl
theorem sO (G:Nat→D→D):Yc.Valid Tryz.prog G:=Af.val (okE _ []) (w0 G) pI
end Go.Proofs.YtmjeljjkhblgeaaGreatDoor.familyLists

