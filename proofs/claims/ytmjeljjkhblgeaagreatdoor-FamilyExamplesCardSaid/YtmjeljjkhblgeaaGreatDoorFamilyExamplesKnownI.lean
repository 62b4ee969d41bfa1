/- What is proved: that certain calls which the law FamilyExamples makes come to the results that are written here (part 9 of 16). Conditions: the memory that such a call reaches is as written here; the kernel runs the evaluator over each. -/
import Derived.Test.YtmjeljjkhblgeaaGreatDoorFamilyExamplesKnownA
import Derived.Test.YtmjeljjkhblgeaaGreatDoorFamilyExamplesKnownH
set_option linter.unusedVariables false
set_option linter.unusedSectionVars false
set_option linter.unusedSimpArgs false
namespace Go.Proofs.YtmjeljjkhblgeaaGreatDoor.familyExamples
open Go.AE
def YM:Orc:=
 {f:=140,args:=[(.ptr 2274 0)],part:=(no (no (no .nil (no (no (no .nil (no .nil (no .nil (no (no (no (lf (.cells 4 (nd (.str 7 31084746137363827) (nd (.str 6 126870807932788) (lf (.str 1 50)) .nil) (lf (.str 7 28259039672824431))))) .nil) .nil) .nil)))) .nil) .nil)) (no (no dZ .nil) .nil)) (no .nil (no (no (no (no .nil (no .nil (no .nil (no (no (no (lf (.cells 3 (nd (.slice 2273 0 14 1) (lf (.int .i64 (.ofNat 1))) (lf (.slice 2275 4 0 1))))) .nil) .nil) .nil)))) .nil) .nil) .nil))),nx:=2279,ok:=true,v:=(.agg [(.str 6 111477645534564),(.slice 2297 0 2 3),(.slice 2286 0 1 2),(.slice 2341 0 3 9)]),out:=(no (no .nil (no (no .nil (no .nil (no jd oB))) XS)) (no .nil (no pB (no .nil (no l3 .nil))))),nx':=2343,wr:=[2274]}
theorem ua:∀[F:Facts],Ab (Env.ofS Tryz.prog [Wn] []) 1000000 YM=true:=by
 intro F
 kernel_rfl
theorem ro (G:Nat→D→D):YM.Valid Tryz.prog G:=Ad.val (okE _ []) (.cons (qd G) (w0 G)) ua
def cU:Orc:=
 {f:=140,args:=[(.ptr 2274 0)],part:=(no jG n8),nx:=2345,ok:=true,v:=(.agg [(.str 6 125779919729250),(.slice 2358 0 2 3),.slice0,(.slice 2398 0 3 9)]),out:=(no .nil (no .nil (no (no (no (no .nil (no .nil (no .nil (no (no (no (lf (.cells 3 (nd (.slice 2273 0 14 1) (lf (.int .i64 (.ofNat 14))) (lf (.slice 2386 6 0 1))))) .nil) .nil) .nil)))) (no (no .nil (no (no .nil (no (no (lf (.cells 6 (nd (.str 4 1885697139) (nd (.str 4 1702259020) (lf (.str 7 28559167692432754)) (lf (.str 6 111477645534564))) (nd (.str 4 1701602377) (lf (.str 4 1735289168)) .nil)))) .nil) .nil)) .nil)) .nil)) .nil) (no f5 (no .nil mt))))),nx':=2399,wr:=[2274]}
theorem yZ:∀[F:Facts],Ab (Env.ofS Tryz.prog [] []) 1000000 cU=true:=by
 intro F
 kernel_rfl
theorem rE (G:Nat→D→D):cU.Valid Tryz.prog G:=Ad.val (okE _ []) (w0 G) yZ
def aA:Orc:=
 {f:=196,args:=[(.slice 2341 0 3 9),(.func (.func 147) [] [(.ptr 2402 0)])],part:=mF,nx:=2556,ok:=true,v:=(.int .i64 (.negSucc 0)),out:=.nil,nx':=2571,wr:=[]}
theorem x7:∀[F:Facts],Ab (Env.ofS Tryz.prog [] []) 1000000 aA=true:=by
 intro F
 kernel_rfl
theorem rp (G:Nat→D→D):aA.Valid Tryz.prog G:=Ad.val (okE _ []) (w0 G) x7
def bG:Orc:=
 {f:=196,args:=[(.slice 2398 0 3 9),(.func (.func 147) [] [(.ptr 2402 0)])],part:=mF,nx:=2572,ok:=true,v:=(.int .i64 (.negSucc 0)),out:=.nil,nx':=2584,wr:=[]}
theorem xH:∀[F:Facts],Ab (Env.ofS Tryz.prog [] []) 1000000 bG=true:=by
 intro F
 kernel_rfl
theorem rD (G:Nat→D→D):bG.Valid Tryz.prog G:=Ad.val (okE _ []) (w0 G) xH
def ZN:Orc:=
 {f:=51,args:=[(.agg [(.str 6 126870807932788),(.slice 2400 0 2 4),(.int .i64 (.ofNat 1)),(.int .i64 (.ofNat 2))])],part:=(no (no .nil (no (no .nil de) XS)) (no ki (no .nil dp))),nx:=2401,ok:=true,v:=(.tuple [(.int .i64 (.ofNat 0)),(.int .i64 (.ofNat 0))]),out:=.nil,nx':=2584,wr:=[]}
theorem wh:∀[F:Facts],Ab (Env.ofS Tryz.prog [bG,aA] []) 1000000 ZN=true:=by
 intro F
 kernel_rfl
theorem tS (G:Nat→D→D):ZN.Valid Tryz.prog G:=Ad.val (okE _ []) (.cons (rD G) (.cons (rp G) (w0 G))) wh
def Z5:Orc:=
 {f:=32,args:=[(.ptr 2601 0)],part:=(no (no .nil (no (no .nil (no (no .nil (no (no (no (no .nil (no (lf (.cells 3 (nd QK (lf (.int .i64 (.ofNat 29))) (lf (.int .i64 (.ofNat 2)))))) .nil)) .nil) .nil) .nil)) .nil)) .nil)) .nil),nx:=2687,ok:=true,v:=(.agg [(.str 4 1684104530),(.int .i64 (.ofNat 0)),.slice0,.slice0,(.slice 2752 0 2 5)]),out:=(no (no .nil (no (no .nil (no (no .nil (no (no (no (no .nil (no (lf (.cells 3 (nd QK (lf (.int .i64 (.ofNat 54))) (lf (.int .i64 (.ofNat 2)))))) .nil)) .nil) .nil) .nil)) .nil)) .nil)) (no f8 .nil)),nx':=2753,wr:=[2601]}
theorem sK:∀[F:Facts],Ab (Env.ofS Tryz.prog [] []) 1000000 Z5=true:=by
 intro F
 kernel_rfl
theorem sH (G:Nat→D→D):Z5.Valid Tryz.prog G:=Ad.val (okE _ []) (w0 G) sK
def ba:Orc:=
 {f:=32,args:=[(.ptr 2601 0)],part:=(no (no .nil (no (no .nil (no (no .nil (no (no (no (no .nil (no (lf (.cells 3 (nd QK (lf (.int .i64 (.ofNat 24))) (lf (.int .i64 (.ofNat 1)))))) .nil)) .nil) .nil) .nil)) .nil)) .nil)) .nil),nx:=2671,ok:=true,v:=(.agg [(.str 4 2036625250),(.int .i64 (.ofNat 0)),.slice0,.slice0,(.slice 2754 0 1 5)]),out:=(no (no .nil (no (no .nil (no (no .nil (no (no (no (no .nil (no (lf (.cells 3 (nd QK (lf (.int .i64 (.ofNat 55))) (lf (.int .i64 (.ofNat 1)))))) .nil)) .nil) .nil) .nil)) .nil)) .nil)) (no f8 mG)),nx':=2755,wr:=[2601]}
theorem pV:∀[F:Facts],Ab (Env.ofS Tryz.prog [Z5] []) 1000000 ba=true:=by
 intro F
 kernel_rfl
theorem Aan (G:Nat→D→D):ba.Valid Tryz.prog G:=Ad.val (okE _ []) (.cons (sH G) (w0 G)) pV
def ck:Orc:=
 {f:=32,args:=[(.ptr 2601 0)],part:=(no (no .nil (no (no .nil (no (no .nil (no (no (no (no .nil jx) .nil) .nil) .nil)) .nil)) .nil)) .nil),nx:=2602,ok:=true,v:=(.agg [(.str 5 435626799686),(.int .i64 (.ofNat 0)),.slice0,.slice0,(.slice 2756 0 3 5)]),out:=(no (no .nil (no (no .nil (no (no .nil (no (no (no (no .nil nm) .nil) .nil) .nil)) .nil)) .nil)) kU),nx':=2757,wr:=[2601]}
theorem tD:∀[F:Facts],Ab (Env.ofS Tryz.prog [ba] []) 1000000 ck=true:=by
 intro F
 kernel_rfl
theorem yl (G:Nat→D→D):ck.Valid Tryz.prog G:=Ad.val (okE _ []) (.cons (Aan G) (w0 G)) tD
def Zb:Orc:=
 {f:=60,args:=[(.agg [(.str 5 435626799686),(.int .i64 (.ofNat 0)),.slice0,.slice0,(.slice 2756 0 3 5)])],part:=(no .nil kU),nx:=2894,ok:=true,v:=(.bool true),out:=.nil,nx':=2977,wr:=[]}
theorem vZ:∀[F:Facts],Ab (Env.ofS Tryz.prog [] []) 1000000 Zb=true:=by
 intro F
 kernel_rfl
theorem zg (G:Nat→D→D):Zb.Valid Tryz.prog G:=Ad.val (okE _ []) (w0 G) vZ
end Go.Proofs.YtmjeljjkhblgeaaGreatDoor.familyExamples

