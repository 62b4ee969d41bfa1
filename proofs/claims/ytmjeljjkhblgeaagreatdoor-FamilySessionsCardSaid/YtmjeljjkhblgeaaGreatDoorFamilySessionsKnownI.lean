/- What is proved: that certain calls which the law FamilySessions makes come to the results that are written here (part 9 of 19). Conditions: the memory that such a call reaches is as written here; the kernel runs the evaluator over each. -/
import Derived.Test.YtmjeljjkhblgeaaGreatDoorFamilySessionsKnownA
import Derived.Test.YtmjeljjkhblgeaaGreatDoorFamilySessionsKnownH
set_option linter.unusedVariables false
set_option linter.unusedSectionVars false
set_option linter.unusedSimpArgs false
namespace Go.Proofs.YtmjeljjkhblgeaaGreatDoor.familySessions
open Go.AE
def ZM:Orc:=
 {f:=140,args:=[(.ptr 2274 0)],part:=(no (no (no .nil (no (no (no .nil (no .nil (no .nil yf))) .nil) .nil)) (no (no rJ .nil) .nil)) (no .nil (no (no (no (no .nil (no .nil (no .nil (no (no (no (lf (.cells 3 (nd (.slice 2273 0 14 1) (lf (.int .i64 (.ofNat 1))) (lf (.slice 2275 4 0 1))))) .nil) .nil) .nil)))) .nil) .nil) .nil))),nx:=2279,ok:=true,v:=(.agg [(.str 6 111477645534564),(.slice 2297 0 2 3),(.slice 2286 0 1 2),(.slice 2341 0 3 9)]),out:=(no (no .nil (no (no .nil (no .nil (no kf nB))) W3)) (no .nil (no oI (no .nil (no qo .nil))))),nx':=2343,wr:=[2274]}
theorem Afi:∀[F:Facts],Ac (Env.ofS Tryz.prog [WW] []) 1000000 ZM=true:=by
 intro F
 kernel_rfl
theorem Aa8 (G:Nat→D→D):ZM.Valid Tryz.prog G:=Ad.val (okE _ []) (.cons (zn G) (w0 G)) Afi
def fJ:Orc:=
 {f:=140,args:=[(.ptr 2274 0)],part:=(no tZ vh),nx:=2345,ok:=true,v:=(.agg [(.str 6 125779919729250),(.slice 2358 0 2 3),.slice0,(.slice 2398 0 3 9)]),out:=(no .nil (no .nil (no (no (no (no .nil (no .nil (no .nil (no (no (no (lf (.cells 3 (nd (.slice 2273 0 14 1) (lf (.int .i64 (.ofNat 14))) (lf (.slice 2386 6 0 1))))) .nil) .nil) .nil)))) (no (no .nil (no (no .nil jp) .nil)) .nil)) .nil) (no yK (no .nil kC))))),nx':=2399,wr:=[2274]}
theorem Aoa:∀[F:Facts],Ac (Env.ofS Tryz.prog [] []) 1000000 fJ=true:=by
 intro F
 kernel_rfl
theorem Abq (G:Nat→D→D):fJ.Valid Tryz.prog G:=Ad.val (okE _ []) (w0 G) Aoa
def cy:Orc:=
 {f:=196,args:=[(.slice 2341 0 3 9),(.func (.func 147) [] [(.ptr 2402 0)])],part:=gc,nx:=2556,ok:=true,v:=(.int .i64 (.negSucc 0)),out:=.nil,nx':=2571,wr:=[]}
theorem Aml:∀[F:Facts],Ac (Env.ofS Tryz.prog [] []) 1000000 cy=true:=by
 intro F
 kernel_rfl
theorem Aa9 (G:Nat→D→D):cy.Valid Tryz.prog G:=Ad.val (okE _ []) (w0 G) Aml
def dQ:Orc:=
 {f:=196,args:=[(.slice 2398 0 3 9),(.func (.func 147) [] [(.ptr 2402 0)])],part:=gc,nx:=2572,ok:=true,v:=(.int .i64 (.negSucc 0)),out:=.nil,nx':=2584,wr:=[]}
theorem Alt:∀[F:Facts],Ac (Env.ofS Tryz.prog [] []) 1000000 dQ=true:=by
 intro F
 kernel_rfl
theorem Abp (G:Nat→D→D):dQ.Valid Tryz.prog G:=Ad.val (okE _ []) (w0 G) Alt
def bl:Orc:=
 {f:=51,args:=[(.agg [(.str 6 126870807932788),(.slice 2400 0 2 4),(.int .i64 (.ofNat 1)),(.int .i64 (.ofNat 2))])],part:=(no (no .nil (no (no .nil qw) W3)) (no pL (no .nil oH))),nx:=2401,ok:=true,v:=Y8,out:=.nil,nx':=2584,wr:=[]}
theorem Ajc:∀[F:Facts],Ac (Env.ofS Tryz.prog [dQ,cy] []) 1000000 bl=true:=by
 intro F
 kernel_rfl
theorem Ae6 (G:Nat→D→D):bl.Valid Tryz.prog G:=Ad.val (okE _ []) (.cons (Abp G) (.cons (Aa9 G) (w0 G))) Ajc
def bL:Orc:=
 {f:=32,args:=[(.ptr 2601 0)],part:=(no (no .nil (no (no .nil (no (no .nil (no (no (no (no .nil (no (lf (.cells 3 (nd Rl (lf (.int .i64 (.ofNat 29))) (lf (.int .i64 (.ofNat 2)))))) .nil)) .nil) .nil) .nil)) .nil)) .nil)) .nil),nx:=2687,ok:=true,v:=(.agg [(.str 4 1684104530),(.int .i64 (.ofNat 0)),.slice0,.slice0,(.slice 2752 0 2 5)]),out:=(no (no .nil (no (no .nil (no (no .nil (no (no (no (no .nil (no (lf (.cells 3 (nd Rl (lf (.int .i64 (.ofNat 54))) (lf (.int .i64 (.ofNat 2)))))) .nil)) .nil) .nil) .nil)) .nil)) .nil)) (no ml .nil)),nx':=2753,wr:=[2601]}
theorem Adg:∀[F:Facts],Ac (Env.ofS Tryz.prog [] []) 1000000 bL=true:=by
 intro F
 kernel_rfl
theorem Ade (G:Nat→D→D):bL.Valid Tryz.prog G:=Ad.val (okE _ []) (w0 G) Adg
def dm:Orc:=
 {f:=32,args:=[(.ptr 2601 0)],part:=(no (no .nil (no (no .nil (no (no .nil (no (no (no (no .nil (no (lf (.cells 3 (nd Rl (lf (.int .i64 (.ofNat 24))) (lf (.int .i64 (.ofNat 1)))))) .nil)) .nil) .nil) .nil)) .nil)) .nil)) .nil),nx:=2671,ok:=true,v:=(.agg [(.str 4 2036625250),(.int .i64 (.ofNat 0)),.slice0,.slice0,(.slice 2754 0 1 5)]),out:=(no (no .nil (no (no .nil (no (no .nil (no (no (no (no .nil (no (lf (.cells 3 (nd Rl (lf (.int .i64 (.ofNat 55))) (lf (.int .i64 (.ofNat 1)))))) .nil)) .nil) .nil) .nil)) .nil)) .nil)) (no ml hZ)),nx':=2755,wr:=[2601]}
theorem yZ:∀[F:Facts],Ac (Env.ofS Tryz.prog [bL] []) 1000000 dm=true:=by
 intro F
 kernel_rfl
theorem Aq7 (G:Nat→D→D):dm.Valid Tryz.prog G:=Ad.val (okE _ []) (.cons (Ade G) (w0 G)) yZ
def eL:Orc:=
 {f:=32,args:=[(.ptr 2601 0)],part:=(no (no .nil (no (no .nil (no (no .nil (no (no (no (no .nil (no (lf (.cells 3 (nd Rl (lf (.int .i64 (.ofNat 0))) (lf (.int .i64 (.ofNat 0)))))) .nil)) .nil) .nil) .nil)) .nil)) .nil)) .nil),nx:=2602,ok:=true,v:=(.agg [(.str 5 435626799686),(.int .i64 (.ofNat 0)),.slice0,.slice0,(.slice 2756 0 3 5)]),out:=(no (no .nil (no (no .nil (no (no .nil (no (no (no (no .nil (no (lf (.cells 3 (nd Rl (lf (.int .i64 (.ofNat 56))) (lf (.int .i64 (.ofNat 0)))))) .nil)) .nil) .nil) .nil)) .nil)) .nil)) ry),nx':=2757,wr:=[2601]}
theorem Aer:∀[F:Facts],Ac (Env.ofS Tryz.prog [dm] []) 1000000 eL=true:=by
 intro F
 kernel_rfl
theorem Am1 (G:Nat→D→D):eL.Valid Tryz.prog G:=Ad.val (okE _ []) (.cons (Aq7 G) (w0 G)) Aer
def ah:Orc:=
 {f:=60,args:=[(.agg [(.str 5 435626799686),(.int .i64 (.ofNat 0)),.slice0,.slice0,(.slice 2756 0 3 5)])],part:=(no .nil ry),nx:=2894,ok:=true,v:=(.bool true),out:=.nil,nx':=2977,wr:=[]}
theorem Aiu:∀[F:Facts],Ac (Env.ofS Tryz.prog [] []) 1000000 ah=true:=by
 intro F
 kernel_rfl
theorem Aoi (G:Nat→D→D):ah.Valid Tryz.prog G:=Ad.val (okE _ []) (w0 G) Aiu
end Go.Proofs.YtmjeljjkhblgeaaGreatDoor.familySessions

