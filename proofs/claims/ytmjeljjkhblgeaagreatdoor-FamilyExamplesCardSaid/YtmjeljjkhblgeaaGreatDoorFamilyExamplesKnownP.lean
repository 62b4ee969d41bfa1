/- What is proved: that certain calls which the law FamilyExamples makes come to the results that are written here (part 16 of 16). Conditions: the memory that such a call reaches is as written here; the kernel runs the evaluator over each. -/
import Derived.Test.YtmjeljjkhblgeaaGreatDoorFamilyExamplesKnownA
import Derived.Test.YtmjeljjkhblgeaaGreatDoorFamilyExamplesKnownO
set_option linter.unusedVariables false
set_option linter.unusedSectionVars false
set_option linter.unusedSimpArgs false
namespace Go.Proofs.YtmjeljjkhblgeaaGreatDoor.familyExamples
open Go.AE
def Ub:Orc:=
 {f:=13,args:=[(.agg [(.str 6 127978942194000),(.int .i64 (.ofNat 0)),.slice0,.slice0,(.slice 4425 0 7 5)]),(.agg [(.str 6 127978942194000),(.int .i64 (.ofNat 0)),.slice0,.slice0,(.slice 8509 0 7 5)])],part:=(no (no (no (no .nil (no (no d8 pa) l4)) (no fS lP)) (no (no .nil (no pM nN)) (no pp nc))) .nil),nx:=8782,ok:=true,v:=(.bool true),out:=.nil,nx':=8812,wr:=[]}
theorem qW:∀[F:Facts],Ab (Env.ofS Tryz.prog [] []) 1000000 Ub=true:=by
 intro F
 kernel_rfl
theorem tn (G:Nat→D→D):Ub.Valid Tryz.prog G:=Ad.val (okE _ []) (w0 G) qW
def bH:Orc:=SX.move 8192
theorem tR (G:Nat→D→D):bH.Valid Tryz.prog G:=Orc.Valid.move (pK G) (by kernel_rfl) 8192
def VS:Orc:=
 {f:=13,args:=[(.agg [(.str 6 127978942194000),(.int .i64 (.ofNat 0)),.slice0,.slice0,(.slice 12617 0 7 5)]),(.agg [(.str 6 127978942194000),(.int .i64 (.ofNat 0)),.slice0,.slice0,(.slice 8509 0 7 5)])],part:=(no (no (no (no .nil (no (no (no .nil (no (no .nil (no (no (no (no .nil (lf (.cells 5 (nd (.str 7 29113321536776514) Cc (nd .slice0 (lf (.slice 12613 0 4 5)) .nil))))) .nil) .nil) .nil)) .nil)) pa) l4)) (no (no (no (no .nil (no (no .nil (no (no (no (no .nil gB) .nil) .nil) .nil)) .nil)) .nil) (no .nil (no .nil (no (no (no (no (no (no .nil eU) .nil) .nil) .nil) .nil) .nil)))) lP)) (no (no .nil (no (no (no (no (no .nil (no (no (no (no .nil pO) .nil) .nil) .nil)) .nil) (no (no .nil (no (no (no (no .nil (lf (.cells 35 (nd (.str 7 31084746137298294) ZC (nd .slice0 (nd .slice0 Ui (nd (.slice 12403 0 2 1) (lf (.str 2 25705)) (lf .slice0))) (nd (.int .i64 (.ofNat 2)) (nd (.str 9 2240444390150436122467) (nd .slice0 (lf (.slice 12615 0 1 5)) .nil) (lf (.int .i64 (.ofNat 1)))) XK)))))) .nil) .nil) .nil)) .nil)) .nil) nN)) (no (no (no (no .nil (no (no .nil (no (no (no (no .nil (lf (.cells 20 (nd (.str 4 1702521203) (nd (.int .i64 (.ofNat 1)) (nd .slice0 (nd (.slice 12553 0 1 1) (lf (.str 5 435761734006)) .nil) (nd (.int .i64 (.ofNat 5)) (lf (.slice 12611 0 1 5)) .nil)) bu) cu)))) .nil) .nil) .nil)) .nil)) .nil) .nil) nc))) .nil),nx:=12890,ok:=true,v:=(.bool true),out:=.nil,nx':=12920,wr:=[]}
theorem wl:∀[F:Facts],Ab (Env.ofS Tryz.prog [] []) 1000000 VS=true:=by
 intro F
 kernel_rfl
theorem Aaw (G:Nat→D→D):VS.Valid Tryz.prog G:=Ad.val (okE _ []) (w0 G) wl
def X9:Orc:=
 {f:=32,args:=[(.ptr 4111 0)],part:=(no (no (no (no (no .nil (no (no (no (no (no (no jx .nil) .nil) .nil) .nil) .nil) .nil)) .nil) .nil) .nil) .nil),nx:=4112,ok:=true,v:=(.agg [(.str 5 435626799686),(.int .i64 (.ofNat 0)),.slice0,.slice0,(.slice 4266 0 3 5)]),out:=(no (no (no (no (no .nil (no (no (no (no (no (no nm .nil) .nil) .nil) .nil) .nil) .nil)) .nil) .nil) .nil) bC),nx':=4267,wr:=[4111]}
theorem ug:∀[F:Facts],Ab (Env.ofS Tryz.prog [] []) 1000000 X9=true:=by
 intro F
 kernel_rfl
theorem uC (G:Nat→D→D):X9.Valid Tryz.prog G:=Ad.val (okE _ []) (w0 G) ug
def Ve:Orc:=
 {f:=14,args:=[(.str 56 fO)],part:=.nil,nx:=4109,ok:=true,v:=gz,out:=lj,nx':=4402,wr:=[]}
theorem xd:∀[F:Facts],Ab (Env.ofS Tryz.prog [X9] []) 1000000 Ve=true:=by
 intro F
 kernel_rfl
theorem iE (G:Nat→D→D):Ve.Valid Tryz.prog G:=Ad.val (okE _ []) (.cons (uC G) (w0 G)) xd
def SW:Orc:=
 {f:=12,args:=[(.str 9 2129618691208608441714)],part:=.nil,nx:=4096,ok:=true,v:=gz,out:=lj,nx':=4402,wr:=[]}
theorem s8:∀[F:Facts],Ab (Env.ofS Tryz.prog [Ve] []) 1000000 SW=true:=by
 intro F
 kernel_rfl
theorem pA (G:Nat→D→D):SW.Valid Tryz.prog G:=Ad.val (okE _ []) (.cons (iE G) (w0 G)) s8
def Yr:Orc:=Ve.move 4083
theorem tF (G:Nat→D→D):Yr.Valid Tryz.prog G:=Orc.Valid.move (iE G) (by kernel_rfl) 4083
def UY:Orc:=
 {f:=13,args:=[(.agg [(.str 5 435626799686),(.int .i64 (.ofNat 0)),.slice0,.slice0,(.slice 4266 0 3 5)]),(.agg [(.str 5 435626799686),(.int .i64 (.ofNat 0)),.slice0,.slice0,(.slice 8349 0 3 5)])],part:=(no mK bC),nx:=8486,ok:=true,v:=(.bool true),out:=.nil,nx':=8502,wr:=[]}
theorem ri:∀[F:Facts],Ab (Env.ofS Tryz.prog [] []) 1000000 UY=true:=by
 intro F
 kernel_rfl
theorem Aax (G:Nat→D→D):UY.Valid Tryz.prog G:=Ad.val (okE _ []) (w0 G) ri
def Zw:Orc:=SW.move 8192
theorem zw (G:Nat→D→D):Zw.Valid Tryz.prog G:=Orc.Valid.move (pA G) (by kernel_rfl) 8192
def U0:Orc:=
 {f:=13,args:=[(.agg [(.str 5 435626799686),(.int .i64 (.ofNat 0)),.slice0,.slice0,(.slice 12458 0 3 5)]),(.agg [(.str 5 435626799686),(.int .i64 (.ofNat 0)),.slice0,.slice0,(.slice 8349 0 3 5)])],part:=(no mK (no (no (no .nil (no (no .nil (no (no .nil (no (no (no (no (no .nil (lf (.cells 5 (nd (.str 4 1684104530) Cc (nd .slice0 (lf (.slice 12454 0 2 5)) .nil))))) .nil) .nil) .nil) .nil)) .nil)) .nil)) .nil) (no (no .nil (no (no .nil (no (no .nil (no (no (no (no (no .nil (lf (.cells 15 (nd (.str 4 1953066613) Uc (nd .slice0 KL (nd (.int .i64 (.ofNat 3)) (lf (.str 4 2036625250)) (lf (.slice 12456 0 1 5)))))))) .nil) .nil) .nil) .nil)) .nil)) .nil)) (no (no (no .nil (no (no .nil (no (no (no (no (no .nil oo) .nil) .nil) .nil) .nil)) .nil)) .nil) .nil)))),nx:=12595,ok:=true,v:=(.bool true),out:=.nil,nx':=12611,wr:=[]}
theorem yx:∀[F:Facts],Ab (Env.ofS Tryz.prog [] []) 1000000 U0=true:=by
 intro F
 kernel_rfl
theorem zG (G:Nat→D→D):U0.Valid Tryz.prog G:=Ad.val (okE _ []) (w0 G) yx
def UT:Orc:=
 {f:=12,args:=[(.str 2 31354)],part:=.nil,nx:=4096,ok:=true,v:=(.tuple [(.agg [(.str 0 0),(.int .i64 (.ofNat 0)),.slice0,.slice0,.slice0]),(.int .i64 (.ofNat 9))]),out:=.nil,nx':=4109,wr:=[]}
theorem xy:∀[F:Facts],Ab (Env.ofS Tryz.prog [] []) 1000000 UT=true:=by
 intro F
 kernel_rfl
theorem yQ (G:Nat→D→D):UT.Valid Tryz.prog G:=Ad.val (okE _ []) (w0 G) xy
end Go.Proofs.YtmjeljjkhblgeaaGreatDoor.familyExamples

