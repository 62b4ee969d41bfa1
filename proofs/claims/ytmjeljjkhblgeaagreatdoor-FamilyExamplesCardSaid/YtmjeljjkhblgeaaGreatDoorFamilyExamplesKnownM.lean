/- What is proved: that certain calls which the law FamilyExamples makes come to the results that are written here (part 13 of 16). Conditions: the memory that such a call reaches is as written here; the kernel runs the evaluator over each. -/
import Derived.Test.YtmjeljjkhblgeaaGreatDoorFamilyExamplesKnownA
import Derived.Test.YtmjeljjkhblgeaaGreatDoorFamilyExamplesKnownL
set_option linter.unusedVariables false
set_option linter.unusedSectionVars false
set_option linter.unusedSimpArgs false
namespace Go.Proofs.YtmjeljjkhblgeaaGreatDoor.familyExamples
open Go.AE
def U3:Orc:=
 {f:=14,args:=[(.str 51 kc)],part:=.nil,nx:=4104,ok:=true,v:=fa,out:=nn,nx':=4383,wr:=[]}
theorem yi:∀[F:Facts],Ab (Env.ofS Tryz.prog [YP] []) 1000000 U3=true:=by
 intro F
 kernel_rfl
theorem ez (G:Nat→D→D):U3.Valid Tryz.prog G:=Ad.val (okE _ []) (.cons (Aa5 G) (w0 G)) yi
def Sb:Orc:=
 {f:=12,args:=[(.str 5 495622842726)],part:=.nil,nx:=4096,ok:=true,v:=fa,out:=nn,nx':=4383,wr:=[]}
theorem yF:∀[F:Facts],Ab (Env.ofS Tryz.prog [U3] []) 1000000 Sb=true:=by
 intro F
 kernel_rfl
theorem eh (G:Nat→D→D):Sb.Valid Tryz.prog G:=Ad.val (okE _ []) (.cons (ez G) (w0 G)) yF
def W3:Orc:=U3.move 4088
theorem pZ (G:Nat→D→D):W3.Valid Tryz.prog G:=Orc.Valid.move (ez G) (by kernel_rfl) 4088
def U4:Orc:=
 {f:=13,args:=[(.agg [(.str 6 127978942194000),(.int .i64 (.ofNat 0)),.slice0,.slice0,(.slice 4243 0 2 5)]),(.agg [(.str 6 127978942194000),(.int .i64 (.ofNat 0)),.slice0,.slice0,(.slice 8331 0 2 5)])],part:=(no (no (no (no mN gh) (no nu gC)) (no (no pm iL) (no fi gY))) .nil),nx:=8472,ok:=true,v:=(.bool true),out:=.nil,nx':=8488,wr:=[]}
theorem vb:∀[F:Facts],Ab (Env.ofS Tryz.prog [] []) 1000000 U4=true:=by
 intro F
 kernel_rfl
theorem vn (G:Nat→D→D):U4.Valid Tryz.prog G:=Ad.val (okE _ []) (w0 G) vb
def Za:Orc:=Sb.move 8192
theorem rO (G:Nat→D→D):Za.Valid Tryz.prog G:=Orc.Valid.move (eh G) (by kernel_rfl) 8192
def Uh:Orc:=
 {f:=13,args:=[(.agg [(.str 6 127978942194000),(.int .i64 (.ofNat 0)),.slice0,.slice0,(.slice 12435 0 2 5)]),(.agg [(.str 6 127978942194000),(.int .i64 (.ofNat 0)),.slice0,.slice0,(.slice 8331 0 2 5)])],part:=(no (no (no (no (no .nil (no (no (no .nil (no (no (no (no (no .nil (lf (.cells 15 (nd (.str 6 125779768604014) WB (nd .slice0 (nd .slice0 (lf .slice0) (lf (.slice 12429 0 2 1))) Rd))))) .nil) .nil) .nil) .nil)) .nil) .nil)) gh) (no (no .nil (no (no (no .nil (no (no (no (no (no .nil (lf (.cells 10 (nd (.str 2 28783) (nd (.int .i64 (.ofNat 3)) (nd .slice0 (lf .slice0) .nil) (nd (.str 4 2036625250) (lf (.slice 12433 0 1 5)) .nil)) IP)))) .nil) .nil) .nil) .nil)) .nil) .nil)) gC)) (no (no (no .nil (no (no (no .nil (no (no (no (no (no .nil (lf (.cells 5 (nd (.str 5 461229747266) Cc (nd .slice0 (lf (.slice 12431 0 3 5)) .nil))))) .nil) .nil) .nil) .nil)) .nil) .nil)) iL) (no fi (no (no (no (no .nil (no (no (no (no (no .nil dy) .nil) .nil) .nil) .nil)) .nil) .nil) .nil)))) .nil),nx:=12576,ok:=true,v:=(.bool true),out:=.nil,nx':=12592,wr:=[]}
theorem vO:∀[F:Facts],Ab (Env.ofS Tryz.prog [] []) 1000000 Uh=true:=by
 intro F
 kernel_rfl
theorem wO (G:Nat→D→D):Uh.Valid Tryz.prog G:=Ad.val (okE _ []) (w0 G) vO
def Zq:Orc:=
 {f:=32,args:=[(.ptr 4107 0)],part:=(no (no (no .nil (no .nil (no (no (no (no (no (no (no (no (lf (.cells 3 (nd nZ (lf (.int .i64 (.ofNat 25))) (lf (.int .i64 (.ofNat 2)))))) .nil) .nil) .nil) .nil) .nil) .nil) .nil) .nil))) .nil) .nil),nx:=4186,ok:=true,v:=(.agg [(.str 7 29400294205060432),(.int .i64 (.ofNat 0)),.slice0,.slice0,(.slice 4304 0 4 5)]),out:=(no (no (no .nil (no .nil (no (no (no (no (no (no (no (no (lf (.cells 3 (nd nZ (lf (.int .i64 (.ofNat 71))) (lf (.int .i64 (.ofNat 2)))))) .nil) .nil) .nil) .nil) .nil) .nil) .nil) .nil))) oe) (no (no dA .nil) (no .nil lV))),nx':=4305,wr:=[4107]}
theorem wR:∀[F:Facts],Ab (Env.ofS Tryz.prog [] []) 1000000 Zq=true:=by
 intro F
 kernel_rfl
theorem yK (G:Nat→D→D):Zq.Valid Tryz.prog G:=Ad.val (okE _ []) (w0 G) wR
def Ue:Orc:=
 {f:=14,args:=[(.str 73 nO)],part:=.nil,nx:=4105,ok:=true,v:=gV,out:=mg,nx':=4486,wr:=[]}
theorem u9:∀[F:Facts],Ab (Env.ofS Tryz.prog [Zq] []) 1000000 Ue=true:=by
 intro F
 kernel_rfl
theorem ey (G:Nat→D→D):Ue.Valid Tryz.prog G:=Ad.val (okE _ []) (.cons (yK G) (w0 G)) u9
def Sy:Orc:=
 {f:=12,args:=[(.str 6 126870807932788)],part:=.nil,nx:=4096,ok:=true,v:=gV,out:=mg,nx':=4486,wr:=[]}
theorem x8:∀[F:Facts],Ab (Env.ofS Tryz.prog [Ue] []) 1000000 Sy=true:=by
 intro F
 kernel_rfl
theorem kP (G:Nat→D→D):Sy.Valid Tryz.prog G:=Ad.val (okE _ []) (.cons (ey G) (w0 G)) x8
def WN:Orc:=Ue.move 4087
theorem yM (G:Nat→D→D):WN.Valid Tryz.prog G:=Orc.Valid.move (ey G) (by kernel_rfl) 4087
def U6:Orc:=
 {f:=13,args:=[(.agg [(.str 6 127978942194000),(.int .i64 (.ofNat 0)),.slice0,.slice0,(.slice 4308 0 3 5)]),(.agg [(.str 6 127978942194000),(.int .i64 (.ofNat 0)),.slice0,.slice0,(.slice 8395 0 3 5)])],part:=(no (no oO (no (no .nil (no nJ dK)) n5)) (no (no (no (no .nil (no (no kA pH) .nil)) .nil) f6) mb)),nx:=8574,ok:=true,v:=(.bool true),out:=.nil,nx':=8594,wr:=[]}
theorem rL:∀[F:Facts],Ab (Env.ofS Tryz.prog [] []) 1000000 U6=true:=by
 intro F
 kernel_rfl
theorem wI (G:Nat→D→D):U6.Valid Tryz.prog G:=Ad.val (okE _ []) (w0 G) rL
def aX:Orc:=Sy.move 8192
theorem rC (G:Nat→D→D):aX.Valid Tryz.prog G:=Orc.Valid.move (kP G) (by kernel_rfl) 8192
def Va:Orc:=
 {f:=13,args:=[(.agg [(.str 6 127978942194000),(.int .i64 (.ofNat 0)),.slice0,.slice0,(.slice 12500 0 3 5)]),(.agg [(.str 6 127978942194000),(.int .i64 (.ofNat 0)),.slice0,.slice0,(.slice 8395 0 3 5)])],part:=(no (no oO (no (no .nil (no nJ (no (no (no .nil (no (no (no (no (no .nil jk) .nil) .nil) .nil) .nil)) .nil) .nil))) n5)) (no (no (no (no .nil (no (no kA (no .nil (no (no (no (no (no .nil (lf (.cells 20 (nd (.str 4 1702521203) (nd (.int .i64 (.ofNat 1)) (nd .slice0 (nd (.slice 12441 0 1 1) (lf (.str 7 28254628860223856)) .nil) Uo) (nd (.str 5 426970738548) (nd .slice0 (lf (.slice 12494 0 2 1)) .nil) (lf .slice0))) Z1)))) .nil) .nil) .nil) .nil))) .nil)) .nil) (no (no .nil (no (no .nil (no .nil (no (no (no (no (no .nil (lf (.cells 15 (nd (.str 4 1684957547) cj (nd .slice0 KL (nd (.int .i64 (.ofNat 0)) (lf (.str 4 2036625250)) (lf (.slice 12498 0 1 5)))))))) .nil) .nil) .nil) .nil))) .nil)) .nil)) (no (no (no .nil (no (no .nil (no .nil (no (no (no (no (no .nil (lf (.cells 5 (nd (.str 7 29400294205060432) Cc (nd .slice0 (lf (.slice 12496 0 4 5)) .nil))))) .nil) .nil) .nil) .nil))) .nil)) .nil) (no .nil (no (no (no .nil (no .nil (no (no (no (no (no .nil ga) .nil) .nil) .nil) .nil))) .nil) .nil))))),nx:=12679,ok:=true,v:=(.bool true),out:=.nil,nx':=12699,wr:=[]}
theorem vW:∀[F:Facts],Ab (Env.ofS Tryz.prog [] []) 1000000 Va=true:=by
 intro F
 kernel_rfl
theorem tX (G:Nat→D→D):Va.Valid Tryz.prog G:=Ad.val (okE _ []) (w0 G) vW
end Go.Proofs.YtmjeljjkhblgeaaGreatDoor.familyExamples

