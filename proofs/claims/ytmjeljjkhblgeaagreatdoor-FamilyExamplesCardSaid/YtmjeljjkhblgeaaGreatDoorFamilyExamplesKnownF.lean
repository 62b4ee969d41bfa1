/- What is proved: that certain calls which the law FamilyExamples makes come to the results that are written here (part 6 of 16). Conditions: the memory that such a call reaches is as written here; the kernel runs the evaluator over each. -/
import Derived.Test.YtmjeljjkhblgeaaGreatDoorFamilyExamplesKnownA
import Derived.Test.YtmjeljjkhblgeaaGreatDoorFamilyExamplesKnownE
set_option linter.unusedVariables false
set_option linter.unusedSectionVars false
set_option linter.unusedSimpArgs false
namespace Go.Proofs.YtmjeljjkhblgeaaGreatDoor.familyExamples
open Go.AE
def bl:Orc:=
 {f:=282,args:=[(.ptr 44 0)],part:=me,nx:=710,ok:=true,v:=(.tuple []),out:=kS,nx':=712,wr:=[44]}
theorem tv:∀[F:Facts],Ab (Env.ofS Tryz.prog [Xk] []) 1000000 bl=true:=by
 intro F
 kernel_rfl
theorem qO (G:Nat→D→D):bl.Valid Tryz.prog G:=Ad.val (okE _ []) (.cons (sQ G) (w0 G)) tv
def Xb:Orc:=
 {f:=284,args:=[(.slice 45 0 4 1),(.func (.func 285) [] [(.ptr 712 0)])],part:=(no y6 (no (no (no .nil (no (no (no .nil (no .nil (no (lf (.cells 5 (nd (.int .i64 (.ofNat 0)) eu y59))) .nil))) .nil) .nil)) iD) .nil)),nx:=713,ok:=true,v:=(.bool true),out:=(no .nil (no (no (no .nil (no (no (no .nil (no .nil (no (lf (.cells 5 (nd (.int .i64 (.ofNat 4)) eu y59))) .nil))) .nil) .nil)) f7) .nil)),nx':=714,wr:=[44,712]}
theorem wK:∀[F:Facts],Ab (Env.ofS Tryz.prog [] []) 1000000 Xb=true:=by
 intro F
 kernel_rfl
theorem qD (G:Nat→D→D):Xb.Valid Tryz.prog G:=Ad.val (okE _ []) (w0 G) wK
def ai:Orc:=
 {f:=308,args:=[(.ptr 44 0),(.int .i64 (.ofNat 416)),(.func (.func 319) [] [])],part:=l5,nx:=716,ok:=true,v:=(.int .i64 (.ofNat 1)),out:=kK,nx':=716,wr:=[44]}
theorem ru:∀[F:Facts],Ab (Env.ofS Tryz.prog [] []) 1000000 ai=true:=by
 intro F
 kernel_rfl
theorem sR (G:Nat→D→D):ai.Valid Tryz.prog G:=Ad.val (okE _ []) (w0 G) ru
def XR:Orc:=
 {f:=282,args:=[(.ptr 44 0)],part:=l5,nx:=716,ok:=true,v:=(.tuple []),out:=kK,nx':=718,wr:=[44]}
theorem wn:∀[F:Facts],Ab (Env.ofS Tryz.prog [ai] []) 1000000 XR=true:=by
 intro F
 kernel_rfl
theorem pX (G:Nat→D→D):XR.Valid Tryz.prog G:=Ad.val (okE _ []) (.cons (sR G) (w0 G)) wn
def XG:Orc:=
 {f:=284,args:=[(.slice 45 0 4 1),(.func (.func 285) [] [(.ptr 718 0)])],part:=(no y6 (no lN (no .nil (no .nil (no (no (no .nil (no .nil (no (lf (.cells 5 (nd (.int .i64 (.ofNat 0)) RF y59))) .nil))) .nil) .nil))))),nx:=719,ok:=true,v:=(.bool true),out:=(no .nil (no gA (no .nil (no .nil (no (no (no .nil (no .nil (no (lf (.cells 5 (nd (.int .i64 (.ofNat 1)) RF y59))) .nil))) .nil) .nil))))),nx':=719,wr:=[44,718]}
theorem vi:∀[F:Facts],Ab (Env.ofS Tryz.prog [] []) 1000000 XG=true:=by
 intro F
 kernel_rfl
theorem vd (G:Nat→D→D):XG.Valid Tryz.prog G:=Ad.val (okE _ []) (w0 G) vi
def Wk:Orc:=
 {f:=308,args:=[(.ptr 44 0),(.int .i64 (.ofNat 416)),(.func (.func 319) [] [])],part:=jv,nx:=721,ok:=true,v:=(.int .i64 (.ofNat 1)),out:=kC,nx':=721,wr:=[44]}
theorem qy:∀[F:Facts],Ab (Env.ofS Tryz.prog [] []) 1000000 Wk=true:=by
 intro F
 kernel_rfl
theorem xJ (G:Nat→D→D):Wk.Valid Tryz.prog G:=Ad.val (okE _ []) (w0 G) qy
def Zo:Orc:=
 {f:=282,args:=[(.ptr 44 0)],part:=jv,nx:=721,ok:=true,v:=(.tuple []),out:=kC,nx':=723,wr:=[44]}
theorem zS:∀[F:Facts],Ab (Env.ofS Tryz.prog [Wk] []) 1000000 Zo=true:=by
 intro F
 kernel_rfl
theorem yn (G:Nat→D→D):Zo.Valid Tryz.prog G:=Ad.val (okE _ []) (.cons (xJ G) (w0 G)) zS
def YH:Orc:=
 {f:=284,args:=[(.slice 45 0 4 1),(.func (.func 285) [] [(.ptr 723 0)])],part:=(no (no (no .nil (no (no .nil (no (no .nil (no .nil (no (lf (.cells 5 (nd (.int .i64 (.ofNat 0)) RF y34))) .nil))) .nil)) .nil)) y5) nR),nx:=724,ok:=true,v:=(.bool true),out:=(no (no (no .nil (no (no .nil (no (no .nil (no .nil (no (lf (.cells 5 (nd (.int .i64 (.ofNat 1)) RF y34))) .nil))) .nil)) .nil)) .nil) Zj),nx':=724,wr:=[44,723]}
theorem vJ:∀[F:Facts],Ab (Env.ofS Tryz.prog [] []) 1000000 YH=true:=by
 intro F
 kernel_rfl
theorem ww (G:Nat→D→D):YH.Valid Tryz.prog G:=Ad.val (okE _ []) (w0 G) vJ
def bx:Orc:=
 {f:=282,args:=[(.ptr 44 0)],part:=(no .nil Zj),nx:=726,ok:=true,v:=(.tuple []),out:=.nil,nx':=727,wr:=[]}
theorem sZ:∀[F:Facts],Ab (Env.ofS Tryz.prog [] []) 1000000 bx=true:=by
 intro F
 kernel_rfl
theorem Aas (G:Nat→D→D):bx.Valid Tryz.prog G:=Ad.val (okE _ []) (w0 G) sZ
def YG:Orc:=
 {f:=284,args:=[(.slice 45 0 4 1),(.func (.func 285) [] [(.ptr 727 0)])],part:=(no (no (no (no .nil (no .nil (no (no .nil (no .nil (no (lf (.cells 5 (nd (.int .i64 (.ofNat 0)) RF Vm))) .nil))) .nil))) .nil) y5) Zj),nx:=728,ok:=true,v:=(.bool true),out:=(no (no (no (no .nil (no .nil (no (no .nil (no .nil (no (lf (.cells 5 (nd (.int .i64 (.ofNat 4)) RF Vm))) .nil))) .nil))) .nil) .nil) mT),nx':=729,wr:=[44,727]}
theorem rM:∀[F:Facts],Ab (Env.ofS Tryz.prog [] []) 1000000 YG=true:=by
 intro F
 kernel_rfl
theorem qX (G:Nat→D→D):YG.Valid Tryz.prog G:=Ad.val (okE _ []) (w0 G) rM
def Wd:Orc:=
 {f:=308,args:=[(.ptr 44 0),(.int .i64 (.ofNat 416)),(.func (.func 319) [] [])],part:=i4,nx:=731,ok:=true,v:=(.int .i64 (.ofNat 1)),out:=gG,nx':=731,wr:=[44]}
theorem Aac:∀[F:Facts],Ab (Env.ofS Tryz.prog [] []) 1000000 Wd=true:=by
 intro F
 kernel_rfl
theorem uw (G:Nat→D→D):Wd.Valid Tryz.prog G:=Ad.val (okE _ []) (w0 G) Aac
def Wl:Orc:=
 {f:=282,args:=[(.ptr 44 0)],part:=i4,nx:=731,ok:=true,v:=(.tuple []),out:=gG,nx':=733,wr:=[44]}
theorem sN:∀[F:Facts],Ab (Env.ofS Tryz.prog [Wd] []) 1000000 Wl=true:=by
 intro F
 kernel_rfl
theorem tG (G:Nat→D→D):Wl.Valid Tryz.prog G:=Ad.val (okE _ []) (.cons (uw G) (w0 G)) sN
end Go.Proofs.YtmjeljjkhblgeaaGreatDoor.familyExamples

