/- What is proved: that certain calls which the law FamilySessions makes come to the results that are written here (part 12 of 19). Conditions: the memory that such a call reaches is as written here; the kernel runs the evaluator over each. -/
import Derived.Test.YtmjeljjkhblgeaaGreatDoorFamilySessionsKnownA
import Derived.Test.YtmjeljjkhblgeaaGreatDoorFamilySessionsKnownK
set_option linter.unusedVariables false
set_option linter.unusedSectionVars false
set_option linter.unusedSimpArgs false
namespace Go.Proofs.YtmjeljjkhblgeaaGreatDoor.familySessions
open Go.AE
def Vm:Orc:=
 {f:=24,args:=[(.agg [(.str 5 435727459692),(.slice 8231 0 2 4),(.int .i64 (.ofNat 1)),(.int .i64 (.ofNat 2))])],part:=s9,nx:=8353,ok:=true,v:=(.tuple [(.str 245 aX),(.int .i64 (.ofNat 0))]),out:=.nil,nx':=8731,wr:=[]}
theorem Af1:∀[F:Facts],Ac (Env.ofS Tryz.prog [jx,xT,rx,nU,sW,nj,yx,pK,m7,oO,uE,pf,xL,mI] []) 1000000 Vm=true:=by
 intro F
 kernel_rfl
theorem Asq (G:Nat→D→D):Vm.Valid Tryz.prog G:=Ad.val (okE _ []) (.cons (Akk G) (.cons (Ao6 G) (.cons (Ah2 G) (.cons (Agy G) (.cons (Amd G) (.cons (yT G) (.cons (Asr G) (.cons (Agq G) (.cons (zr G) (.cons (Ad6 G) (.cons (Ae0 G) (.cons (Aqd G) (.cons (Ajs G) (.cons (An3 G) (w0 G))))))))))))))) Af1
def Zr:Orc:=Rm.move 4096
theorem Ako (G:Nat→D→D):Zr.Valid Tryz.prog G:=Orc.Valid.move (ag G) (by kernel_rfl) 4096
def UB:Orc:=
 {f:=23,args:=[(.agg [(.str 5 435727459692),(.slice 4197 0 2 4),(.int .i64 (.ofNat 1)),(.int .i64 (.ofNat 2))]),(.agg [(.str 5 435727459692),(.slice 12327 0 2 4),(.int .i64 (.ofNat 1)),(.int .i64 (.ofNat 2))])],part:=(no (no (no (no .nil (no (no .nil (no (no (no (no (no (no (no .nil (lf (.cells 8 (nd (.str 6 128017496632419) (nd (.slice 12315 0 2 3) (nd (.slice 12318 0 2 9) (lf (.slice 12325 0 2 9)) .nil) (lf (.slice 12322 0 2 3))) KU)))) .nil) .nil) .nil) .nil) .nil) .nil)) kH)) (no uQ (no .nil (no (no (no (no (no (no (no (no .nil g9) .nil) .nil) .nil) .nil) .nil) .nil) .nil)))) (no .nil (no (no (no .nil (no (no (no (no (no (no (no .nil fR) .nil) .nil) .nil) .nil) .nil) xF)) .nil) .nil))) (no Yh (no (no (no (no .nil nZ) .nil) .nil) (no .nil (no .nil (no (no (no (no (no (no (no (no .nil rZ) .nil) .nil) .nil) .nil) .nil) .nil) .nil)))))),nx:=12449,ok:=true,v:=(.bool true),out:=.nil,nx':=12455,wr:=[]}
theorem Aak:∀[F:Facts],Ac (Env.ofS Tryz.prog [] []) 1000000 UB=true:=by
 intro F
 kernel_rfl
theorem Aed (G:Nat→D→D):UB.Valid Tryz.prog G:=Ad.val (okE _ []) (w0 G) Aak
def dS:Orc:=TH.move 12288
theorem Ae5 (G:Nat→D→D):dS.Valid Tryz.prog G:=Orc.Valid.move (oA G) (by kernel_rfl) 12288
def fG:Orc:=Rm.move 12288
theorem Arj (G:Nat→D→D):fG.Valid Tryz.prog G:=Orc.Valid.move (ag G) (by kernel_rfl) 12288
def Vb:Orc:=
 {f:=23,args:=[(.agg [(.str 5 435727459692),(.slice 16485 0 2 4),(.int .i64 (.ofNat 1)),(.int .i64 (.ofNat 2))]),(.agg [(.str 5 435727459692),(.slice 20519 0 2 4),(.int .i64 (.ofNat 1)),(.int .i64 (.ofNat 2))])],part:=(no (no (no (no .nil (no (no .nil (no (no (no (no (no (no (no .nil (no (lf (.cells 8 (nd (.str 6 128017496632419) (nd (.slice 20507 0 2 3) (nd (.slice 20510 0 2 9) (lf (.slice 20517 0 2 9)) .nil) (lf (.slice 20514 0 2 3))) KU))) .nil)) .nil) .nil) .nil) .nil) .nil) .nil)) x5)) (no (no (no .nil wj) .nil) (no .nil (no (no (no (no (no (no (no (no .nil iW) .nil) .nil) .nil) .nil) .nil) .nil) .nil)))) (no .nil (no (no (no .nil (no (no (no (no (no (no (no .nil o0) .nil) .nil) .nil) .nil) .nil) (no (no (no (no (no (no (no (lf (.cells 8 (nd (.str 6 128017496632419) (nd (.slice 16412 0 2 3) (nd (.slice 16439 0 2 9) (lf (.slice 16483 0 2 9)) .nil) (lf (.slice 16456 0 2 3))) KU))) .nil) .nil) .nil) .nil) .nil) .nil) .nil))) .nil) .nil))) (no (no (no .nil kX) (no .nil (no .nil (no xO .nil)))) (no (no (no (no .nil jV) .nil) .nil) (no .nil (no .nil (no (no (no (no (no (no (no (no .nil nE) .nil) .nil) .nil) .nil) .nil) .nil) .nil)))))),nx:=20641,ok:=true,v:=(.bool true),out:=.nil,nx':=20647,wr:=[]}
theorem Afm:∀[F:Facts],Ac (Env.ofS Tryz.prog [] []) 1000000 Vb=true:=by
 intro F
 kernel_rfl
theorem Aga (G:Nat→D→D):Vb.Valid Tryz.prog G:=Ad.val (okE _ []) (w0 G) Afm
def bH:Orc:=
 {f:=140,args:=[(.ptr 4107 0)],part:=(no (no (no .nil (no .nil (no (no (no (no (no (no (no (no (lf (.cells 3 (nd (.slice 4106 0 20 1) (lf (.int .i64 (.ofNat 1))) (lf (.slice 4108 4 0 1))))) .nil) .nil) .nil) .nil) .nil) .nil) .nil) .nil))) .nil) (no (no .nil (no .nil (no (no (no (no wk .nil) .nil) .nil) .nil))) sG)),nx:=4112,ok:=true,v:=(.agg [(.str 6 128017496632419),(.slice 4135 0 4 3),.slice0,(.slice 4188 0 4 9)]),out:=(no (no (no (no .nil (no (no .nil ij) .nil)) sA) .nil) (no (no kO (no .nil (no .nil (no rM .nil)))) .nil)),nx':=4190,wr:=[4107]}
theorem Akz:∀[F:Facts],Ac (Env.ofS Tryz.prog [] []) 1000000 bH=true:=by
 intro F
 kernel_rfl
theorem Afs (G:Nat→D→D):bH.Valid Tryz.prog G:=Ad.val (okE _ []) (w0 G) Akz
def Z8:Orc:=
 {f:=140,args:=[(.ptr 4107 0)],part:=(no (no (no .nil sA) .nil) (no (no kO .nil) sG)),nx:=4192,ok:=true,v:=(.agg [(.str 6 125780104471923),(.slice 4220 0 4 3),(.slice 4199 0 1 2),(.slice 4281 0 4 9)]),out:=(no (no (no (no .nil (no (no .nil (no .nil Xo)) .nil)) (no .nil (no (no (no (no (no (no (no (no (lf (.cells 3 (nd (.slice 4106 0 20 1) (lf (.int .i64 (.ofNat 20))) (lf (.slice 4265 11 0 1))))) .nil) .nil) .nil) .nil) .nil) .nil) .nil) .nil))) (no (no .nil (no (no .nil (no (no .nil (no iO .nil)) .nil)) gG)) .nil)) (no (no .nil (no .nil (no .nil (no .nil vf)))) .nil)),nx':=4282,wr:=[4107]}
theorem Ad2:∀[F:Facts],Ac (Env.ofS Tryz.prog [] []) 1000000 Z8=true:=by
 intro F
 kernel_rfl
theorem Asm (G:Nat→D→D):Z8.Valid Tryz.prog G:=Ad.val (okE _ []) (w0 G) Ad2
end Go.Proofs.YtmjeljjkhblgeaaGreatDoor.familySessions

