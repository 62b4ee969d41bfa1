/- What is proved: that certain calls which the law FamilySessions makes come to the results that are written here (part 11 of 19). Conditions: the memory that such a call reaches is as written here; the kernel runs the evaluator over each. -/
import Derived.Test.YtmjeljjkhblgeaaGreatDoorFamilySessionsKnownA
import Derived.Test.YtmjeljjkhblgeaaGreatDoorFamilySessionsKnownJ
set_option linter.unusedVariables false
set_option linter.unusedSectionVars false
set_option linter.unusedSimpArgs false
namespace Go.Proofs.YtmjeljjkhblgeaaGreatDoor.familySessions
open Go.AE
def UI:Orc:=
 {f:=24,args:=[(.agg [(.str 5 495622906222),(.slice 8207 0 2 4),(.int .i64 (.ofNat 1)),(.int .i64 (.ofNat 1))])],part:=mD,nx:=8353,ok:=true,v:=(.tuple [(.str 386 eK),(.int .i64 (.ofNat 0))]),out:=.nil,nx':=8946,wr:=[]}
theorem Aid:∀[F:Facts],Ac (Env.ofS Tryz.prog [pp,qO,iM,jI,qx,oq,te,lR,my,jJ,iQ,fZ,jq,xP,jF,wL,xY,rW] []) 1000000 UI=true:=by
 intro F
 kernel_rfl
theorem Akg (G:Nat→D→D):UI.Valid Tryz.prog G:=Ad.val (okE _ []) (.cons (Ab3 G) (.cons (Ahm G) (.cons (zg G) (.cons (Aah G) (.cons (Aay G) (.cons (Ary G) (.cons (Afo G) (.cons (Af6 G) (.cons (Aqs G) (.cons (Ag9 G) (.cons (Alm G) (.cons (Aap G) (.cons (Ae3 G) (.cons (Asg G) (.cons (Af5 G) (.cons (Anl G) (.cons (All G) (.cons (Alb G) (w0 G))))))))))))))))))) Aid
def aI:Orc:=RE.move 4096
theorem Anu (G:Nat→D→D):aI.Valid Tryz.prog G:=Orc.Valid.move (Xu G) (by kernel_rfl) 4096
def UD:Orc:=
 {f:=23,args:=[(.agg [(.str 5 495622906222),(.slice 4243 0 2 4),(.int .i64 (.ofNat 1)),(.int .i64 (.ofNat 1))]),(.agg [(.str 5 495622906222),(.slice 12303 0 2 4),(.int .i64 (.ofNat 1)),(.int .i64 (.ofNat 1))])],part:=(no (no (no (no (no .nil (no (no (no (no (no (no (no (no .nil (lf (.cells 8 (nd (.str 6 128017496632419) (nd (.slice 12291 0 2 3) (nd (.slice 12309 0 4 9) (lf (.slice 12312 0 3 9)) .nil) (lf (.slice 12298 0 2 3))) (nd (.slice 12304 0 1 2) (lf (.str 6 125780104471923)) (lf .slice0)))))) .nil) .nil) .nil) .nil) .nil) .nil) .nil)) .nil) (no (no (no (no (no (no (no (no (no (no .nil mW) .nil) .nil) .nil) .nil) .nil) .nil) .nil) lu) .nil)) (no tq (no (no .nil (no (no (no (no (no (no (no (nd gd .nil gj) .nil) .nil) .nil) .nil) .nil) .nil) .nil)) .nil))) (no (no (no (no .nil (no (no (no (no (no (no (no (no .nil ra) .nil) .nil) .nil) .nil) .nil) .nil) .nil)) (no .nil (no (no (no (no (no (no (no (no .nil tn) .nil) .nil) .nil) .nil) .nil) YZ) .nil))) .nil) (no (no .nil (no (no nZ .nil) .nil)) .nil))),nx:=12449,ok:=true,v:=(.bool true),out:=.nil,nx':=12455,wr:=[]}
theorem Ag8:∀[F:Facts],Ac (Env.ofS Tryz.prog [] []) 1000000 UD=true:=by
 intro F
 kernel_rfl
theorem Aax (G:Nat→D→D):UD.Valid Tryz.prog G:=Ad.val (okE _ []) (w0 G) Ag8
def Y2:Orc:=Ss.move 12288
theorem Aj6 (G:Nat→D→D):Y2.Valid Tryz.prog G:=Orc.Valid.move (ua G) (by kernel_rfl) 12288
def Xt:Orc:=RE.move 12288
theorem Anw (G:Nat→D→D):Xt.Valid Tryz.prog G:=Orc.Valid.move (Xu G) (by kernel_rfl) 12288
def VA:Orc:=
 {f:=23,args:=[(.agg [(.str 5 495622906222),(.slice 16531 0 2 4),(.int .i64 (.ofNat 1)),(.int .i64 (.ofNat 1))]),(.agg [(.str 5 495622906222),(.slice 20495 0 2 4),(.int .i64 (.ofNat 1)),(.int .i64 (.ofNat 1))])],part:=(no (no (no (no (no .nil (no (no (no (no (no (no (no (no .nil (no (lf (.cells 8 (nd (.str 6 128017496632419) (nd (.slice 20483 0 2 3) (nd (.slice 20501 0 4 9) (lf (.slice 20504 0 3 9)) .nil) (lf (.slice 20490 0 2 3))) (nd (.slice 20496 0 1 2) (lf (.str 6 125780104471923)) (lf .slice0))))) .nil)) .nil) .nil) .nil) .nil) .nil) .nil) .nil)) .nil) (no (no (no (no (no (no (no (no (no (no .nil iF) .nil) .nil) .nil) .nil) .nil) .nil) .nil) (no (no (no .nil (no (no (no (no (no (no (lf (.cells 8 (nd (.str 6 128017496632419) (nd (.slice 16417 0 2 3) (nd (.slice 16472 0 4 9) (lf (.slice 16529 0 3 9)) .nil) (lf (.slice 16489 0 2 3))) (nd (.slice 16405 0 1 2) (lf (.str 6 125780104471923)) (lf .slice0))))) .nil) .nil) .nil) .nil) .nil) .nil)) .nil) .nil)) .nil)) (no (no (no (no .nil xD) (no (no (no .nil wz) .nil) .nil)) (no (no .nil YG) .nil)) (no (no .nil (no (no (no (no (no (no (no (no bf sK) .nil) .nil) .nil) .nil) .nil) .nil) .nil)) .nil))) (no (no (no (no .nil (no (no (no (no (no (no (no (no .nil bf) .nil) .nil) .nil) .nil) .nil) .nil) .nil)) (no .nil (no (no (no (no (no (no (no (no .nil gE) .nil) .nil) .nil) .nil) .nil) vQ) .nil))) .nil) (no (no .nil (no (no jV .nil) .nil)) .nil))),nx:=20641,ok:=true,v:=(.bool true),out:=.nil,nx':=20647,wr:=[]}
theorem Abz:∀[F:Facts],Ac (Env.ofS Tryz.prog [] []) 1000000 VA=true:=by
 intro F
 kernel_rfl
theorem Aj8 (G:Nat→D→D):VA.Valid Tryz.prog G:=Ad.val (okE _ []) (w0 G) Abz
def dh:Orc:=YU.move 102395
theorem Abn (G:Nat→D→D):dh.Valid Tryz.prog G:=Orc.Valid.move (Asn G) (by kernel_rfl) 102395
def bB:Orc:=
 {f:=132,args:=[(.ptr 4106 0),(.ptr 4103 0)],part:=(no (no Ze (no (no .nil (no (no (no (no (no (no (no (no (lf (.cells 11 (nd YK (nd IT (nd (.str 9 1982106570694886257779) Vc .nil) (nd X5 Vz .nil)) (nd Fq (nd d8 Vs .nil) (nd IU fC .nil))))) .nil) .nil) .nil) .nil) .nil) .nil) .nil) .nil)) .nil)) (no .nil (no (no .nil (no (no (no (no (no (no (no (no (lf (.cells 3 (nd (.slice 4105 0 11 1) (lf (.int .i64 (.ofNat 0))) (lf .slice0)))) .nil) .nil) .nil) .nil) .nil) .nil) .nil) .nil)) .nil))),nx:=4107,ok:=true,v:=(.tuple []),out:=(no (no (no (no .nil (no (no (no (no (no (no (no (no (lf (.cells 4 (nd (.str 5 435727459692) (nd (.slice 4197 0 2 4) (lf (.int .i64 (.ofNat 2))) .nil) (lf (.int .i64 (.ofNat 1)))))) .nil) .nil) .nil) .nil) .nil) .nil) .nil) (no (no .nil (no (no nb .nil) .nil)) cT))) sw) yi) (no Yh (no (no .nil (no (no (no (no (no (no (no (no (lf (.cells 3 (nd (.slice 4105 0 11 1) (lf (.int .i64 (.ofNat 11))) (lf (.slice 4183 6 0 1))))) .nil) .nil) .nil) .nil) .nil) .nil) .nil) .nil)) .nil))),nx':=4198,wr:=[4103,4106]}
theorem Air:∀[F:Facts],Ac (Env.ofS Tryz.prog [] []) 1000000 bB=true:=by
 intro F
 kernel_rfl
theorem Afd (G:Nat→D→D):bB.Valid Tryz.prog G:=Ad.val (okE _ []) (w0 G) Air
def bW:Orc:=
 {f:=49,args:=[(.str 245 aX)],part:=.nil,nx:=4103,ok:=true,v:=(.tuple [(.agg [(.str 5 435727459692),(.slice 4197 0 2 4),(.int .i64 (.ofNat 1)),(.int .i64 (.ofNat 2))]),(.int .i64 (.ofNat 0)),(.int .i64 (.ofNat 0))]),out:=yJ,nx':=4326,wr:=[]}
theorem Adt:∀[F:Facts],Ac (Env.ofS Tryz.prog [bB] []) 1000000 bW=true:=by
 intro F
 kernel_rfl
theorem Al8 (G:Nat→D→D):bW.Valid Tryz.prog G:=Ad.val (okE _ []) (.cons (Afd G) (w0 G)) Adt
def TH:Orc:=
 {f:=21,args:=[(.str 5 435727459692)],part:=.nil,nx:=4096,ok:=true,v:=(.tuple [(.agg [(.str 5 435727459692),(.slice 4197 0 2 4),(.int .i64 (.ofNat 1)),(.int .i64 (.ofNat 2))]),(.int .i64 (.ofNat 0))]),out:=yJ,nx':=4327,wr:=[]}
theorem Agb:∀[F:Facts],Ac (Env.ofS Tryz.prog [bW] []) 1000000 TH=true:=by
 intro F
 kernel_rfl
theorem oA (G:Nat→D→D):TH.Valid Tryz.prog G:=Ad.val (okE _ []) (.cons (Al8 G) (w0 G)) Agb
def Rm:Orc:=
 {f:=25,args:=[(.int .i64 (.ofNat 1))],part:=.nil,nx:=8192,ok:=true,v:=(.agg [(.str 5 435727459692),(.slice 8231 0 2 4),(.int .i64 (.ofNat 1)),(.int .i64 (.ofNat 2))]),out:=s9,nx':=8353,wr:=[]}
theorem Ain:∀[F:Facts],Ac (Env.ofS Tryz.prog [] []) 1000000 Rm=true:=by
 intro F
 kernel_rfl
theorem ag (G:Nat→D→D):Rm.Valid Tryz.prog G:=Ad.val (okE _ []) (w0 G) Ain
def mI:Orc:=
 {f:=40,args:=[(.slice 8491 0 4 1),(.str 1 32)],part:=(no (no (no .nil (no .nil (no (no .nil (no (no (no .nil (no (no (no (no (lf (.cells 4 (nd (.str 7 31084746137363827) (nd (.str 5 435727459692) (lf (.str 1 50)) .nil) (lf (.str 7 28259039672824431))))) .nil) .nil) .nil) .nil)) .nil) .nil)) .nil))) .nil) .nil),nx:=8492,ok:=true,v:=YK,out:=.nil,nx':=8492,wr:=[]}
theorem An3 (G:Nat→D→D):mI.Valid Tryz.prog G:=Orc.Valid.join An Aj (by kernel_rfl)
def xL:Orc:=
 {f:=40,args:=[(.slice 8548 0 2 1),(.str 1 32)],part:=sF,nx:=8549,ok:=true,v:=IT,out:=.nil,nx':=8549,wr:=[]}
theorem Ajs (G:Nat→D→D):xL.Valid Tryz.prog G:=Orc.Valid.join An Aj (by kernel_rfl)
def pf:Orc:=
 {f:=40,args:=[(.slice 8559 0 3 1),(.str 1 32)],part:=vX,nx:=8560,ok:=true,v:=Fq,out:=.nil,nx':=8560,wr:=[]}
theorem Aqd (G:Nat→D→D):pf.Valid Tryz.prog G:=Orc.Valid.join An Aj (by kernel_rfl)
def uE:Orc:=
 {f:=40,args:=[(.slice 8567 0 2 1),(.str 1 32)],part:=(no (no (no (no .nil (no .nil (no .nil (no .nil (no (no .nil (no (no (no (no (lf (.cells 2 (nd (.str 5 435744240755) (lf (.str 3 7041857)) .nil))) .nil) .nil) .nil) .nil)) .nil))))) .nil) .nil) .nil),nx:=8568,ok:=true,v:=(.str 9 1982106570694886257779),out:=.nil,nx':=8568,wr:=[]}
theorem Ae0 (G:Nat→D→D):uE.Valid Tryz.prog G:=Orc.Valid.join An Aj (by kernel_rfl)
def oO:Orc:=
 {f:=40,args:=[(.slice 8587 0 6 1),(.str 1 32)],part:=(no (no (no .nil (no .nil (no (no (no (no .nil (no .nil (no (no (no (no (lf (.cells 6 (nd (.str 4 1885697139) u9 (nd (.str 3 7041857) (lf (.str 6 127978942194000)) .nil)))) .nil) .nil) .nil) .nil))) .nil) .nil) .nil))) .nil) .nil),nx:=8588,ok:=true,v:=d8,out:=.nil,nx':=8588,wr:=[]}
theorem Ad6 (G:Nat→D→D):oO.Valid Tryz.prog G:=Orc.Valid.join An Aj (by kernel_rfl)
def m7:Orc:=
 {f:=40,args:=[(.slice 8607 0 6 1),(.str 1 32)],part:=(no (no (no (no (no (no .nil (no (no .nil (no .nil (no (no (no (no (lf (.cells 6 (nd (.str 4 1885697139) (nd (.str 3 7041857) (lf (.str 7 28559167692432754)) (lf (.str 6 125780104471923))) Sq))) .nil) .nil) .nil) .nil))) .nil)) .nil) .nil) .nil) .nil) .nil),nx:=8608,ok:=true,v:=X5,out:=.nil,nx':=8608,wr:=[]}
theorem zr (G:Nat→D→D):m7.Valid Tryz.prog G:=Orc.Valid.join An Aj (by kernel_rfl)
def pK:Orc:=
 {f:=40,args:=[(.slice 8609 0 5 1),(.str 1 10)],part:=(no (no .nil (no (no (no (no .nil (no (no .nil (no .nil (no (no (no (no (lf (.cells 5 (nd IT (nd Fq (lf d8) .nil) (nd (.str 9 1982106570694886257779) (lf X5) .nil)))) .nil) .nil) .nil) .nil))) .nil)) .nil) .nil) .nil)) .nil),nx:=8610,ok:=true,v:=qu,out:=.nil,nx':=8610,wr:=[]}
theorem Agq (G:Nat→D→D):pK.Valid Tryz.prog G:=Orc.Valid.join An Aj (by kernel_rfl)
def yx:Orc:=
 {f:=40,args:=[(.slice 8667 0 2 1),(.str 1 32)],part:=vM,nx:=8668,ok:=true,v:=IU,out:=.nil,nx':=8668,wr:=[]}
theorem Asr (G:Nat→D→D):yx.Valid Tryz.prog G:=Orc.Valid.join An Aj (by kernel_rfl)
def nj:Orc:=
 {f:=40,args:=[(.slice 8678 0 3 1),(.str 1 32)],part:=lm,nx:=8679,ok:=true,v:=Ku,out:=.nil,nx':=8679,wr:=[]}
theorem yT (G:Nat→D→D):nj.Valid Tryz.prog G:=Orc.Valid.join An Aj (by kernel_rfl)
def sW:Orc:=
 {f:=40,args:=[(.slice 8686 0 2 1),(.str 1 32)],part:=rO,nx:=8687,ok:=true,v:=(.str 10 573536169347174686094451),out:=.nil,nx':=8687,wr:=[]}
theorem Amd (G:Nat→D→D):sW.Valid Tryz.prog G:=Orc.Valid.join An Aj (by kernel_rfl)
def nU:Orc:=
 {f:=40,args:=[(.slice 8706 0 6 1),(.str 1 32)],part:=(no .nil (no .nil (no (no (no (no (no (no vR .nil) .nil) .nil) .nil) .nil) .nil))),nx:=8707,ok:=true,v:=ZO,out:=.nil,nx':=8707,wr:=[]}
theorem Agy (G:Nat→D→D):nU.Valid Tryz.prog G:=Orc.Valid.join An Aj (by kernel_rfl)
def rx:Orc:=
 {f:=40,args:=[(.slice 8726 0 6 1),(.str 1 32)],part:=(no .nil (no .nil (no .nil (no (no .nil (no (no (no rS .nil) .nil) .nil)) .nil)))),nx:=8727,ok:=true,v:=XD,out:=.nil,nx':=8727,wr:=[]}
theorem Ah2 (G:Nat→D→D):rx.Valid Tryz.prog G:=Orc.Valid.join An Aj (by kernel_rfl)
def xT:Orc:=
 {f:=40,args:=[(.slice 8728 0 5 1),(.str 1 10)],part:=(no .nil (no (no (no .nil (no .nil (no (no (no (no (no .nil (no (no (no (lf (.cells 5 (nd IU (nd Ku Vz .nil) tk))) .nil) .nil) .nil)) .nil) .nil) .nil) .nil))) .nil) .nil)),nx:=8729,ok:=true,v:=ui,out:=.nil,nx':=8729,wr:=[]}
theorem Ao6 (G:Nat→D→D):xT.Valid Tryz.prog G:=Orc.Valid.join An Aj (by kernel_rfl)
def jx:Orc:=
 {f:=40,args:=[(.slice 8730 0 3 1),(.str 1 10)],part:=(no .nil (no .nil (no (no .nil (no .nil (no (no (no (no (no .nil (no (no (no (lf (.cells 3 (nd YK (lf qu) (lf ui)))) .nil) .nil) .nil)) .nil) .nil) .nil) .nil))) .nil))),nx:=8731,ok:=true,v:=(.str 245 aX),out:=.nil,nx':=8731,wr:=[]}
theorem Akk (G:Nat→D→D):jx.Valid Tryz.prog G:=Orc.Valid.join An Aj (by kernel_rfl)
end Go.Proofs.YtmjeljjkhblgeaaGreatDoor.familySessions

