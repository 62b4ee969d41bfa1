/- What is proved: that certain calls which the law FamilySessions makes come to the results that are written here (part 10 of 19). Conditions: the memory that such a call reaches is as written here; the kernel runs the evaluator over each. -/
import Derived.Test.YtmjeljjkhblgeaaGreatDoorFamilySessionsKnownA
import Derived.Test.YtmjeljjkhblgeaaGreatDoorFamilySessionsKnownG
import Derived.Test.YtmjeljjkhblgeaaGreatDoorFamilySessionsKnownH
import Derived.Test.YtmjeljjkhblgeaaGreatDoorFamilySessionsKnownI
set_option linter.unusedVariables false
set_option linter.unusedSectionVars false
set_option linter.unusedSimpArgs false
namespace Go.Proofs.YtmjeljjkhblgeaaGreatDoor.familySessions
open Go.AE
def YU:Orc:=
 {f:=9,args:=[],part:=.nil,nx:=5,ok:=true,v:=(.bool true),out:=.nil,nx':=3054,wr:=[]}
theorem Asf:∀[F:Facts],Ac (Env.ofS Tryz.prog [ah,eL,bl,fJ,ZM,Ye,ao,XU] []) 1000000 YU=true:=by
 intro F
 kernel_rfl
theorem Asn (G:Nat→D→D):YU.Valid Tryz.prog G:=Ad.val (okE _ []) (.cons (Aoi G) (.cons (Am1 G) (.cons (Ae6 G) (.cons (Abq G) (.cons (Aa8 G) (.cons (Aqi G) (.cons (zl G) (.cons (Acm G) (w0 G))))))))) Asf
def Xl:Orc:=
 {f:=140,args:=[(.ptr 4105 0)],part:=(no (no .nil (no (no .nil (no (no (no (no (no (no (no (no (lf (.cells 3 (nd (.slice 4104 0 15 1) (lf (.int .i64 (.ofNat 1))) (lf (.slice 4106 4 0 1))))) .nil) .nil) .nil) .nil) .nil) .nil) .nil) .nil)) .nil)) (no pb (no (no .nil (no (no (no (no m4 .nil) .nil) .nil) .nil)) .nil))),nx:=4110,ok:=true,v:=(.agg [(.str 6 128017496632419),(.slice 4129 0 2 3),(.slice 4117 0 1 2),(.slice 4184 0 4 9)]),out:=(no (no .nil (no (no (no tN .nil) (no (no (no (no (no (no (no (no (lf (.cells 3 (nd (.slice 4104 0 15 1) (lf (.int .i64 (.ofNat 9))) (lf (.slice 4172 6 0 1))))) .nil) .nil) .nil) .nil) .nil) .nil) .nil) .nil)) pP)) (no (no nw (no .nil (no (no (no .nil (no (no vi .nil) .nil)) .nil) .nil))) .nil)),nx':=4186,wr:=[4105]}
theorem Ab4:∀[F:Facts],Ac (Env.ofS Tryz.prog [] []) 1000000 Xl=true:=by
 intro F
 kernel_rfl
theorem Adu (G:Nat→D→D):Xl.Valid Tryz.prog G:=Ad.val (okE _ []) (w0 G) Ab4
def fk:Orc:=
 {f:=132,args:=[(.ptr 4105 0),(.ptr 4102 0)],part:=(no (no .nil (no (no .nil (no (no (no (no (no (no (no (no (lf (.cells 3 (nd (.slice 4104 0 15 1) (lf (.int .i64 (.ofNat 0))) (lf .slice0)))) .nil) .nil) .nil) .nil) .nil) .nil) .nil) .nil)) .nil)) (no pb (no .nil (no kL .nil)))),nx:=4106,ok:=true,v:=(.tuple []),out:=(no (no nr (no (no m3 (no (no (no (no (no (no (no (no (lf (.cells 3 (nd (.slice 4104 0 15 1) (lf (.int .i64 (.ofNat 15))) (lf (.slice 4229 6 0 1))))) .nil) .nil) .nil) .nil) .nil) .nil) SC) .nil)) (no (no (no (no (no .nil (no sR .nil)) .nil) .nil) bJ) .nil))) (no l5 (no .nil (no (no (no (no (no (no (no (no (no (lf (.cells 4 (nd (.str 5 495622906222) (nd (.slice 4243 0 2 4) (lf (.int .i64 (.ofNat 1))) .nil) (lf (.int .i64 (.ofNat 1)))))) .nil) .nil) .nil) .nil) .nil) .nil) .nil) .nil) .nil)))),nx':=4244,wr:=[4102,4105]}
theorem Ap2:∀[F:Facts],Ac (Env.ofS Tryz.prog [Xl] []) 1000000 fk=true:=by
 intro F
 kernel_rfl
theorem Aob (G:Nat→D→D):fk.Valid Tryz.prog G:=Ad.val (okE _ []) (.cons (Adu G) (w0 G)) Ap2
def YY:Orc:=
 {f:=49,args:=[(.str 386 eK)],part:=.nil,nx:=4102,ok:=true,v:=(.tuple [(.agg [(.str 5 495622906222),(.slice 4243 0 2 4),(.int .i64 (.ofNat 1)),(.int .i64 (.ofNat 1))]),(.int .i64 (.ofNat 0)),(.int .i64 (.ofNat 0))]),out:=tA,nx':=4444,wr:=[]}
theorem Arp:∀[F:Facts],Ac (Env.ofS Tryz.prog [fk] []) 1000000 YY=true:=by
 intro F
 kernel_rfl
theorem Aek (G:Nat→D→D):YY.Valid Tryz.prog G:=Ad.val (okE _ []) (.cons (Aob G) (w0 G)) Arp
def Ss:Orc:=
 {f:=21,args:=[(.str 5 495622906222)],part:=.nil,nx:=4096,ok:=true,v:=(.tuple [(.agg [(.str 5 495622906222),(.slice 4243 0 2 4),(.int .i64 (.ofNat 1)),(.int .i64 (.ofNat 1))]),(.int .i64 (.ofNat 0))]),out:=tA,nx':=4445,wr:=[]}
theorem Ach:∀[F:Facts],Ac (Env.ofS Tryz.prog [YY] []) 1000000 Ss=true:=by
 intro F
 kernel_rfl
theorem ua (G:Nat→D→D):Ss.Valid Tryz.prog G:=Ad.val (okE _ []) (.cons (Aek G) (w0 G)) Ach
def RE:Orc:=
 {f:=25,args:=[(.int .i64 (.ofNat 0))],part:=.nil,nx:=8192,ok:=true,v:=(.agg [(.str 5 495622906222),(.slice 8207 0 2 4),(.int .i64 (.ofNat 1)),(.int .i64 (.ofNat 1))]),out:=mD,nx':=8353,wr:=[]}
theorem Ae4:∀[F:Facts],Ac (Env.ofS Tryz.prog [] []) 1000000 RE=true:=by
 intro F
 kernel_rfl
theorem Xu (G:Nat→D→D):RE.Valid Tryz.prog G:=Ad.val (okE _ []) (w0 G) Ae4
def rW:Orc:=
 {f:=40,args:=[(.slice 8563 0 4 1),(.str 1 32)],part:=(no (no (no .nil (no (no .nil (no .nil (no .nil (no (no .nil m4) .nil)))) .nil)) .nil) .nil),nx:=8564,ok:=true,v:=ZJ,out:=.nil,nx':=8564,wr:=[]}
theorem Alb (G:Nat→D→D):rW.Valid Tryz.prog G:=Orc.Valid.join An Aj (by kernel_rfl)
def xY:Orc:=
 {f:=40,args:=[(.slice 8662 0 2 1),(.str 1 32)],part:=(no .nil (no .nil (no .nil (no (no .nil (no (no .nil (no .nil jd)) .nil)) .nil)))),nx:=8663,ok:=true,v:=IT,out:=.nil,nx':=8663,wr:=[]}
theorem All (G:Nat→D→D):xY.Valid Tryz.prog G:=Orc.Valid.join An Aj (by kernel_rfl)
def wL:Orc:=
 {f:=40,args:=[(.slice 8671 0 3 1),(.str 1 32)],part:=(no (no (no (no (no (no .nil (no .nil (no .nil (no .nil (no (no (no (no (lf (.cells 3 (nd (.str 7 32199698088816483) (lf (.str 5 495622648436)) (lf (.str 1 51))))) .nil) .nil) .nil) .nil))))) .nil) .nil) .nil) .nil) .nil),nx:=8672,ok:=true,v:=ep,out:=.nil,nx':=8672,wr:=[]}
theorem Anl (G:Nat→D→D):wL.Valid Tryz.prog G:=Orc.Valid.join An Aj (by kernel_rfl)
def jF:Orc:=
 {f:=40,args:=[(.slice 8683 0 3 1),(.str 1 32)],part:=(no (no (no .nil (no .nil (no (no .nil (no .nil (no .nil mh))) .nil))) .nil) .nil),nx:=8684,ok:=true,v:=Fq,out:=.nil,nx':=8684,wr:=[]}
theorem Af5 (G:Nat→D→D):jF.Valid Tryz.prog G:=Orc.Valid.join An Aj (by kernel_rfl)
def xP:Orc:=
 {f:=40,args:=[(.slice 8697 0 4 1),(.str 1 32)],part:=(no (no .nil (no (no .nil (no .nil (no .nil (no .nil (no .nil (no .nil (no (no (no (no (lf (.cells 4 (nd (.str 5 435744240755) (nd (.str 4 1953063255) (lf (.str 2 12341)) .nil) (lf (.str 4 1953063287))))) .nil) .nil) .nil) .nil))))))) .nil)) .nil),nx:=8698,ok:=true,v:=ZP,out:=.nil,nx':=8698,wr:=[]}
theorem Asg (G:Nat→D→D):xP.Valid Tryz.prog G:=Orc.Valid.join An Aj (by kernel_rfl)
def jq:Orc:=
 {f:=40,args:=[(.slice 8729 0 11 1),(.str 1 32)],part:=(no (no .nil (no (no .nil (no .nil (no (no (no (no (no .nil (no (no (no (lf (.cells 11 (nd (.str 4 1885697139) (nd (.str 4 1701602377) oe (nd (.str 6 125780104471923) (lf (.str 1 50)) .nil)) gQ))) .nil) .nil) .nil)) .nil) .nil) .nil) .nil))) .nil)) .nil),nx:=8730,ok:=true,v:=Yj,out:=.nil,nx':=8730,wr:=[]}
theorem Ae3 (G:Nat→D→D):jq.Valid Tryz.prog G:=Orc.Valid.join An Aj (by kernel_rfl)
def fZ:Orc:=
 {f:=40,args:=[(.slice 8749 0 6 1),(.str 1 32)],part:=(no (no .nil (no .nil (no .nil (no (no .nil (no (no (no (no .nil (no (no (no (lf (.cells 6 (nd (.str 4 1885697139) Vx Sq))) .nil) .nil) .nil)) .nil) .nil) .nil)) .nil)))) .nil),nx:=8750,ok:=true,v:=WK,out:=.nil,nx':=8750,wr:=[]}
theorem Aap (G:Nat→D→D):fZ.Valid Tryz.prog G:=Orc.Valid.join An Aj (by kernel_rfl)
def iQ:Orc:=
 {f:=40,args:=[(.slice 8763 0 4 1),(.str 1 32)],part:=(no (no (no .nil (no .nil (no .nil (no .nil (no (no (no (no .nil (no (no (no l7 .nil) .nil) .nil)) .nil) .nil) .nil))))) .nil) .nil),nx:=8764,ok:=true,v:=Xr,out:=.nil,nx':=8764,wr:=[]}
theorem Alm (G:Nat→D→D):iQ.Valid Tryz.prog G:=Orc.Valid.join An Aj (by kernel_rfl)
def jJ:Orc:=
 {f:=40,args:=[(.slice 8783 0 6 1),(.str 1 32)],part:=(no (no (no (no (no .nil (no (no .nil (no (no (no .nil vi) .nil) .nil)) .nil)) .nil) .nil) .nil) .nil),nx:=8784,ok:=true,v:=nA,out:=.nil,nx':=8784,wr:=[]}
theorem Ag9 (G:Nat→D→D):jJ.Valid Tryz.prog G:=Orc.Valid.join An Aj (by kernel_rfl)
def my:Orc:=
 {f:=40,args:=[(.slice 8785 0 8 1),(.str 1 10)],part:=(no (no .nil (no (no (no .nil (no (no .nil (no (no (no .nil (no (no (no (lf (.cells 8 (nd IT (nd ep (nd ZP fP .nil) (lf WK)) (nd Fq (lf Yj) XZ)))) .nil) .nil) .nil)) .nil) .nil)) .nil)) .nil) .nil)) .nil),nx:=8786,ok:=true,v:=f4,out:=.nil,nx':=8786,wr:=[]}
theorem Aqs (G:Nat→D→D):my.Valid Tryz.prog G:=Orc.Valid.join An Aj (by kernel_rfl)
def lR:Orc:=
 {f:=40,args:=[(.slice 8862 0 2 1),(.str 1 32)],part:=(no .nil (no .nil (no .nil (no .nil (no .nil (no (no (no .nil (no x7 .nil)) .nil) .nil)))))),nx:=8863,ok:=true,v:=IU,out:=.nil,nx':=8863,wr:=[]}
theorem Af6 (G:Nat→D→D):lR.Valid Tryz.prog G:=Orc.Valid.join An Aj (by kernel_rfl)
def te:Orc:=
 {f:=40,args:=[(.slice 8873 0 3 1),(.str 1 32)],part:=(no (no .nil (no (no .nil (no (no .nil (no (no .nil (no (no .nil l8) .nil)) .nil)) .nil)) .nil)) .nil),nx:=8874,ok:=true,v:=Ku,out:=.nil,nx':=8874,wr:=[]}
theorem Afo (G:Nat→D→D):te.Valid Tryz.prog G:=Orc.Valid.join An Aj (by kernel_rfl)
def oq:Orc:=
 {f:=40,args:=[(.slice 8881 0 2 1),(.str 1 32)],part:=(no (no .nil (no (no (no .nil (no .nil (no (no .nil (no (no .nil jX) .nil)) .nil))) .nil) .nil)) .nil),nx:=8882,ok:=true,v:=(.str 10 573536169347174686094451),out:=.nil,nx':=8882,wr:=[]}
theorem Ary (G:Nat→D→D):oq.Valid Tryz.prog G:=Orc.Valid.join An Aj (by kernel_rfl)
def qx:Orc:=
 {f:=40,args:=[(.slice 8901 0 6 1),(.str 1 32)],part:=(no (no .nil (no .nil (no (no (no (no .nil (no .nil vR)) .nil) .nil) .nil))) .nil),nx:=8902,ok:=true,v:=ZO,out:=.nil,nx':=8902,wr:=[]}
theorem Aay (G:Nat→D→D):qx.Valid Tryz.prog G:=Orc.Valid.join An Aj (by kernel_rfl)
def jI:Orc:=
 {f:=40,args:=[(.slice 8921 0 6 1),(.str 1 32)],part:=(no (no .nil (no (no .nil (no .nil (no (no .nil (no .nil rS)) .nil))) .nil)) .nil),nx:=8922,ok:=true,v:=XD,out:=.nil,nx':=8922,wr:=[]}
theorem Aah (G:Nat→D→D):jI.Valid Tryz.prog G:=Orc.Valid.join An Aj (by kernel_rfl)
def iM:Orc:=
 {f:=40,args:=[(.slice 8941 0 6 1),(.str 1 32)],part:=(no (no .nil (no .nil (no .nil (no (no .nil (no .nil (no .nil (no (no .nil sR) .nil)))) .nil)))) .nil),nx:=8942,ok:=true,v:=vm,out:=.nil,nx':=8942,wr:=[]}
theorem zg (G:Nat→D→D):iM.Valid Tryz.prog G:=Orc.Valid.join An Aj (by kernel_rfl)
def qO:Orc:=
 {f:=40,args:=[(.slice 8943 0 6 1),(.str 1 10)],part:=(no (no (no (no (no .nil (no .nil (no .nil (no .nil (no (no .nil (no (no (no (lf (.cells 6 (nd IU (nd Ku Vz mJ) tk))) .nil) .nil) .nil)) .nil))))) .nil) .nil) .nil) .nil),nx:=8944,ok:=true,v:=rp,out:=.nil,nx':=8944,wr:=[]}
theorem Ahm (G:Nat→D→D):qO.Valid Tryz.prog G:=Orc.Valid.join An Aj (by kernel_rfl)
def pp:Orc:=
 {f:=40,args:=[(.slice 8945 0 3 1),(.str 1 10)],part:=(no (no .nil (no (no (no .nil (no .nil (no .nil (no .nil (no (no .nil (no (no (no (lf (.cells 3 (nd ZJ (lf f4) (lf rp)))) .nil) .nil) .nil)) .nil))))) .nil) .nil)) .nil),nx:=8946,ok:=true,v:=(.str 386 eK),out:=.nil,nx':=8946,wr:=[]}
theorem Ab3 (G:Nat→D→D):pp.Valid Tryz.prog G:=Orc.Valid.join An Aj (by kernel_rfl)
end Go.Proofs.YtmjeljjkhblgeaaGreatDoor.familySessions

