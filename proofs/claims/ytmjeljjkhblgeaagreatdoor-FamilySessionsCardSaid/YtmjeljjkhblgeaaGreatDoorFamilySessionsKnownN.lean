/- What is proved: that certain calls which the law FamilySessions makes come to the results that are written here (part 14 of 19). Conditions: the memory that such a call reaches is as written here; the kernel runs the evaluator over each. -/
import Derived.Test.YtmjeljjkhblgeaaGreatDoorFamilySessionsKnownA
set_option linter.unusedVariables false
set_option linter.unusedSectionVars false
set_option linter.unusedSimpArgs false
namespace Go.Proofs.YtmjeljjkhblgeaaGreatDoor.familySessions
open Go.AE
def aM:Orc:=
 {f:=140,args:=[(.ptr 4108 0)],part:=(no (no mH (no .nil (no .nil (no (no (no (no qB .nil) .nil) .nil) .nil)))) (no (no .nil (no .nil (no (no (no (no (no (no (no (no (lf (.cells 3 (nd (.slice 4107 0 14 1) (lf (.int .i64 (.ofNat 1))) (lf (.slice 4109 4 0 1))))) .nil) .nil) .nil) .nil) .nil) .nil) .nil) .nil))) .nil)),nx:=4113,ok:=true,v:=(.agg [(.str 6 111477645534564),(.slice 4131 0 2 3),(.slice 4120 0 1 2),(.slice 4175 0 3 9)]),out:=(no (no (no ru (no (no (no (no .nil (no (no iy .nil) .nil)) Y0) .nil) .nil)) .nil) (no (no (no .nil (no .nil Zb)) (no .nil (no (no (no (no (no (no (no (no (lf (.cells 3 (nd (.slice 4107 0 14 1) (lf (.int .i64 (.ofNat 8))) (lf (.slice 4163 6 0 1))))) .nil) .nil) .nil) .nil) .nil) .nil) .nil) .nil))) .nil)),nx':=4177,wr:=[4108]}
theorem Abb:∀[F:Facts],Ac (Env.ofS Tryz.prog [] []) 1000000 aM=true:=by
 intro F
 kernel_rfl
theorem Apy (G:Nat→D→D):aM.Valid Tryz.prog G:=Ad.val (okE _ []) (w0 G) Abb
def YW:Orc:=
 {f:=132,args:=[(.ptr 4108 0),(.ptr 4105 0)],part:=(no (no mH Ze) (no (no .nil (no .nil (no (no (no (no (no (no (no (no (lf (.cells 3 (nd (.slice 4107 0 14 1) (lf (.int .i64 (.ofNat 0))) (lf .slice0)))) .nil) .nil) .nil) .nil) .nil) .nil) .nil) .nil))) .nil)),nx:=4109,ok:=true,v:=(.tuple []),out:=(no (no tL (no (no .nil (no (no (no (no (no (no (no (no (lf (.cells 4 (nd (.str 6 126870807932788) (nd (.slice 4234 0 2 4) (lf (.int .i64 (.ofNat 2))) .nil) (lf (.int .i64 (.ofNat 1)))))) .nil) .nil) .nil) .nil) .nil) .nil) .nil) .nil)) .nil)) (no (no cz (no .nil (no (no (no (no (no (no (no (no (lf (.cells 3 (nd (.slice 4107 0 14 1) (lf (.int .i64 (.ofNat 14))) (lf (.slice 4220 6 0 1))))) .nil) .nil) .nil) .nil) .nil) .nil) .nil) (no .nil (no .nil (no (no uu .nil) .nil)))))) Zk)),nx':=4235,wr:=[4105,4108]}
theorem Ajt:∀[F:Facts],Ac (Env.ofS Tryz.prog [aM] []) 1000000 YW=true:=by
 intro F
 kernel_rfl
theorem Abl (G:Nat→D→D):YW.Valid Tryz.prog G:=Ad.val (okE _ []) (.cons (Apy G) (w0 G)) Ajt
def dH:Orc:=
 {f:=49,args:=[(.str 347 Xp)],part:=.nil,nx:=4105,ok:=true,v:=(.tuple [(.agg [(.str 6 126870807932788),(.slice 4234 0 2 4),(.int .i64 (.ofNat 1)),(.int .i64 (.ofNat 2))]),(.int .i64 (.ofNat 0)),(.int .i64 (.ofNat 0))]),out:=kb,nx':=4418,wr:=[]}
theorem Asu:∀[F:Facts],Ac (Env.ofS Tryz.prog [YW] []) 1000000 dH=true:=by
 intro F
 kernel_rfl
theorem Alr (G:Nat→D→D):dH.Valid Tryz.prog G:=Ad.val (okE _ []) (.cons (Abl G) (w0 G)) Asu
def Tp:Orc:=
 {f:=21,args:=[(.str 6 126870807932788)],part:=.nil,nx:=4096,ok:=true,v:=(.tuple [(.agg [(.str 6 126870807932788),(.slice 4234 0 2 4),(.int .i64 (.ofNat 1)),(.int .i64 (.ofNat 2))]),(.int .i64 (.ofNat 0))]),out:=kb,nx':=4419,wr:=[]}
theorem zq:∀[F:Facts],Ac (Env.ofS Tryz.prog [dH] []) 1000000 Tp=true:=by
 intro F
 kernel_rfl
theorem xz (G:Nat→D→D):Tp.Valid Tryz.prog G:=Ad.val (okE _ []) (.cons (Alr G) (w0 G)) zq
def R5:Orc:=
 {f:=25,args:=[(.int .i64 (.ofNat 3))],part:=.nil,nx:=8192,ok:=true,v:=(.agg [(.str 6 126870807932788),(.slice 8279 0 2 4),(.int .i64 (.ofNat 1)),(.int .i64 (.ofNat 2))]),out:=qA,nx':=8353,wr:=[]}
theorem Agg:∀[F:Facts],Ac (Env.ofS Tryz.prog [] []) 1000000 R5=true:=by
 intro F
 kernel_rfl
theorem eQ (G:Nat→D→D):R5.Valid Tryz.prog G:=Ad.val (okE _ []) (w0 G) Agg
def qy:Orc:=
 {f:=40,args:=[(.slice 8546 0 4 1),(.str 1 32)],part:=(no .nil (no .nil (no (no (no (no .nil (no .nil (no (no .nil qB) .nil))) .nil) .nil) .nil))),nx:=8547,ok:=true,v:=fy,out:=.nil,nx':=8547,wr:=[]}
theorem Akp (G:Nat→D→D):qy.Valid Tryz.prog G:=Orc.Valid.join An Aj (by kernel_rfl)
def wD:Orc:=
 {f:=40,args:=[(.slice 8630 0 2 1),(.str 1 32)],part:=(no .nil (no .nil (no .nil (no (no .nil (no .nil (no (no .nil (no .nil (no (no (no (no (lf (.cells 2 (nd (.str 4 1701605234) (lf (.str 6 111477645534564)) .nil))) .nil) .nil) .nil) .nil))) .nil))) .nil)))),nx:=8631,ok:=true,v:=ey,out:=.nil,nx':=8631,wr:=[]}
theorem Aiy (G:Nat→D→D):wD.Valid Tryz.prog G:=Orc.Valid.join An Aj (by kernel_rfl)
def vw:Orc:=
 {f:=40,args:=[(.slice 8639 0 3 1),(.str 1 32)],part:=(no (no (no (no (no (no (no .nil (no .nil (no .nil (no (no (no (no (lf (.cells 3 (nd (.str 7 32199698088816483) (lf (.str 5 474450192499)) (lf (.str 1 51))))) .nil) .nil) .nil) .nil)))) .nil) .nil) .nil) .nil) .nil) .nil),nx:=8640,ok:=true,v:=WX,out:=.nil,nx':=8640,wr:=[]}
theorem Apd (G:Nat→D→D):vw.Valid Tryz.prog G:=Orc.Valid.join An Aj (by kernel_rfl)
def gq:Orc:=
 {f:=40,args:=[(.slice 8651 0 3 1),(.str 1 32)],part:=(no (no (no .nil (no .nil (no (no (no .nil (no .nil (no .nil (no (no (no (no (lf (.cells 3 (nd (.str 5 435744240755) (lf (.str 3 6710863)) (lf (.str 5 465491093862))))) .nil) .nil) .nil) .nil)))) .nil) .nil))) .nil) .nil),nx:=8652,ok:=true,v:=cB,out:=.nil,nx':=8652,wr:=[]}
theorem Akf (G:Nat→D→D):gq.Valid Tryz.prog G:=Orc.Valid.join An Aj (by kernel_rfl)
def s7:Orc:=
 {f:=40,args:=[(.slice 8659 0 2 1),(.str 1 32)],part:=(no (no (no .nil (no (no .nil (no (no .nil (no .nil (no .nil (no (no (no (no (lf (.cells 2 (nd (.str 5 435744240755) (lf (.str 4 1852141647)) .nil))) .nil) .nil) .nil) .nil)))) .nil)) .nil)) .nil) .nil),nx:=8660,ok:=true,v:=(.str 10 521331526989781162620019),out:=.nil,nx':=8660,wr:=[]}
theorem Ai2 (G:Nat→D→D):s7.Valid Tryz.prog G:=Orc.Valid.join An Aj (by kernel_rfl)
def mB:Orc:=
 {f:=40,args:=[(.slice 8679 0 6 1),(.str 1 32)],part:=(no (no (no (no .nil (no (no .nil (no .nil (no .nil (no .nil (no (no (no (no (lf (.cells 6 (nd (.str 4 1885697139) (nd (.str 3 6710863) (lf (.str 4 1684956531)) (lf (.str 6 125779919729250))) (nd (.str 4 1852141647) (lf (.str 7 32760384594014019)) .nil)))) .nil) .nil) .nil) .nil))))) .nil)) .nil) .nil) .nil),nx:=8680,ok:=true,v:=Yn,out:=.nil,nx':=8680,wr:=[]}
theorem Aof (G:Nat→D→D):mB.Valid Tryz.prog G:=Orc.Valid.join An Aj (by kernel_rfl)
def qp:Orc:=
 {f:=40,args:=[(.slice 8711 0 11 1),(.str 1 32)],part:=(no (no (no (no .nil (no (no (no (no (no (no .nil (no (no (no (lf (.cells 11 (nd (.str 4 1885697139) (nd (.str 4 1852141647) (nd (.str 4 1684956531) (lf (.str 5 474450192499)) .nil) (nd (.str 6 125779919729250) (lf (.str 1 50)) .nil)) (nd (.str 4 1852141647) (nd (.str 7 29400294205060432) (lf (.str 1 48)) .nil) dT)))) .nil) .nil) .nil)) .nil) .nil) .nil) .nil) .nil)) .nil) .nil) .nil),nx:=8712,ok:=true,v:=eD,out:=.nil,nx':=8712,wr:=[]}
theorem Aeg (G:Nat→D→D):qp.Valid Tryz.prog G:=Orc.Valid.join An Aj (by kernel_rfl)
def rC:Orc:=
 {f:=40,args:=[(.slice 8731 0 6 1),(.str 1 32)],part:=(no (no (no .nil (no .nil (no .nil (no (no (no (no (no .nil iy) .nil) .nil) .nil) .nil)))) .nil) .nil),nx:=8732,ok:=true,v:=xc,out:=.nil,nx':=8732,wr:=[]}
theorem Aiq (G:Nat→D→D):rC.Valid Tryz.prog G:=Orc.Valid.join An Aj (by kernel_rfl)
def nG:Orc:=
 {f:=40,args:=[(.slice 8733 0 7 1),(.str 1 10)],part:=(no (no .nil (no .nil (no .nil (no .nil (no (no (no (no (no .nil (no (no (no (lf (.cells 7 (nd ey (nd WX (lf (.str 10 521331526989781162620019)) (lf eD)) (nd cB (lf Yn) uN)))) .nil) .nil) .nil)) .nil) .nil) .nil) .nil))))) .nil),nx:=8734,ok:=true,v:=qM,out:=.nil,nx':=8734,wr:=[]}
theorem Aja (G:Nat→D→D):nG.Valid Tryz.prog G:=Orc.Valid.join An Aj (by kernel_rfl)
def tB:Orc:=
 {f:=40,args:=[(.slice 8810 0 2 1),(.str 1 32)],part:=(no .nil (no .nil (no (no .nil (no (no .nil (no .nil (no (no (no .nil (no (no (no (lf (.cells 2 (nd (.str 4 1701605234) (lf (.str 6 125779919729250)) .nil))) .nil) .nil) .nil)) .nil) .nil))) .nil)) .nil))),nx:=8811,ok:=true,v:=cI,out:=.nil,nx':=8811,wr:=[]}
theorem Aep (G:Nat→D→D):tB.Valid Tryz.prog G:=Orc.Valid.join An Aj (by kernel_rfl)
def gY:Orc:=
 {f:=40,args:=[(.slice 8821 0 3 1),(.str 1 32)],part:=(no (no .nil (no .nil (no (no .nil (no .nil (no .nil (no (no (no .nil xk) .nil) .nil)))) .nil))) .nil),nx:=8822,ok:=true,v:=Fq,out:=.nil,nx':=8822,wr:=[]}
theorem Ap4 (G:Nat→D→D):gY.Valid Tryz.prog G:=Orc.Valid.join An Aj (by kernel_rfl)
def kW:Orc:=
 {f:=40,args:=[(.slice 8829 0 2 1),(.str 1 32)],part:=(no (no .nil (no .nil (no .nil (no .nil (no .nil (no .nil (no (no (no .nil (no (no (no (lf (.cells 2 (nd (.str 5 435744240755) (lf (.str 4 1702259020)) .nil))) .nil) .nil) .nil)) .nil) .nil))))))) .nil),nx:=8830,ok:=true,v:=(.str 10 479143318045624222446707),out:=.nil,nx':=8830,wr:=[]}
theorem Aqq (G:Nat→D→D):kW.Valid Tryz.prog G:=Orc.Valid.join An Aj (by kernel_rfl)
def kQ:Orc:=
 {f:=40,args:=[(.slice 8849 0 6 1),(.str 1 32)],part:=(no (no .nil (no (no (no .nil (no (no (no .nil (no (no .nil (no (no (no (lf (.cells 6 (nd (.str 4 1885697139) (nd (.str 4 1701602377) (lf (.str 7 28559167692432754)) (lf (.str 6 111477645534564))) (nd (.str 4 1702259020) (lf (.str 7 32760384594014019)) .nil)))) .nil) .nil) .nil)) .nil)) .nil) .nil)) .nil) .nil)) .nil),nx:=8850,ok:=true,v:=lz,out:=.nil,nx':=8850,wr:=[]}
theorem Apm (G:Nat→D→D):kQ.Valid Tryz.prog G:=Orc.Valid.join An Aj (by kernel_rfl)
def yG:Orc:=
 {f:=40,args:=[(.slice 8869 0 6 1),(.str 1 32)],part:=(no (no .nil (no .nil (no (no (no .nil (no (no .nil (no (no .nil (no (no (no (lf (.cells 6 (nd (.str 4 1885697139) yN (nd (.str 4 1702259020) (lf (.str 7 29400294205060432)) .nil)))) .nil) .nil) .nil)) .nil)) .nil)) .nil) .nil))) .nil),nx:=8870,ok:=true,v:=j7,out:=.nil,nx':=8870,wr:=[]}
theorem Aje (G:Nat→D→D):yG.Valid Tryz.prog G:=Orc.Valid.join An Aj (by kernel_rfl)
def xK:Orc:=
 {f:=40,args:=[(.slice 8889 0 6 1),(.str 1 32)],part:=(no (no .nil (no (no .nil (no .nil (no .nil (no (no .nil (no (no .nil uu) .nil)) .nil)))) .nil)) .nil),nx:=8890,ok:=true,v:=fS,out:=.nil,nx':=8890,wr:=[]}
theorem Aho (G:Nat→D→D):xK.Valid Tryz.prog G:=Orc.Valid.join An Aj (by kernel_rfl)
def jE:Orc:=
 {f:=40,args:=[(.slice 8891 0 6 1),(.str 1 10)],part:=(no (no (no .nil (no .nil (no .nil (no .nil (no (no .nil (no (no .nil (no (no (no (lf (.cells 6 (nd cI (nd Fq s8 qa) (nd (.str 10 479143318045624222446707) fM .nil)))) .nil) .nil) .nil)) .nil)) .nil))))) .nil) .nil),nx:=8892,ok:=true,v:=rD,out:=.nil,nx':=8892,wr:=[]}
theorem Ahe (G:Nat→D→D):jE.Valid Tryz.prog G:=Orc.Valid.join An Aj (by kernel_rfl)
def jG:Orc:=
 {f:=40,args:=[(.slice 8893 0 3 1),(.str 1 10)],part:=(no (no .nil (no .nil (no .nil (no .nil (no .nil (no (no .nil (no (no .nil (no (no (no (lf (.cells 3 (nd fy (lf qM) (lf rD)))) .nil) .nil) .nil)) .nil)) .nil)))))) .nil),nx:=8894,ok:=true,v:=(.str 347 Xp),out:=.nil,nx':=8894,wr:=[]}
theorem Af3 (G:Nat→D→D):jG.Valid Tryz.prog G:=Orc.Valid.join An Aj (by kernel_rfl)
end Go.Proofs.YtmjeljjkhblgeaaGreatDoor.familySessions

