/- What is proved: that certain calls which the law FamilySessions makes come to the results that are written here (part 15 of 19). Conditions: the memory that such a call reaches is as written here; the kernel runs the evaluator over each. -/
import Derived.Test.YtmjeljjkhblgeaaGreatDoorFamilySessionsKnownA
import Derived.Test.YtmjeljjkhblgeaaGreatDoorFamilySessionsKnownN
set_option linter.unusedVariables false
set_option linter.unusedSectionVars false
set_option linter.unusedSimpArgs false
namespace Go.Proofs.YtmjeljjkhblgeaaGreatDoor.familySessions
open Go.AE
def UE:Orc:=
 {f:=24,args:=[(.agg [(.str 6 126870807932788),(.slice 8279 0 2 4),(.int .i64 (.ofNat 1)),(.int .i64 (.ofNat 2))])],part:=qA,nx:=8353,ok:=true,v:=(.tuple [(.str 347 Xp),(.int .i64 (.ofNat 0))]),out:=.nil,nx':=8894,wr:=[]}
theorem z8:∀[F:Facts],Ac (Env.ofS Tryz.prog [jG,jE,xK,yG,kQ,kW,gY,tB,nG,rC,qp,mB,s7,gq,vw,wD,qy] []) 1000000 UE=true:=by
 intro F
 kernel_rfl
theorem Arx (G:Nat→D→D):UE.Valid Tryz.prog G:=Ad.val (okE _ []) (.cons (Af3 G) (.cons (Ahe G) (.cons (Aho G) (.cons (Aje G) (.cons (Apm G) (.cons (Aqq G) (.cons (Ap4 G) (.cons (Aep G) (.cons (Aja G) (.cons (Aiq G) (.cons (Aeg G) (.cons (Aof G) (.cons (Ai2 G) (.cons (Akf G) (.cons (Apd G) (.cons (Aiy G) (.cons (Akp G) (w0 G)))))))))))))))))) z8
def cu:Orc:=R5.move 4096
theorem Abf (G:Nat→D→D):cu.Valid Tryz.prog G:=Orc.Valid.move (eQ G) (by kernel_rfl) 4096
def UJ:Orc:=
 {f:=23,args:=[(.agg [(.str 6 126870807932788),(.slice 4234 0 2 4),(.int .i64 (.ofNat 1)),(.int .i64 (.ofNat 2))]),(.agg [(.str 6 126870807932788),(.slice 12375 0 2 4),(.int .i64 (.ofNat 1)),(.int .i64 (.ofNat 2))])],part:=(no (no (no (no nn (no (no (no .nil (no (no (no (no (no (no .nil pN) .nil) .nil) .nil) .nil) .nil)) .nil) (no (no .nil (no (no (no (no (no (no .nil (lf (.cells 8 (nd (.str 6 111477645534564) (nd (.slice 12359 0 2 3) (nd (.slice 12365 0 3 9) (lf (.slice 12373 0 3 9)) .nil) (lf (.slice 12369 0 2 3))) (nd (.slice 12356 0 1 2) (lf (.str 6 125779919729250)) (lf .slice0)))))) .nil) .nil) .nil) .nil) .nil)) .nil))) ti) (no (no (no .nil (no (no .nil (no (no (no (no (no (no .nil tS) .nil) .nil) .nil) .nil) .nil)) .nil)) .nil) (no (no .nil (no (no .nil (no (no (no (no (no (no .nil wK) .nil) .nil) .nil) .nil) .nil)) .nil)) (no (no (no .nil (no (no (no (no (no (no .nil lC) .nil) .nil) .nil) .nil) .nil)) .nil) .nil)))) (no (no cz (no (no (no (no .nil (no (no (no (no (no (no .nil iJ) .nil) .nil) .nil) .nil) .nil)) .nil) .nil) .nil)) Zk)),nx:=12449,ok:=true,v:=(.bool true),out:=.nil,nx':=12455,wr:=[]}
theorem Ag5:∀[F:Facts],Ac (Env.ofS Tryz.prog [] []) 1000000 UJ=true:=by
 intro F
 kernel_rfl
theorem Ao4 (G:Nat→D→D):UJ.Valid Tryz.prog G:=Ad.val (okE _ []) (w0 G) Ag5
def XW:Orc:=Tp.move 12288
theorem Ama (G:Nat→D→D):XW.Valid Tryz.prog G:=Orc.Valid.move (xz G) (by kernel_rfl) 12288
def dt:Orc:=R5.move 12288
theorem App (G:Nat→D→D):dt.Valid Tryz.prog G:=Orc.Valid.move (eQ G) (by kernel_rfl) 12288
def Vq:Orc:=
 {f:=23,args:=[(.agg [(.str 6 126870807932788),(.slice 16522 0 2 4),(.int .i64 (.ofNat 1)),(.int .i64 (.ofNat 2))]),(.agg [(.str 6 126870807932788),(.slice 20567 0 2 4),(.int .i64 (.ofNat 1)),(.int .i64 (.ofNat 2))])],part:=(no (no (no (no (no .nil (no (no .nil (no jD .nil)) .nil)) (no (no (no .nil (no (no (no (no (no (no .nil ro) .nil) .nil) .nil) .nil) .nil)) .nil) (no (no .nil (no (no (no (no (no (no .nil (no (lf (.cells 8 (nd (.str 6 111477645534564) (nd (.slice 20551 0 2 3) (nd (.slice 20557 0 3 9) (lf (.slice 20565 0 3 9)) .nil) (lf (.slice 20561 0 2 3))) (nd (.slice 20548 0 1 2) (lf (.str 6 125779919729250)) (lf .slice0))))) .nil)) .nil) .nil) .nil) .nil) .nil)) .nil))) (no (no (no .nil (no (no Y0 .nil) .nil)) .nil) .nil)) (no (no (no .nil (no (no .nil (no (no (no (no (no (no .nil jR) .nil) .nil) .nil) .nil) .nil)) .nil)) .nil) (no (no .nil (no (no .nil (no (no (no (no (no (no .nil f8) .nil) .nil) .nil) .nil) .nil)) .nil)) (no (no (no .nil (no (no (no (no (no (no .nil tE) .nil) .nil) .nil) .nil) .nil)) .nil) .nil)))) (no (no (no (no (no .nil (no .nil (no iP .nil))) .nil) (no (no uP .nil) (no (no Zb .nil) .nil))) (no (no (no (no .nil (no (no (no (no (no (no .nil g8) .nil) .nil) .nil) .nil) .nil)) .nil) .nil) .nil)) (no (no .nil (no (no (no (no .nil (no (no (no (no (no (no (lf (.cells 8 (nd (.str 6 111477645534564) (nd (.slice 16419 0 2 3) (nd (.slice 16463 0 3 9) (lf (.slice 16520 0 3 9)) .nil) (lf (.slice 16480 0 2 3))) (nd (.slice 16408 0 1 2) (lf (.str 6 125779919729250)) (lf .slice0))))) .nil) .nil) .nil) .nil) .nil) .nil)) .nil) .nil) .nil)) .nil))),nx:=20641,ok:=true,v:=(.bool true),out:=.nil,nx':=20647,wr:=[]}
theorem Aii:∀[F:Facts],Ac (Env.ofS Tryz.prog [] []) 1000000 Vq=true:=by
 intro F
 kernel_rfl
theorem Ar7 (G:Nat→D→D):Vq.Valid Tryz.prog G:=Ad.val (okE _ []) (w0 G) Aii
def eZ:Orc:=
 {f:=132,args:=[(.ptr 4109 0),(.ptr 4106 0)],part:=(no (no .nil (no .nil (no .nil (no (no (no (no (no (no (no (no (lf (.cells 3 (nd (.slice 4108 0 11 1) (lf (.int .i64 (.ofNat 0))) (lf .slice0)))) .nil) .nil) .nil) .nil) .nil) .nil) .nil) .nil)))) (no (no .nil (no .nil (no (no (no (no (no (no (no (no (lf (.cells 11 (nd aj (nd (.str 9 2147200735001220771698) (nd RH (lf RH) .nil) (nd az uV .nil)) (nd Ri (nd eR (lf Ri) .nil) (nd (.str 10 549720425009086565478258) iB .nil))))) .nil) .nil) .nil) .nil) .nil) .nil) .nil) .nil))) Ze)),nx:=4110,ok:=true,v:=(.tuple []),out:=(no (no cW (no .nil (no .nil (no (no (no (no (no (no (no (no (lf (.cells 3 (nd (.slice 4108 0 11 1) (lf (.int .i64 (.ofNat 11))) (lf (.slice 4186 6 0 1))))) .nil) .nil) .nil) .nil) .nil) .nil) .nil) .nil)))) (no gz (no (no .nil (no (no (no (no (no (no (no (no (lf (.cells 4 (nd (.str 7 32480064979559794) (nd (.slice 4200 0 2 4) (lf (.int .i64 (.ofNat 1))) .nil) (lf (.int .i64 (.ofNat 1)))))) .nil) .nil) .nil) .nil) .nil) .nil) .nil) (no (no .nil (no (no jc .nil) .nil)) VH))) mQ))),nx':=4201,wr:=[4106,4109]}
theorem Amc:∀[F:Facts],Ac (Env.ofS Tryz.prog [] []) 1000000 eZ=true:=by
 intro F
 kernel_rfl
theorem Amo (G:Nat→D→D):eZ.Valid Tryz.prog G:=Ad.val (okE _ []) (w0 G) Amc
def eN:Orc:=
 {f:=49,args:=[(.str 250 Xs)],part:=.nil,nx:=4106,ok:=true,v:=(.tuple [(.agg [(.str 7 32480064979559794),(.slice 4200 0 2 4),(.int .i64 (.ofNat 1)),(.int .i64 (.ofNat 1))]),(.int .i64 (.ofNat 0)),(.int .i64 (.ofNat 0))]),out:=iw,nx':=4329,wr:=[]}
theorem Ajo:∀[F:Facts],Ac (Env.ofS Tryz.prog [eZ] []) 1000000 eN=true:=by
 intro F
 kernel_rfl
theorem Aqy (G:Nat→D→D):eN.Valid Tryz.prog G:=Ad.val (okE _ []) (.cons (Amo G) (w0 G)) Ajo
def Sl:Orc:=
 {f:=21,args:=[(.str 7 32480064979559794)],part:=.nil,nx:=4096,ok:=true,v:=(.tuple [(.agg [(.str 7 32480064979559794),(.slice 4200 0 2 4),(.int .i64 (.ofNat 1)),(.int .i64 (.ofNat 1))]),(.int .i64 (.ofNat 0))]),out:=iw,nx':=4330,wr:=[]}
theorem zk:∀[F:Facts],Ac (Env.ofS Tryz.prog [eN] []) 1000000 Sl=true:=by
 intro F
 kernel_rfl
theorem lF (G:Nat→D→D):Sl.Valid Tryz.prog G:=Ad.val (okE _ []) (.cons (Aqy G) (w0 G)) zk
def RV:Orc:=
 {f:=25,args:=[(.int .i64 (.ofNat 4))],part:=.nil,nx:=8192,ok:=true,v:=(.agg [(.str 7 32480064979559794),(.slice 8294 0 2 4),(.int .i64 (.ofNat 1)),(.int .i64 (.ofNat 1))]),out:=yO,nx':=8353,wr:=[]}
theorem Aih:∀[F:Facts],Ac (Env.ofS Tryz.prog [] []) 1000000 RV=true:=by
 intro F
 kernel_rfl
theorem d9 (G:Nat→D→D):RV.Valid Tryz.prog G:=Ad.val (okE _ []) (w0 G) Aih
def tj:Orc:=
 {f:=40,args:=[(.slice 8491 0 4 1),(.str 1 32)],part:=(no (no (no .nil (no .nil (no (no .nil (no (no (no .nil (no (no (no (no (lf (.cells 4 (nd (.str 7 31084746137363827) (nd (.str 7 32480064979559794) (lf (.str 1 49)) .nil) (lf (.str 7 28259039672824431))))) .nil) .nil) .nil) .nil)) .nil) .nil)) .nil))) .nil) .nil),nx:=8492,ok:=true,v:=aj,out:=.nil,nx':=8492,wr:=[]}
theorem zZ (G:Nat→D→D):tj.Valid Tryz.prog G:=Orc.Valid.join An Aj (by kernel_rfl)
def wo:Orc:=
 {f:=40,args:=[(.slice 8548 0 2 1),(.str 1 32)],part:=(no .nil (no (no .nil (no (no (no .nil (no .nil (no (no .nil (no (no (no (no (lf (.cells 2 (nd (.str 4 1701605234) (lf (.str 4 1952867692)) .nil))) .nil) .nil) .nil) .nil)) .nil))) .nil) .nil)) .nil)),nx:=8549,ok:=true,v:=(.str 9 2147200735001220771698),out:=.nil,nx':=8549,wr:=[]}
theorem Arq (G:Nat→D→D):wo.Valid Tryz.prog G:=Orc.Valid.join An Aj (by kernel_rfl)
def gZ:Orc:=
 {f:=40,args:=[(.slice 8559 0 3 1),(.str 1 32)],part:=(no (no (no (no (no .nil (no .nil (no .nil (no gA .nil)))) .nil) .nil) .nil) .nil),nx:=8560,ok:=true,v:=Ri,out:=.nil,nx':=8560,wr:=[]}
theorem Adc (G:Nat→D→D):gZ.Valid Tryz.prog G:=Orc.Valid.join An Aj (by kernel_rfl)
def rF:Orc:=
 {f:=40,args:=[(.slice 8571 0 3 1),(.str 1 32)],part:=(no (no (no .nil (no .nil (no .nil (no .nil (no .nil (no fX .nil)))))) .nil) .nil),nx:=8572,ok:=true,v:=RH,out:=.nil,nx':=8572,wr:=[]}
theorem Ant (G:Nat→D→D):rF.Valid Tryz.prog G:=Orc.Valid.join An Aj (by kernel_rfl)
def qj:Orc:=
 {f:=40,args:=[(.slice 8591 0 6 1),(.str 1 32)],part:=(no (no (no (no (no .nil (no (no (no .nil (no .nil (no (no (no (no (lf (.cells 6 (nd (.str 4 1885697139) (nd (.str 4 1852994900) (lf (.str 4 1684956531)) (lf (.str 5 499967814002))) pS))) .nil) .nil) .nil) .nil))) .nil) .nil)) .nil) .nil) .nil) .nil),nx:=8592,ok:=true,v:=eR,out:=.nil,nx':=8592,wr:=[]}
theorem Ai0 (G:Nat→D→D):qj.Valid Tryz.prog G:=Orc.Valid.join An Aj (by kernel_rfl)
def uA:Orc:=
 {f:=40,args:=[(.slice 8611 0 6 1),(.str 1 32)],part:=(no (no (no .nil (no (no (no .nil (no (no .nil (no .nil (no (no (no (no (lf (.cells 6 (nd (.str 4 1885697139) (nd (.str 4 1953063255) (lf (.str 7 28559167692432754)) (lf (.str 5 499967814002))) t8))) .nil) .nil) .nil) .nil))) .nil)) .nil) .nil)) .nil) .nil),nx:=8612,ok:=true,v:=az,out:=.nil,nx':=8612,wr:=[]}
theorem Aaj (G:Nat→D→D):uA.Valid Tryz.prog G:=Orc.Valid.join An Aj (by kernel_rfl)
def wN:Orc:=
 {f:=40,args:=[(.slice 8613 0 5 1),(.str 1 10)],part:=(no (no .nil (no .nil (no (no (no .nil (no (no .nil (no .nil (no (no (no (no (lf (.cells 5 (nd (.str 9 2147200735001220771698) (nd Ri (lf eR) .nil) (nd RH (lf az) .nil)))) .nil) .nil) .nil) .nil))) .nil)) .nil) .nil))) .nil),nx:=8614,ok:=true,v:=vn,out:=.nil,nx':=8614,wr:=[]}
theorem Akr (G:Nat→D→D):wN.Valid Tryz.prog G:=Orc.Valid.join An Aj (by kernel_rfl)
def un:Orc:=
 {f:=40,args:=[(.slice 8671 0 2 1),(.str 1 32)],part:=(no (no (no (no (no (no .nil (no .nil (no .nil (no .nil (no (no (no (no (lf (.cells 2 (nd (.str 4 1701605234) (lf (.str 5 499967814002)) .nil))) .nil) .nil) .nil) .nil))))) .nil) .nil) .nil) .nil) .nil),nx:=8672,ok:=true,v:=(.str 10 549720425009086565478258),out:=.nil,nx':=8672,wr:=[]}
theorem yU (G:Nat→D→D):un.Valid Tryz.prog G:=Orc.Valid.join An Aj (by kernel_rfl)
def wH:Orc:=
 {f:=40,args:=[(.slice 8682 0 3 1),(.str 1 32)],part:=(no .nil (no .nil (no (no .nil (no (no .nil (no .nil (no .nil fX))) .nil)) .nil))),nx:=8683,ok:=true,v:=RH,out:=.nil,nx':=8683,wr:=[]}
theorem Ao9 (G:Nat→D→D):wH.Valid Tryz.prog G:=Orc.Valid.join An Aj (by kernel_rfl)
def xM:Orc:=
 {f:=40,args:=[(.slice 8694 0 3 1),(.str 1 32)],part:=(no .nil (no .nil (no .nil (no (no .nil (no .nil (no .nil (no .nil gA)))) .nil)))),nx:=8695,ok:=true,v:=Ri,out:=.nil,nx':=8695,wr:=[]}
theorem Asi (G:Nat→D→D):xM.Valid Tryz.prog G:=Orc.Valid.join An Aj (by kernel_rfl)
def kE:Orc:=
 {f:=40,args:=[(.slice 8714 0 6 1),(.str 1 32)],part:=(no .nil (no .nil (no (no .nil (no (no (no (no (no (no .nil (no (no (no (lf (.cells 6 (nd (.str 4 1885697139) (nd (.str 4 1953063255) (lf (.str 7 28559167692432754)) (lf (.str 4 1952867692))) t8))) .nil) .nil) .nil)) .nil) .nil) .nil) .nil) .nil)) .nil))),nx:=8715,ok:=true,v:=oG,out:=.nil,nx':=8715,wr:=[]}
theorem zj (G:Nat→D→D):kE.Valid Tryz.prog G:=Orc.Valid.join An Aj (by kernel_rfl)
def ir:Orc:=
 {f:=40,args:=[(.slice 8734 0 6 1),(.str 1 32)],part:=(no .nil (no .nil (no .nil (no .nil (no .nil (no (no (no (no (no .nil jc) .nil) .nil) .nil) .nil)))))),nx:=8735,ok:=true,v:=uU,out:=.nil,nx':=8735,wr:=[]}
theorem zQ (G:Nat→D→D):ir.Valid Tryz.prog G:=Orc.Valid.join An Aj (by kernel_rfl)
def pC:Orc:=
 {f:=40,args:=[(.slice 8736 0 5 1),(.str 1 10)],part:=(no .nil (no (no (no (no (no .nil (no (no (no (no .nil (no (no (no (lf (.cells 5 (nd (.str 10 549720425009086565478258) (nd RH uV .nil) (nd Ri iB .nil)))) .nil) .nil) .nil)) .nil) .nil) .nil)) .nil) .nil) .nil) .nil)),nx:=8737,ok:=true,v:=qX,out:=.nil,nx':=8737,wr:=[]}
theorem Al5 (G:Nat→D→D):pC.Valid Tryz.prog G:=Orc.Valid.join An Aj (by kernel_rfl)
def ug:Orc:=
 {f:=40,args:=[(.slice 8738 0 3 1),(.str 1 10)],part:=(no .nil (no .nil (no (no (no (no .nil (no (no (no (no .nil (no (no (no (lf (.cells 3 (nd aj (lf vn) (lf qX)))) .nil) .nil) .nil)) .nil) .nil) .nil)) .nil) .nil) .nil))),nx:=8739,ok:=true,v:=(.str 250 Xs),out:=.nil,nx':=8739,wr:=[]}
theorem Ast (G:Nat→D→D):ug.Valid Tryz.prog G:=Orc.Valid.join An Aj (by kernel_rfl)
end Go.Proofs.YtmjeljjkhblgeaaGreatDoor.familySessions

