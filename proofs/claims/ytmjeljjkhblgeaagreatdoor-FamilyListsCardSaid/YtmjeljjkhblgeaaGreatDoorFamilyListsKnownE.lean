/- What is proved: that certain calls which the law FamilyLists makes come to the results that are written here (part 5 of 10). Conditions: the memory that such a call reaches is as written here; the kernel runs the evaluator over each. -/
import Derived.Test.YtmjeljjkhblgeaaGreatDoorFamilyListsKnownD
set_option linter.unusedVariables false
set_option linter.unusedSectionVars false
set_option linter.unusedSimpArgs false
namespace Go.Proofs.YtmjeljjkhblgeaaGreatDoor.familyLists
open Go.AE
def Ze:Orc:=
 {f:=282,args:=[(.ptr 44 0)],part:=cF,nx:=567,ok:=true,v:=(.tuple []),out:=gd,nx':=569,wr:=[44]}
theorem oM:∀[F:Facts],Ab (Env.ofS Tryz.prog [Wp] []) 1000000 Ze=true:=by
 intro F
 kernel_rfl
theorem uv (G:Nat→D→D):Ze.Valid Tryz.prog G:=Af.val (okE _ []) (.cons (om G) (w0 G)) oM
def Z9:Orc:=
 {f:=284,args:=[(.slice 45 0 4 1),(.func (.func 285) [] [(.ptr 569 0)])],part:=(no (no .nil (no (no .nil (no .nil (no .nil (no (no (no (lf (.cells 5 (nd (.int .i64 (.ofNat 0)) AO y24))) .nil) .nil) .nil)))) y4)) ku),nx:=570,ok:=true,v:=(.bool true),out:=(no (no .nil (no (no .nil (no .nil (no .nil (no (no (no (lf (.cells 5 (nd (.int .i64 (.ofNat 2)) AO (nd (.int .i64 (.ofNat 1)) (lf (.int .i64 (.ofNat 21))) .nil)))) .nil) .nil) .nil)))) .nil)) Wb),nx':=572,wr:=[44,569]}
theorem kT:∀[F:Facts],Ab (Env.ofS Tryz.prog [] []) 1000000 Z9=true:=by
 intro F
 kernel_rfl
theorem sP (G:Nat→D→D):Z9.Valid Tryz.prog G:=Af.val (okE _ []) (w0 G) kT
def WE:Orc:=
 {f:=282,args:=[(.ptr 44 0)],part:=(no .nil Wb),nx:=574,ok:=true,v:=(.tuple []),out:=.nil,nx':=575,wr:=[]}
theorem nF:∀[F:Facts],Ab (Env.ofS Tryz.prog [] []) 1000000 WE=true:=by
 intro F
 kernel_rfl
theorem su (G:Nat→D→D):WE.Valid Tryz.prog G:=Af.val (okE _ []) (w0 G) nF
def VW:Orc:=
 {f:=284,args:=[(.slice 45 0 4 1),(.func (.func 285) [] [(.ptr 575 0)])],part:=(no (no (no (no (no (no (no .nil (no (no (lf (.cells 5 (nd (.int .i64 (.ofNat 0)) AO OX))) .nil) .nil)) .nil) .nil) .nil) .nil) y5) Wb),nx:=576,ok:=true,v:=(.bool true),out:=(no (no (no (no (no (no (no .nil (no (no (lf (.cells 5 (nd (.int .i64 (.ofNat 4)) AO OX))) .nil) .nil)) .nil) .nil) .nil) .nil) .nil) gz),nx':=577,wr:=[44,575]}
theorem mN:∀[F:Facts],Ab (Env.ofS Tryz.prog [] []) 1000000 VW=true:=by
 intro F
 kernel_rfl
theorem kA (G:Nat→D→D):VW.Valid Tryz.prog G:=Af.val (okE _ []) (w0 G) mN
def YN:Orc:=
 {f:=282,args:=[(.ptr 44 0)],part:=(no .nil gz),nx:=579,ok:=true,v:=(.tuple []),out:=.nil,nx':=580,wr:=[]}
theorem oY:∀[F:Facts],Ab (Env.ofS Tryz.prog [] []) 1000000 YN=true:=by
 intro F
 kernel_rfl
theorem nP (G:Nat→D→D):YN.Valid Tryz.prog G:=Af.val (okE _ []) (w0 G) oY
def X9:Orc:=
 {f:=284,args:=[(.slice 45 0 4 1),(.func (.func 285) [] [(.ptr 580 0)])],part:=(no y6 (no (no .nil (no (no (no (no .nil (no (no (lf (.cells 5 (nd (.int .i64 (.ofNat 0)) AO y26))) .nil) .nil)) .nil) .nil) b7)) .nil)),nx:=581,ok:=true,v:=(.bool true),out:=(no .nil (no (no .nil (no (no (no (no .nil (no (no (lf (.cells 5 (nd (.int .i64 (.ofNat 2)) AO (nd (.int .i64 (.ofNat 2)) (lf (.int .i64 (.ofNat 24))) .nil)))) .nil) .nil)) .nil) .nil) j8)) .nil)),nx':=583,wr:=[44,580]}
theorem sc:∀[F:Facts],Ab (Env.ofS Tryz.prog [] []) 1000000 X9=true:=by
 intro F
 kernel_rfl
theorem oH (G:Nat→D→D):X9.Valid Tryz.prog G:=Af.val (okE _ []) (w0 G) sc
def Wl:Orc:=
 {f:=282,args:=[(.ptr 44 0)],part:=(no .nil (no jP .nil)),nx:=585,ok:=true,v:=(.tuple []),out:=.nil,nx':=586,wr:=[]}
theorem pO:∀[F:Facts],Ab (Env.ofS Tryz.prog [] []) 1000000 Wl=true:=by
 intro F
 kernel_rfl
theorem sF (G:Nat→D→D):Wl.Valid Tryz.prog G:=Af.val (okE _ []) (w0 G) pO
def ZC:Orc:=
 {f:=284,args:=[(.slice 45 0 4 1),(.func (.func 285) [] [(.ptr 586 0)])],part:=(no y6 (no jP (no (no .nil (no (no (no .nil (no (no (lf (.cells 5 (nd (.int .i64 (.ofNat 0)) AO cz))) .nil) .nil)) .nil) .nil)) .nil))),nx:=587,ok:=true,v:=(.bool true),out:=(no .nil (no fO (no (no .nil (no (no (no .nil (no (no (lf (.cells 5 (nd (.int .i64 (.ofNat 4)) AO cz))) .nil) .nil)) .nil) .nil)) .nil))),nx':=588,wr:=[44,586]}
theorem tM:∀[F:Facts],Ab (Env.ofS Tryz.prog [] []) 1000000 ZC=true:=by
 intro F
 kernel_rfl
theorem tf (G:Nat→D→D):ZC.Valid Tryz.prog G:=Af.val (okE _ []) (w0 G) tM
def XE:Orc:=
 {f:=308,args:=[(.ptr 44 0),(.int .i64 (.ofNat 416)),(.func (.func 319) [] [])],part:=ej,nx:=590,ok:=true,v:=(.int .i64 (.ofNat 1)),out:=eX,nx':=590,wr:=[44]}
theorem rg:∀[F:Facts],Ab (Env.ofS Tryz.prog [] []) 1000000 XE=true:=by
 intro F
 kernel_rfl
theorem ur (G:Nat→D→D):XE.Valid Tryz.prog G:=Af.val (okE _ []) (w0 G) rg
def YM:Orc:=
 {f:=282,args:=[(.ptr 44 0)],part:=ej,nx:=590,ok:=true,v:=(.tuple []),out:=eX,nx':=592,wr:=[44]}
theorem tL:∀[F:Facts],Ab (Env.ofS Tryz.prog [XE] []) 1000000 YM=true:=by
 intro F
 kernel_rfl
theorem pV (G:Nat→D→D):YM.Valid Tryz.prog G:=Af.val (okE _ []) (.cons (ur G) (w0 G)) tL
def Zn:Orc:=
 {f:=284,args:=[(.slice 45 0 4 1),(.func (.func 285) [] [(.ptr 592 0)])],part:=(no y6 (no (no (no (no .nil (no (no .nil (no (no (lf (.cells 5 (nd (.int .i64 (.ofNat 0)) AO QY))) .nil) .nil)) .nil)) .nil) eh) .nil)),nx:=593,ok:=true,v:=(.bool true),out:=(no .nil (no (no (no (no .nil (no (no .nil (no (no (lf (.cells 5 (nd (.int .i64 (.ofNat 1)) AO QY))) .nil) .nil)) .nil)) .nil) ca) .nil)),nx':=593,wr:=[44,592]}
theorem un:∀[F:Facts],Ab (Env.ofS Tryz.prog [] []) 1000000 Zn=true:=by
 intro F
 kernel_rfl
theorem pX (G:Nat→D→D):Zn.Valid Tryz.prog G:=Af.val (okE _ []) (w0 G) un
def az:Orc:=
 {f:=282,args:=[(.ptr 44 0)],part:=(no .nil (no (no .nil ca) .nil)),nx:=595,ok:=true,v:=(.tuple []),out:=.nil,nx':=596,wr:=[]}
theorem sA:∀[F:Facts],Ab (Env.ofS Tryz.prog [] []) 1000000 az=true:=by
 intro F
 kernel_rfl
theorem rS (G:Nat→D→D):az.Valid Tryz.prog G:=Af.val (okE _ []) (w0 G) sA
def Wt:Orc:=
 {f:=284,args:=[(.slice 45 0 4 1),(.func (.func 285) [] [(.ptr 596 0)])],part:=(no y6 (no (no .nil (no (no .nil (no (no .nil (no (no (lf (.cells 5 (nd (.int .i64 (.ofNat 0)) AO jR))) .nil) .nil)) .nil)) dp)) .nil)),nx:=597,ok:=true,v:=(.bool true),out:=(no .nil (no (no .nil (no (no .nil (no (no .nil (no (no (lf (.cells 5 (nd (.int .i64 (.ofNat 4)) AO jR))) .nil) .nil)) .nil)) jc)) .nil)),nx':=598,wr:=[44,596]}
theorem sT:∀[F:Facts],Ab (Env.ofS Tryz.prog [] []) 1000000 Wt=true:=by
 intro F
 kernel_rfl
theorem sQ (G:Nat→D→D):Wt.Valid Tryz.prog G:=Af.val (okE _ []) (w0 G) sT
def ZR:Orc:=
 {f:=308,args:=[(.ptr 44 0),(.int .i64 (.ofNat 416)),(.func (.func 319) [] [])],part:=f4,nx:=600,ok:=true,v:=(.int .i64 (.ofNat 1)),out:=kk,nx':=600,wr:=[44]}
theorem re:∀[F:Facts],Ab (Env.ofS Tryz.prog [] []) 1000000 ZR=true:=by
 intro F
 kernel_rfl
theorem kV (G:Nat→D→D):ZR.Valid Tryz.prog G:=Af.val (okE _ []) (w0 G) re
def Zl:Orc:=
 {f:=282,args:=[(.ptr 44 0)],part:=f4,nx:=600,ok:=true,v:=(.tuple []),out:=kk,nx':=602,wr:=[44]}
theorem lZ:∀[F:Facts],Ab (Env.ofS Tryz.prog [ZR] []) 1000000 Zl=true:=by
 intro F
 kernel_rfl
theorem qk (G:Nat→D→D):Zl.Valid Tryz.prog G:=Af.val (okE _ []) (.cons (kV G) (w0 G)) lZ
def aN:Orc:=
 {f:=284,args:=[(.slice 45 0 4 1),(.func (.func 285) [] [(.ptr 602 0)])],part:=(no y6 (no fQ (no (no .nil (no .nil (no (no .nil (no (no (lf (.cells 5 (nd (.int .i64 (.ofNat 0)) AO (nd (.int .i64 (.ofNat 0)) (lf (.int .i64 (.ofNat 36))) .nil)))) .nil) .nil)) .nil))) .nil))),nx:=603,ok:=true,v:=(.bool true),out:=(no .nil (no kg (no (no .nil (no .nil (no (no .nil (no (no (lf (.cells 5 (nd (.int .i64 (.ofNat 2)) AO (nd (.int .i64 (.ofNat 3)) (lf (.int .i64 (.ofNat 36))) .nil)))) .nil) .nil)) .nil))) .nil))),nx':=605,wr:=[44,602]}
theorem tY:∀[F:Facts],Ab (Env.ofS Tryz.prog [] []) 1000000 aN=true:=by
 intro F
 kernel_rfl
theorem qX (G:Nat→D→D):aN.Valid Tryz.prog G:=Af.val (okE _ []) (w0 G) tY
def aH:Orc:=
 {f:=282,args:=[(.ptr 44 0)],part:=(no .nil (no kg .nil)),nx:=607,ok:=true,v:=(.tuple []),out:=.nil,nx':=608,wr:=[]}
theorem ta:∀[F:Facts],Ab (Env.ofS Tryz.prog [] []) 1000000 aH=true:=by
 intro F
 kernel_rfl
theorem sw (G:Nat→D→D):aH.Valid Tryz.prog G:=Af.val (okE _ []) (w0 G) ta
def WD:Orc:=
 {f:=284,args:=[(.slice 45 0 4 1),(.func (.func 285) [] [(.ptr 608 0)])],part:=(no y6 (no (no (no (no (no .nil (no .nil (no (no (lf (.cells 5 (nd (.int .i64 (.ofNat 0)) AO bM))) .nil) .nil))) .nil) .nil) en) .nil)),nx:=609,ok:=true,v:=(.bool true),out:=(no .nil (no (no (no (no (no .nil (no .nil (no (no (lf (.cells 5 (nd (.int .i64 (.ofNat 4)) AO bM))) .nil) .nil))) .nil) .nil) jQ) .nil)),nx':=610,wr:=[44,608]}
theorem mK:∀[F:Facts],Ab (Env.ofS Tryz.prog [] []) 1000000 WD=true:=by
 intro F
 kernel_rfl
theorem so (G:Nat→D→D):WD.Valid Tryz.prog G:=Af.val (okE _ []) (w0 G) mK
def WT:Orc:=
 {f:=282,args:=[(.ptr 44 0)],part:=(no .nil aX),nx:=612,ok:=true,v:=(.tuple []),out:=.nil,nx':=613,wr:=[]}
theorem ql:∀[F:Facts],Ab (Env.ofS Tryz.prog [] []) 1000000 WT=true:=by
 intro F
 kernel_rfl
theorem qb (G:Nat→D→D):WT.Valid Tryz.prog G:=Af.val (okE _ []) (w0 G) ql
def aj:Orc:=
 {f:=284,args:=[(.slice 45 0 4 1),(.func (.func 285) [] [(.ptr 613 0)])],part:=(no (no .nil (no .nil (no (no (no .nil (no .nil (no (no (lf (.cells 5 (nd (.int .i64 (.ofNat 0)) AO (nd (.int .i64 (.ofNat 0)) (lf (.int .i64 (.ofNat 39))) .nil)))) .nil) .nil))) .nil) y3))) aX),nx:=614,ok:=true,v:=(.bool true),out:=(no (no .nil (no .nil (no (no (no .nil (no .nil (no (no (lf (.cells 5 (nd (.int .i64 (.ofNat 2)) AO (nd (.int .i64 (.ofNat 3)) (lf (.int .i64 (.ofNat 39))) .nil)))) .nil) .nil))) .nil) .nil))) W2),nx':=616,wr:=[44,613]}
theorem py:∀[F:Facts],Ab (Env.ofS Tryz.prog [] []) 1000000 aj=true:=by
 intro F
 kernel_rfl
theorem m7 (G:Nat→D→D):aj.Valid Tryz.prog G:=Af.val (okE _ []) (w0 G) py
def Y2:Orc:=
 {f:=282,args:=[(.ptr 44 0)],part:=(no .nil W2),nx:=618,ok:=true,v:=(.tuple []),out:=.nil,nx':=619,wr:=[]}
theorem pS:∀[F:Facts],Ab (Env.ofS Tryz.prog [] []) 1000000 Y2=true:=by
 intro F
 kernel_rfl
theorem qY (G:Nat→D→D):Y2.Valid Tryz.prog G:=Af.val (okE _ []) (w0 G) pS
def Xc:Orc:=
 {f:=284,args:=[(.slice 45 0 4 1),(.func (.func 285) [] [(.ptr 619 0)])],part:=(no (no (no .nil (no .nil (no (no .nil (no .nil (no (no (lf (.cells 5 (nd (.int .i64 (.ofNat 0)) AO jr))) .nil) .nil))) .nil))) y5) W2),nx:=620,ok:=true,v:=(.bool true),out:=(no (no (no .nil (no .nil (no (no .nil (no .nil (no (no (lf (.cells 5 (nd (.int .i64 (.ofNat 4)) AO jr))) .nil) .nil))) .nil))) .nil) dO),nx':=621,wr:=[44,619]}
theorem qH:∀[F:Facts],Ab (Env.ofS Tryz.prog [] []) 1000000 Xc=true:=by
 intro F
 kernel_rfl
theorem lF (G:Nat→D→D):Xc.Valid Tryz.prog G:=Af.val (okE _ []) (w0 G) qH
def Zt:Orc:=
 {f:=308,args:=[(.ptr 44 0),(.int .i64 (.ofNat 416)),(.func (.func 319) [] [])],part:=bz,nx:=623,ok:=true,v:=(.int .i64 (.ofNat 1)),out:=bO,nx':=623,wr:=[44]}
theorem mc:∀[F:Facts],Ab (Env.ofS Tryz.prog [] []) 1000000 Zt=true:=by
 intro F
 kernel_rfl
theorem tZ (G:Nat→D→D):Zt.Valid Tryz.prog G:=Af.val (okE _ []) (w0 G) mc
def XB:Orc:=
 {f:=282,args:=[(.ptr 44 0)],part:=bz,nx:=623,ok:=true,v:=(.tuple []),out:=bO,nx':=625,wr:=[44]}
theorem nU:∀[F:Facts],Ab (Env.ofS Tryz.prog [Zt] []) 1000000 XB=true:=by
 intro F
 kernel_rfl
theorem rZ (G:Nat→D→D):XB.Valid Tryz.prog G:=Af.val (okE _ []) (.cons (tZ G) (w0 G)) nU
def aP:Orc:=
 {f:=284,args:=[(.slice 45 0 4 1),(.func (.func 285) [] [(.ptr 625 0)])],part:=(no (no .nil (no (no (no .nil (no .nil (no .nil (no (no (lf (.cells 5 (nd (.int .i64 (.ofNat 0)) AO cK))) .nil) .nil)))) .nil) y4)) jO),nx:=626,ok:=true,v:=(.bool true),out:=(no (no .nil (no (no (no .nil (no .nil (no .nil (no (no (lf (.cells 5 (nd (.int .i64 (.ofNat 1)) AO cK))) .nil) .nil)))) .nil) .nil)) aQ),nx':=626,wr:=[44,625]}
theorem rC:∀[F:Facts],Ab (Env.ofS Tryz.prog [] []) 1000000 aP=true:=by
 intro F
 kernel_rfl
theorem sq (G:Nat→D→D):aP.Valid Tryz.prog G:=Af.val (okE _ []) (w0 G) rC
def Yg:Orc:=
 {f:=282,args:=[(.ptr 44 0)],part:=(no .nil aQ),nx:=628,ok:=true,v:=(.tuple []),out:=.nil,nx':=629,wr:=[]}
theorem tj:∀[F:Facts],Ab (Env.ofS Tryz.prog [] []) 1000000 Yg=true:=by
 intro F
 kernel_rfl
theorem nY (G:Nat→D→D):Yg.Valid Tryz.prog G:=Af.val (okE _ []) (w0 G) tj
def Y3:Orc:=
 {f:=284,args:=[(.slice 45 0 4 1),(.func (.func 285) [] [(.ptr 629 0)])],part:=(no (no .nil (no .nil (no (no .nil (no .nil (no .nil (no (no (lf (.cells 5 (nd (.int .i64 (.ofNat 0)) AO dB))) .nil) .nil)))) y3))) aQ),nx:=630,ok:=true,v:=(.bool true),out:=(no (no .nil (no .nil (no (no .nil (no .nil (no .nil (no (no (lf (.cells 5 (nd (.int .i64 (.ofNat 4)) AO dB))) .nil) .nil)))) .nil))) eR),nx':=631,wr:=[44,629]}
theorem sM:∀[F:Facts],Ab (Env.ofS Tryz.prog [] []) 1000000 Y3=true:=by
 intro F
 kernel_rfl
theorem nC (G:Nat→D→D):Y3.Valid Tryz.prog G:=Af.val (okE _ []) (w0 G) sM
def XY:Orc:=
 {f:=308,args:=[(.ptr 44 0),(.int .i64 (.ofNat 416)),(.func (.func 319) [] [])],part:=fc,nx:=633,ok:=true,v:=(.int .i64 (.ofNat 1)),out:=bj,nx':=633,wr:=[44]}
theorem nn:∀[F:Facts],Ab (Env.ofS Tryz.prog [] []) 1000000 XY=true:=by
 intro F
 kernel_rfl
theorem oG (G:Nat→D→D):XY.Valid Tryz.prog G:=Af.val (okE _ []) (w0 G) nn
def YF:Orc:=
 {f:=282,args:=[(.ptr 44 0)],part:=fc,nx:=633,ok:=true,v:=(.tuple []),out:=bj,nx':=635,wr:=[44]}
theorem tl:∀[F:Facts],Ab (Env.ofS Tryz.prog [XY] []) 1000000 YF=true:=by
 intro F
 kernel_rfl
theorem og (G:Nat→D→D):YF.Valid Tryz.prog G:=Af.val (okE _ []) (.cons (oG G) (w0 G)) tl
def XD:Orc:=
 {f:=284,args:=[(.slice 45 0 4 1),(.func (.func 285) [] [(.ptr 635 0)])],part:=(no (no (no .nil (no .nil (no .nil (no .nil (no .nil (no (no (lf (.cells 5 (nd (.int .i64 (.ofNat 0)) AO (nd (.int .i64 (.ofNat 0)) (lf (.int .i64 (.ofNat 49))) .nil)))) .nil) .nil)))))) y5) ka),nx:=636,ok:=true,v:=(.bool true),out:=(no (no (no .nil (no .nil (no .nil (no .nil (no .nil (no (no (lf (.cells 5 (nd (.int .i64 (.ofNat 2)) AO (nd (.int .i64 (.ofNat 4)) (lf (.int .i64 (.ofNat 49))) .nil)))) .nil) .nil)))))) .nil) Yi),nx':=638,wr:=[44,635]}
theorem sH:∀[F:Facts],Ab (Env.ofS Tryz.prog [] []) 1000000 XD=true:=by
 intro F
 kernel_rfl
theorem kW (G:Nat→D→D):XD.Valid Tryz.prog G:=Af.val (okE _ []) (w0 G) sH
def aM:Orc:=
 {f:=282,args:=[(.ptr 44 0)],part:=(no .nil Yi),nx:=640,ok:=true,v:=(.tuple []),out:=.nil,nx':=641,wr:=[]}
theorem rh:∀[F:Facts],Ab (Env.ofS Tryz.prog [] []) 1000000 aM=true:=by
 intro F
 kernel_rfl
theorem md (G:Nat→D→D):aM.Valid Tryz.prog G:=Af.val (okE _ []) (w0 G) rh
def VY:Orc:=
 {f:=284,args:=[(.slice 45 0 4 1),(.func (.func 285) [] [(.ptr 641 0)])],part:=(no (no .nil (no (no (no (no (no (no .nil (no (lf (.cells 5 (nd (.int .i64 (.ofNat 0)) AO fK))) .nil)) .nil) .nil) .nil) .nil) y4)) Yi),nx:=642,ok:=true,v:=(.bool true),out:=(no (no .nil (no (no (no (no (no (no .nil (no (lf (.cells 5 (nd (.int .i64 (.ofNat 4)) AO fK))) .nil)) .nil) .nil) .nil) .nil) .nil)) jC),nx':=643,wr:=[44,641]}
theorem nK:∀[F:Facts],Ab (Env.ofS Tryz.prog [] []) 1000000 VY=true:=by
 intro F
 kernel_rfl
theorem pz (G:Nat→D→D):VY.Valid Tryz.prog G:=Af.val (okE _ []) (w0 G) nK
def aR:Orc:=
 {f:=282,args:=[(.ptr 44 0)],part:=(no .nil jC),nx:=645,ok:=true,v:=(.tuple []),out:=.nil,nx':=646,wr:=[]}
theorem rW:∀[F:Facts],Ab (Env.ofS Tryz.prog [] []) 1000000 aR=true:=by
 intro F
 kernel_rfl
theorem mF (G:Nat→D→D):aR.Valid Tryz.prog G:=Af.val (okE _ []) (w0 G) rW
def ZF:Orc:=
 {f:=284,args:=[(.slice 45 0 4 1),(.func (.func 285) [] [(.ptr 646 0)])],part:=(no y6 (no bG (no .nil (no (no (no (no (no .nil (no (lf (.cells 5 (nd (.int .i64 (.ofNat 0)) AO (nd (.int .i64 (.ofNat 0)) (lf (.int .i64 (.ofNat 52))) .nil)))) .nil)) .nil) .nil) .nil) .nil)))),nx:=647,ok:=true,v:=(.bool true),out:=(no .nil (no cx (no .nil (no (no (no (no (no .nil (no (lf (.cells 5 (nd (.int .i64 (.ofNat 2)) AO (nd (.int .i64 (.ofNat 4)) (lf (.int .i64 (.ofNat 52))) .nil)))) .nil)) .nil) .nil) .nil) .nil)))),nx':=649,wr:=[44,646]}
theorem uf:∀[F:Facts],Ab (Env.ofS Tryz.prog [] []) 1000000 ZF=true:=by
 intro F
 kernel_rfl
theorem sC (G:Nat→D→D):ZF.Valid Tryz.prog G:=Af.val (okE _ []) (w0 G) uf
def Xk:Orc:=
 {f:=282,args:=[(.ptr 44 0)],part:=(no .nil (no cx .nil)),nx:=651,ok:=true,v:=(.tuple []),out:=.nil,nx':=652,wr:=[]}
theorem kE:∀[F:Facts],Ab (Env.ofS Tryz.prog [] []) 1000000 Xk=true:=by
 intro F
 kernel_rfl
theorem oE (G:Nat→D→D):Xk.Valid Tryz.prog G:=Af.val (okE _ []) (w0 G) kE
def YT:Orc:=
 {f:=284,args:=[(.slice 45 0 4 1),(.func (.func 285) [] [(.ptr 652 0)])],part:=(no y6 (no (no .nil (no .nil (no (nd ia (no (no .nil (no (lf (.cells 5 (nd (.int .i64 (.ofNat 0)) AO bC))) .nil)) .nil) .nil) .nil))) .nil)),nx:=653,ok:=true,v:=(.bool true),out:=(no .nil (no (no .nil (no .nil (no (nd fZ (no (no .nil (no (lf (.cells 5 (nd (.int .i64 (.ofNat 4)) AO bC))) .nil)) .nil) .nil) .nil))) .nil)),nx':=654,wr:=[44,652]}
theorem qm:∀[F:Facts],Ab (Env.ofS Tryz.prog [] []) 1000000 YT=true:=by
 intro F
 kernel_rfl
theorem sL (G:Nat→D→D):YT.Valid Tryz.prog G:=Af.val (okE _ []) (w0 G) qm
def Wy:Orc:=
 {f:=308,args:=[(.ptr 44 0),(.int .i64 (.ofNat 416)),(.func (.func 319) [] [])],part:=cj,nx:=656,ok:=true,v:=(.int .i64 (.ofNat 1)),out:=eY,nx':=656,wr:=[44]}
theorem sr:∀[F:Facts],Ab (Env.ofS Tryz.prog [] []) 1000000 Wy=true:=by
 intro F
 kernel_rfl
theorem th (G:Nat→D→D):Wy.Valid Tryz.prog G:=Af.val (okE _ []) (w0 G) sr
def Y4:Orc:=
 {f:=282,args:=[(.ptr 44 0)],part:=cj,nx:=656,ok:=true,v:=(.tuple []),out:=eY,nx':=658,wr:=[44]}
theorem kP:∀[F:Facts],Ab (Env.ofS Tryz.prog [Wy] []) 1000000 Y4=true:=by
 intro F
 kernel_rfl
theorem kS (G:Nat→D→D):Y4.Valid Tryz.prog G:=Af.val (okE _ []) (.cons (th G) (w0 G)) kP
def Wd:Orc:=
 {f:=284,args:=[(.slice 45 0 4 1),(.func (.func 285) [] [(.ptr 658 0)])],part:=(no y6 (no ig (no (no (no .nil (no (no (no .nil (no (lf (.cells 5 (nd (.int .i64 (.ofNat 0)) AO gt))) .nil)) .nil) .nil)) .nil) .nil))),nx:=659,ok:=true,v:=(.bool true),out:=(no .nil (no XT (no (no (no .nil (no (no (no .nil (no (lf (.cells 5 (nd (.int .i64 (.ofNat 1)) AO gt))) .nil)) .nil) .nil)) .nil) .nil))),nx':=659,wr:=[44,658]}
theorem tV:∀[F:Facts],Ab (Env.ofS Tryz.prog [] []) 1000000 Wd=true:=by
 intro F
 kernel_rfl
theorem qB (G:Nat→D→D):Wd.Valid Tryz.prog G:=Af.val (okE _ []) (w0 G) tV
def XC:Orc:=
 {f:=282,args:=[(.ptr 44 0)],part:=(no .nil (no XT .nil)),nx:=661,ok:=true,v:=(.tuple []),out:=.nil,nx':=662,wr:=[]}
theorem tN:∀[F:Facts],Ab (Env.ofS Tryz.prog [] []) 1000000 XC=true:=by
 intro F
 kernel_rfl
theorem tq (G:Nat→D→D):XC.Valid Tryz.prog G:=Af.val (okE _ []) (w0 G) tN
def WM:Orc:=
 {f:=284,args:=[(.slice 45 0 4 1),(.func (.func 285) [] [(.ptr 662 0)])],part:=(no y6 (no XT (no .nil (no (no .nil (no (no (no .nil (no (lf (.cells 5 (nd (.int .i64 (.ofNat 0)) AO bb))) .nil)) .nil) .nil)) .nil)))),nx:=663,ok:=true,v:=(.bool true),out:=(no .nil (no gD (no .nil (no (no .nil (no (no (no .nil (no (lf (.cells 5 (nd (.int .i64 (.ofNat 4)) AO bb))) .nil)) .nil) .nil)) .nil)))),nx':=664,wr:=[44,662]}
theorem mh:∀[F:Facts],Ab (Env.ofS Tryz.prog [] []) 1000000 WM=true:=by
 intro F
 kernel_rfl
theorem nj (G:Nat→D→D):WM.Valid Tryz.prog G:=Af.val (okE _ []) (w0 G) mh
def aE:Orc:=
 {f:=308,args:=[(.ptr 44 0),(.int .i64 (.ofNat 416)),(.func (.func 319) [] [])],part:=d7,nx:=666,ok:=true,v:=(.int .i64 (.ofNat 1)),out:=dW,nx':=666,wr:=[44]}
theorem rj:∀[F:Facts],Ab (Env.ofS Tryz.prog [] []) 1000000 aE=true:=by
 intro F
 kernel_rfl
theorem tX (G:Nat→D→D):aE.Valid Tryz.prog G:=Af.val (okE _ []) (w0 G) rj
def XN:Orc:=
 {f:=282,args:=[(.ptr 44 0)],part:=d7,nx:=666,ok:=true,v:=(.tuple []),out:=dW,nx':=668,wr:=[44]}
theorem nG:∀[F:Facts],Ab (Env.ofS Tryz.prog [aE] []) 1000000 XN=true:=by
 intro F
 kernel_rfl
theorem oe (G:Nat→D→D):XN.Valid Tryz.prog G:=Af.val (okE _ []) (.cons (tX G) (w0 G)) nG
def W1:Orc:=
 {f:=284,args:=[(.slice 45 0 4 1),(.func (.func 285) [] [(.ptr 668 0)])],part:=(no y6 (no (no .nil (no .nil (no hU (no (no (no .nil (no (lf (.cells 5 (nd (.int .i64 (.ofNat 0)) AO (nd (.int .i64 (.ofNat 0)) (lf (.int .i64 (.ofNat 60))) .nil)))) .nil)) .nil) .nil)))) .nil)),nx:=669,ok:=true,v:=(.bool true),out:=(no .nil (no (no .nil (no .nil (no aZ (no (no (no .nil (no (lf (.cells 5 (nd (.int .i64 (.ofNat 2)) AO (nd (.int .i64 (.ofNat 5)) (lf (.int .i64 (.ofNat 60))) .nil)))) .nil)) .nil) .nil)))) .nil)),nx':=671,wr:=[44,668]}
theorem l5:∀[F:Facts],Ab (Env.ofS Tryz.prog [] []) 1000000 W1=true:=by
 intro F
 kernel_rfl
theorem pE (G:Nat→D→D):W1.Valid Tryz.prog G:=Af.val (okE _ []) (w0 G) l5
def aK:Orc:=
 {f:=282,args:=[(.ptr 44 0)],part:=(no .nil (no eU .nil)),nx:=673,ok:=true,v:=(.tuple []),out:=.nil,nx':=674,wr:=[]}
theorem ph:∀[F:Facts],Ab (Env.ofS Tryz.prog [] []) 1000000 aK=true:=by
 intro F
 kernel_rfl
theorem mu (G:Nat→D→D):aK.Valid Tryz.prog G:=Af.val (okE _ []) (w0 G) ph
def Yo:Orc:=
 {f:=284,args:=[(.slice 45 0 4 1),(.func (.func 285) [] [(.ptr 674 0)])],part:=(no y6 (no eU (no (no (no (no .nil (no (no .nil (no (lf (.cells 5 (nd (.int .i64 (.ofNat 0)) AO fF))) .nil)) .nil)) .nil) .nil) .nil))),nx:=675,ok:=true,v:=(.bool true),out:=(no .nil (no ge (no (no (no (no .nil (no (no .nil (no (lf (.cells 5 (nd (.int .i64 (.ofNat 4)) AO fF))) .nil)) .nil)) .nil) .nil) .nil))),nx':=676,wr:=[44,674]}
theorem rp:∀[F:Facts],Ab (Env.ofS Tryz.prog [] []) 1000000 Yo=true:=by
 intro F
 kernel_rfl
theorem qK (G:Nat→D→D):Yo.Valid Tryz.prog G:=Af.val (okE _ []) (w0 G) rp
def Yl:Orc:=
 {f:=282,args:=[(.ptr 44 0)],part:=(no .nil gQ),nx:=678,ok:=true,v:=(.tuple []),out:=.nil,nx':=679,wr:=[]}
theorem oz:∀[F:Facts],Ab (Env.ofS Tryz.prog [] []) 1000000 Yl=true:=by
 intro F
 kernel_rfl
theorem qd (G:Nat→D→D):Yl.Valid Tryz.prog G:=Af.val (okE _ []) (w0 G) oz
def W8:Orc:=
 {f:=284,args:=[(.slice 45 0 4 1),(.func (.func 285) [] [(.ptr 679 0)])],part:=(no (no (no (no .nil (no (no .nil (no (no .nil (no (lf (.cells 5 (nd (.int .i64 (.ofNat 0)) AO (nd (.int .i64 (.ofNat 0)) (lf (.int .i64 (.ofNat 63))) .nil)))) .nil)) .nil)) .nil)) .nil) y5) gQ),nx:=680,ok:=true,v:=(.bool true),out:=(no (no (no (no .nil (no (no .nil (no (no .nil (no (lf (.cells 5 (nd (.int .i64 (.ofNat 2)) AO (nd (.int .i64 (.ofNat 5)) (lf (.int .i64 (.ofNat 63))) .nil)))) .nil)) .nil)) .nil)) .nil) .nil) ZZ),nx':=682,wr:=[44,679]}
theorem qR:∀[F:Facts],Ab (Env.ofS Tryz.prog [] []) 1000000 W8=true:=by
 intro F
 kernel_rfl
theorem lc (G:Nat→D→D):W8.Valid Tryz.prog G:=Af.val (okE _ []) (w0 G) qR
def Wi:Orc:=
 {f:=282,args:=[(.ptr 44 0)],part:=(no .nil ZZ),nx:=684,ok:=true,v:=(.tuple []),out:=.nil,nx':=685,wr:=[]}
theorem rQ:∀[F:Facts],Ab (Env.ofS Tryz.prog [] []) 1000000 Wi=true:=by
 intro F
 kernel_rfl
theorem uC (G:Nat→D→D):Wi.Valid Tryz.prog G:=Af.val (okE _ []) (w0 G) rQ
def Zm:Orc:=
 {f:=284,args:=[(.slice 45 0 4 1),(.func (.func 285) [] [(.ptr 685 0)])],part:=(no (no .nil (no .nil (no .nil (no (nd y1 .nil (no (no .nil (no (lf (.cells 5 (nd (.int .i64 (.ofNat 0)) AO ct))) .nil)) .nil)) .nil)))) ZZ),nx:=686,ok:=true,v:=(.bool true),out:=(no (no .nil (no .nil (no .nil (no (no .nil (no (no .nil (no (lf (.cells 5 (nd (.int .i64 (.ofNat 4)) AO ct))) .nil)) .nil)) .nil)))) db),nx':=687,wr:=[44,685]}
theorem tk:∀[F:Facts],Ab (Env.ofS Tryz.prog [] []) 1000000 Zm=true:=by
 intro F
 kernel_rfl
theorem sK (G:Nat→D→D):Zm.Valid Tryz.prog G:=Af.val (okE _ []) (w0 G) tk
def Xq:Orc:=
 {f:=308,args:=[(.ptr 44 0),(.int .i64 (.ofNat 416)),(.func (.func 319) [] [])],part:=gS,nx:=689,ok:=true,v:=(.int .i64 (.ofNat 1)),out:=f7,nx':=689,wr:=[44]}
theorem oI:∀[F:Facts],Ab (Env.ofS Tryz.prog [] []) 1000000 Xq=true:=by
 intro F
 kernel_rfl
theorem qZ (G:Nat→D→D):Xq.Valid Tryz.prog G:=Af.val (okE _ []) (w0 G) oI
def XX:Orc:=
 {f:=282,args:=[(.ptr 44 0)],part:=gS,nx:=689,ok:=true,v:=(.tuple []),out:=f7,nx':=691,wr:=[44]}
theorem n7:∀[F:Facts],Ab (Env.ofS Tryz.prog [Xq] []) 1000000 XX=true:=by
 intro F
 kernel_rfl
theorem tn (G:Nat→D→D):XX.Valid Tryz.prog G:=Af.val (okE _ []) (.cons (qZ G) (w0 G)) n7
def V0:Orc:=
 {f:=284,args:=[(.slice 45 0 4 1),(.func (.func 285) [] [(.ptr 691 0)])],part:=(no (no (no .nil (no (no .nil (no .nil (no (no .nil (no (lf (.cells 5 (nd (.int .i64 (.ofNat 0)) AO jZ))) .nil)) .nil))) .nil)) y5) jy),nx:=692,ok:=true,v:=(.bool true),out:=(no (no (no .nil (no (no .nil (no .nil (no (no .nil (no (lf (.cells 5 (nd (.int .i64 (.ofNat 1)) AO jZ))) .nil)) .nil))) .nil)) .nil) Xy),nx':=692,wr:=[44,691]}
theorem oB:∀[F:Facts],Ab (Env.ofS Tryz.prog [] []) 1000000 V0=true:=by
 intro F
 kernel_rfl
theorem tI (G:Nat→D→D):V0.Valid Tryz.prog G:=Af.val (okE _ []) (w0 G) oB
def YD:Orc:=
 {f:=282,args:=[(.ptr 44 0)],part:=(no .nil Xy),nx:=694,ok:=true,v:=(.tuple []),out:=.nil,nx':=695,wr:=[]}
theorem uJ:∀[F:Facts],Ab (Env.ofS Tryz.prog [] []) 1000000 YD=true:=by
 intro F
 kernel_rfl
theorem qu (G:Nat→D→D):YD.Valid Tryz.prog G:=Af.val (okE _ []) (w0 G) uJ
def ZW:Orc:=
 {f:=284,args:=[(.slice 45 0 4 1),(.func (.func 285) [] [(.ptr 695 0)])],part:=(no (no (no (no .nil (no .nil (no .nil (no (no .nil (no (lf (.cells 5 (nd (.int .i64 (.ofNat 0)) AO dN))) .nil)) .nil)))) .nil) y5) Xy),nx:=696,ok:=true,v:=(.bool true),out:=(no (no (no (no .nil (no .nil (no .nil (no (no .nil (no (lf (.cells 5 (nd (.int .i64 (.ofNat 4)) AO dN))) .nil)) .nil)))) .nil) .nil) ei),nx':=697,wr:=[44,695]}
theorem oV:∀[F:Facts],Ab (Env.ofS Tryz.prog [] []) 1000000 ZW=true:=by
 intro F
 kernel_rfl
theorem rN (G:Nat→D→D):ZW.Valid Tryz.prog G:=Af.val (okE _ []) (w0 G) oV
def V6:Orc:=
 {f:=308,args:=[(.ptr 44 0),(.int .i64 (.ofNat 416)),(.func (.func 319) [] [])],part:=gj,nx:=699,ok:=true,v:=(.int .i64 (.ofNat 1)),out:=iJ,nx':=699,wr:=[44]}
theorem ti:∀[F:Facts],Ab (Env.ofS Tryz.prog [] []) 1000000 V6=true:=by
 intro F
 kernel_rfl
theorem tc (G:Nat→D→D):V6.Valid Tryz.prog G:=Af.val (okE _ []) (w0 G) ti
def VX:Orc:=
 {f:=282,args:=[(.ptr 44 0)],part:=gj,nx:=699,ok:=true,v:=(.tuple []),out:=iJ,nx':=701,wr:=[44]}
theorem nV:∀[F:Facts],Ab (Env.ofS Tryz.prog [V6] []) 1000000 VX=true:=by
 intro F
 kernel_rfl
theorem qL (G:Nat→D→D):VX.Valid Tryz.prog G:=Af.val (okE _ []) (.cons (tc G) (w0 G)) nV
def VT:Orc:=
 {f:=284,args:=[(.slice 45 0 4 1),(.func (.func 285) [] [(.ptr 701 0)])],part:=(no (no .nil (no .nil (no .nil (no y2 (no .nil (no (no .nil (no (lf (.cells 5 (nd (.int .i64 (.ofNat 0)) AO jA))) .nil)) .nil)))))) fH),nx:=702,ok:=true,v:=(.bool true),out:=(no (no .nil (no .nil (no .nil (no .nil (no .nil (no (no .nil (no (lf (.cells 5 (nd (.int .i64 (.ofNat 4)) AO jA))) .nil)) .nil)))))) cI),nx':=703,wr:=[44,701]}
theorem m8:∀[F:Facts],Ab (Env.ofS Tryz.prog [] []) 1000000 VT=true:=by
 intro F
 kernel_rfl
theorem n5 (G:Nat→D→D):VT.Valid Tryz.prog G:=Af.val (okE _ []) (w0 G) m8
def VV:Orc:=
 {f:=282,args:=[(.ptr 44 0)],part:=(no .nil cI),nx:=705,ok:=true,v:=(.tuple []),out:=.nil,nx':=706,wr:=[]}
theorem mq:∀[F:Facts],Ab (Env.ofS Tryz.prog [] []) 1000000 VV=true:=by
 intro F
 kernel_rfl
theorem qP (G:Nat→D→D):VV.Valid Tryz.prog G:=Af.val (okE _ []) (w0 G) mq
def YQ:Orc:=
 {f:=284,args:=[(.slice 45 0 4 1),(.func (.func 285) [] [(.ptr 706 0)])],part:=(no y6 (no eu (no (no (no (no (no .nil (no .nil (no (lf (.cells 5 (nd (.int .i64 (.ofNat 0)) AO gI))) .nil))) .nil) .nil) .nil) .nil))),nx:=707,ok:=true,v:=(.bool true),out:=(no .nil (no d8 (no (no (no (no (no .nil (no .nil (no (lf (.cells 5 (nd (.int .i64 (.ofNat 4)) AO gI))) .nil))) .nil) .nil) .nil) .nil))),nx':=708,wr:=[44,706]}
theorem mE:∀[F:Facts],Ab (Env.ofS Tryz.prog [] []) 1000000 YQ=true:=by
 intro F
 kernel_rfl
theorem um (G:Nat→D→D):YQ.Valid Tryz.prog G:=Af.val (okE _ []) (w0 G) mE
def WJ:Orc:=
 {f:=308,args:=[(.ptr 44 0),(.int .i64 (.ofNat 416)),(.func (.func 319) [] [])],part:=ib,nx:=710,ok:=true,v:=(.int .i64 (.ofNat 1)),out:=gx,nx':=710,wr:=[44]}
theorem nh:∀[F:Facts],Ab (Env.ofS Tryz.prog [] []) 1000000 WJ=true:=by
 intro F
 kernel_rfl
theorem m3 (G:Nat→D→D):WJ.Valid Tryz.prog G:=Af.val (okE _ []) (w0 G) nh
end Go.Proofs.YtmjeljjkhblgeaaGreatDoor.familyLists

