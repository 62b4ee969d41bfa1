/- What is proved: that certain calls which the law FamilyExamples makes come to the results that are written here (part 4 of 16). Conditions: the memory that such a call reaches is as written here; the kernel runs the evaluator over each. -/
import Derived.Test.YtmjeljjkhblgeaaGreatDoorFamilyExamplesKnownA
import Derived.Test.YtmjeljjkhblgeaaGreatDoorFamilyExamplesKnownC
set_option linter.unusedVariables false
set_option linter.unusedSectionVars false
set_option linter.unusedSimpArgs false
namespace Go.Proofs.YtmjeljjkhblgeaaGreatDoor.familyExamples
open Go.AE
def ct:Orc:=
 {f:=282,args:=[(.ptr 44 0)],part:=m9,nx:=450,ok:=true,v:=(.tuple []),out:=mA,nx':=452,wr:=[44]}
theorem u7:∀[F:Facts],Ab (Env.ofS Tryz.prog [aG] []) 1000000 ct=true:=by
 intro F
 kernel_rfl
theorem Abp (G:Nat→D→D):ct.Valid Tryz.prog G:=Ad.val (okE _ []) (.cons (vF G) (w0 G)) u7
def cr:Orc:=
 {f:=284,args:=[(.slice 45 0 4 1),(.func (.func 285) [] [(.ptr 452 0)])],part:=(no y6 (no (no .nil (no (no (no (no .nil (no .nil (lf (.cells 5 (nd (.int .i64 (.ofNat 0)) Hs y19))))) .nil) .nil) fe)) .nil)),nx:=453,ok:=true,v:=(.bool true),out:=(no .nil (no (no .nil (no (no (no (no .nil (no .nil (lf (.cells 5 (nd (.int .i64 (.ofNat 2)) Hs y19))))) .nil) .nil) en)) .nil)),nx':=455,wr:=[44,452]}
theorem wd:∀[F:Facts],Ab (Env.ofS Tryz.prog [] []) 1000000 cr=true:=by
 intro F
 kernel_rfl
theorem rx (G:Nat→D→D):cr.Valid Tryz.prog G:=Ad.val (okE _ []) (w0 G) wd
def aE:Orc:=
 {f:=308,args:=[(.ptr 44 0),(.int .i64 (.ofNat 416)),(.func (.func 319) [] [])],part:=mj,nx:=457,ok:=true,v:=(.int .i64 (.ofNat 1)),out:=fI,nx':=457,wr:=[44]}
theorem Abi:∀[F:Facts],Ab (Env.ofS Tryz.prog [] []) 1000000 aE=true:=by
 intro F
 kernel_rfl
theorem wU (G:Nat→D→D):aE.Valid Tryz.prog G:=Ad.val (okE _ []) (w0 G) Abi
def YU:Orc:=
 {f:=282,args:=[(.ptr 44 0)],part:=mj,nx:=457,ok:=true,v:=(.tuple []),out:=fI,nx':=459,wr:=[44]}
theorem vQ:∀[F:Facts],Ab (Env.ofS Tryz.prog [aE] []) 1000000 YU=true:=by
 intro F
 kernel_rfl
theorem Aal (G:Nat→D→D):YU.Valid Tryz.prog G:=Ad.val (okE _ []) (.cons (wU G) (w0 G)) vQ
def cC:Orc:=
 {f:=284,args:=[(.slice 45 0 4 1),(.func (.func 285) [] [(.ptr 459 0)])],part:=(no (no (no .nil (no .nil (no (no (no .nil (no .nil (lf (.cells 5 (nd (.int .i64 (.ofNat 0)) Hs y94))))) .nil) .nil))) y5) jQ),nx:=460,ok:=true,v:=(.bool true),out:=(no (no (no .nil (no .nil (no (no (no .nil (no .nil (lf (.cells 5 (nd (.int .i64 (.ofNat 1)) Hs y94))))) .nil) .nil))) .nil) pu),nx':=460,wr:=[44,459]}
theorem rT:∀[F:Facts],Ab (Env.ofS Tryz.prog [] []) 1000000 cC=true:=by
 intro F
 kernel_rfl
theorem Aar (G:Nat→D→D):cC.Valid Tryz.prog G:=Ad.val (okE _ []) (w0 G) rT
def bj:Orc:=
 {f:=308,args:=[(.ptr 44 0),(.int .i64 (.ofNat 416)),(.func (.func 319) [] [])],part:=fW,nx:=462,ok:=true,v:=(.int .i64 (.ofNat 1)),out:=kT,nx':=462,wr:=[44]}
theorem xj:∀[F:Facts],Ab (Env.ofS Tryz.prog [] []) 1000000 bj=true:=by
 intro F
 kernel_rfl
theorem zW (G:Nat→D→D):bj.Valid Tryz.prog G:=Ad.val (okE _ []) (w0 G) xj
def cH:Orc:=
 {f:=282,args:=[(.ptr 44 0)],part:=fW,nx:=462,ok:=true,v:=(.tuple []),out:=kT,nx':=464,wr:=[44]}
theorem Abd:∀[F:Facts],Ab (Env.ofS Tryz.prog [bj] []) 1000000 cH=true:=by
 intro F
 kernel_rfl
theorem wL (G:Nat→D→D):cH.Valid Tryz.prog G:=Ad.val (okE _ []) (.cons (zW G) (w0 G)) Abd
def cz:Orc:=
 {f:=284,args:=[(.slice 45 0 4 1),(.func (.func 285) [] [(.ptr 464 0)])],part:=(no y6 (no (no (no (no .nil (no (no .nil (no .nil (lf (.cells 5 (nd (.int .i64 (.ofNat 0)) Hs y53))))) .nil)) .nil) dW) .nil)),nx:=465,ok:=true,v:=(.bool true),out:=(no .nil (no (no (no (no .nil (no (no .nil (no .nil (lf (.cells 5 (nd (.int .i64 (.ofNat 2)) Hs (nd (.int .i64 (.ofNat 200)) (lf (.int .i64 (.ofNat 23))) .nil)))))) .nil)) .nil) fq) .nil)),nx':=467,wr:=[44,464]}
theorem re:∀[F:Facts],Ab (Env.ofS Tryz.prog [] []) 1000000 cz=true:=by
 intro F
 kernel_rfl
theorem qV (G:Nat→D→D):cz.Valid Tryz.prog G:=Ad.val (okE _ []) (w0 G) re
def Yf:Orc:=
 {f:=282,args:=[(.ptr 44 0)],part:=(no .nil (no oD .nil)),nx:=469,ok:=true,v:=(.tuple []),out:=.nil,nx':=470,wr:=[]}
theorem wz:∀[F:Facts],Ab (Env.ofS Tryz.prog [] []) 1000000 Yf=true:=by
 intro F
 kernel_rfl
theorem xV (G:Nat→D→D):Yf.Valid Tryz.prog G:=Ad.val (okE _ []) (w0 G) wz
def X4:Orc:=
 {f:=284,args:=[(.slice 45 0 4 1),(.func (.func 285) [] [(.ptr 470 0)])],part:=(no y6 (no oD (no .nil (no (no .nil (no (no .nil (no .nil (lf (.cells 5 (nd (.int .i64 (.ofNat 0)) Hs fR))))) .nil)) .nil)))),nx:=471,ok:=true,v:=(.bool true),out:=(no .nil (no lQ (no .nil (no (no .nil (no (no .nil (no .nil (lf (.cells 5 (nd (.int .i64 (.ofNat 4)) Hs fR))))) .nil)) .nil)))),nx':=472,wr:=[44,470]}
theorem wD:∀[F:Facts],Ab (Env.ofS Tryz.prog [] []) 1000000 X4=true:=by
 intro F
 kernel_rfl
theorem yB (G:Nat→D→D):X4.Valid Tryz.prog G:=Ad.val (okE _ []) (w0 G) wD
def WG:Orc:=
 {f:=308,args:=[(.ptr 44 0),(.int .i64 (.ofNat 416)),(.func (.func 319) [] [])],part:=n9,nx:=474,ok:=true,v:=(.int .i64 (.ofNat 1)),out:=oZ,nx':=474,wr:=[44]}
theorem yy:∀[F:Facts],Ab (Env.ofS Tryz.prog [] []) 1000000 WG=true:=by
 intro F
 kernel_rfl
theorem wv (G:Nat→D→D):WG.Valid Tryz.prog G:=Ad.val (okE _ []) (w0 G) yy
def ca:Orc:=
 {f:=282,args:=[(.ptr 44 0)],part:=n9,nx:=474,ok:=true,v:=(.tuple []),out:=oZ,nx':=476,wr:=[44]}
theorem uK:∀[F:Facts],Ab (Env.ofS Tryz.prog [WG] []) 1000000 ca=true:=by
 intro F
 kernel_rfl
theorem rh (G:Nat→D→D):ca.Valid Tryz.prog G:=Ad.val (okE _ []) (.cons (wv G) (w0 G)) uK
def bh:Orc:=
 {f:=284,args:=[(.slice 45 0 4 1),(.func (.func 285) [] [(.ptr 476 0)])],part:=(no y6 (no (no .nil (no .nil (no jz (no (no .nil (no .nil (lf (.cells 5 (nd (.int .i64 (.ofNat 0)) dh y59))))) .nil)))) .nil)),nx:=477,ok:=true,v:=(.bool true),out:=(no .nil (no (no .nil (no .nil (no oC (no (no .nil (no .nil (lf (.cells 5 (nd (.int .i64 (.ofNat 4)) dh y59))))) .nil)))) .nil)),nx':=478,wr:=[44,476]}
theorem vI:∀[F:Facts],Ab (Env.ofS Tryz.prog [] []) 1000000 bh=true:=by
 intro F
 kernel_rfl
theorem vp (G:Nat→D→D):bh.Valid Tryz.prog G:=Ad.val (okE _ []) (w0 G) vI
def YT:Orc:=
 {f:=308,args:=[(.ptr 44 0),(.int .i64 (.ofNat 416)),(.func (.func 319) [] [])],part:=nH,nx:=480,ok:=true,v:=(.int .i64 (.ofNat 1)),out:=iy,nx':=480,wr:=[44]}
theorem rn:∀[F:Facts],Ab (Env.ofS Tryz.prog [] []) 1000000 YT=true:=by
 intro F
 kernel_rfl
theorem wp (G:Nat→D→D):YT.Valid Tryz.prog G:=Ad.val (okE _ []) (w0 G) rn
def ZP:Orc:=
 {f:=282,args:=[(.ptr 44 0)],part:=nH,nx:=480,ok:=true,v:=(.tuple []),out:=iy,nx':=482,wr:=[44]}
theorem tg:∀[F:Facts],Ab (Env.ofS Tryz.prog [YT] []) 1000000 ZP=true:=by
 intro F
 kernel_rfl
theorem zm (G:Nat→D→D):ZP.Valid Tryz.prog G:=Ad.val (okE _ []) (.cons (wp G) (w0 G)) tg
def WQ:Orc:=
 {f:=284,args:=[(.slice 45 0 4 1),(.func (.func 285) [] [(.ptr 482 0)])],part:=(no y6 (no lm (no (no (no (no .nil (no .nil (no .nil (lf (.cells 5 (nd (.int .i64 (.ofNat 0)) QW y59)))))) .nil) .nil) .nil))),nx:=483,ok:=true,v:=(.bool true),out:=(no .nil (no nT (no (no (no (no .nil (no .nil (no .nil (lf (.cells 5 (nd (.int .i64 (.ofNat 1)) QW y59)))))) .nil) .nil) .nil))),nx':=483,wr:=[44,482]}
theorem sI:∀[F:Facts],Ab (Env.ofS Tryz.prog [] []) 1000000 WQ=true:=by
 intro F
 kernel_rfl
theorem xx (G:Nat→D→D):WQ.Valid Tryz.prog G:=Ad.val (okE _ []) (w0 G) sI
def WE:Orc:=
 {f:=308,args:=[(.ptr 44 0),(.int .i64 (.ofNat 416)),(.func (.func 319) [] [])],part:=i7,nx:=485,ok:=true,v:=(.int .i64 (.ofNat 1)),out:=lD,nx':=485,wr:=[44]}
theorem sL:∀[F:Facts],Ab (Env.ofS Tryz.prog [] []) 1000000 WE=true:=by
 intro F
 kernel_rfl
theorem wZ (G:Nat→D→D):WE.Valid Tryz.prog G:=Ad.val (okE _ []) (w0 G) sL
def Zy:Orc:=
 {f:=282,args:=[(.ptr 44 0)],part:=i7,nx:=485,ok:=true,v:=(.tuple []),out:=lD,nx':=487,wr:=[44]}
theorem Abt:∀[F:Facts],Ab (Env.ofS Tryz.prog [WE] []) 1000000 Zy=true:=by
 intro F
 kernel_rfl
theorem uL (G:Nat→D→D):Zy.Valid Tryz.prog G:=Ad.val (okE _ []) (.cons (wZ G) (w0 G)) Abt
def ZF:Orc:=
 {f:=284,args:=[(.slice 45 0 4 1),(.func (.func 285) [] [(.ptr 487 0)])],part:=(no (no (no (no .nil (no (no .nil (no .nil (no .nil (lf (.cells 5 (nd (.int .i64 (.ofNat 0)) QW y8)))))) .nil)) .nil) y5) dg),nx:=488,ok:=true,v:=(.bool true),out:=(no (no (no (no .nil (no (no .nil (no .nil (no .nil (lf (.cells 5 (nd (.int .i64 (.ofNat 1)) QW y8)))))) .nil)) .nil) .nil) dG),nx':=488,wr:=[44,487]}
theorem un:∀[F:Facts],Ab (Env.ofS Tryz.prog [] []) 1000000 ZF=true:=by
 intro F
 kernel_rfl
theorem pT (G:Nat→D→D):ZF.Valid Tryz.prog G:=Ad.val (okE _ []) (w0 G) un
def YN:Orc:=
 {f:=308,args:=[(.ptr 44 0),(.int .i64 (.ofNat 416)),(.func (.func 319) [] [])],part:=dT,nx:=490,ok:=true,v:=(.int .i64 (.ofNat 1)),out:=jE,nx':=490,wr:=[44]}
theorem Abg:∀[F:Facts],Ab (Env.ofS Tryz.prog [] []) 1000000 YN=true:=by
 intro F
 kernel_rfl
theorem vw (G:Nat→D→D):YN.Valid Tryz.prog G:=Ad.val (okE _ []) (w0 G) Abg
def XN:Orc:=
 {f:=282,args:=[(.ptr 44 0)],part:=dT,nx:=490,ok:=true,v:=(.tuple []),out:=jE,nx':=492,wr:=[44]}
theorem vR:∀[F:Facts],Ab (Env.ofS Tryz.prog [YN] []) 1000000 XN=true:=by
 intro F
 kernel_rfl
theorem vz (G:Nat→D→D):XN.Valid Tryz.prog G:=Ad.val (okE _ []) (.cons (vw G) (w0 G)) vR
def WV:Orc:=
 {f:=284,args:=[(.slice 45 0 4 1),(.func (.func 285) [] [(.ptr 492 0)])],part:=(no y6 (no (no .nil (no .nil (no (nd gd .nil (no .nil (no .nil (lf (.cells 5 (nd (.int .i64 (.ofNat 0)) QW y88)))))) .nil))) .nil)),nx:=493,ok:=true,v:=(.bool true),out:=(no .nil (no (no .nil (no .nil (no (nd kx .nil (no .nil (no .nil (lf (.cells 5 (nd (.int .i64 (.ofNat 4)) QW y88)))))) .nil))) .nil)),nx':=494,wr:=[44,492]}
theorem s7:∀[F:Facts],Ab (Env.ofS Tryz.prog [] []) 1000000 WV=true:=by
 intro F
 kernel_rfl
theorem rH (G:Nat→D→D):WV.Valid Tryz.prog G:=Ad.val (okE _ []) (w0 G) s7
def Xm:Orc:=
 {f:=308,args:=[(.ptr 44 0),(.int .i64 (.ofNat 416)),(.func (.func 319) [] [])],part:=jI,nx:=496,ok:=true,v:=(.int .i64 (.ofNat 3)),out:=dF,nx':=496,wr:=[44]}
theorem v6:∀[F:Facts],Ab (Env.ofS Tryz.prog [] []) 1000000 Xm=true:=by
 intro F
 kernel_rfl
theorem wP (G:Nat→D→D):Xm.Valid Tryz.prog G:=Ad.val (okE _ []) (w0 G) v6
def XA:Orc:=
 {f:=282,args:=[(.ptr 44 0)],part:=jI,nx:=496,ok:=true,v:=(.tuple []),out:=dF,nx':=498,wr:=[44]}
theorem yd:∀[F:Facts],Ab (Env.ofS Tryz.prog [Xm] []) 1000000 XA=true:=by
 intro F
 kernel_rfl
theorem zY (G:Nat→D→D):XA.Valid Tryz.prog G:=Ad.val (okE _ []) (.cons (wP G) (w0 G)) yd
def au:Orc:=
 {f:=284,args:=[(.slice 45 0 4 1),(.func (.func 285) [] [(.ptr 498 0)])],part:=(no y6 (no m7 (no (no (no .nil (no .nil (no .nil (no .nil (lf (.cells 5 (nd (.int .i64 (.ofNat 0)) FX y32))))))) .nil) .nil))),nx:=499,ok:=true,v:=(.bool true),out:=(no .nil (no XU (no (no (no .nil (no .nil (no .nil (no .nil (lf (.cells 5 (nd (.int .i64 (.ofNat 1)) FX y32))))))) .nil) .nil))),nx':=499,wr:=[44,498]}
theorem zo:∀[F:Facts],Ab (Env.ofS Tryz.prog [] []) 1000000 au=true:=by
 intro F
 kernel_rfl
theorem sB (G:Nat→D→D):au.Valid Tryz.prog G:=Ad.val (okE _ []) (w0 G) zo
def b7:Orc:=
 {f:=282,args:=[(.ptr 44 0)],part:=(no .nil (no XU .nil)),nx:=501,ok:=true,v:=(.tuple []),out:=.nil,nx':=502,wr:=[]}
theorem zM:∀[F:Facts],Ab (Env.ofS Tryz.prog [] []) 1000000 b7=true:=by
 intro F
 kernel_rfl
theorem zR (G:Nat→D→D):b7.Valid Tryz.prog G:=Ad.val (okE _ []) (w0 G) zM
def Z4:Orc:=
 {f:=284,args:=[(.slice 45 0 4 1),(.func (.func 285) [] [(.ptr 502 0)])],part:=(no y6 (no XU (no .nil (no (no .nil (no .nil (no .nil (no .nil (lf (.cells 5 (nd (.int .i64 (.ofNat 0)) FX dk))))))) .nil)))),nx:=503,ok:=true,v:=(.bool true),out:=(no .nil (no gJ (no .nil (no (no .nil (no .nil (no .nil (no .nil (lf (.cells 5 (nd (.int .i64 (.ofNat 4)) FX dk))))))) .nil)))),nx':=504,wr:=[44,502]}
theorem wF:∀[F:Facts],Ab (Env.ofS Tryz.prog [] []) 1000000 Z4=true:=by
 intro F
 kernel_rfl
theorem Aao (G:Nat→D→D):Z4.Valid Tryz.prog G:=Ad.val (okE _ []) (w0 G) wF
def ZM:Orc:=
 {f:=308,args:=[(.ptr 44 0),(.int .i64 (.ofNat 416)),(.func (.func 319) [] [])],part:=gp,nx:=506,ok:=true,v:=(.int .i64 (.ofNat 1)),out:=lY,nx':=506,wr:=[44]}
theorem tl:∀[F:Facts],Ab (Env.ofS Tryz.prog [] []) 1000000 ZM=true:=by
 intro F
 kernel_rfl
theorem Aae (G:Nat→D→D):ZM.Valid Tryz.prog G:=Ad.val (okE _ []) (w0 G) tl
def YD:Orc:=
 {f:=282,args:=[(.ptr 44 0)],part:=gp,nx:=506,ok:=true,v:=(.tuple []),out:=lY,nx':=508,wr:=[44]}
theorem rG:∀[F:Facts],Ab (Env.ofS Tryz.prog [ZM] []) 1000000 YD=true:=by
 intro F
 kernel_rfl
theorem Aat (G:Nat→D→D):YD.Valid Tryz.prog G:=Ad.val (okE _ []) (.cons (Aae G) (w0 G)) rG
def Xs:Orc:=
 {f:=284,args:=[(.slice 45 0 4 1),(.func (.func 285) [] [(.ptr 508 0)])],part:=(no y6 (no (no .nil (no .nil (no ol (no .nil (no .nil (no .nil (lf (.cells 5 (nd (.int .i64 (.ofNat 0)) FX y34))))))))) .nil)),nx:=509,ok:=true,v:=(.bool true),out:=(no .nil (no (no .nil (no .nil (no jX (no .nil (no .nil (no .nil (lf (.cells 5 (nd (.int .i64 (.ofNat 1)) FX y34))))))))) .nil)),nx':=509,wr:=[44,508]}
theorem t9:∀[F:Facts],Ab (Env.ofS Tryz.prog [] []) 1000000 Xs=true:=by
 intro F
 kernel_rfl
theorem rA (G:Nat→D→D):Xs.Valid Tryz.prog G:=Ad.val (okE _ []) (w0 G) t9
def ZV:Orc:=
 {f:=308,args:=[(.ptr 44 0),(.int .i64 (.ofNat 416)),(.func (.func 319) [] [])],part:=oJ,nx:=511,ok:=true,v:=(.int .i64 (.ofNat 1)),out:=eD,nx':=511,wr:=[44]}
theorem v9:∀[F:Facts],Ab (Env.ofS Tryz.prog [] []) 1000000 ZV=true:=by
 intro F
 kernel_rfl
theorem vg (G:Nat→D→D):ZV.Valid Tryz.prog G:=Ad.val (okE _ []) (w0 G) v9
def W4:Orc:=
 {f:=282,args:=[(.ptr 44 0)],part:=oJ,nx:=511,ok:=true,v:=(.tuple []),out:=eD,nx':=513,wr:=[44]}
theorem yf:∀[F:Facts],Ab (Env.ofS Tryz.prog [ZV] []) 1000000 W4=true:=by
 intro F
 kernel_rfl
theorem qH (G:Nat→D→D):W4.Valid Tryz.prog G:=Ad.val (okE _ []) (.cons (vg G) (w0 G)) yf
def WO:Orc:=
 {f:=284,args:=[(.slice 45 0 4 1),(.func (.func 285) [] [(.ptr 513 0)])],part:=(no (no .nil (no (no (no (no (no (no (no (lf (.cells 5 (nd (.int .i64 (.ofNat 0)) FX j8))) .nil) .nil) .nil) .nil) .nil) .nil) y4)) dJ),nx:=514,ok:=true,v:=(.bool true),out:=(no (no .nil (no (no (no (no (no (no (no (lf (.cells 5 (nd (.int .i64 (.ofNat 2)) FX (nd (.int .i64 (.ofNat 16)) (lf (.int .i64 (.ofNat 12))) .nil)))) .nil) .nil) .nil) .nil) .nil) .nil) .nil)) oz),nx':=516,wr:=[44,513]}
theorem sS:∀[F:Facts],Ab (Env.ofS Tryz.prog [] []) 1000000 WO=true:=by
 intro F
 kernel_rfl
theorem rZ (G:Nat→D→D):WO.Valid Tryz.prog G:=Ad.val (okE _ []) (w0 G) sS
def XC:Orc:=
 {f:=308,args:=[(.ptr 44 0),(.int .i64 (.ofNat 416)),(.func (.func 319) [] [])],part:=oR,nx:=518,ok:=true,v:=(.int .i64 (.ofNat 1)),out:=n4,nx':=518,wr:=[44]}
theorem qa:∀[F:Facts],Ab (Env.ofS Tryz.prog [] []) 1000000 XC=true:=by
 intro F
 kernel_rfl
theorem uQ (G:Nat→D→D):XC.Valid Tryz.prog G:=Ad.val (okE _ []) (w0 G) qa
def Yc:Orc:=
 {f:=282,args:=[(.ptr 44 0)],part:=oR,nx:=518,ok:=true,v:=(.tuple []),out:=n4,nx':=520,wr:=[44]}
theorem Aaq:∀[F:Facts],Ab (Env.ofS Tryz.prog [XC] []) 1000000 Yc=true:=by
 intro F
 kernel_rfl
theorem ya (G:Nat→D→D):Yc.Valid Tryz.prog G:=Ad.val (okE _ []) (.cons (uQ G) (w0 G)) Aaq
def Zz:Orc:=
 {f:=284,args:=[(.slice 45 0 4 1),(.func (.func 285) [] [(.ptr 520 0)])],part:=(no y6 (no (no (no .nil (no (no (no (no (no (lf (.cells 5 (nd (.int .i64 (.ofNat 0)) FX y14))) .nil) .nil) .nil) .nil) .nil)) mB) .nil)),nx:=521,ok:=true,v:=(.bool true),out:=(no .nil (no (no (no .nil (no (no (no (no (no (lf (.cells 5 (nd (.int .i64 (.ofNat 2)) FX (nd (.int .i64 (.ofNat 1)) (lf (.int .i64 (.ofNat 15))) .nil)))) .nil) .nil) .nil) .nil) .nil)) pD) .nil)),nx':=523,wr:=[44,520]}
theorem zq:∀[F:Facts],Ab (Env.ofS Tryz.prog [] []) 1000000 Zz=true:=by
 intro F
 kernel_rfl
theorem wy (G:Nat→D→D):Zz.Valid Tryz.prog G:=Ad.val (okE _ []) (w0 G) zq
def Yk:Orc:=
 {f:=282,args:=[(.ptr 44 0)],part:=(no .nil (no fG .nil)),nx:=525,ok:=true,v:=(.tuple []),out:=.nil,nx':=526,wr:=[]}
theorem xp:∀[F:Facts],Ab (Env.ofS Tryz.prog [] []) 1000000 Yk=true:=by
 intro F
 kernel_rfl
theorem yz (G:Nat→D→D):Yk.Valid Tryz.prog G:=Ad.val (okE _ []) (w0 G) xp
def XE:Orc:=
 {f:=284,args:=[(.slice 45 0 4 1),(.func (.func 285) [] [(.ptr 526 0)])],part:=(no y6 (no fG (no .nil (no .nil (no (no (no (no (no (lf (.cells 5 (nd (.int .i64 (.ofNat 0)) FX y88))) .nil) .nil) .nil) .nil) .nil))))),nx:=527,ok:=true,v:=(.bool true),out:=(no .nil (no nI (no .nil (no .nil (no (no (no (no (no (lf (.cells 5 (nd (.int .i64 (.ofNat 4)) FX y88))) .nil) .nil) .nil) .nil) .nil))))),nx':=528,wr:=[44,526]}
theorem zQ:∀[F:Facts],Ab (Env.ofS Tryz.prog [] []) 1000000 XE=true:=by
 intro F
 kernel_rfl
theorem zA (G:Nat→D→D):XE.Valid Tryz.prog G:=Ad.val (okE _ []) (w0 G) zQ
def Y0:Orc:=
 {f:=282,args:=[(.ptr 44 0)],part:=(no .nil mJ),nx:=530,ok:=true,v:=(.tuple []),out:=.nil,nx':=531,wr:=[]}
theorem wg:∀[F:Facts],Ab (Env.ofS Tryz.prog [] []) 1000000 Y0=true:=by
 intro F
 kernel_rfl
theorem qL (G:Nat→D→D):Y0.Valid Tryz.prog G:=Ad.val (okE _ []) (w0 G) wg
def Z6:Orc:=
 {f:=284,args:=[(.slice 45 0 4 1),(.func (.func 285) [] [(.ptr 531 0)])],part:=(no (no (no .nil (no (no .nil (no (no (no (no (lf (.cells 5 (nd (.int .i64 (.ofNat 0)) FX SV))) .nil) .nil) .nil) .nil)) .nil)) y5) mJ),nx:=532,ok:=true,v:=(.bool true),out:=(no (no (no .nil (no (no .nil (no (no (no (no (lf (.cells 5 (nd (.int .i64 (.ofNat 2)) FX (nd (.int .i64 (.ofNat 5)) (lf (.int .i64 (.ofNat 18))) .nil)))) .nil) .nil) .nil) .nil)) .nil)) .nil) W6),nx':=534,wr:=[44,531]}
theorem vm:∀[F:Facts],Ab (Env.ofS Tryz.prog [] []) 1000000 Z6=true:=by
 intro F
 kernel_rfl
theorem xL (G:Nat→D→D):Z6.Valid Tryz.prog G:=Ad.val (okE _ []) (w0 G) vm
def YW:Orc:=
 {f:=282,args:=[(.ptr 44 0)],part:=(no .nil W6),nx:=536,ok:=true,v:=(.tuple []),out:=.nil,nx':=537,wr:=[]}
theorem xm:∀[F:Facts],Ab (Env.ofS Tryz.prog [] []) 1000000 YW=true:=by
 intro F
 kernel_rfl
theorem rl (G:Nat→D→D):YW.Valid Tryz.prog G:=Ad.val (okE _ []) (w0 G) xm
def Xg:Orc:=
 {f:=284,args:=[(.slice 45 0 4 1),(.func (.func 285) [] [(.ptr 537 0)])],part:=(no (no .nil (no (no .nil (no .nil (no (no (no (no (lf (.cells 5 (nd (.int .i64 (.ofNat 0)) FX y94))) .nil) .nil) .nil) .nil))) y4)) W6),nx:=538,ok:=true,v:=(.bool true),out:=(no (no .nil (no (no .nil (no .nil (no (no (no (no (lf (.cells 5 (nd (.int .i64 (.ofNat 4)) FX y94))) .nil) .nil) .nil) .nil))) .nil)) oS),nx':=539,wr:=[44,537]}
theorem Aam:∀[F:Facts],Ab (Env.ofS Tryz.prog [] []) 1000000 Xg=true:=by
 intro F
 kernel_rfl
theorem uq (G:Nat→D→D):Xg.Valid Tryz.prog G:=Ad.val (okE _ []) (w0 G) Aam
def Xx:Orc:=
 {f:=308,args:=[(.ptr 44 0),(.int .i64 (.ofNat 416)),(.func (.func 319) [] [])],part:=j6,nx:=541,ok:=true,v:=(.int .i64 (.ofNat 3)),out:=iG,nx':=541,wr:=[44]}
theorem qN:∀[F:Facts],Ab (Env.ofS Tryz.prog [] []) 1000000 Xx=true:=by
 intro F
 kernel_rfl
theorem vY (G:Nat→D→D):Xx.Valid Tryz.prog G:=Ad.val (okE _ []) (w0 G) qN
def ag:Orc:=
 {f:=282,args:=[(.ptr 44 0)],part:=j6,nx:=541,ok:=true,v:=(.tuple []),out:=iG,nx':=543,wr:=[44]}
theorem zf:∀[F:Facts],Ab (Env.ofS Tryz.prog [Xx] []) 1000000 ag=true:=by
 intro F
 kernel_rfl
theorem wV (G:Nat→D→D):ag.Valid Tryz.prog G:=Ad.val (okE _ []) (.cons (vY G) (w0 G)) zf
def X7:Orc:=
 {f:=284,args:=[(.slice 45 0 4 1),(.func (.func 285) [] [(.ptr 543 0)])],part:=(no (no (no (no (no (no .nil (no (no (no (lf (.cells 5 (nd (.int .i64 (.ofNat 0)) AN y32))) .nil) .nil) .nil)) .nil) .nil) .nil) y5) jA),nx:=544,ok:=true,v:=(.bool true),out:=(no (no (no (no (no (no .nil (no (no (no (lf (.cells 5 (nd (.int .i64 (.ofNat 1)) AN y32))) .nil) .nil) .nil)) .nil) .nil) .nil) .nil) WD),nx':=544,wr:=[44,543]}
theorem vf:∀[F:Facts],Ab (Env.ofS Tryz.prog [] []) 1000000 X7=true:=by
 intro F
 kernel_rfl
theorem Abs (G:Nat→D→D):X7.Valid Tryz.prog G:=Ad.val (okE _ []) (w0 G) vf
def bo:Orc:=
 {f:=282,args:=[(.ptr 44 0)],part:=(no .nil WD),nx:=546,ok:=true,v:=(.tuple []),out:=.nil,nx':=547,wr:=[]}
theorem wE:∀[F:Facts],Ab (Env.ofS Tryz.prog [] []) 1000000 bo=true:=by
 intro F
 kernel_rfl
theorem ta (G:Nat→D→D):bo.Valid Tryz.prog G:=Ad.val (okE _ []) (w0 G) wE
def az:Orc:=
 {f:=284,args:=[(.slice 45 0 4 1),(.func (.func 285) [] [(.ptr 547 0)])],part:=(no (no (no .nil (no (no (no .nil (no (no (no (lf (.cells 5 (nd (.int .i64 (.ofNat 0)) AN y34))) .nil) .nil) .nil)) .nil) .nil)) y5) WD),nx:=548,ok:=true,v:=(.bool true),out:=(no (no (no .nil (no (no (no .nil (no (no (no (lf (.cells 5 (nd (.int .i64 (.ofNat 4)) AN y34))) .nil) .nil) .nil)) .nil) .nil)) .nil) gv),nx':=549,wr:=[44,547]}
theorem ut:∀[F:Facts],Ab (Env.ofS Tryz.prog [] []) 1000000 az=true:=by
 intro F
 kernel_rfl
theorem Aa7 (G:Nat→D→D):az.Valid Tryz.prog G:=Ad.val (okE _ []) (w0 G) ut
def ZU:Orc:=
 {f:=308,args:=[(.ptr 44 0),(.int .i64 (.ofNat 416)),(.func (.func 319) [] [])],part:=d9,nx:=551,ok:=true,v:=(.int .i64 (.ofNat 1)),out:=pJ,nx':=551,wr:=[44]}
theorem xF:∀[F:Facts],Ab (Env.ofS Tryz.prog [] []) 1000000 ZU=true:=by
 intro F
 kernel_rfl
theorem pW (G:Nat→D→D):ZU.Valid Tryz.prog G:=Ad.val (okE _ []) (w0 G) xF
def Y7:Orc:=
 {f:=282,args:=[(.ptr 44 0)],part:=d9,nx:=551,ok:=true,v:=(.tuple []),out:=pJ,nx':=553,wr:=[44]}
theorem yV:∀[F:Facts],Ab (Env.ofS Tryz.prog [ZU] []) 1000000 Y7=true:=by
 intro F
 kernel_rfl
theorem sC (G:Nat→D→D):Y7.Valid Tryz.prog G:=Ad.val (okE _ []) (.cons (pW G) (w0 G)) yV
def YZ:Orc:=
 {f:=284,args:=[(.slice 45 0 4 1),(.func (.func 285) [] [(.ptr 553 0)])],part:=(no (no .nil (no (no .nil (no (no .nil (no (no (no (lf (.cells 5 (nd (.int .i64 (.ofNat 0)) AN y8))) .nil) .nil) .nil)) .nil)) y4)) my),nx:=554,ok:=true,v:=(.bool true),out:=(no (no .nil (no (no .nil (no (no .nil (no (no (no (lf (.cells 5 (nd (.int .i64 (.ofNat 1)) AN y8))) .nil) .nil) .nil)) .nil)) .nil)) gL),nx':=554,wr:=[44,553]}
theorem qF:∀[F:Facts],Ab (Env.ofS Tryz.prog [] []) 1000000 YZ=true:=by
 intro F
 kernel_rfl
theorem yT (G:Nat→D→D):YZ.Valid Tryz.prog G:=Ad.val (okE _ []) (w0 G) qF
def W9:Orc:=
 {f:=308,args:=[(.ptr 44 0),(.int .i64 (.ofNat 416)),(.func (.func 319) [] [])],part:=kH,nx:=556,ok:=true,v:=(.int .i64 (.ofNat 1)),out:=lA,nx':=556,wr:=[44]}
theorem uj:∀[F:Facts],Ab (Env.ofS Tryz.prog [] []) 1000000 W9=true:=by
 intro F
 kernel_rfl
theorem xn (G:Nat→D→D):W9.Valid Tryz.prog G:=Ad.val (okE _ []) (w0 G) uj
def bL:Orc:=
 {f:=282,args:=[(.ptr 44 0)],part:=kH,nx:=556,ok:=true,v:=(.tuple []),out:=lA,nx':=558,wr:=[44]}
theorem qC:∀[F:Facts],Ab (Env.ofS Tryz.prog [W9] []) 1000000 bL=true:=by
 intro F
 kernel_rfl
theorem wS (G:Nat→D→D):bL.Valid Tryz.prog G:=Ad.val (okE _ []) (.cons (xn G) (w0 G)) qC
def Wx:Orc:=
 {f:=284,args:=[(.slice 45 0 4 1),(.func (.func 285) [] [(.ptr 558 0)])],part:=(no y6 (no nA (no .nil (no .nil (no (no .nil (no (no (no (lf (.cells 5 (nd (.int .i64 (.ofNat 0)) AN y88))) .nil) .nil) .nil)) .nil))))),nx:=559,ok:=true,v:=(.bool true),out:=(no .nil (no g9 (no .nil (no .nil (no (no .nil (no (no (no (lf (.cells 5 (nd (.int .i64 (.ofNat 1)) AN y88))) .nil) .nil) .nil)) .nil))))),nx':=559,wr:=[44,558]}
theorem z5:∀[F:Facts],Ab (Env.ofS Tryz.prog [] []) 1000000 Wx=true:=by
 intro F
 kernel_rfl
theorem uN (G:Nat→D→D):Wx.Valid Tryz.prog G:=Ad.val (okE _ []) (w0 G) z5
def Yw:Orc:=
 {f:=308,args:=[(.ptr 44 0),(.int .i64 (.ofNat 416)),(.func (.func 319) [] [])],part:=nB,nx:=561,ok:=true,v:=(.int .i64 (.ofNat 1)),out:=lW,nx':=561,wr:=[44]}
theorem wN:∀[F:Facts],Ab (Env.ofS Tryz.prog [] []) 1000000 Yw=true:=by
 intro F
 kernel_rfl
theorem yR (G:Nat→D→D):Yw.Valid Tryz.prog G:=Ad.val (okE _ []) (w0 G) wN
def XL:Orc:=
 {f:=282,args:=[(.ptr 44 0)],part:=nB,nx:=561,ok:=true,v:=(.tuple []),out:=lW,nx':=563,wr:=[44]}
theorem yg:∀[F:Facts],Ab (Env.ofS Tryz.prog [Yw] []) 1000000 XL=true:=by
 intro F
 kernel_rfl
theorem vh (G:Nat→D→D):XL.Valid Tryz.prog G:=Ad.val (okE _ []) (.cons (yR G) (w0 G)) yg
def Zl:Orc:=
 {f:=284,args:=[(.slice 45 0 4 1),(.func (.func 285) [] [(.ptr 563 0)])],part:=(no (no (no .nil (no (no .nil (no .nil (no (no (no (lf (.cells 5 (nd (.int .i64 (.ofNat 0)) AN y94))) .nil) .nil) .nil))) .nil)) y5) ng),nx:=564,ok:=true,v:=(.bool true),out:=(no (no (no .nil (no (no .nil (no .nil (no (no (no (lf (.cells 5 (nd (.int .i64 (.ofNat 4)) AN y94))) .nil) .nil) .nil))) .nil)) .nil) lc),nx':=565,wr:=[44,563]}
theorem yt:∀[F:Facts],Ab (Env.ofS Tryz.prog [] []) 1000000 Zl=true:=by
 intro F
 kernel_rfl
theorem rW (G:Nat→D→D):Zl.Valid Tryz.prog G:=Ad.val (okE _ []) (w0 G) yt
def WY:Orc:=
 {f:=308,args:=[(.ptr 44 0),(.int .i64 (.ofNat 416)),(.func (.func 319) [] [])],part:=fv,nx:=567,ok:=true,v:=(.int .i64 (.ofNat 1)),out:=kz,nx':=567,wr:=[44]}
theorem qg:∀[F:Facts],Ab (Env.ofS Tryz.prog [] []) 1000000 WY=true:=by
 intro F
 kernel_rfl
theorem uG (G:Nat→D→D):WY.Valid Tryz.prog G:=Ad.val (okE _ []) (w0 G) qg
end Go.Proofs.YtmjeljjkhblgeaaGreatDoor.familyExamples

