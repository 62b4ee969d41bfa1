/- What is proved: that certain calls which the law FamilyExamples makes come to the results that are written here (part 3 of 16). Conditions: the memory that such a call reaches is as written here; the kernel runs the evaluator over each. -/
import Derived.Test.YtmjeljjkhblgeaaGreatDoorFamilyExamplesKnownA
set_option linter.unusedVariables false
set_option linter.unusedSectionVars false
set_option linter.unusedSimpArgs false
namespace Go.Proofs.YtmjeljjkhblgeaaGreatDoor.familyExamples
open Go.AE
def bq:Orc:=
 {f:=282,args:=[(.ptr 44 0)],part:=(no .nil aN),nx:=328,ok:=true,v:=(.tuple []),out:=.nil,nx':=329,wr:=[]}
theorem sy:∀[F:Facts],Ab (Env.ofS Tryz.prog [] []) 1000000 bq=true:=by
 intro F
 kernel_rfl
theorem vL (G:Nat→D→D):bq.Valid Tryz.prog G:=Ad.val (okE _ []) (w0 G) sy
def X6:Orc:=
 {f:=284,args:=[(.slice 45 0 4 1),(.func (.func 285) [] [(.ptr 329 0)])],part:=(no (no .nil (no (no .nil (no (no (no .nil (no (lf (.cells 5 (nd (.int .i64 (.ofNat 0)) FT y8))) .nil)) .nil) .nil)) y4)) aN),nx:=330,ok:=true,v:=(.bool true),out:=(no (no .nil (no (no .nil (no (no (no .nil (no (lf (.cells 5 (nd (.int .i64 (.ofNat 4)) FT y8))) .nil)) .nil) .nil)) .nil)) jy),nx':=331,wr:=[44,329]}
theorem th:∀[F:Facts],Ab (Env.ofS Tryz.prog [] []) 1000000 X6=true:=by
 intro F
 kernel_rfl
theorem qQ (G:Nat→D→D):X6.Valid Tryz.prog G:=Ad.val (okE _ []) (w0 G) th
def WT:Orc:=
 {f:=308,args:=[(.ptr 44 0),(.int .i64 (.ofNat 416)),(.func (.func 319) [] [])],part:=oY,nx:=333,ok:=true,v:=(.int .i64 (.ofNat 1)),out:=jW,nx':=333,wr:=[44]}
theorem rz:∀[F:Facts],Ab (Env.ofS Tryz.prog [] []) 1000000 WT=true:=by
 intro F
 kernel_rfl
theorem v8 (G:Nat→D→D):WT.Valid Tryz.prog G:=Ad.val (okE _ []) (w0 G) rz
def YX:Orc:=
 {f:=282,args:=[(.ptr 44 0)],part:=oY,nx:=333,ok:=true,v:=(.tuple []),out:=jW,nx':=335,wr:=[44]}
theorem uX:∀[F:Facts],Ab (Env.ofS Tryz.prog [WT] []) 1000000 YX=true:=by
 intro F
 kernel_rfl
theorem yO (G:Nat→D→D):YX.Valid Tryz.prog G:=Ad.val (okE _ []) (.cons (v8 G) (w0 G)) uX
def ZG:Orc:=
 {f:=284,args:=[(.slice 45 0 4 1),(.func (.func 285) [] [(.ptr 335 0)])],part:=(no (no (no (no (no .nil (no (no .nil (no (lf (.cells 5 (nd (.int .i64 (.ofNat 0)) FT y83))) .nil)) .nil)) .nil) .nil) y5) fD),nx:=336,ok:=true,v:=(.bool true),out:=(no (no (no (no (no .nil (no (no .nil (no (lf (.cells 5 (nd (.int .i64 (.ofNat 1)) FT y83))) .nil)) .nil)) .nil) .nil) .nil) gT),nx':=336,wr:=[44,335]}
theorem zT:∀[F:Facts],Ab (Env.ofS Tryz.prog [] []) 1000000 ZG=true:=by
 intro F
 kernel_rfl
theorem su (G:Nat→D→D):ZG.Valid Tryz.prog G:=Ad.val (okE _ []) (w0 G) zT
def W1:Orc:=
 {f:=308,args:=[(.ptr 44 0),(.int .i64 (.ofNat 416)),(.func (.func 319) [] [])],part:=fF,nx:=338,ok:=true,v:=(.int .i64 (.ofNat 1)),out:=mI,nx':=338,wr:=[44]}
theorem uV:∀[F:Facts],Ab (Env.ofS Tryz.prog [] []) 1000000 W1=true:=by
 intro F
 kernel_rfl
theorem qS (G:Nat→D→D):W1.Valid Tryz.prog G:=Ad.val (okE _ []) (w0 G) uV
def WK:Orc:=
 {f:=282,args:=[(.ptr 44 0)],part:=fF,nx:=338,ok:=true,v:=(.tuple []),out:=mI,nx':=340,wr:=[44]}
theorem wc:∀[F:Facts],Ab (Env.ofS Tryz.prog [W1] []) 1000000 WK=true:=by
 intro F
 kernel_rfl
theorem sF (G:Nat→D→D):WK.Valid Tryz.prog G:=Ad.val (okE _ []) (.cons (qS G) (w0 G)) wc
def Y2:Orc:=
 {f:=284,args:=[(.slice 45 0 4 1),(.func (.func 285) [] [(.ptr 340 0)])],part:=(no y6 (no (no .nil (no (no .nil (no (no .nil (no (lf (.cells 5 (nd (.int .i64 (.ofNat 0)) FT y88))) .nil)) .nil)) nj)) .nil)),nx:=341,ok:=true,v:=(.bool true),out:=(no .nil (no (no .nil (no (no .nil (no (no .nil (no (lf (.cells 5 (nd (.int .i64 (.ofNat 2)) FT y89))) .nil)) .nil)) lM)) .nil)),nx':=343,wr:=[44,340]}
theorem vV:∀[F:Facts],Ab (Env.ofS Tryz.prog [] []) 1000000 Y2=true:=by
 intro F
 kernel_rfl
theorem xM (G:Nat→D→D):Y2.Valid Tryz.prog G:=Ad.val (okE _ []) (w0 G) vV
def ZL:Orc:=
 {f:=308,args:=[(.ptr 44 0),(.int .i64 (.ofNat 416)),(.func (.func 319) [] [])],part:=gM,nx:=345,ok:=true,v:=(.int .i64 (.ofNat 1)),out:=iA,nx':=345,wr:=[44]}
theorem xX:∀[F:Facts],Ab (Env.ofS Tryz.prog [] []) 1000000 ZL=true:=by
 intro F
 kernel_rfl
theorem xT (G:Nat→D→D):ZL.Valid Tryz.prog G:=Ad.val (okE _ []) (w0 G) xX
def Zc:Orc:=
 {f:=282,args:=[(.ptr 44 0)],part:=gM,nx:=345,ok:=true,v:=(.tuple []),out:=iA,nx':=347,wr:=[44]}
theorem Abr:∀[F:Facts],Ab (Env.ofS Tryz.prog [ZL] []) 1000000 Zc=true:=by
 intro F
 kernel_rfl
theorem uB (G:Nat→D→D):Zc.Valid Tryz.prog G:=Ad.val (okE _ []) (.cons (xT G) (w0 G)) Abr
def bW:Orc:=
 {f:=284,args:=[(.slice 45 0 4 1),(.func (.func 285) [] [(.ptr 347 0)])],part:=(no (no (no .nil (no .nil (no .nil (no (no .nil (no (lf (.cells 5 (nd (.int .i64 (.ofNat 0)) FT y94))) .nil)) .nil)))) y5) jK),nx:=348,ok:=true,v:=(.bool true),out:=(no (no (no .nil (no .nil (no .nil (no (no .nil (no (lf (.cells 5 (nd (.int .i64 (.ofNat 2)) FT y94))) .nil)) .nil)))) .nil) aD),nx':=350,wr:=[44,347]}
theorem uJ:∀[F:Facts],Ab (Env.ofS Tryz.prog [] []) 1000000 bW=true:=by
 intro F
 kernel_rfl
theorem xh (G:Nat→D→D):bW.Valid Tryz.prog G:=Ad.val (okE _ []) (w0 G) uJ
def Yy:Orc:=
 {f:=282,args:=[(.ptr 44 0)],part:=(no .nil aD),nx:=352,ok:=true,v:=(.tuple []),out:=.nil,nx':=353,wr:=[]}
theorem xI:∀[F:Facts],Ab (Env.ofS Tryz.prog [] []) 1000000 Yy=true:=by
 intro F
 kernel_rfl
theorem Abh (G:Nat→D→D):Yy.Valid Tryz.prog G:=Ad.val (okE _ []) (w0 G) xI
def Wo:Orc:=
 {f:=284,args:=[(.slice 45 0 4 1),(.func (.func 285) [] [(.ptr 353 0)])],part:=(no (no .nil (no (no (no (no .nil (no .nil (no (lf (.cells 5 (nd (.int .i64 (.ofNat 0)) FT y97))) .nil))) .nil) .nil) y4)) aD),nx:=354,ok:=true,v:=(.bool true),out:=(no (no .nil (no (no (no (no .nil (no .nil (no (lf (.cells 5 (nd (.int .i64 (.ofNat 4)) FT y97))) .nil))) .nil) .nil) .nil)) j7),nx':=355,wr:=[44,353]}
theorem ub:∀[F:Facts],Ab (Env.ofS Tryz.prog [] []) 1000000 Wo=true:=by
 intro F
 kernel_rfl
theorem qw (G:Nat→D→D):Wo.Valid Tryz.prog G:=Ad.val (okE _ []) (w0 G) ub
def Zx:Orc:=
 {f:=282,args:=[(.ptr 44 0)],part:=(no .nil j7),nx:=357,ok:=true,v:=(.tuple []),out:=.nil,nx':=358,wr:=[]}
theorem xN:∀[F:Facts],Ab (Env.ofS Tryz.prog [] []) 1000000 Zx=true:=by
 intro F
 kernel_rfl
theorem wY (G:Nat→D→D):Zx.Valid Tryz.prog G:=Ad.val (okE _ []) (w0 G) xN
def XW:Orc:=
 {f:=284,args:=[(.slice 45 0 4 1),(.func (.func 285) [] [(.ptr 358 0)])],part:=(no y6 (no mW (no .nil (no (no (no .nil (no .nil (no (lf (.cells 5 (nd (.int .i64 (.ofNat 0)) FT OJ))) .nil))) .nil) .nil)))),nx:=359,ok:=true,v:=(.bool true),out:=(no .nil (no nr (no .nil (no (no (no .nil (no .nil (no (lf (.cells 5 (nd (.int .i64 (.ofNat 2)) FT eE))) .nil))) .nil) .nil)))),nx':=361,wr:=[44,358]}
theorem zy:∀[F:Facts],Ab (Env.ofS Tryz.prog [] []) 1000000 XW=true:=by
 intro F
 kernel_rfl
theorem qY (G:Nat→D→D):XW.Valid Tryz.prog G:=Ad.val (okE _ []) (w0 G) zy
def WP:Orc:=
 {f:=282,args:=[(.ptr 44 0)],part:=(no .nil (no nr .nil)),nx:=363,ok:=true,v:=(.tuple []),out:=.nil,nx':=364,wr:=[]}
theorem vA:∀[F:Facts],Ab (Env.ofS Tryz.prog [] []) 1000000 WP=true:=by
 intro F
 kernel_rfl
theorem rS (G:Nat→D→D):WP.Valid Tryz.prog G:=Ad.val (okE _ []) (w0 G) vA
def Z8:Orc:=
 {f:=284,args:=[(.slice 45 0 4 1),(.func (.func 285) [] [(.ptr 364 0)])],part:=(no y6 (no (no .nil (no .nil (no (nd eT .nil (no .nil (no (lf (.cells 5 (nd (.int .i64 (.ofNat 0)) FT QN))) .nil))) .nil))) .nil)),nx:=365,ok:=true,v:=(.bool true),out:=(no .nil (no (no .nil (no .nil (no (nd dL .nil (no .nil (no (lf (.cells 5 (nd (.int .i64 (.ofNat 4)) FT QN))) .nil))) .nil))) .nil)),nx':=366,wr:=[44,364]}
theorem wG:∀[F:Facts],Ab (Env.ofS Tryz.prog [] []) 1000000 Z8=true:=by
 intro F
 kernel_rfl
theorem yL (G:Nat→D→D):Z8.Valid Tryz.prog G:=Ad.val (okE _ []) (w0 G) wG
def Yz:Orc:=
 {f:=308,args:=[(.ptr 44 0),(.int .i64 (.ofNat 416)),(.func (.func 319) [] [])],part:=l6,nx:=368,ok:=true,v:=(.int .i64 (.ofNat 1)),out:=fg,nx':=368,wr:=[44]}
theorem yb:∀[F:Facts],Ab (Env.ofS Tryz.prog [] []) 1000000 Yz=true:=by
 intro F
 kernel_rfl
theorem yX (G:Nat→D→D):Yz.Valid Tryz.prog G:=Ad.val (okE _ []) (w0 G) yb
def Zi:Orc:=
 {f:=282,args:=[(.ptr 44 0)],part:=l6,nx:=368,ok:=true,v:=(.tuple []),out:=fg,nx':=370,wr:=[44]}
theorem rX:∀[F:Facts],Ab (Env.ofS Tryz.prog [Yz] []) 1000000 Zi=true:=by
 intro F
 kernel_rfl
theorem tY (G:Nat→D→D):Zi.Valid Tryz.prog G:=Ad.val (okE _ []) (.cons (yX G) (w0 G)) rX
def W7:Orc:=
 {f:=284,args:=[(.slice 45 0 4 1),(.func (.func 285) [] [(.ptr 370 0)])],part:=(no y6 (no iM (no (no (no .nil (no .nil (no .nil (no (lf (.cells 5 (nd (.int .i64 (.ofNat 0)) iH y59))) .nil)))) .nil) .nil))),nx:=371,ok:=true,v:=(.bool true),out:=(no .nil (no iu (no (no (no .nil (no .nil (no .nil (no (lf (.cells 5 (nd (.int .i64 (.ofNat 4)) iH y59))) .nil)))) .nil) .nil))),nx':=372,wr:=[44,370]}
theorem uk:∀[F:Facts],Ab (Env.ofS Tryz.prog [] []) 1000000 W7=true:=by
 intro F
 kernel_rfl
theorem zn (G:Nat→D→D):W7.Valid Tryz.prog G:=Ad.val (okE _ []) (w0 G) uk
def ax:Orc:=
 {f:=308,args:=[(.ptr 44 0),(.int .i64 (.ofNat 416)),(.func (.func 319) [] [])],part:=gc,nx:=374,ok:=true,v:=(.int .i64 (.ofNat 1)),out:=pR,nx':=374,wr:=[44]}
theorem zI:∀[F:Facts],Ab (Env.ofS Tryz.prog [] []) 1000000 ax=true:=by
 intro F
 kernel_rfl
theorem sn (G:Nat→D→D):ax.Valid Tryz.prog G:=Ad.val (okE _ []) (w0 G) zI
def W5:Orc:=
 {f:=282,args:=[(.ptr 44 0)],part:=gc,nx:=374,ok:=true,v:=(.tuple []),out:=pR,nx':=376,wr:=[44]}
theorem sx:∀[F:Facts],Ab (Env.ofS Tryz.prog [ax] []) 1000000 W5=true:=by
 intro F
 kernel_rfl
theorem zk (G:Nat→D→D):W5.Valid Tryz.prog G:=Ad.val (okE _ []) (.cons (sn G) (w0 G)) sx
def Wv:Orc:=
 {f:=284,args:=[(.slice 45 0 4 1),(.func (.func 285) [] [(.ptr 376 0)])],part:=(no y6 (no (no (no .nil (no .nil (no .nil (no .nil (no (lf (.cells 5 (nd (.int .i64 (.ofNat 0)) RN y59))) .nil))))) ij) .nil)),nx:=377,ok:=true,v:=(.bool true),out:=(no .nil (no (no (no .nil (no .nil (no .nil (no .nil (no (lf (.cells 5 (nd (.int .i64 (.ofNat 1)) RN y59))) .nil))))) jh) .nil)),nx':=377,wr:=[44,376]}
theorem tc:∀[F:Facts],Ab (Env.ofS Tryz.prog [] []) 1000000 Wv=true:=by
 intro F
 kernel_rfl
theorem z9 (G:Nat→D→D):Wv.Valid Tryz.prog G:=Ad.val (okE _ []) (w0 G) tc
def XQ:Orc:=
 {f:=308,args:=[(.ptr 44 0),(.int .i64 (.ofNat 416)),(.func (.func 319) [] [])],part:=cX,nx:=379,ok:=true,v:=(.int .i64 (.ofNat 1)),out:=d6,nx':=379,wr:=[44]}
theorem qA:∀[F:Facts],Ab (Env.ofS Tryz.prog [] []) 1000000 XQ=true:=by
 intro F
 kernel_rfl
theorem Abb (G:Nat→D→D):XQ.Valid Tryz.prog G:=Ad.val (okE _ []) (w0 G) qA
def XJ:Orc:=
 {f:=282,args:=[(.ptr 44 0)],part:=cX,nx:=379,ok:=true,v:=(.tuple []),out:=d6,nx':=381,wr:=[44]}
theorem yc:∀[F:Facts],Ab (Env.ofS Tryz.prog [XQ] []) 1000000 XJ=true:=by
 intro F
 kernel_rfl
theorem rf (G:Nat→D→D):XJ.Valid Tryz.prog G:=Ad.val (okE _ []) (.cons (Abb G) (w0 G)) yc
def ZE:Orc:=
 {f:=284,args:=[(.slice 45 0 4 1),(.func (.func 285) [] [(.ptr 381 0)])],part:=(no (no .nil (no .nil (no .nil (no y2 (no .nil (no .nil (no (lf (.cells 5 (nd (.int .i64 (.ofNat 0)) RN y8))) .nil))))))) dq),nx:=382,ok:=true,v:=(.bool true),out:=(no (no .nil (no .nil (no .nil (no .nil (no .nil (no .nil (no (lf (.cells 5 (nd (.int .i64 (.ofNat 1)) RN y8))) .nil))))))) lB),nx':=382,wr:=[44,381]}
theorem wo:∀[F:Facts],Ab (Env.ofS Tryz.prog [] []) 1000000 ZE=true:=by
 intro F
 kernel_rfl
theorem xP (G:Nat→D→D):ZE.Valid Tryz.prog G:=Ad.val (okE _ []) (w0 G) wo
def bY:Orc:=
 {f:=308,args:=[(.ptr 44 0),(.int .i64 (.ofNat 416)),(.func (.func 319) [] [])],part:=iY,nx:=384,ok:=true,v:=(.int .i64 (.ofNat 1)),out:=ip,nx':=384,wr:=[44]}
theorem qM:∀[F:Facts],Ab (Env.ofS Tryz.prog [] []) 1000000 bY=true:=by
 intro F
 kernel_rfl
theorem yq (G:Nat→D→D):bY.Valid Tryz.prog G:=Ad.val (okE _ []) (w0 G) qM
def be:Orc:=
 {f:=282,args:=[(.ptr 44 0)],part:=iY,nx:=384,ok:=true,v:=(.tuple []),out:=ip,nx':=386,wr:=[44]}
theorem qR:∀[F:Facts],Ab (Env.ofS Tryz.prog [bY] []) 1000000 be=true:=by
 intro F
 kernel_rfl
theorem zN (G:Nat→D→D):be.Valid Tryz.prog G:=Ad.val (okE _ []) (.cons (yq G) (w0 G)) qR
def ZB:Orc:=
 {f:=284,args:=[(.slice 45 0 4 1),(.func (.func 285) [] [(.ptr 386 0)])],part:=(no y6 (no fu (no (no (no (no (no (no .nil (lf (.cells 5 (nd (.int .i64 (.ofNat 0)) RN y14)))) .nil) .nil) .nil) .nil) .nil))),nx:=387,ok:=true,v:=(.bool true),out:=(no .nil (no nQ (no (no (no (no (no (no .nil (lf (.cells 5 (nd (.int .i64 (.ofNat 4)) RN y14)))) .nil) .nil) .nil) .nil) .nil))),nx':=388,wr:=[44,386]}
theorem xO:∀[F:Facts],Ab (Env.ofS Tryz.prog [] []) 1000000 ZB=true:=by
 intro F
 kernel_rfl
theorem uu (G:Nat→D→D):ZB.Valid Tryz.prog G:=Ad.val (okE _ []) (w0 G) xO
def cO:Orc:=
 {f:=308,args:=[(.ptr 44 0),(.int .i64 (.ofNat 416)),(.func (.func 319) [] [])],part:=jP,nx:=390,ok:=true,v:=(.int .i64 (.ofNat 3)),out:=dH,nx':=390,wr:=[44]}
theorem rv:∀[F:Facts],Ab (Env.ofS Tryz.prog [] []) 1000000 cO=true:=by
 intro F
 kernel_rfl
theorem xA (G:Nat→D→D):cO.Valid Tryz.prog G:=Ad.val (okE _ []) (w0 G) rv
def Y3:Orc:=
 {f:=282,args:=[(.ptr 44 0)],part:=jP,nx:=390,ok:=true,v:=(.tuple []),out:=dH,nx':=392,wr:=[44]}
theorem rj:∀[F:Facts],Ab (Env.ofS Tryz.prog [cO] []) 1000000 Y3=true:=by
 intro F
 kernel_rfl
theorem wk (G:Nat→D→D):Y3.Valid Tryz.prog G:=Ad.val (okE _ []) (.cons (xA G) (w0 G)) rj
def Yd:Orc:=
 {f:=284,args:=[(.slice 45 0 4 1),(.func (.func 285) [] [(.ptr 392 0)])],part:=(no y6 (no (no (no .nil (no (no (no (no .nil (lf (.cells 5 (nd (.int .i64 (.ofNat 0)) FZ y32)))) .nil) .nil) .nil)) mn) .nil)),nx:=393,ok:=true,v:=(.bool true),out:=(no .nil (no (no (no .nil (no (no (no (no .nil (lf (.cells 5 (nd (.int .i64 (.ofNat 1)) FZ y32)))) .nil) .nil) .nil)) lC) .nil)),nx':=393,wr:=[44,392]}
theorem uc:∀[F:Facts],Ab (Env.ofS Tryz.prog [] []) 1000000 Yd=true:=by
 intro F
 kernel_rfl
theorem v7 (G:Nat→D→D):Yd.Valid Tryz.prog G:=Ad.val (okE _ []) (w0 G) uc
def Wg:Orc:=
 {f:=282,args:=[(.ptr 44 0)],part:=(no .nil (no (no .nil lC) .nil)),nx:=395,ok:=true,v:=(.tuple []),out:=.nil,nx':=396,wr:=[]}
theorem tB:∀[F:Facts],Ab (Env.ofS Tryz.prog [] []) 1000000 Wg=true:=by
 intro F
 kernel_rfl
theorem x9 (G:Nat→D→D):Wg.Valid Tryz.prog G:=Ad.val (okE _ []) (w0 G) tB
def bU:Orc:=
 {f:=284,args:=[(.slice 45 0 4 1),(.func (.func 285) [] [(.ptr 396 0)])],part:=(no y6 (no (no .nil (no .nil (no (nd px (no (no .nil (lf (.cells 5 (nd (.int .i64 (.ofNat 0)) FZ y34)))) .nil) .nil) .nil))) .nil)),nx:=397,ok:=true,v:=(.bool true),out:=(no .nil (no (no .nil (no .nil (no (nd dY (no (no .nil (lf (.cells 5 (nd (.int .i64 (.ofNat 4)) FZ y34)))) .nil) .nil) .nil))) .nil)),nx':=398,wr:=[44,396]}
theorem rI:∀[F:Facts],Ab (Env.ofS Tryz.prog [] []) 1000000 bU=true:=by
 intro F
 kernel_rfl
theorem qP (G:Nat→D→D):bU.Valid Tryz.prog G:=Ad.val (okE _ []) (w0 G) rI
def XY:Orc:=
 {f:=308,args:=[(.ptr 44 0),(.int .i64 (.ofNat 416)),(.func (.func 319) [] [])],part:=eH,nx:=400,ok:=true,v:=(.int .i64 (.ofNat 1)),out:=kL,nx':=400,wr:=[44]}
theorem rF:∀[F:Facts],Ab (Env.ofS Tryz.prog [] []) 1000000 XY=true:=by
 intro F
 kernel_rfl
theorem sM (G:Nat→D→D):XY.Valid Tryz.prog G:=Ad.val (okE _ []) (w0 G) rF
def ce:Orc:=
 {f:=282,args:=[(.ptr 44 0)],part:=eH,nx:=400,ok:=true,v:=(.tuple []),out:=kL,nx':=402,wr:=[44]}
theorem zK:∀[F:Facts],Ab (Env.ofS Tryz.prog [XY] []) 1000000 ce=true:=by
 intro F
 kernel_rfl
theorem xf (G:Nat→D→D):ce.Valid Tryz.prog G:=Ad.val (okE _ []) (.cons (sM G) (w0 G)) zK
def X0:Orc:=
 {f:=284,args:=[(.slice 45 0 4 1),(.func (.func 285) [] [(.ptr 402 0)])],part:=(no y6 (no hI (no (no (no .nil (no (no (no .nil (lf (.cells 5 (nd (.int .i64 (.ofNat 0)) FZ y8)))) .nil) .nil)) .nil) .nil))),nx:=403,ok:=true,v:=(.bool true),out:=(no .nil (no cZ (no (no (no .nil (no (no (no .nil (lf (.cells 5 (nd (.int .i64 (.ofNat 1)) FZ y8)))) .nil) .nil)) .nil) .nil))),nx':=403,wr:=[44,402]}
theorem vq:∀[F:Facts],Ab (Env.ofS Tryz.prog [] []) 1000000 X0=true:=by
 intro F
 kernel_rfl
theorem vS (G:Nat→D→D):X0.Valid Tryz.prog G:=Ad.val (okE _ []) (w0 G) vq
def X1:Orc:=
 {f:=308,args:=[(.ptr 44 0),(.int .i64 (.ofNat 416)),(.func (.func 319) [] [])],part:=oF,nx:=405,ok:=true,v:=(.int .i64 (.ofNat 1)),out:=ma,nx':=405,wr:=[44]}
theorem tZ:∀[F:Facts],Ab (Env.ofS Tryz.prog [] []) 1000000 X1=true:=by
 intro F
 kernel_rfl
theorem ra (G:Nat→D→D):X1.Valid Tryz.prog G:=Ad.val (okE _ []) (w0 G) tZ
def Zv:Orc:=
 {f:=282,args:=[(.ptr 44 0)],part:=oF,nx:=405,ok:=true,v:=(.tuple []),out:=ma,nx':=407,wr:=[44]}
theorem rt:∀[F:Facts],Ab (Env.ofS Tryz.prog [X1] []) 1000000 Zv=true:=by
 intro F
 kernel_rfl
theorem Aa4 (G:Nat→D→D):Zv.Valid Tryz.prog G:=Ad.val (okE _ []) (.cons (ra G) (w0 G)) rt
def aK:Orc:=
 {f:=284,args:=[(.slice 45 0 4 1),(.func (.func 285) [] [(.ptr 407 0)])],part:=(no (no (no (no .nil (no .nil (no (no (no .nil (lf (.cells 5 (nd (.int .i64 (.ofNat 0)) FZ dE)))) .nil) .nil))) .nil) y5) i6),nx:=408,ok:=true,v:=(.bool true),out:=(no (no (no (no .nil (no .nil (no (no (no .nil (lf (.cells 5 (nd (.int .i64 (.ofNat 2)) FZ fN)))) .nil) .nil))) .nil) .nil) fQ),nx':=410,wr:=[44,407]}
theorem rq:∀[F:Facts],Ab (Env.ofS Tryz.prog [] []) 1000000 aK=true:=by
 intro F
 kernel_rfl
theorem xl (G:Nat→D→D):aK.Valid Tryz.prog G:=Ad.val (okE _ []) (w0 G) rq
def WX:Orc:=
 {f:=308,args:=[(.ptr 44 0),(.int .i64 (.ofNat 416)),(.func (.func 319) [] [])],part:=nE,nx:=412,ok:=true,v:=(.int .i64 (.ofNat 1)),out:=mc,nx':=412,wr:=[44]}
theorem xq:∀[F:Facts],Ab (Env.ofS Tryz.prog [] []) 1000000 WX=true:=by
 intro F
 kernel_rfl
theorem vP (G:Nat→D→D):WX.Valid Tryz.prog G:=Ad.val (okE _ []) (w0 G) xq
def XX:Orc:=
 {f:=282,args:=[(.ptr 44 0)],part:=nE,nx:=412,ok:=true,v:=(.tuple []),out:=mc,nx':=414,wr:=[44]}
theorem yp:∀[F:Facts],Ab (Env.ofS Tryz.prog [WX] []) 1000000 XX=true:=by
 intro F
 kernel_rfl
theorem sw (G:Nat→D→D):XX.Valid Tryz.prog G:=Ad.val (okE _ []) (.cons (vP G) (w0 G)) yp
def Xa:Orc:=
 {f:=284,args:=[(.slice 45 0 4 1),(.func (.func 285) [] [(.ptr 414 0)])],part:=(no y6 (no gR (no .nil (no .nil (no .nil (no (no (no .nil (lf (.cells 5 (nd (.int .i64 (.ofNat 0)) FZ y19)))) .nil) .nil)))))),nx:=415,ok:=true,v:=(.bool true),out:=(no .nil (no fX (no .nil (no .nil (no .nil (no (no (no .nil (lf (.cells 5 (nd (.int .i64 (.ofNat 2)) FZ y19)))) .nil) .nil)))))),nx':=417,wr:=[44,414]}
theorem Abn:∀[F:Facts],Ab (Env.ofS Tryz.prog [] []) 1000000 Xa=true:=by
 intro F
 kernel_rfl
theorem vX (G:Nat→D→D):Xa.Valid Tryz.prog G:=Ad.val (okE _ []) (w0 G) Abn
def Z3:Orc:=
 {f:=282,args:=[(.ptr 44 0)],part:=(no .nil (no fX .nil)),nx:=419,ok:=true,v:=(.tuple []),out:=.nil,nx':=420,wr:=[]}
theorem xR:∀[F:Facts],Ab (Env.ofS Tryz.prog [] []) 1000000 Z3=true:=by
 intro F
 kernel_rfl
theorem zU (G:Nat→D→D):Z3.Valid Tryz.prog G:=Ad.val (okE _ []) (w0 G) xR
def aT:Orc:=
 {f:=284,args:=[(.slice 45 0 4 1),(.func (.func 285) [] [(.ptr 420 0)])],part:=(no y6 (no (no .nil (no (no (no .nil (no (no .nil (lf (.cells 5 (nd (.int .i64 (.ofNat 0)) FZ SV)))) .nil)) .nil) ka)) .nil)),nx:=421,ok:=true,v:=(.bool true),out:=(no .nil (no (no .nil (no (no (no .nil (no (no .nil (lf (.cells 5 (nd (.int .i64 (.ofNat 4)) FZ SV)))) .nil)) .nil) nq)) .nil)),nx':=422,wr:=[44,420]}
theorem qe:∀[F:Facts],Ab (Env.ofS Tryz.prog [] []) 1000000 aT=true:=by
 intro F
 kernel_rfl
theorem zL (G:Nat→D→D):aT.Valid Tryz.prog G:=Ad.val (okE _ []) (w0 G) qe
def bX:Orc:=
 {f:=282,args:=[(.ptr 44 0)],part:=(no .nil fB),nx:=424,ok:=true,v:=(.tuple []),out:=.nil,nx':=425,wr:=[]}
theorem Aa8:∀[F:Facts],Ab (Env.ofS Tryz.prog [] []) 1000000 bX=true:=by
 intro F
 kernel_rfl
theorem x5 (G:Nat→D→D):bX.Valid Tryz.prog G:=Ad.val (okE _ []) (w0 G) Aa8
def bP:Orc:=
 {f:=284,args:=[(.slice 45 0 4 1),(.func (.func 285) [] [(.ptr 425 0)])],part:=(no (no .nil (no (no .nil (no (no .nil (no (no .nil (lf (.cells 5 (nd (.int .i64 (.ofNat 0)) FZ y97)))) .nil)) .nil)) y4)) fB),nx:=426,ok:=true,v:=(.bool true),out:=(no (no .nil (no (no .nil (no (no .nil (no (no .nil (lf (.cells 5 (nd (.int .i64 (.ofNat 2)) FZ jr)))) .nil)) .nil)) .nil)) bS),nx':=428,wr:=[44,425]}
theorem zj:∀[F:Facts],Ab (Env.ofS Tryz.prog [] []) 1000000 bP=true:=by
 intro F
 kernel_rfl
theorem sG (G:Nat→D→D):bP.Valid Tryz.prog G:=Ad.val (okE _ []) (w0 G) zj
def bf:Orc:=
 {f:=282,args:=[(.ptr 44 0)],part:=(no .nil bS),nx:=430,ok:=true,v:=(.tuple []),out:=.nil,nx':=431,wr:=[]}
theorem uI:∀[F:Facts],Ab (Env.ofS Tryz.prog [] []) 1000000 bf=true:=by
 intro F
 kernel_rfl
theorem qh (G:Nat→D→D):bf.Valid Tryz.prog G:=Ad.val (okE _ []) (w0 G) uI
def WH:Orc:=
 {f:=284,args:=[(.slice 45 0 4 1),(.func (.func 285) [] [(.ptr 431 0)])],part:=(no (no (no (no (no .nil (no .nil (no (no .nil (lf (.cells 5 (nd (.int .i64 (.ofNat 0)) FZ y24)))) .nil))) .nil) .nil) y5) bS),nx:=432,ok:=true,v:=(.bool true),out:=(no (no (no (no (no .nil (no .nil (no (no .nil (lf (.cells 5 (nd (.int .i64 (.ofNat 4)) FZ y24)))) .nil))) .nil) .nil) .nil) pP),nx':=433,wr:=[44,431]}
theorem qi:∀[F:Facts],Ab (Env.ofS Tryz.prog [] []) 1000000 WH=true:=by
 intro F
 kernel_rfl
theorem rk (G:Nat→D→D):WH.Valid Tryz.prog G:=Ad.val (okE _ []) (w0 G) qi
def bp:Orc:=
 {f:=308,args:=[(.ptr 44 0),(.int .i64 (.ofNat 416)),(.func (.func 319) [] [])],part:=mO,nx:=435,ok:=true,v:=(.int .i64 (.ofNat 3)),out:=nG,nx':=435,wr:=[44]}
theorem qv:∀[F:Facts],Ab (Env.ofS Tryz.prog [] []) 1000000 bp=true:=by
 intro F
 kernel_rfl
theorem rg (G:Nat→D→D):bp.Valid Tryz.prog G:=Ad.val (okE _ []) (w0 G) qv
def Zs:Orc:=
 {f:=282,args:=[(.ptr 44 0)],part:=mO,nx:=435,ok:=true,v:=(.tuple []),out:=nG,nx':=437,wr:=[44]}
theorem wM:∀[F:Facts],Ab (Env.ofS Tryz.prog [bp] []) 1000000 Zs=true:=by
 intro F
 kernel_rfl
theorem sl (G:Nat→D→D):Zs.Valid Tryz.prog G:=Ad.val (okE _ []) (.cons (rg G) (w0 G)) wM
def bM:Orc:=
 {f:=284,args:=[(.slice 45 0 4 1),(.func (.func 285) [] [(.ptr 437 0)])],part:=(no (no .nil (no .nil (no (no .nil (no .nil (no (no .nil (lf (.cells 5 (nd (.int .i64 (.ofNat 0)) Hs y32)))) .nil))) y3))) fk),nx:=438,ok:=true,v:=(.bool true),out:=(no (no .nil (no .nil (no (no .nil (no .nil (no (no .nil (lf (.cells 5 (nd (.int .i64 (.ofNat 1)) Hs y32)))) .nil))) .nil))) aO),nx':=438,wr:=[44,437]}
theorem so:∀[F:Facts],Ab (Env.ofS Tryz.prog [] []) 1000000 bM=true:=by
 intro F
 kernel_rfl
theorem se (G:Nat→D→D):bM.Valid Tryz.prog G:=Ad.val (okE _ []) (w0 G) so
def Zt:Orc:=
 {f:=282,args:=[(.ptr 44 0)],part:=(no .nil aO),nx:=440,ok:=true,v:=(.tuple []),out:=.nil,nx':=441,wr:=[]}
theorem tw:∀[F:Facts],Ab (Env.ofS Tryz.prog [] []) 1000000 Zt=true:=by
 intro F
 kernel_rfl
theorem vC (G:Nat→D→D):Zt.Valid Tryz.prog G:=Ad.val (okE _ []) (w0 G) tw
def ZA:Orc:=
 {f:=284,args:=[(.slice 45 0 4 1),(.func (.func 285) [] [(.ptr 441 0)])],part:=(no (no .nil (no (no .nil (no .nil (no .nil (no (no .nil (lf (.cells 5 (nd (.int .i64 (.ofNat 0)) Hs y8)))) .nil)))) y4)) aO),nx:=442,ok:=true,v:=(.bool true),out:=(no (no .nil (no (no .nil (no .nil (no .nil (no (no .nil (lf (.cells 5 (nd (.int .i64 (.ofNat 4)) Hs y8)))) .nil)))) .nil)) je),nx':=443,wr:=[44,441]}
theorem uE:∀[F:Facts],Ab (Env.ofS Tryz.prog [] []) 1000000 ZA=true:=by
 intro F
 kernel_rfl
theorem tW (G:Nat→D→D):ZA.Valid Tryz.prog G:=Ad.val (okE _ []) (w0 G) uE
def YB:Orc:=
 {f:=308,args:=[(.ptr 44 0),(.int .i64 (.ofNat 416)),(.func (.func 319) [] [])],part:=jn,nx:=445,ok:=true,v:=(.int .i64 (.ofNat 1)),out:=pE,nx':=445,wr:=[44]}
theorem qJ:∀[F:Facts],Ab (Env.ofS Tryz.prog [] []) 1000000 YB=true:=by
 intro F
 kernel_rfl
theorem uP (G:Nat→D→D):YB.Valid Tryz.prog G:=Ad.val (okE _ []) (w0 G) qJ
def ZY:Orc:=
 {f:=282,args:=[(.ptr 44 0)],part:=jn,nx:=445,ok:=true,v:=(.tuple []),out:=pE,nx':=447,wr:=[44]}
theorem um:∀[F:Facts],Ab (Env.ofS Tryz.prog [YB] []) 1000000 ZY=true:=by
 intro F
 kernel_rfl
theorem Abc (G:Nat→D→D):ZY.Valid Tryz.prog G:=Ad.val (okE _ []) (.cons (uP G) (w0 G)) um
def XF:Orc:=
 {f:=284,args:=[(.slice 45 0 4 1),(.func (.func 285) [] [(.ptr 447 0)])],part:=(no (no (no (no (no (no (no .nil (no .nil (lf (.cells 5 (nd (.int .i64 (.ofNat 0)) Hs y83))))) .nil) .nil) .nil) .nil) y5) mD),nx:=448,ok:=true,v:=(.bool true),out:=(no (no (no (no (no (no (no .nil (no .nil (lf (.cells 5 (nd (.int .i64 (.ofNat 1)) Hs y83))))) .nil) .nil) .nil) .nil) .nil) oI),nx':=448,wr:=[44,447]}
theorem tT:∀[F:Facts],Ab (Env.ofS Tryz.prog [] []) 1000000 XF=true:=by
 intro F
 kernel_rfl
theorem ql (G:Nat→D→D):XF.Valid Tryz.prog G:=Ad.val (okE _ []) (w0 G) tT
def aG:Orc:=
 {f:=308,args:=[(.ptr 44 0),(.int .i64 (.ofNat 416)),(.func (.func 319) [] [])],part:=m9,nx:=450,ok:=true,v:=(.int .i64 (.ofNat 1)),out:=mA,nx':=450,wr:=[44]}
theorem xZ:∀[F:Facts],Ab (Env.ofS Tryz.prog [] []) 1000000 aG=true:=by
 intro F
 kernel_rfl
theorem vF (G:Nat→D→D):aG.Valid Tryz.prog G:=Ad.val (okE _ []) (w0 G) xZ
end Go.Proofs.YtmjeljjkhblgeaaGreatDoor.familyExamples

