/- What is proved: that certain calls which the law FamilySessions makes come to the results that are written here (part 4 of 19). Conditions: the memory that such a call reaches is as written here; the kernel runs the evaluator over each. -/
import Derived.Test.YtmjeljjkhblgeaaGreatDoorFamilySessionsKnownA
import Derived.Test.YtmjeljjkhblgeaaGreatDoorFamilySessionsKnownC
set_option linter.unusedVariables false
set_option linter.unusedSectionVars false
set_option linter.unusedSimpArgs false
namespace Go.Proofs.YtmjeljjkhblgeaaGreatDoor.familySessions
open Go.AE
def eV:Orc:=
 {f:=282,args:=[(.ptr 44 0)],part:=uW,nx:=450,ok:=true,v:=(.tuple []),out:=tT,nx':=452,wr:=[44]}
theorem Ag7:∀[F:Facts],Ac (Env.ofS Tryz.prog [cG] []) 1000000 eV=true:=by
 intro F
 kernel_rfl
theorem Ass (G:Nat→D→D):eV.Valid Tryz.prog G:=Ad.val (okE _ []) (.cons (Ah1 G) (w0 G)) Ag7
def eU:Orc:=
 {f:=284,args:=[(.slice 45 0 4 1),(.func (.func 285) [] [(.ptr 452 0)])],part:=(no y6 (no (no .nil (no (no (no (no .nil (no .nil (lf (.cells 5 (nd (.int .i64 (.ofNat 0)) Hv y19))))) .nil) .nil) jk)) .nil)),nx:=453,ok:=true,v:=(.bool true),out:=(no .nil (no (no .nil (no (no (no (no .nil (no .nil (lf (.cells 5 (nd (.int .i64 (.ofNat 2)) Hv y19))))) .nil) .nil) hY)) .nil)),nx':=455,wr:=[44,452]}
theorem Ai8:∀[F:Facts],Ac (Env.ofS Tryz.prog [] []) 1000000 eU=true:=by
 intro F
 kernel_rfl
theorem Abh (G:Nat→D→D):eU.Valid Tryz.prog G:=Ad.val (okE _ []) (w0 G) Ai8
def cE:Orc:=
 {f:=308,args:=[(.ptr 44 0),(.int .i64 (.ofNat 416)),(.func (.func 319) [] [])],part:=tF,nx:=457,ok:=true,v:=(.int .i64 (.ofNat 1)),out:=jU,nx':=457,wr:=[44]}
theorem Ase:∀[F:Facts],Ac (Env.ofS Tryz.prog [] []) 1000000 cE=true:=by
 intro F
 kernel_rfl
theorem Akm (G:Nat→D→D):cE.Valid Tryz.prog G:=Ad.val (okE _ []) (w0 G) Ase
def ZV:Orc:=
 {f:=282,args:=[(.ptr 44 0)],part:=tF,nx:=457,ok:=true,v:=(.tuple []),out:=jU,nx':=459,wr:=[44]}
theorem Aig:∀[F:Facts],Ac (Env.ofS Tryz.prog [cE] []) 1000000 ZV=true:=by
 intro F
 kernel_rfl
theorem Aq5 (G:Nat→D→D):ZV.Valid Tryz.prog G:=Ad.val (okE _ []) (.cons (Akm G) (w0 G)) Aig
def fg:Orc:=
 {f:=284,args:=[(.slice 45 0 4 1),(.func (.func 285) [] [(.ptr 459 0)])],part:=(no (no (no .nil (no .nil (no (no (no .nil (no .nil (lf (.cells 5 (nd (.int .i64 (.ofNat 0)) Hv y94))))) .nil) .nil))) y5) pm),nx:=460,ok:=true,v:=(.bool true),out:=(no (no (no .nil (no .nil (no (no (no .nil (no .nil (lf (.cells 5 (nd (.int .i64 (.ofNat 1)) Hv y94))))) .nil) .nil))) .nil) yo),nx':=460,wr:=[44,459]}
theorem Ab8:∀[F:Facts],Ac (Env.ofS Tryz.prog [] []) 1000000 fg=true:=by
 intro F
 kernel_rfl
theorem Are (G:Nat→D→D):fg.Valid Tryz.prog G:=Ad.val (okE _ []) (w0 G) Ab8
def dy:Orc:=
 {f:=308,args:=[(.ptr 44 0),(.int .i64 (.ofNat 416)),(.func (.func 319) [] [])],part:=kk,nx:=462,ok:=true,v:=(.int .i64 (.ofNat 1)),out:=rn,nx':=462,wr:=[44]}
theorem Ak5:∀[F:Facts],Ac (Env.ofS Tryz.prog [] []) 1000000 dy=true:=by
 intro F
 kernel_rfl
theorem Aqe (G:Nat→D→D):dy.Valid Tryz.prog G:=Ad.val (okE _ []) (w0 G) Ak5
def ft:Orc:=
 {f:=282,args:=[(.ptr 44 0)],part:=kk,nx:=462,ok:=true,v:=(.tuple []),out:=rn,nx':=464,wr:=[44]}
theorem Ar9:∀[F:Facts],Ac (Env.ofS Tryz.prog [dy] []) 1000000 ft=true:=by
 intro F
 kernel_rfl
theorem Akb (G:Nat→D→D):ft.Valid Tryz.prog G:=Ad.val (okE _ []) (.cons (Aqe G) (w0 G)) Ar9
def fa:Orc:=
 {f:=284,args:=[(.slice 45 0 4 1),(.func (.func 285) [] [(.ptr 464 0)])],part:=(no y6 (no (no (no (no .nil (no (no .nil (no .nil (lf (.cells 5 (nd (.int .i64 (.ofNat 0)) Hv y53))))) .nil)) .nil) gR) .nil)),nx:=465,ok:=true,v:=(.bool true),out:=(no .nil (no (no (no (no .nil (no (no .nil (no .nil (lf (.cells 5 (nd (.int .i64 (.ofNat 2)) Hv (nd (.int .i64 (.ofNat 200)) (lf (.int .i64 (.ofNat 23))) .nil)))))) .nil)) .nil) jz) .nil)),nx':=467,wr:=[44,464]}
theorem Aas:∀[F:Facts],Ac (Env.ofS Tryz.prog [] []) 1000000 fa=true:=by
 intro F
 kernel_rfl
theorem Aai (G:Nat→D→D):fa.Valid Tryz.prog G:=Ad.val (okE _ []) (w0 G) Aas
def Y9:Orc:=
 {f:=282,args:=[(.ptr 44 0)],part:=(no .nil (no xe .nil)),nx:=469,ok:=true,v:=(.tuple []),out:=.nil,nx':=470,wr:=[]}
theorem Ajv:∀[F:Facts],Ac (Env.ofS Tryz.prog [] []) 1000000 Y9=true:=by
 intro F
 kernel_rfl
theorem Ame (G:Nat→D→D):Y9.Valid Tryz.prog G:=Ad.val (okE _ []) (w0 G) Ajv
def YT:Orc:=
 {f:=284,args:=[(.slice 45 0 4 1),(.func (.func 285) [] [(.ptr 470 0)])],part:=(no y6 (no xe (no .nil (no (no .nil (no (no .nil (no .nil (lf (.cells 5 (nd (.int .i64 (.ofNat 0)) Hv kc))))) .nil)) .nil)))),nx:=471,ok:=true,v:=(.bool true),out:=(no .nil (no sJ (no .nil (no (no .nil (no (no .nil (no .nil (lf (.cells 5 (nd (.int .i64 (.ofNat 4)) Hv kc))))) .nil)) .nil)))),nx':=472,wr:=[44,470]}
theorem Aj1:∀[F:Facts],Ac (Env.ofS Tryz.prog [] []) 1000000 YT=true:=by
 intro F
 kernel_rfl
theorem Ani (G:Nat→D→D):YT.Valid Tryz.prog G:=Ad.val (okE _ []) (w0 G) Aj1
def Xj:Orc:=
 {f:=308,args:=[(.ptr 44 0),(.int .i64 (.ofNat 416)),(.func (.func 319) [] [])],part:=wE,nx:=474,ok:=true,v:=(.int .i64 (.ofNat 1)),out:=xX,nx':=474,wr:=[44]}
theorem Anf:∀[F:Facts],Ac (Env.ofS Tryz.prog [] []) 1000000 Xj=true:=by
 intro F
 kernel_rfl
theorem Ajq (G:Nat→D→D):Xj.Valid Tryz.prog G:=Ad.val (okE _ []) (w0 G) Anf
def eE:Orc:=
 {f:=282,args:=[(.ptr 44 0)],part:=wE,nx:=474,ok:=true,v:=(.tuple []),out:=xX,nx':=476,wr:=[44]}
theorem Agk:∀[F:Facts],Ac (Env.ofS Tryz.prog [Xj] []) 1000000 eE=true:=by
 intro F
 kernel_rfl
theorem Aaw (G:Nat→D→D):eE.Valid Tryz.prog G:=Ad.val (okE _ []) (.cons (Ajq G) (w0 G)) Agk
def dw:Orc:=
 {f:=284,args:=[(.slice 45 0 4 1),(.func (.func 285) [] [(.ptr 476 0)])],part:=(no y6 (no (no .nil (no .nil (no oN (no (no .nil (no .nil (lf (.cells 5 (nd (.int .i64 (.ofNat 0)) fV y59))))) .nil)))) .nil)),nx:=477,ok:=true,v:=(.bool true),out:=(no .nil (no (no .nil (no .nil (no xd (no (no .nil (no .nil (lf (.cells 5 (nd (.int .i64 (.ofNat 4)) fV y59))))) .nil)))) .nil)),nx':=478,wr:=[44,476]}
theorem Ah4:∀[F:Facts],Ac (Env.ofS Tryz.prog [] []) 1000000 dw=true:=by
 intro F
 kernel_rfl
theorem Ahp (G:Nat→D→D):dw.Valid Tryz.prog G:=Ad.val (okE _ []) (w0 G) Ah4
def ZU:Orc:=
 {f:=308,args:=[(.ptr 44 0),(.int .i64 (.ofNat 416)),(.func (.func 319) [] [])],part:=vK,nx:=480,ok:=true,v:=(.int .i64 (.ofNat 1)),out:=mS,nx':=480,wr:=[44]}
theorem Aa7:∀[F:Facts],Ac (Env.ofS Tryz.prog [] []) 1000000 ZU=true:=by
 intro F
 kernel_rfl
theorem Ajk (G:Nat→D→D):ZU.Valid Tryz.prog G:=Ad.val (okE _ []) (w0 G) Aa7
def bp:Orc:=
 {f:=282,args:=[(.ptr 44 0)],part:=vK,nx:=480,ok:=true,v:=(.tuple []),out:=mS,nx':=482,wr:=[44]}
theorem Ad7:∀[F:Facts],Ac (Env.ofS Tryz.prog [ZU] []) 1000000 bp=true:=by
 intro F
 kernel_rfl
theorem Aop (G:Nat→D→D):bp.Valid Tryz.prog G:=Ad.val (okE _ []) (.cons (Ajk G) (w0 G)) Ad7
def Xx:Orc:=
 {f:=284,args:=[(.slice 45 0 4 1),(.func (.func 285) [] [(.ptr 482 0)])],part:=(no y6 (no rP (no (no (no (no .nil (no .nil (no .nil (lf (.cells 5 (nd (.int .i64 (.ofNat 0)) Q5 y59)))))) .nil) .nil) .nil))),nx:=483,ok:=true,v:=(.bool true),out:=(no .nil (no wd (no (no (no (no .nil (no .nil (no .nil (lf (.cells 5 (nd (.int .i64 (.ofNat 1)) Q5 y59)))))) .nil) .nil) .nil))),nx':=483,wr:=[44,482]}
theorem Adf:∀[F:Facts],Ac (Env.ofS Tryz.prog [] []) 1000000 Xx=true:=by
 intro F
 kernel_rfl
theorem Alh (G:Nat→D→D):Xx.Valid Tryz.prog G:=Ad.val (okE _ []) (w0 G) Adf
def Xh:Orc:=
 {f:=308,args:=[(.ptr 44 0),(.int .i64 (.ofNat 416)),(.func (.func 319) [] [])],part:=nW,nx:=485,ok:=true,v:=(.int .i64 (.ofNat 1)),out:=sk,nx':=485,wr:=[44]}
theorem Adh:∀[F:Facts],Ac (Env.ofS Tryz.prog [] []) 1000000 Xh=true:=by
 intro F
 kernel_rfl
theorem Akw (G:Nat→D→D):Xh.Valid Tryz.prog G:=Ad.val (okE _ []) (w0 G) Adh
def aR:Orc:=
 {f:=282,args:=[(.ptr 44 0)],part:=nW,nx:=485,ok:=true,v:=(.tuple []),out:=sk,nx':=487,wr:=[44]}
theorem Asy:∀[F:Facts],Ac (Env.ofS Tryz.prog [Xh] []) 1000000 aR=true:=by
 intro F
 kernel_rfl
theorem Agl (G:Nat→D→D):aR.Valid Tryz.prog G:=Ad.val (okE _ []) (.cons (Akw G) (w0 G)) Asy
def aZ:Orc:=
 {f:=284,args:=[(.slice 45 0 4 1),(.func (.func 285) [] [(.ptr 487 0)])],part:=(no (no (no (no .nil (no (no .nil (no .nil (no .nil (lf (.cells 5 (nd (.int .i64 (.ofNat 0)) Q5 y8)))))) .nil)) .nil) y5) fT),nx:=488,ok:=true,v:=(.bool true),out:=(no (no (no (no .nil (no (no .nil (no .nil (no .nil (lf (.cells 5 (nd (.int .i64 (.ofNat 1)) Q5 y8)))))) .nil)) .nil) .nil) gy),nx':=488,wr:=[44,487]}
theorem Afv:∀[F:Facts],Ac (Env.ofS Tryz.prog [] []) 1000000 aZ=true:=by
 intro F
 kernel_rfl
theorem yV (G:Nat→D→D):aZ.Valid Tryz.prog G:=Ad.val (okE _ []) (w0 G) Afv
def ZN:Orc:=
 {f:=308,args:=[(.ptr 44 0),(.int .i64 (.ofNat 416)),(.func (.func 319) [] [])],part:=gP,nx:=490,ok:=true,v:=(.int .i64 (.ofNat 1)),out:=oT,nx':=490,wr:=[44]}
theorem Asc:∀[F:Facts],Ac (Env.ofS Tryz.prog [] []) 1000000 ZN=true:=by
 intro F
 kernel_rfl
theorem Ahs (G:Nat→D→D):ZN.Valid Tryz.prog G:=Ad.val (okE _ []) (w0 G) Asc
def Yy:Orc:=
 {f:=282,args:=[(.ptr 44 0)],part:=gP,nx:=490,ok:=true,v:=(.tuple []),out:=oT,nx':=492,wr:=[44]}
theorem Aij:∀[F:Facts],Ac (Env.ofS Tryz.prog [ZN] []) 1000000 Yy=true:=by
 intro F
 kernel_rfl
theorem Ahu (G:Nat→D→D):Yy.Valid Tryz.prog G:=Ad.val (okE _ []) (.cons (Ahs G) (w0 G)) Aij
def XC:Orc:=
 {f:=284,args:=[(.slice 45 0 4 1),(.func (.func 285) [] [(.ptr 492 0)])],part:=(no y6 (no (no .nil (no .nil (no (nd kB .nil (no .nil (no .nil (lf (.cells 5 (nd (.int .i64 (.ofNat 0)) Q5 y88)))))) .nil))) .nil)),nx:=493,ok:=true,v:=(.bool true),out:=(no .nil (no (no .nil (no .nil (no (nd qF .nil (no .nil (no .nil (lf (.cells 5 (nd (.int .i64 (.ofNat 4)) Q5 y88)))))) .nil))) .nil)),nx':=494,wr:=[44,492]}
theorem Ad1:∀[F:Facts],Ac (Env.ofS Tryz.prog [] []) 1000000 XC=true:=by
 intro F
 kernel_rfl
theorem Abv (G:Nat→D→D):XC.Valid Tryz.prog G:=Ad.val (okE _ []) (w0 G) Ad1
def X2:Orc:=
 {f:=308,args:=[(.ptr 44 0),(.int .i64 (.ofNat 416)),(.func (.func 319) [] [])],part:=oX,nx:=496,ok:=true,v:=(.int .i64 (.ofNat 3)),out:=gx,nx':=496,wr:=[44]}
theorem Aiw:∀[F:Facts],Ac (Env.ofS Tryz.prog [] []) 1000000 X2=true:=by
 intro F
 kernel_rfl
theorem Akh (G:Nat→D→D):X2.Valid Tryz.prog G:=Ad.val (okE _ []) (w0 G) Aiw
def Yf:Orc:=
 {f:=282,args:=[(.ptr 44 0)],part:=oX,nx:=496,ok:=true,v:=(.tuple []),out:=gx,nx':=498,wr:=[44]}
theorem Amt:∀[F:Facts],Ac (Env.ofS Tryz.prog [X2] []) 1000000 Yf=true:=by
 intro F
 kernel_rfl
theorem Aqg (G:Nat→D→D):Yf.Valid Tryz.prog G:=Ad.val (okE _ []) (.cons (Akh G) (w0 G)) Amt
def ci:Orc:=
 {f:=284,args:=[(.slice 45 0 4 1),(.func (.func 285) [] [(.ptr 498 0)])],part:=(no y6 (no uR (no (no (no .nil (no .nil (no .nil (no .nil (lf (.cells 5 (nd (.int .i64 (.ofNat 0)) F0 y32))))))) .nil) .nil))),nx:=499,ok:=true,v:=(.bool true),out:=(no .nil (no YI (no (no (no .nil (no .nil (no .nil (no .nil (lf (.cells 5 (nd (.int .i64 (.ofNat 1)) F0 y32))))))) .nil) .nil))),nx':=499,wr:=[44,498]}
theorem Aou:∀[F:Facts],Ac (Env.ofS Tryz.prog [] []) 1000000 ci=true:=by
 intro F
 kernel_rfl
theorem Ac0 (G:Nat→D→D):ci.Valid Tryz.prog G:=Ad.val (okE _ []) (w0 G) Aou
def eA:Orc:=
 {f:=282,args:=[(.ptr 44 0)],part:=(no .nil (no YI .nil)),nx:=501,ok:=true,v:=(.tuple []),out:=.nil,nx':=502,wr:=[]}
theorem Apz:∀[F:Facts],Ac (Env.ofS Tryz.prog [] []) 1000000 eA=true:=by
 intro F
 kernel_rfl
theorem Ap7 (G:Nat→D→D):eA.Valid Tryz.prog G:=Ad.val (okE _ []) (w0 G) Apz
def bK:Orc:=
 {f:=284,args:=[(.slice 45 0 4 1),(.func (.func 285) [] [(.ptr 502 0)])],part:=(no y6 (no YI (no .nil (no (no .nil (no .nil (no .nil (no .nil (lf (.cells 5 (nd (.int .i64 (.ofNat 0)) F0 f7))))))) .nil)))),nx:=503,ok:=true,v:=(.bool true),out:=(no .nil (no lH (no .nil (no (no .nil (no .nil (no .nil (no .nil (lf (.cells 5 (nd (.int .i64 (.ofNat 4)) F0 f7))))))) .nil)))),nx':=504,wr:=[44,502]}
theorem Aj4:∀[F:Facts],Ac (Env.ofS Tryz.prog [] []) 1000000 bK=true:=by
 intro F
 kernel_rfl
theorem Ara (G:Nat→D→D):bK.Valid Tryz.prog G:=Ad.val (okE _ []) (w0 G) Aj4
def bk:Orc:=
 {f:=308,args:=[(.ptr 44 0),(.int .i64 (.ofNat 416)),(.func (.func 319) [] [])],part:=kV,nx:=506,ok:=true,v:=(.int .i64 (.ofNat 1)),out:=sZ,nx':=506,wr:=[44]}
theorem Aec:∀[F:Facts],Ac (Env.ofS Tryz.prog [] []) 1000000 bk=true:=by
 intro F
 kernel_rfl
theorem Aqt (G:Nat→D→D):bk.Valid Tryz.prog G:=Ad.val (okE _ []) (w0 G) Aec
def ZA:Orc:=
 {f:=282,args:=[(.ptr 44 0)],part:=kV,nx:=506,ok:=true,v:=(.tuple []),out:=sZ,nx':=508,wr:=[44]}
theorem Abu:∀[F:Facts],Ac (Env.ofS Tryz.prog [bk] []) 1000000 ZA=true:=by
 intro F
 kernel_rfl
theorem Arg (G:Nat→D→D):ZA.Valid Tryz.prog G:=Ad.val (okE _ []) (.cons (Aqt G) (w0 G)) Abu
def X8:Orc:=
 {f:=284,args:=[(.slice 45 0 4 1),(.func (.func 285) [] [(.ptr 508 0)])],part:=(no y6 (no (no .nil (no .nil (no wO (no .nil (no .nil (no .nil (lf (.cells 5 (nd (.int .i64 (.ofNat 0)) F0 y34))))))))) .nil)),nx:=509,ok:=true,v:=(.bool true),out:=(no .nil (no (no .nil (no .nil (no pD (no .nil (no .nil (no .nil (lf (.cells 5 (nd (.int .i64 (.ofNat 1)) F0 y34))))))))) .nil)),nx':=509,wr:=[44,508]}
theorem Afh:∀[F:Facts],Ac (Env.ofS Tryz.prog [] []) 1000000 X8=true:=by
 intro F
 kernel_rfl
theorem Abk (G:Nat→D→D):X8.Valid Tryz.prog G:=Ad.val (okE _ []) (w0 G) Afh
def bx:Orc:=
 {f:=308,args:=[(.ptr 44 0),(.int .i64 (.ofNat 416)),(.func (.func 319) [] [])],part:=xw,nx:=511,ok:=true,v:=(.int .i64 (.ofNat 1)),out:=iq,nx':=511,wr:=[44]}
theorem Ai1:∀[F:Facts],Ac (Env.ofS Tryz.prog [] []) 1000000 bx=true:=by
 intro F
 kernel_rfl
theorem Ahd (G:Nat→D→D):bx.Valid Tryz.prog G:=Ad.val (okE _ []) (w0 G) Ai1
def XM:Orc:=
 {f:=282,args:=[(.ptr 44 0)],part:=xw,nx:=511,ok:=true,v:=(.tuple []),out:=iq,nx':=513,wr:=[44]}
theorem Amv:∀[F:Facts],Ac (Env.ofS Tryz.prog [bx] []) 1000000 XM=true:=by
 intro F
 kernel_rfl
theorem zR (G:Nat→D→D):XM.Valid Tryz.prog G:=Ad.val (okE _ []) (.cons (Ahd G) (w0 G)) Amv
def Xv:Orc:=
 {f:=284,args:=[(.slice 45 0 4 1),(.func (.func 285) [] [(.ptr 513 0)])],part:=(no (no .nil (no (no (no (no (no (no (no (lf (.cells 5 (nd (.int .i64 (.ofNat 0)) F0 pJ))) .nil) .nil) .nil) .nil) .nil) .nil) y4)) gD),nx:=514,ok:=true,v:=(.bool true),out:=(no (no .nil (no (no (no (no (no (no (no (lf (.cells 5 (nd (.int .i64 (.ofNat 2)) F0 (nd (.int .i64 (.ofNat 16)) (lf (.int .i64 (.ofNat 12))) .nil)))) .nil) .nil) .nil) .nil) .nil) .nil) .nil)) wX),nx':=516,wr:=[44,513]}
theorem Ads:∀[F:Facts],Ac (Env.ofS Tryz.prog [] []) 1000000 Xv=true:=by
 intro F
 kernel_rfl
theorem Ace (G:Nat→D→D):Xv.Valid Tryz.prog G:=Ad.val (okE _ []) (w0 G) Ads
def Yi:Orc:=
 {f:=308,args:=[(.ptr 44 0),(.int .i64 (.ofNat 416)),(.func (.func 319) [] [])],part:=xJ,nx:=518,ok:=true,v:=(.int .i64 (.ofNat 1)),out:=wy,nx':=518,wr:=[44]}
theorem zi:∀[F:Facts],Ac (Env.ofS Tryz.prog [] []) 1000000 Yi=true:=by
 intro F
 kernel_rfl
theorem Agr (G:Nat→D→D):Yi.Valid Tryz.prog G:=Ad.val (okE _ []) (w0 G) zi
def Y4:Orc:=
 {f:=282,args:=[(.ptr 44 0)],part:=xJ,nx:=518,ok:=true,v:=(.tuple []),out:=wy,nx':=520,wr:=[44]}
theorem Ard:∀[F:Facts],Ac (Env.ofS Tryz.prog [Yi] []) 1000000 Y4=true:=by
 intro F
 kernel_rfl
theorem Amp (G:Nat→D→D):Y4.Valid Tryz.prog G:=Ad.val (okE _ []) (.cons (Agr G) (w0 G)) Ard
def aS:Orc:=
 {f:=284,args:=[(.slice 45 0 4 1),(.func (.func 285) [] [(.ptr 520 0)])],part:=(no y6 (no (no (no .nil (no (no (no (no (no (lf (.cells 5 (nd (.int .i64 (.ofNat 0)) F0 y14))) .nil) .nil) .nil) .nil) .nil)) tW) .nil)),nx:=521,ok:=true,v:=(.bool true),out:=(no .nil (no (no (no .nil (no (no (no (no (no (lf (.cells 5 (nd (.int .i64 (.ofNat 2)) F0 (nd (.int .i64 (.ofNat 1)) (lf (.int .i64 (.ofNat 15))) .nil)))) .nil) .nil) .nil) .nil) .nil)) yB) .nil)),nx':=523,wr:=[44,520]}
theorem Aoz:∀[F:Facts],Ac (Env.ofS Tryz.prog [] []) 1000000 aS=true:=by
 intro F
 kernel_rfl
theorem Aju (G:Nat→D→D):aS.Valid Tryz.prog G:=Ad.val (okE _ []) (w0 G) Aoz
def Zd:Orc:=
 {f:=282,args:=[(.ptr 44 0)],part:=(no .nil (no jS .nil)),nx:=525,ok:=true,v:=(.tuple []),out:=.nil,nx':=526,wr:=[]}
theorem Alc:∀[F:Facts],Ac (Env.ofS Tryz.prog [] []) 1000000 Zd=true:=by
 intro F
 kernel_rfl
theorem Ang (G:Nat→D→D):Zd.Valid Tryz.prog G:=Ad.val (okE _ []) (w0 G) Alc
def Yk:Orc:=
 {f:=284,args:=[(.slice 45 0 4 1),(.func (.func 285) [] [(.ptr 526 0)])],part:=(no y6 (no jS (no .nil (no .nil (no (no (no (no (no (lf (.cells 5 (nd (.int .i64 (.ofNat 0)) F0 y88))) .nil) .nil) .nil) .nil) .nil))))),nx:=527,ok:=true,v:=(.bool true),out:=(no .nil (no vP (no .nil (no .nil (no (no (no (no (no (lf (.cells 5 (nd (.int .i64 (.ofNat 4)) F0 y88))) .nil) .nil) .nil) .nil) .nil))))),nx':=528,wr:=[44,526]}
theorem Ap5:∀[F:Facts],Ac (Env.ofS Tryz.prog [] []) 1000000 Yk=true:=by
 intro F
 kernel_rfl
theorem Ape (G:Nat→D→D):Yk.Valid Tryz.prog G:=Ad.val (okE _ []) (w0 G) Ap5
def Z2:Orc:=
 {f:=282,args:=[(.ptr 44 0)],part:=(no .nil uf),nx:=530,ok:=true,v:=(.tuple []),out:=.nil,nx':=531,wr:=[]}
theorem Ajb:∀[F:Facts],Ac (Env.ofS Tryz.prog [] []) 1000000 Z2=true:=by
 intro F
 kernel_rfl
theorem zW (G:Nat→D→D):Z2.Valid Tryz.prog G:=Ad.val (okE _ []) (w0 G) Ajb
def bM:Orc:=
 {f:=284,args:=[(.slice 45 0 4 1),(.func (.func 285) [] [(.ptr 531 0)])],part:=(no (no (no .nil (no (no .nil (no (no (no (no (lf (.cells 5 (nd (.int .i64 (.ofNat 0)) F0 Tg))) .nil) .nil) .nil) .nil)) .nil)) y5) uf),nx:=532,ok:=true,v:=(.bool true),out:=(no (no (no .nil (no (no .nil (no (no (no (no (lf (.cells 5 (nd (.int .i64 (.ofNat 2)) F0 (nd (.int .i64 (.ofNat 5)) (lf (.int .i64 (.ofNat 18))) .nil)))) .nil) .nil) .nil) .nil)) .nil)) .nil) XO),nx':=534,wr:=[44,531]}
theorem Ahl:∀[F:Facts],Ac (Env.ofS Tryz.prog [] []) 1000000 bM=true:=by
 intro F
 kernel_rfl
theorem Al0 (G:Nat→D→D):bM.Valid Tryz.prog G:=Ad.val (okE _ []) (w0 G) Ahl
def ZX:Orc:=
 {f:=282,args:=[(.ptr 44 0)],part:=(no .nil XO),nx:=536,ok:=true,v:=(.tuple []),out:=.nil,nx':=537,wr:=[]}
theorem Ak9:∀[F:Facts],Ac (Env.ofS Tryz.prog [] []) 1000000 ZX=true:=by
 intro F
 kernel_rfl
theorem Aa6 (G:Nat→D→D):ZX.Valid Tryz.prog G:=Ad.val (okE _ []) (w0 G) Ak9
def XY:Orc:=
 {f:=284,args:=[(.slice 45 0 4 1),(.func (.func 285) [] [(.ptr 537 0)])],part:=(no (no .nil (no (no .nil (no .nil (no (no (no (no (lf (.cells 5 (nd (.int .i64 (.ofNat 0)) F0 y94))) .nil) .nil) .nil) .nil))) y4)) XO),nx:=538,ok:=true,v:=(.bool true),out:=(no (no .nil (no (no .nil (no .nil (no (no (no (no (lf (.cells 5 (nd (.int .i64 (.ofNat 4)) F0 y94))) .nil) .nil) .nil) .nil))) .nil)) xN),nx':=539,wr:=[44,537]}
theorem Aq6:∀[F:Facts],Ac (Env.ofS Tryz.prog [] []) 1000000 XY=true:=by
 intro F
 kernel_rfl
theorem Afw (G:Nat→D→D):XY.Valid Tryz.prog G:=Ad.val (okE _ []) (w0 G) Aq6
def Yb:Orc:=
 {f:=308,args:=[(.ptr 44 0),(.int .i64 (.ofNat 416)),(.func (.func 319) [] [])],part:=pH,nx:=541,ok:=true,v:=(.int .i64 (.ofNat 3)),out:=m6,nx':=541,wr:=[44]}
theorem z6:∀[F:Facts],Ac (Env.ofS Tryz.prog [] []) 1000000 Yb=true:=by
 intro F
 kernel_rfl
theorem Ait (G:Nat→D→D):Yb.Valid Tryz.prog G:=Ad.val (okE _ []) (w0 G) z6
def bU:Orc:=
 {f:=282,args:=[(.ptr 44 0)],part:=pH,nx:=541,ok:=true,v:=(.tuple []),out:=m6,nx':=543,wr:=[44]}
theorem Aoh:∀[F:Facts],Ac (Env.ofS Tryz.prog [Yb] []) 1000000 bU=true:=by
 intro F
 kernel_rfl
theorem Akn (G:Nat→D→D):bU.Valid Tryz.prog G:=Ad.val (okE _ []) (.cons (Ait G) (w0 G)) Aoh
def YX:Orc:=
 {f:=284,args:=[(.slice 45 0 4 1),(.func (.func 285) [] [(.ptr 543 0)])],part:=(no (no (no (no (no (no .nil (no (no (no (lf (.cells 5 (nd (.int .i64 (.ofNat 0)) AQ y32))) .nil) .nil) .nil)) .nil) .nil) .nil) y5) oP),nx:=544,ok:=true,v:=(.bool true),out:=(no (no (no (no (no (no .nil (no (no (no (lf (.cells 5 (nd (.int .i64 (.ofNat 1)) AQ y32))) .nil) .nil) .nil)) .nil) .nil) .nil) .nil) Xf),nx':=544,wr:=[44,543]}
theorem Ahc:∀[F:Facts],Ac (Env.ofS Tryz.prog [] []) 1000000 YX=true:=by
 intro F
 kernel_rfl
theorem Asx (G:Nat→D→D):YX.Valid Tryz.prog G:=Ad.val (okE _ []) (w0 G) Ahc
def dA:Orc:=
 {f:=282,args:=[(.ptr 44 0)],part:=(no .nil Xf),nx:=546,ok:=true,v:=(.tuple []),out:=.nil,nx':=547,wr:=[]}
theorem Aj2:∀[F:Facts],Ac (Env.ofS Tryz.prog [] []) 1000000 dA=true:=by
 intro F
 kernel_rfl
theorem Ad3 (G:Nat→D→D):dA.Valid Tryz.prog G:=Ad.val (okE _ []) (w0 G) Aj2
def cx:Orc:=
 {f:=284,args:=[(.slice 45 0 4 1),(.func (.func 285) [] [(.ptr 547 0)])],part:=(no (no (no .nil (no (no (no .nil (no (no (no (lf (.cells 5 (nd (.int .i64 (.ofNat 0)) AQ y34))) .nil) .nil) .nil)) .nil) .nil)) y5) Xf),nx:=548,ok:=true,v:=(.bool true),out:=(no (no (no .nil (no (no (no .nil (no (no (no (lf (.cells 5 (nd (.int .i64 (.ofNat 4)) AQ y34))) .nil) .nil) .nil)) .nil) .nil)) .nil) lh),nx':=549,wr:=[44,547]}
theorem Afz:∀[F:Facts],Ac (Env.ofS Tryz.prog [] []) 1000000 cx=true:=by
 intro F
 kernel_rfl
theorem Ar0 (G:Nat→D→D):cx.Valid Tryz.prog G:=Ad.val (okE _ []) (w0 G) Afz
def bw:Orc:=
 {f:=308,args:=[(.ptr 44 0),(.int .i64 (.ofNat 416)),(.func (.func 319) [] [])],part:=hI,nx:=551,ok:=true,v:=(.int .i64 (.ofNat 1)),out:=yH,nx':=551,wr:=[44]}
theorem Alq:∀[F:Facts],Ac (Env.ofS Tryz.prog [] []) 1000000 bw=true:=by
 intro F
 kernel_rfl
theorem zb (G:Nat→D→D):bw.Valid Tryz.prog G:=Ad.val (okE _ []) (w0 G) Alq
def aa:Orc:=
 {f:=282,args:=[(.ptr 44 0)],part:=hI,nx:=551,ok:=true,v:=(.tuple []),out:=yH,nx':=553,wr:=[44]}
theorem An7:∀[F:Facts],Ac (Env.ofS Tryz.prog [bw] []) 1000000 aa=true:=by
 intro F
 kernel_rfl
theorem Ac4 (G:Nat→D→D):aa.Valid Tryz.prog G:=Ad.val (okE _ []) (.cons (zb G) (w0 G)) An7
def Z1:Orc:=
 {f:=284,args:=[(.slice 45 0 4 1),(.func (.func 285) [] [(.ptr 553 0)])],part:=(no (no .nil (no (no .nil (no (no .nil (no (no (no (lf (.cells 5 (nd (.int .i64 (.ofNat 0)) AQ y8))) .nil) .nil) .nil)) .nil)) y4)) tR),nx:=554,ok:=true,v:=(.bool true),out:=(no (no .nil (no (no .nil (no (no .nil (no (no (no (lf (.cells 5 (nd (.int .i64 (.ofNat 1)) AQ y8))) .nil) .nil) .nil)) .nil)) .nil)) lI),nx':=554,wr:=[44,553]}
theorem zP:∀[F:Facts],Ac (Env.ofS Tryz.prog [] []) 1000000 Z1=true:=by
 intro F
 kernel_rfl
theorem An5 (G:Nat→D→D):Z1.Valid Tryz.prog G:=Ad.val (okE _ []) (w0 G) zP
def XR:Orc:=
 {f:=308,args:=[(.ptr 44 0),(.int .i64 (.ofNat 416)),(.func (.func 319) [] [])],part:=qS,nx:=556,ok:=true,v:=(.int .i64 (.ofNat 1)),out:=sc,nx':=556,wr:=[44]}
theorem Afp:∀[F:Facts],Ac (Env.ofS Tryz.prog [] []) 1000000 XR=true:=by
 intro F
 kernel_rfl
theorem Ala (G:Nat→D→D):XR.Valid Tryz.prog G:=Ad.val (okE _ []) (w0 G) Afp
def dW:Orc:=
 {f:=282,args:=[(.ptr 44 0)],part:=qS,nx:=556,ok:=true,v:=(.tuple []),out:=sc,nx':=558,wr:=[44]}
theorem zN:∀[F:Facts],Ac (Env.ofS Tryz.prog [XR] []) 1000000 dW=true:=by
 intro F
 kernel_rfl
theorem Akj (G:Nat→D→D):dW.Valid Tryz.prog G:=Ad.val (okE _ []) (.cons (Ala G) (w0 G)) zN
def W7:Orc:=
 {f:=284,args:=[(.slice 45 0 4 1),(.func (.func 285) [] [(.ptr 558 0)])],part:=(no y6 (no vC (no .nil (no .nil (no (no .nil (no (no (no (lf (.cells 5 (nd (.int .i64 (.ofNat 0)) AQ y88))) .nil) .nil) .nil)) .nil))))),nx:=559,ok:=true,v:=(.bool true),out:=(no .nil (no mc (no .nil (no .nil (no (no .nil (no (no (no (lf (.cells 5 (nd (.int .i64 (.ofNat 1)) AQ y88))) .nil) .nil) .nil)) .nil))))),nx':=559,wr:=[44,558]}
theorem Aqj:∀[F:Facts],Ac (Env.ofS Tryz.prog [] []) 1000000 W7=true:=by
 intro F
 kernel_rfl
theorem Agn (G:Nat→D→D):W7.Valid Tryz.prog G:=Ad.val (okE _ []) (w0 G) Aqj
def Zt:Orc:=
 {f:=308,args:=[(.ptr 44 0),(.int .i64 (.ofNat 416)),(.func (.func 319) [] [])],part:=vD,nx:=561,ok:=true,v:=(.int .i64 (.ofNat 1)),out:=sT,nx':=561,wr:=[44]}
theorem Akd:∀[F:Facts],Ac (Env.ofS Tryz.prog [] []) 1000000 Zt=true:=by
 intro F
 kernel_rfl
theorem An2 (G:Nat→D→D):Zt.Valid Tryz.prog G:=Ad.val (okE _ []) (w0 G) Akd
def Yw:Orc:=
 {f:=282,args:=[(.ptr 44 0)],part:=vD,nx:=561,ok:=true,v:=(.tuple []),out:=sT,nx':=563,wr:=[44]}
theorem Amw:∀[F:Facts],Ac (Env.ofS Tryz.prog [Zt] []) 1000000 Yw=true:=by
 intro F
 kernel_rfl
theorem Ahf (G:Nat→D→D):Yw.Valid Tryz.prog G:=Ad.val (okE _ []) (.cons (An2 G) (w0 G)) Amw
def aD:Orc:=
 {f:=284,args:=[(.slice 45 0 4 1),(.func (.func 285) [] [(.ptr 563 0)])],part:=(no (no (no .nil (no (no .nil (no .nil (no (no (no (lf (.cells 5 (nd (.int .i64 (.ofNat 0)) AQ y94))) .nil) .nil) .nil))) .nil)) y5) vb),nx:=564,ok:=true,v:=(.bool true),out:=(no (no (no .nil (no (no .nil (no .nil (no (no (no (lf (.cells 5 (nd (.int .i64 (.ofNat 4)) AQ y94))) .nil) .nil) .nil))) .nil)) .nil) rH),nx':=565,wr:=[44,563]}
theorem Am8:∀[F:Facts],Ac (Env.ofS Tryz.prog [] []) 1000000 aD=true:=by
 intro F
 kernel_rfl
theorem Aca (G:Nat→D→D):aD.Valid Tryz.prog G:=Ad.val (okE _ []) (w0 G) Am8
def XG:Orc:=
 {f:=308,args:=[(.ptr 44 0),(.int .i64 (.ofNat 416)),(.func (.func 319) [] [])],part:=jC,nx:=567,ok:=true,v:=(.int .i64 (.ofNat 1)),out:=qH,nx':=567,wr:=[44]}
theorem zp:∀[F:Facts],Ac (Env.ofS Tryz.prog [] []) 1000000 XG=true:=by
 intro F
 kernel_rfl
theorem Age (G:Nat→D→D):XG.Valid Tryz.prog G:=Ad.val (okE _ []) (w0 G) zp
end Go.Proofs.YtmjeljjkhblgeaaGreatDoor.familySessions

