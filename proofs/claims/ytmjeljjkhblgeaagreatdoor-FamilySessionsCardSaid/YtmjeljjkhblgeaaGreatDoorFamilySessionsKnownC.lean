/- What is proved: that certain calls which the law FamilySessions makes come to the results that are written here (part 3 of 19). Conditions: the memory that such a call reaches is as written here; the kernel runs the evaluator over each. -/
import Derived.Test.YtmjeljjkhblgeaaGreatDoorFamilySessionsKnownA
set_option linter.unusedVariables false
set_option linter.unusedSectionVars false
set_option linter.unusedSimpArgs false
namespace Go.Proofs.YtmjeljjkhblgeaaGreatDoor.familySessions
open Go.AE
def dC:Orc:=
 {f:=282,args:=[(.ptr 44 0)],part:=(no .nil cS),nx:=328,ok:=true,v:=(.tuple []),out:=.nil,nx':=329,wr:=[]}
theorem Acy:∀[F:Facts],Ac (Env.ofS Tryz.prog [] []) 1000000 dC=true:=by
 intro F
 kernel_rfl
theorem Ah8 (G:Nat→D→D):dC.Valid Tryz.prog G:=Ad.val (okE _ []) (w0 G) Acy
def YV:Orc:=
 {f:=284,args:=[(.slice 45 0 4 1),(.func (.func 285) [] [(.ptr 329 0)])],part:=(no (no .nil (no (no .nil (no (no (no .nil (no (lf (.cells 5 (nd (.int .i64 (.ofNat 0)) FW y8))) .nil)) .nil) .nil)) y4)) cS),nx:=330,ok:=true,v:=(.bool true),out:=(no (no .nil (no (no .nil (no (no (no .nil (no (lf (.cells 5 (nd (.int .i64 (.ofNat 4)) FW y8))) .nil)) .nil) .nil)) .nil)) oK),nx':=331,wr:=[44,329]}
theorem Ad8:∀[F:Facts],Ac (Env.ofS Tryz.prog [] []) 1000000 YV=true:=by
 intro F
 kernel_rfl
theorem Aac (G:Nat→D→D):YV.Valid Tryz.prog G:=Ad.val (okE _ []) (w0 G) Ad8
def XA:Orc:=
 {f:=308,args:=[(.ptr 44 0),(.int .i64 (.ofNat 416)),(.func (.func 319) [] [])],part:=xW,nx:=333,ok:=true,v:=(.int .i64 (.ofNat 1)),out:=pz,nx':=333,wr:=[44]}
theorem Abj:∀[F:Facts],Ac (Env.ofS Tryz.prog [] []) 1000000 XA=true:=by
 intro F
 kernel_rfl
theorem Aiz (G:Nat→D→D):XA.Valid Tryz.prog G:=Ad.val (okE _ []) (w0 G) Abj
def ZY:Orc:=
 {f:=282,args:=[(.ptr 44 0)],part:=xW,nx:=333,ok:=true,v:=(.tuple []),out:=pz,nx':=335,wr:=[44]}
theorem Ag0:∀[F:Facts],Ac (Env.ofS Tryz.prog [XA] []) 1000000 ZY=true:=by
 intro F
 kernel_rfl
theorem Anz (G:Nat→D→D):ZY.Valid Tryz.prog G:=Ad.val (okE _ []) (.cons (Aiz G) (w0 G)) Ag0
def a8:Orc:=
 {f:=284,args:=[(.slice 45 0 4 1),(.func (.func 285) [] [(.ptr 335 0)])],part:=(no (no (no (no (no .nil (no (no .nil (no (lf (.cells 5 (nd (.int .i64 (.ofNat 0)) FW y83))) .nil)) .nil)) .nil) .nil) y5) jO),nx:=336,ok:=true,v:=(.bool true),out:=(no (no (no (no (no .nil (no (no .nil (no (lf (.cells 5 (nd (.int .i64 (.ofNat 1)) FW y83))) .nil)) .nil)) .nil) .nil) .nil) lZ),nx':=336,wr:=[44,335]}
theorem Aqb:∀[F:Facts],Ac (Env.ofS Tryz.prog [] []) 1000000 a8=true:=by
 intro F
 kernel_rfl
theorem Acu (G:Nat→D→D):a8.Valid Tryz.prog G:=Ad.val (okE _ []) (w0 G) Aqb
def XK:Orc:=
 {f:=308,args:=[(.ptr 44 0),(.int .i64 (.ofNat 416)),(.func (.func 319) [] [])],part:=jQ,nx:=338,ok:=true,v:=(.int .i64 (.ofNat 1)),out:=ub,nx':=338,wr:=[44]}
theorem Agx:∀[F:Facts],Ac (Env.ofS Tryz.prog [] []) 1000000 XK=true:=by
 intro F
 kernel_rfl
theorem Aaf (G:Nat→D→D):XK.Valid Tryz.prog G:=Ad.val (okE _ []) (w0 G) Agx
def Xn:Orc:=
 {f:=282,args:=[(.ptr 44 0)],part:=jQ,nx:=338,ok:=true,v:=(.tuple []),out:=ub,nx':=340,wr:=[44]}
theorem Ai5:∀[F:Facts],Ac (Env.ofS Tryz.prog [XK] []) 1000000 Xn=true:=by
 intro F
 kernel_rfl
theorem Ada (G:Nat→D→D):Xn.Valid Tryz.prog G:=Ad.val (okE _ []) (.cons (Aaf G) (w0 G)) Ai5
def Z4:Orc:=
 {f:=284,args:=[(.slice 45 0 4 1),(.func (.func 285) [] [(.ptr 340 0)])],part:=(no y6 (no (no .nil (no (no .nil (no (no .nil (no (lf (.cells 5 (nd (.int .i64 (.ofNat 0)) FW y88))) .nil)) .nil)) vg)) .nil)),nx:=341,ok:=true,v:=(.bool true),out:=(no .nil (no (no .nil (no (no .nil (no (no .nil (no (lf (.cells 5 (nd (.int .i64 (.ofNat 2)) FW y89))) .nil)) .nil)) sB)) .nil)),nx':=343,wr:=[44,340]}
theorem Aio:∀[F:Facts],Ac (Env.ofS Tryz.prog [] []) 1000000 Z4=true:=by
 intro F
 kernel_rfl
theorem Al1 (G:Nat→D→D):Z4.Valid Tryz.prog G:=Ad.val (okE _ []) (w0 G) Aio
def bj:Orc:=
 {f:=308,args:=[(.ptr 44 0),(.int .i64 (.ofNat 416)),(.func (.func 319) [] [])],part:=lJ,nx:=345,ok:=true,v:=(.int .i64 (.ofNat 1)),out:=mU,nx':=345,wr:=[44]}
theorem Amg:∀[F:Facts],Ac (Env.ofS Tryz.prog [] []) 1000000 bj=true:=by
 intro F
 kernel_rfl
theorem Al9 (G:Nat→D→D):bj.Valid Tryz.prog G:=Ad.val (okE _ []) (w0 G) Amg
def ak:Orc:=
 {f:=282,args:=[(.ptr 44 0)],part:=lJ,nx:=345,ok:=true,v:=(.tuple []),out:=mU,nx':=347,wr:=[44]}
theorem Asw:∀[F:Facts],Ac (Env.ofS Tryz.prog [bj] []) 1000000 ak=true:=by
 intro F
 kernel_rfl
theorem Af9 (G:Nat→D→D):ak.Valid Tryz.prog G:=Ad.val (okE _ []) (.cons (Al9 G) (w0 G)) Asw
def eo:Orc:=
 {f:=284,args:=[(.slice 45 0 4 1),(.func (.func 285) [] [(.ptr 347 0)])],part:=(no (no (no .nil (no .nil (no .nil (no (no .nil (no (lf (.cells 5 (nd (.int .i64 (.ofNat 0)) FW y94))) .nil)) .nil)))) y5) oZ),nx:=348,ok:=true,v:=(.bool true),out:=(no (no (no .nil (no .nil (no .nil (no (no .nil (no (lf (.cells 5 (nd (.int .i64 (.ofNat 2)) FW y94))) .nil)) .nil)))) .nil) cD),nx':=350,wr:=[44,347]}
theorem Agj:∀[F:Facts],Ac (Env.ofS Tryz.prog [] []) 1000000 eo=true:=by
 intro F
 kernel_rfl
theorem Ak3 (G:Nat→D→D):eo.Valid Tryz.prog G:=Ad.val (okE _ []) (w0 G) Agj
def Zv:Orc:=
 {f:=282,args:=[(.ptr 44 0)],part:=(no .nil cD),nx:=352,ok:=true,v:=(.tuple []),out:=.nil,nx':=353,wr:=[]}
theorem Alv:∀[F:Facts],Ac (Env.ofS Tryz.prog [] []) 1000000 Zv=true:=by
 intro F
 kernel_rfl
theorem Asd (G:Nat→D→D):Zv.Valid Tryz.prog G:=Ad.val (okE _ []) (w0 G) Alv
def WY:Orc:=
 {f:=284,args:=[(.slice 45 0 4 1),(.func (.func 285) [] [(.ptr 353 0)])],part:=(no (no .nil (no (no (no (no .nil (no .nil (no (lf (.cells 5 (nd (.int .i64 (.ofNat 0)) FW y97))) .nil))) .nil) .nil) y4)) cD),nx:=354,ok:=true,v:=(.bool true),out:=(no (no .nil (no (no (no (no .nil (no .nil (no (lf (.cells 5 (nd (.int .i64 (.ofNat 4)) FW y97))) .nil))) .nil) .nil) .nil)) pI),nx':=355,wr:=[44,353]}
theorem Afj:∀[F:Facts],Ac (Env.ofS Tryz.prog [] []) 1000000 WY=true:=by
 intro F
 kernel_rfl
theorem zH (G:Nat→D→D):WY.Valid Tryz.prog G:=Ad.val (okE _ []) (w0 G) Afj
def aQ:Orc:=
 {f:=282,args:=[(.ptr 44 0)],part:=(no .nil pI),nx:=357,ok:=true,v:=(.tuple []),out:=.nil,nx':=358,wr:=[]}
theorem Al2:∀[F:Facts],Ac (Env.ofS Tryz.prog [] []) 1000000 aQ=true:=by
 intro F
 kernel_rfl
theorem Aks (G:Nat→D→D):aQ.Valid Tryz.prog G:=Ad.val (okE _ []) (w0 G) Al2
def YJ:Orc:=
 {f:=284,args:=[(.slice 45 0 4 1),(.func (.func 285) [] [(.ptr 358 0)])],part:=(no y6 (no uD (no .nil (no (no (no .nil (no .nil (no (lf (.cells 5 (nd (.int .i64 (.ofNat 0)) FW OU))) .nil))) .nil) .nil)))),nx:=359,ok:=true,v:=(.bool true),out:=(no .nil (no vu (no .nil (no (no (no .nil (no .nil (no (lf (.cells 5 (nd (.int .i64 (.ofNat 2)) FW iz))) .nil))) .nil) .nil)))),nx':=361,wr:=[44,358]}
theorem Ao8:∀[F:Facts],Ac (Env.ofS Tryz.prog [] []) 1000000 YJ=true:=by
 intro F
 kernel_rfl
theorem Aaq (G:Nat→D→D):YJ.Valid Tryz.prog G:=Ad.val (okE _ []) (w0 G) Ao8
def Xw:Orc:=
 {f:=282,args:=[(.ptr 44 0)],part:=(no .nil (no vu .nil)),nx:=363,ok:=true,v:=(.tuple []),out:=.nil,nx':=364,wr:=[]}
theorem Ahv:∀[F:Facts],Ac (Env.ofS Tryz.prog [] []) 1000000 Xw=true:=by
 intro F
 kernel_rfl
theorem Ab7 (G:Nat→D→D):Xw.Valid Tryz.prog G:=Ad.val (okE _ []) (w0 G) Ahv
def bP:Orc:=
 {f:=284,args:=[(.slice 45 0 4 1),(.func (.func 285) [] [(.ptr 364 0)])],part:=(no y6 (no (no .nil (no .nil (no (nd iT .nil (no .nil (no (lf (.cells 5 (nd (.int .i64 (.ofNat 0)) FW QW))) .nil))) .nil))) .nil)),nx:=365,ok:=true,v:=(.bool true),out:=(no .nil (no (no .nil (no .nil (no (nd gF .nil (no .nil (no (lf (.cells 5 (nd (.int .i64 (.ofNat 4)) FW QW))) .nil))) .nil))) .nil)),nx':=366,wr:=[44,364]}
theorem Aj5:∀[F:Facts],Ac (Env.ofS Tryz.prog [] []) 1000000 bP=true:=by
 intro F
 kernel_rfl
theorem Anv (G:Nat→D→D):bP.Valid Tryz.prog G:=Ad.val (okE _ []) (w0 G) Aj5
def Zw:Orc:=
 {f:=308,args:=[(.ptr 44 0),(.int .i64 (.ofNat 416)),(.func (.func 319) [] [])],part:=tg,nx:=368,ok:=true,v:=(.int .i64 (.ofNat 1)),out:=jn,nx':=368,wr:=[44]}
theorem Amr:∀[F:Facts],Ac (Env.ofS Tryz.prog [] []) 1000000 Zw=true:=by
 intro F
 kernel_rfl
theorem An9 (G:Nat→D→D):Zw.Valid Tryz.prog G:=Ad.val (okE _ []) (w0 G) Amr
def aA:Orc:=
 {f:=282,args:=[(.ptr 44 0)],part:=tg,nx:=368,ok:=true,v:=(.tuple []),out:=jn,nx':=370,wr:=[44]}
theorem Acb:∀[F:Facts],Ac (Env.ofS Tryz.prog [Zw] []) 1000000 aA=true:=by
 intro F
 kernel_rfl
theorem Afe (G:Nat→D→D):aA.Valid Tryz.prog G:=Ad.val (okE _ []) (.cons (An9 G) (w0 G)) Acb
def XP:Orc:=
 {f:=284,args:=[(.slice 45 0 4 1),(.func (.func 285) [] [(.ptr 370 0)])],part:=(no y6 (no nu (no (no (no .nil (no .nil (no .nil (no (lf (.cells 5 (nd (.int .i64 (.ofNat 0)) na y59))) .nil)))) .nil) .nil))),nx:=371,ok:=true,v:=(.bool true),out:=(no .nil (no mP (no (no (no .nil (no .nil (no .nil (no (lf (.cells 5 (nd (.int .i64 (.ofNat 4)) na y59))) .nil)))) .nil) .nil))),nx':=372,wr:=[44,370]}
theorem Afr:∀[F:Facts],Ac (Env.ofS Tryz.prog [] []) 1000000 XP=true:=by
 intro F
 kernel_rfl
theorem Aos (G:Nat→D→D):XP.Valid Tryz.prog G:=Ad.val (okE _ []) (w0 G) Afr
def cj:Orc:=
 {f:=308,args:=[(.ptr 44 0),(.int .i64 (.ofNat 416)),(.func (.func 319) [] [])],part:=kA,nx:=374,ok:=true,v:=(.int .i64 (.ofNat 1)),out:=yS,nx':=374,wr:=[44]}
theorem Aps:∀[F:Facts],Ac (Env.ofS Tryz.prog [] []) 1000000 cj=true:=by
 intro F
 kernel_rfl
theorem Acp (G:Nat→D→D):cj.Valid Tryz.prog G:=Ad.val (okE _ []) (w0 G) Aps
def XN:Orc:=
 {f:=282,args:=[(.ptr 44 0)],part:=kA,nx:=374,ok:=true,v:=(.tuple []),out:=yS,nx':=376,wr:=[44]}
theorem Acx:∀[F:Facts],Ac (Env.ofS Tryz.prog [cj] []) 1000000 XN=true:=by
 intro F
 kernel_rfl
theorem Aon (G:Nat→D→D):XN.Valid Tryz.prog G:=Ad.val (okE _ []) (.cons (Acp G) (w0 G)) Acx
def W5:Orc:=
 {f:=284,args:=[(.slice 45 0 4 1),(.func (.func 285) [] [(.ptr 376 0)])],part:=(no y6 (no (no (no .nil (no .nil (no .nil (no .nil (no (lf (.cells 5 (nd (.int .i64 (.ofNat 0)) R8 y59))) .nil))))) mF) .nil)),nx:=377,ok:=true,v:=(.bool true),out:=(no .nil (no (no (no .nil (no .nil (no .nil (no .nil (no (lf (.cells 5 (nd (.int .i64 (.ofNat 1)) R8 y59))) .nil))))) n9) .nil)),nx':=377,wr:=[44,376]}
theorem Ad5:∀[F:Facts],Ac (Env.ofS Tryz.prog [] []) 1000000 W5=true:=by
 intro F
 kernel_rfl
theorem Aqn (G:Nat→D→D):W5.Valid Tryz.prog G:=Ad.val (okE _ []) (w0 G) Ad5
def YD:Orc:=
 {f:=308,args:=[(.ptr 44 0),(.int .i64 (.ofNat 416)),(.func (.func 319) [] [])],part:=fL,nx:=379,ok:=true,v:=(.int .i64 (.ofNat 1)),out:=g7,nx':=379,wr:=[44]}
theorem zL:∀[F:Facts],Ac (Env.ofS Tryz.prog [] []) 1000000 YD=true:=by
 intro F
 kernel_rfl
theorem Ar6 (G:Nat→D→D):YD.Valid Tryz.prog G:=Ad.val (okE _ []) (w0 G) zL
def Yv:Orc:=
 {f:=282,args:=[(.ptr 44 0)],part:=fL,nx:=379,ok:=true,v:=(.tuple []),out:=g7,nx':=381,wr:=[44]}
theorem Ams:∀[F:Facts],Ac (Env.ofS Tryz.prog [YD] []) 1000000 Yv=true:=by
 intro F
 kernel_rfl
theorem Aat (G:Nat→D→D):Yv.Valid Tryz.prog G:=Ad.val (okE _ []) (.cons (Ar6 G) (w0 G)) Ams
def aY:Orc:=
 {f:=284,args:=[(.slice 45 0 4 1),(.func (.func 285) [] [(.ptr 381 0)])],part:=(no (no .nil (no .nil (no .nil (no y2 (no .nil (no .nil (no (lf (.cells 5 (nd (.int .i64 (.ofNat 0)) R8 y8))) .nil))))))) ga),nx:=382,ok:=true,v:=(.bool true),out:=(no (no .nil (no .nil (no .nil (no .nil (no .nil (no .nil (no (lf (.cells 5 (nd (.int .i64 (.ofNat 1)) R8 y8))) .nil))))))) sg),nx':=382,wr:=[44,381]}
theorem Ajj:∀[F:Facts],Ac (Env.ofS Tryz.prog [] []) 1000000 aY=true:=by
 intro F
 kernel_rfl
theorem Al4 (G:Nat→D→D):aY.Valid Tryz.prog G:=Ad.val (okE _ []) (w0 G) Ajj
def ew:Orc:=
 {f:=308,args:=[(.ptr 44 0),(.int .i64 (.ofNat 416)),(.func (.func 319) [] [])],part:=nP,nx:=384,ok:=true,v:=(.int .i64 (.ofNat 1)),out:=mL,nx':=384,wr:=[44]}
theorem zX:∀[F:Facts],Ac (Env.ofS Tryz.prog [] []) 1000000 ew=true:=by
 intro F
 kernel_rfl
theorem Am5 (G:Nat→D→D):ew.Valid Tryz.prog G:=Ad.val (okE _ []) (w0 G) zX
def dp:Orc:=
 {f:=282,args:=[(.ptr 44 0)],part:=nP,nx:=384,ok:=true,v:=(.tuple []),out:=mL,nx':=386,wr:=[44]}
theorem Aad:∀[F:Facts],Ac (Env.ofS Tryz.prog [ew] []) 1000000 dp=true:=by
 intro F
 kernel_rfl
theorem Ap1 (G:Nat→D→D):dp.Valid Tryz.prog G:=Ad.val (okE _ []) (.cons (Am5 G) (w0 G)) Aad
def aW:Orc:=
 {f:=284,args:=[(.slice 45 0 4 1),(.func (.func 285) [] [(.ptr 386 0)])],part:=(no y6 (no jB (no (no (no (no (no (no .nil (lf (.cells 5 (nd (.int .i64 (.ofNat 0)) R8 y14)))) .nil) .nil) .nil) .nil) .nil))),nx:=387,ok:=true,v:=(.bool true),out:=(no .nil (no wb (no (no (no (no (no (no .nil (lf (.cells 5 (nd (.int .i64 (.ofNat 4)) R8 y14)))) .nil) .nil) .nil) .nil) .nil))),nx':=388,wr:=[44,386]}
theorem Al3:∀[F:Facts],Ac (Env.ofS Tryz.prog [] []) 1000000 aW=true:=by
 intro F
 kernel_rfl
theorem Af0 (G:Nat→D→D):aW.Valid Tryz.prog G:=Ad.val (okE _ []) (w0 G) Al3
def fE:Orc:=
 {f:=308,args:=[(.ptr 44 0),(.int .i64 (.ofNat 416)),(.func (.func 319) [] [])],part:=pd,nx:=390,ok:=true,v:=(.int .i64 (.ofNat 3)),out:=gB,nx':=390,wr:=[44]}
theorem Abg:∀[F:Facts],Ac (Env.ofS Tryz.prog [] []) 1000000 fE=true:=by
 intro F
 kernel_rfl
theorem Alk (G:Nat→D→D):fE.Valid Tryz.prog G:=Ad.val (okE _ []) (w0 G) Abg
def Z5:Orc:=
 {f:=282,args:=[(.ptr 44 0)],part:=pd,nx:=390,ok:=true,v:=(.tuple []),out:=gB,nx':=392,wr:=[44]}
theorem Aa0:∀[F:Facts],Ac (Env.ofS Tryz.prog [fE] []) 1000000 Z5=true:=by
 intro F
 kernel_rfl
theorem Ajg (G:Nat→D→D):Z5.Valid Tryz.prog G:=Ad.val (okE _ []) (.cons (Alk G) (w0 G)) Aa0
def Y6:Orc:=
 {f:=284,args:=[(.slice 45 0 4 1),(.func (.func 285) [] [(.ptr 392 0)])],part:=(no y6 (no (no (no .nil (no (no (no (no .nil (lf (.cells 5 (nd (.int .i64 (.ofNat 0)) F2 y32)))) .nil) .nil) .nil)) tH) .nil)),nx:=393,ok:=true,v:=(.bool true),out:=(no .nil (no (no (no .nil (no (no (no (no .nil (lf (.cells 5 (nd (.int .i64 (.ofNat 1)) F2 y32)))) .nil) .nil) .nil)) sj) .nil)),nx':=393,wr:=[44,392]}
theorem Afk:∀[F:Facts],Ac (Env.ofS Tryz.prog [] []) 1000000 Y6=true:=by
 intro F
 kernel_rfl
theorem Aix (G:Nat→D→D):Y6.Valid Tryz.prog G:=Ad.val (okE _ []) (w0 G) Afk
def WP:Orc:=
 {f:=282,args:=[(.ptr 44 0)],part:=(no .nil (no (no .nil sj) .nil)),nx:=395,ok:=true,v:=(.tuple []),out:=.nil,nx':=396,wr:=[]}
theorem Aeo:∀[F:Facts],Ac (Env.ofS Tryz.prog [] []) 1000000 WP=true:=by
 intro F
 kernel_rfl
theorem Amm (G:Nat→D→D):WP.Valid Tryz.prog G:=Ad.val (okE _ []) (w0 G) Aeo
def ek:Orc:=
 {f:=284,args:=[(.slice 45 0 4 1),(.func (.func 285) [] [(.ptr 396 0)])],part:=(no y6 (no (no .nil (no .nil (no (nd yq (no (no .nil (lf (.cells 5 (nd (.int .i64 (.ofNat 0)) F2 y34)))) .nil) .nil) .nil))) .nil)),nx:=397,ok:=true,v:=(.bool true),out:=(no .nil (no (no .nil (no .nil (no (nd gT (no (no .nil (lf (.cells 5 (nd (.int .i64 (.ofNat 4)) F2 y34)))) .nil) .nil) .nil))) .nil)),nx':=398,wr:=[44,396]}
theorem Abw:∀[F:Facts],Ac (Env.ofS Tryz.prog [] []) 1000000 ek=true:=by
 intro F
 kernel_rfl
theorem Aab (G:Nat→D→D):ek.Valid Tryz.prog G:=Ad.val (okE _ []) (w0 G) Abw
def YN:Orc:=
 {f:=308,args:=[(.ptr 44 0),(.int .i64 (.ofNat 416)),(.func (.func 319) [] [])],part:=iC,nx:=400,ok:=true,v:=(.int .i64 (.ofNat 1)),out:=qY,nx':=400,wr:=[44]}
theorem Abs:∀[F:Facts],Ac (Env.ofS Tryz.prog [] []) 1000000 YN=true:=by
 intro F
 kernel_rfl
theorem Adi (G:Nat→D→D):YN.Valid Tryz.prog G:=Ad.val (okE _ []) (w0 G) Abs
def eF:Orc:=
 {f:=282,args:=[(.ptr 44 0)],part:=iC,nx:=400,ok:=true,v:=(.tuple []),out:=qY,nx':=402,wr:=[44]}
theorem Apu:∀[F:Facts],Ac (Env.ofS Tryz.prog [YN] []) 1000000 eF=true:=by
 intro F
 kernel_rfl
theorem Ak2 (G:Nat→D→D):eF.Valid Tryz.prog G:=Ad.val (okE _ []) (.cons (Adi G) (w0 G)) Apu
def YP:Orc:=
 {f:=284,args:=[(.slice 45 0 4 1),(.func (.func 285) [] [(.ptr 402 0)])],part:=(no y6 (no me (no (no (no .nil (no (no (no .nil (lf (.cells 5 (nd (.int .i64 (.ofNat 0)) F2 y8)))) .nil) .nil)) .nil) .nil))),nx:=403,ok:=true,v:=(.bool true),out:=(no .nil (no fO (no (no (no .nil (no (no (no .nil (lf (.cells 5 (nd (.int .i64 (.ofNat 1)) F2 y8)))) .nil) .nil)) .nil) .nil))),nx':=403,wr:=[44,402]}
theorem Ahq:∀[F:Facts],Ac (Env.ofS Tryz.prog [] []) 1000000 YP=true:=by
 intro F
 kernel_rfl
theorem Ail (G:Nat→D→D):YP.Valid Tryz.prog G:=Ad.val (okE _ []) (w0 G) Ahq
def YQ:Orc:=
 {f:=308,args:=[(.ptr 44 0),(.int .i64 (.ofNat 416)),(.func (.func 319) [] [])],part:=xo,nx:=405,ok:=true,v:=(.int .i64 (.ofNat 1)),out:=tp,nx':=405,wr:=[44]}
theorem Aff:∀[F:Facts],Ac (Env.ofS Tryz.prog [] []) 1000000 YQ=true:=by
 intro F
 kernel_rfl
theorem Aar (G:Nat→D→D):YQ.Valid Tryz.prog G:=Ad.val (okE _ []) (w0 G) Aff
def aP:Orc:=
 {f:=282,args:=[(.ptr 44 0)],part:=xo,nx:=405,ok:=true,v:=(.tuple []),out:=tp,nx':=407,wr:=[44]}
theorem Abd:∀[F:Facts],Ac (Env.ofS Tryz.prog [YQ] []) 1000000 aP=true:=by
 intro F
 kernel_rfl
theorem Arw (G:Nat→D→D):aP.Valid Tryz.prog G:=Ad.val (okE _ []) (.cons (Aar G) (w0 G)) Abd
def cO:Orc:=
 {f:=284,args:=[(.slice 45 0 4 1),(.func (.func 285) [] [(.ptr 407 0)])],part:=(no (no (no (no .nil (no .nil (no (no (no .nil (lf (.cells 5 (nd (.int .i64 (.ofNat 0)) F2 gv)))) .nil) .nil))) .nil) y5) nV),nx:=408,ok:=true,v:=(.bool true),out:=(no (no (no (no .nil (no .nil (no (no (no .nil (lf (.cells 5 (nd (.int .i64 (.ofNat 2)) F2 j6)))) .nil) .nil))) .nil) .nil) ka),nx':=410,wr:=[44,407]}
theorem Aba:∀[F:Facts],Ac (Env.ofS Tryz.prog [] []) 1000000 cO=true:=by
 intro F
 kernel_rfl
theorem Ak8 (G:Nat→D→D):cO.Valid Tryz.prog G:=Ad.val (okE _ []) (w0 G) Aba
def XF:Orc:=
 {f:=308,args:=[(.ptr 44 0),(.int .i64 (.ofNat 416)),(.func (.func 319) [] [])],part:=vH,nx:=412,ok:=true,v:=(.int .i64 (.ofNat 1)),out:=tt,nx':=412,wr:=[44]}
theorem Ald:∀[F:Facts],Ac (Env.ofS Tryz.prog [] []) 1000000 XF=true:=by
 intro F
 kernel_rfl
theorem Aie (G:Nat→D→D):XF.Valid Tryz.prog G:=Ad.val (okE _ []) (w0 G) Ald
def YL:Orc:=
 {f:=282,args:=[(.ptr 44 0)],part:=vH,nx:=412,ok:=true,v:=(.tuple []),out:=tt,nx':=414,wr:=[44]}
theorem Am4:∀[F:Facts],Ac (Env.ofS Tryz.prog [XF] []) 1000000 YL=true:=by
 intro F
 kernel_rfl
theorem Acv (G:Nat→D→D):YL.Valid Tryz.prog G:=Ad.val (okE _ []) (.cons (Aie G) (w0 G)) Am4
def XS:Orc:=
 {f:=284,args:=[(.slice 45 0 4 1),(.func (.func 285) [] [(.ptr 414 0)])],part:=(no y6 (no lS (no .nil (no .nil (no .nil (no (no (no .nil (lf (.cells 5 (nd (.int .i64 (.ofNat 0)) F2 y19)))) .nil) .nil)))))),nx:=415,ok:=true,v:=(.bool true),out:=(no .nil (no km (no .nil (no .nil (no .nil (no (no (no .nil (lf (.cells 5 (nd (.int .i64 (.ofNat 2)) F2 y19)))) .nil) .nil)))))),nx':=417,wr:=[44,414]}
theorem Asp:∀[F:Facts],Ac (Env.ofS Tryz.prog [] []) 1000000 XS=true:=by
 intro F
 kernel_rfl
theorem Ais (G:Nat→D→D):XS.Valid Tryz.prog G:=Ad.val (okE _ []) (w0 G) Asp
def bG:Orc:=
 {f:=282,args:=[(.ptr 44 0)],part:=(no .nil (no km .nil)),nx:=419,ok:=true,v:=(.tuple []),out:=.nil,nx':=420,wr:=[]}
theorem Al7:∀[F:Facts],Ac (Env.ofS Tryz.prog [] []) 1000000 bG=true:=by
 intro F
 kernel_rfl
theorem Aqc (G:Nat→D→D):bG.Valid Tryz.prog G:=Ad.val (okE _ []) (w0 G) Al7
def db:Orc:=
 {f:=284,args:=[(.slice 45 0 4 1),(.func (.func 285) [] [(.ptr 420 0)])],part:=(no y6 (no (no .nil (no (no (no .nil (no (no .nil (lf (.cells 5 (nd (.int .i64 (.ofNat 0)) F2 Tg)))) .nil)) .nil) pM)) .nil)),nx:=421,ok:=true,v:=(.bool true),out:=(no .nil (no (no .nil (no (no (no .nil (no (no .nil (lf (.cells 5 (nd (.int .i64 (.ofNat 4)) F2 Tg)))) .nil)) .nil) vk)) .nil)),nx':=422,wr:=[44,420]}
theorem zo:∀[F:Facts],Ac (Env.ofS Tryz.prog [] []) 1000000 db=true:=by
 intro F
 kernel_rfl
theorem Apw (G:Nat→D→D):db.Valid Tryz.prog G:=Ad.val (okE _ []) (w0 G) zo
def eu:Orc:=
 {f:=282,args:=[(.ptr 44 0)],part:=(no .nil jL),nx:=424,ok:=true,v:=(.tuple []),out:=.nil,nx':=425,wr:=[]}
theorem Ar1:∀[F:Facts],Ac (Env.ofS Tryz.prog [] []) 1000000 eu=true:=by
 intro F
 kernel_rfl
theorem Amj (G:Nat→D→D):eu.Valid Tryz.prog G:=Ad.val (okE _ []) (w0 G) Ar1
def d7:Orc:=
 {f:=284,args:=[(.slice 45 0 4 1),(.func (.func 285) [] [(.ptr 425 0)])],part:=(no (no .nil (no (no .nil (no (no .nil (no (no .nil (lf (.cells 5 (nd (.int .i64 (.ofNat 0)) F2 y97)))) .nil)) .nil)) y4)) jL),nx:=426,ok:=true,v:=(.bool true),out:=(no (no .nil (no (no .nil (no (no .nil (no (no .nil (lf (.cells 5 (nd (.int .i64 (.ofNat 2)) F2 oz)))) .nil)) .nil)) .nil)) ei),nx':=428,wr:=[44,425]}
theorem Aom:∀[F:Facts],Ac (Env.ofS Tryz.prog [] []) 1000000 d7=true:=by
 intro F
 kernel_rfl
theorem Adb (G:Nat→D→D):d7.Valid Tryz.prog G:=Ad.val (okE _ []) (w0 G) Aom
def dq:Orc:=
 {f:=282,args:=[(.ptr 44 0)],part:=(no .nil ei),nx:=430,ok:=true,v:=(.tuple []),out:=.nil,nx':=431,wr:=[]}
theorem Agi:∀[F:Facts],Ac (Env.ofS Tryz.prog [] []) 1000000 dq=true:=by
 intro F
 kernel_rfl
theorem zt (G:Nat→D→D):dq.Valid Tryz.prog G:=Ad.val (okE _ []) (w0 G) Agi
def Xk:Orc:=
 {f:=284,args:=[(.slice 45 0 4 1),(.func (.func 285) [] [(.ptr 431 0)])],part:=(no (no (no (no (no .nil (no .nil (no (no .nil (lf (.cells 5 (nd (.int .i64 (.ofNat 0)) F2 y24)))) .nil))) .nil) .nil) y5) ei),nx:=432,ok:=true,v:=(.bool true),out:=(no (no (no (no (no .nil (no .nil (no (no .nil (lf (.cells 5 (nd (.int .i64 (.ofNat 4)) F2 y24)))) .nil))) .nil) .nil) .nil) yQ),nx':=433,wr:=[44,431]}
theorem zu:∀[F:Facts],Ac (Env.ofS Tryz.prog [] []) 1000000 Xk=true:=by
 intro F
 kernel_rfl
theorem Aa2 (G:Nat→D→D):Xk.Valid Tryz.prog G:=Ad.val (okE _ []) (w0 G) zu
def dB:Orc:=
 {f:=308,args:=[(.ptr 44 0),(.int .i64 (.ofNat 416)),(.func (.func 319) [] [])],part:=ur,nx:=435,ok:=true,v:=(.int .i64 (.ofNat 3)),out:=vJ,nx':=435,wr:=[44]}
theorem zG:∀[F:Facts],Ac (Env.ofS Tryz.prog [] []) 1000000 dB=true:=by
 intro F
 kernel_rfl
theorem Aau (G:Nat→D→D):dB.Valid Tryz.prog G:=Ad.val (okE _ []) (w0 G) zG
def aN:Orc:=
 {f:=282,args:=[(.ptr 44 0)],part:=ur,nx:=435,ok:=true,v:=(.tuple []),out:=vJ,nx':=437,wr:=[44]}
theorem Akc:∀[F:Facts],Ac (Env.ofS Tryz.prog [dB] []) 1000000 aN=true:=by
 intro F
 kernel_rfl
theorem Acn (G:Nat→D→D):aN.Valid Tryz.prog G:=Ad.val (okE _ []) (.cons (Aau G) (w0 G)) Akc
def dX:Orc:=
 {f:=284,args:=[(.slice 45 0 4 1),(.func (.func 285) [] [(.ptr 437 0)])],part:=(no (no .nil (no .nil (no (no .nil (no .nil (no (no .nil (lf (.cells 5 (nd (.int .i64 (.ofNat 0)) Hv y32)))) .nil))) y3))) jy),nx:=438,ok:=true,v:=(.bool true),out:=(no (no .nil (no .nil (no (no .nil (no .nil (no (no .nil (lf (.cells 5 (nd (.int .i64 (.ofNat 1)) Hv y32)))) .nil))) .nil))) cU),nx':=438,wr:=[44,437]}
theorem Acq:∀[F:Facts],Ac (Env.ofS Tryz.prog [] []) 1000000 dX=true:=by
 intro F
 kernel_rfl
theorem Aci (G:Nat→D→D):dX.Valid Tryz.prog G:=Ad.val (okE _ []) (w0 G) Acq
def aO:Orc:=
 {f:=282,args:=[(.ptr 44 0)],part:=(no .nil cU),nx:=440,ok:=true,v:=(.tuple []),out:=.nil,nx':=441,wr:=[]}
theorem Ael:∀[F:Facts],Ac (Env.ofS Tryz.prog [] []) 1000000 aO=true:=by
 intro F
 kernel_rfl
theorem Ahz (G:Nat→D→D):aO.Valid Tryz.prog G:=Ad.val (okE _ []) (w0 G) Ael
def aT:Orc:=
 {f:=284,args:=[(.slice 45 0 4 1),(.func (.func 285) [] [(.ptr 441 0)])],part:=(no (no .nil (no (no .nil (no .nil (no .nil (no (no .nil (lf (.cells 5 (nd (.int .i64 (.ofNat 0)) Hv y8)))) .nil)))) y4)) cU),nx:=442,ok:=true,v:=(.bool true),out:=(no (no .nil (no (no .nil (no .nil (no .nil (no (no .nil (lf (.cells 5 (nd (.int .i64 (.ofNat 4)) Hv y8)))) .nil)))) .nil)) n6),nx':=443,wr:=[44,441]}
theorem Agc:∀[F:Facts],Ac (Env.ofS Tryz.prog [] []) 1000000 aT=true:=by
 intro F
 kernel_rfl
theorem Afc (G:Nat→D→D):aT.Valid Tryz.prog G:=Ad.val (okE _ []) (w0 G) Agc
def Zy:Orc:=
 {f:=308,args:=[(.ptr 44 0),(.int .i64 (.ofNat 416)),(.func (.func 319) [] [])],part:=oi,nx:=445,ok:=true,v:=(.int .i64 (.ofNat 1)),out:=yC,nx':=445,wr:=[44]}
theorem zT:∀[F:Facts],Ac (Env.ofS Tryz.prog [] []) 1000000 Zy=true:=by
 intro F
 kernel_rfl
theorem Agp (G:Nat→D→D):Zy.Valid Tryz.prog G:=Ad.val (okE _ []) (w0 G) zT
def bC:Orc:=
 {f:=282,args:=[(.ptr 44 0)],part:=oi,nx:=445,ok:=true,v:=(.tuple []),out:=yC,nx':=447,wr:=[44]}
theorem Afu:∀[F:Facts],Ac (Env.ofS Tryz.prog [Zy] []) 1000000 bC=true:=by
 intro F
 kernel_rfl
theorem Ar8 (G:Nat→D→D):bC.Valid Tryz.prog G:=Ad.val (okE _ []) (.cons (Agp G) (w0 G)) Afu
def Yl:Orc:=
 {f:=284,args:=[(.slice 45 0 4 1),(.func (.func 285) [] [(.ptr 447 0)])],part:=(no (no (no (no (no (no (no .nil (no .nil (lf (.cells 5 (nd (.int .i64 (.ofNat 0)) Hv y83))))) .nil) .nil) .nil) .nil) y5) tY),nx:=448,ok:=true,v:=(.bool true),out:=(no (no (no (no (no (no (no .nil (no .nil (lf (.cells 5 (nd (.int .i64 (.ofNat 1)) Hv y83))))) .nil) .nil) .nil) .nil) .nil) xu),nx':=448,wr:=[44,447]}
theorem Ae8:∀[F:Facts],Ac (Env.ofS Tryz.prog [] []) 1000000 Yl=true:=by
 intro F
 kernel_rfl
theorem zz (G:Nat→D→D):Yl.Valid Tryz.prog G:=Ad.val (okE _ []) (w0 G) Ae8
def cG:Orc:=
 {f:=308,args:=[(.ptr 44 0),(.int .i64 (.ofNat 416)),(.func (.func 319) [] [])],part:=uW,nx:=450,ok:=true,v:=(.int .i64 (.ofNat 1)),out:=tT,nx':=450,wr:=[44]}
theorem Ami:∀[F:Facts],Ac (Env.ofS Tryz.prog [] []) 1000000 cG=true:=by
 intro F
 kernel_rfl
theorem Ah1 (G:Nat→D→D):cG.Valid Tryz.prog G:=Ad.val (okE _ []) (w0 G) Ami
end Go.Proofs.YtmjeljjkhblgeaaGreatDoor.familySessions

