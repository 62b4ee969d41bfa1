/- What is proved: that certain calls which the law FamilyLists makes come to the results that are written here (part 3 of 10). Conditions: the memory that such a call reaches is as written here; the kernel runs the evaluator over each. -/
import Derived.Test.YtmjeljjkhblgeaaGreatDoorFamilyListsKnownB
set_option linter.unusedVariables false
set_option linter.unusedSectionVars false
set_option linter.unusedSimpArgs false
namespace Go.Proofs.YtmjeljjkhblgeaaGreatDoor.familyLists
open Go.AE
def ZP:Orc:=
 {f:=282,args:=[(.ptr 44 0)],part:=(no .nil Zr),nx:=328,ok:=true,v:=(.tuple []),out:=.nil,nx':=329,wr:=[]}
theorem mJ:∀[F:Facts],Ab (Env.ofS Tryz.prog [] []) 1000000 ZP=true:=by
 intro F
 kernel_rfl
theorem px (G:Nat→D→D):ZP.Valid Tryz.prog G:=Af.val (okE _ []) (w0 G) mJ
def Xn:Orc:=
 {f:=284,args:=[(.slice 45 0 4 1),(.func (.func 285) [] [(.ptr 329 0)])],part:=(no (no .nil (no (no .nil (no (no (no .nil (no (lf (.cells 5 (nd (.int .i64 (.ofNat 0)) F4 y8))) .nil)) .nil) .nil)) y4)) Zr),nx:=330,ok:=true,v:=(.bool true),out:=(no (no .nil (no (no .nil (no (no (no .nil (no (lf (.cells 5 (nd (.int .i64 (.ofNat 4)) F4 y8))) .nil)) .nil) .nil)) .nil)) fu),nx':=331,wr:=[44,329]}
theorem ng:∀[F:Facts],Ab (Env.ofS Tryz.prog [] []) 1000000 Xn=true:=by
 intro F
 kernel_rfl
theorem lB (G:Nat→D→D):Xn.Valid Tryz.prog G:=Af.val (okE _ []) (w0 G) ng
def Wk:Orc:=
 {f:=308,args:=[(.ptr 44 0),(.int .i64 (.ofNat 416)),(.func (.func 319) [] [])],part:=j0,nx:=333,ok:=true,v:=(.int .i64 (.ofNat 1)),out:=fP,nx':=333,wr:=[44]}
theorem l3:∀[F:Facts],Ab (Env.ofS Tryz.prog [] []) 1000000 Wk=true:=by
 intro F
 kernel_rfl
theorem pL (G:Nat→D→D):Wk.Valid Tryz.prog G:=Af.val (okE _ []) (w0 G) l3
def X2:Orc:=
 {f:=282,args:=[(.ptr 44 0)],part:=j0,nx:=333,ok:=true,v:=(.tuple []),out:=fP,nx':=335,wr:=[44]}
theorem oL:∀[F:Facts],Ab (Env.ofS Tryz.prog [Wk] []) 1000000 X2=true:=by
 intro F
 kernel_rfl
theorem sB (G:Nat→D→D):X2.Valid Tryz.prog G:=Af.val (okE _ []) (.cons (pL G) (w0 G)) oL
def YB:Orc:=
 {f:=284,args:=[(.slice 45 0 4 1),(.func (.func 285) [] [(.ptr 335 0)])],part:=(no (no (no (no (no .nil (no (no .nil (no (lf (.cells 5 (nd (.int .i64 (.ofNat 0)) F4 y83))) .nil)) .nil)) .nil) .nil) y5) cJ),nx:=336,ok:=true,v:=(.bool true),out:=(no (no (no (no (no .nil (no (no .nil (no (lf (.cells 5 (nd (.int .i64 (.ofNat 1)) F4 y83))) .nil)) .nil)) .nil) .nil) .nil) dS),nx':=336,wr:=[44,335]}
theorem tD:∀[F:Facts],Ab (Env.ofS Tryz.prog [] []) 1000000 YB=true:=by
 intro F
 kernel_rfl
theorem mG (G:Nat→D→D):YB.Valid Tryz.prog G:=Af.val (okE _ []) (w0 G) tD
def Ws:Orc:=
 {f:=308,args:=[(.ptr 44 0),(.int .i64 (.ofNat 416)),(.func (.func 319) [] [])],part:=cM,nx:=338,ok:=true,v:=(.int .i64 (.ofNat 1)),out:=iz,nx':=338,wr:=[44]}
theorem oJ:∀[F:Facts],Ab (Env.ofS Tryz.prog [] []) 1000000 Ws=true:=by
 intro F
 kernel_rfl
theorem lD (G:Nat→D→D):Ws.Valid Tryz.prog G:=Af.val (okE _ []) (w0 G) oJ
def Wc:Orc:=
 {f:=282,args:=[(.ptr 44 0)],part:=cM,nx:=338,ok:=true,v:=(.tuple []),out:=iz,nx':=340,wr:=[44]}
theorem pP:∀[F:Facts],Ab (Env.ofS Tryz.prog [Ws] []) 1000000 Wc=true:=by
 intro F
 kernel_rfl
theorem mP (G:Nat→D→D):Wc.Valid Tryz.prog G:=Af.val (okE _ []) (.cons (lD G) (w0 G)) pP
def X7:Orc:=
 {f:=284,args:=[(.slice 45 0 4 1),(.func (.func 285) [] [(.ptr 340 0)])],part:=(no y6 (no (no .nil (no (no .nil (no (no .nil (no (lf (.cells 5 (nd (.int .i64 (.ofNat 0)) F4 y88))) .nil)) .nil)) iZ)) .nil)),nx:=341,ok:=true,v:=(.bool true),out:=(no .nil (no (no .nil (no (no .nil (no (no .nil (no (lf (.cells 5 (nd (.int .i64 (.ofNat 2)) F4 y89))) .nil)) .nil)) gU)) .nil)),nx':=343,wr:=[44,340]}
theorem pF:∀[F:Facts],Ab (Env.ofS Tryz.prog [] []) 1000000 X7=true:=by
 intro F
 kernel_rfl
theorem rt (G:Nat→D→D):X7.Valid Tryz.prog G:=Af.val (okE _ []) (w0 G) pF
def YG:Orc:=
 {f:=308,args:=[(.ptr 44 0),(.int .i64 (.ofNat 416)),(.func (.func 319) [] [])],part:=dM,nx:=345,ok:=true,v:=(.int .i64 (.ofNat 1)),out:=eC,nx':=345,wr:=[44]}
theorem rD:∀[F:Facts],Ab (Env.ofS Tryz.prog [] []) 1000000 YG=true:=by
 intro F
 kernel_rfl
theorem rA (G:Nat→D→D):YG.Valid Tryz.prog G:=Af.val (okE _ []) (w0 G) rD
def Yd:Orc:=
 {f:=282,args:=[(.ptr 44 0)],part:=dM,nx:=345,ok:=true,v:=(.tuple []),out:=eC,nx':=347,wr:=[44]}
theorem uO:∀[F:Facts],Ab (Env.ofS Tryz.prog [YG] []) 1000000 Yd=true:=by
 intro F
 kernel_rfl
theorem oh (G:Nat→D→D):Yd.Valid Tryz.prog G:=Af.val (okE _ []) (.cons (rA G) (w0 G)) uO
def ae:Orc:=
 {f:=284,args:=[(.slice 45 0 4 1),(.func (.func 285) [] [(.ptr 347 0)])],part:=(no (no (no .nil (no .nil (no .nil (no (no .nil (no (lf (.cells 5 (nd (.int .i64 (.ofNat 0)) F4 y94))) .nil)) .nil)))) y5) fI),nx:=348,ok:=true,v:=(.bool true),out:=(no (no (no .nil (no .nil (no .nil (no (no .nil (no (lf (.cells 5 (nd (.int .i64 (.ofNat 2)) F4 y94))) .nil)) .nil)))) .nil) Zi),nx':=350,wr:=[44,347]}
theorem ot:∀[F:Facts],Ab (Env.ofS Tryz.prog [] []) 1000000 ae=true:=by
 intro F
 kernel_rfl
theorem qO (G:Nat→D→D):ae.Valid Tryz.prog G:=Af.val (okE _ []) (w0 G) ot
def XH:Orc:=
 {f:=282,args:=[(.ptr 44 0)],part:=(no .nil Zi),nx:=352,ok:=true,v:=(.tuple []),out:=.nil,nx':=353,wr:=[]}
theorem rn:∀[F:Facts],Ab (Env.ofS Tryz.prog [] []) 1000000 XH=true:=by
 intro F
 kernel_rfl
theorem uF (G:Nat→D→D):XH.Valid Tryz.prog G:=Af.val (okE _ []) (w0 G) rn
def VU:Orc:=
 {f:=284,args:=[(.slice 45 0 4 1),(.func (.func 285) [] [(.ptr 353 0)])],part:=(no (no .nil (no (no (no (no .nil (no .nil (no (lf (.cells 5 (nd (.int .i64 (.ofNat 0)) F4 y97))) .nil))) .nil) .nil) y4)) Zi),nx:=354,ok:=true,v:=(.bool true),out:=(no (no .nil (no (no (no (no .nil (no .nil (no (lf (.cells 5 (nd (.int .i64 (.ofNat 4)) F4 y97))) .nil))) .nil) .nil) .nil)) fW),nx':=355,wr:=[44,353]}
theorem nS:∀[F:Facts],Ab (Env.ofS Tryz.prog [] []) 1000000 VU=true:=by
 intro F
 kernel_rfl
theorem kZ (G:Nat→D→D):VU.Valid Tryz.prog G:=Af.val (okE _ []) (w0 G) nS
def Yu:Orc:=
 {f:=282,args:=[(.ptr 44 0)],part:=(no .nil fW),nx:=357,ok:=true,v:=(.tuple []),out:=.nil,nx':=358,wr:=[]}
theorem ru:∀[F:Facts],Ab (Env.ofS Tryz.prog [] []) 1000000 Yu=true:=by
 intro F
 kernel_rfl
theorem qI (G:Nat→D→D):Yu.Valid Tryz.prog G:=Af.val (okE _ []) (w0 G) ru
def Xe:Orc:=
 {f:=284,args:=[(.slice 45 0 4 1),(.func (.func 285) [] [(.ptr 358 0)])],part:=(no y6 (no iK (no .nil (no (no (no .nil (no .nil (no (lf (.cells 5 (nd (.int .i64 (.ofNat 0)) F4 OX))) .nil))) .nil) .nil)))),nx:=359,ok:=true,v:=(.bool true),out:=(no .nil (no i6 (no .nil (no (no (no .nil (no .nil (no (lf (.cells 5 (nd (.int .i64 (.ofNat 2)) F4 bW))) .nil))) .nil) .nil)))),nx':=361,wr:=[44,358]}
theorem te:∀[F:Facts],Ab (Env.ofS Tryz.prog [] []) 1000000 Xe=true:=by
 intro F
 kernel_rfl
theorem lI (G:Nat→D→D):Xe.Valid Tryz.prog G:=Af.val (okE _ []) (w0 G) te
def Wg:Orc:=
 {f:=282,args:=[(.ptr 44 0)],part:=(no .nil (no i6 .nil)),nx:=363,ok:=true,v:=(.tuple []),out:=.nil,nx':=364,wr:=[]}
theorem pf:∀[F:Facts],Ab (Env.ofS Tryz.prog [] []) 1000000 Wg=true:=by
 intro F
 kernel_rfl
theorem mi (G:Nat→D→D):Wg.Valid Tryz.prog G:=Af.val (okE _ []) (w0 G) pf
def Y1:Orc:=
 {f:=284,args:=[(.slice 45 0 4 1),(.func (.func 285) [] [(.ptr 364 0)])],part:=(no y6 (no (no .nil (no .nil (no (nd ci .nil (no .nil (no (lf (.cells 5 (nd (.int .i64 (.ofNat 0)) F4 QY))) .nil))) .nil))) .nil)),nx:=365,ok:=true,v:=(.bool true),out:=(no .nil (no (no .nil (no .nil (no (nd bw .nil (no .nil (no (lf (.cells 5 (nd (.int .i64 (.ofNat 4)) F4 QY))) .nil))) .nil))) .nil)),nx':=366,wr:=[44,364]}
theorem qt:∀[F:Facts],Ab (Env.ofS Tryz.prog [] []) 1000000 Y1=true:=by
 intro F
 kernel_rfl
theorem sy (G:Nat→D→D):Y1.Valid Tryz.prog G:=Af.val (okE _ []) (w0 G) qt
def XI:Orc:=
 {f:=308,args:=[(.ptr 44 0),(.int .i64 (.ofNat 416)),(.func (.func 319) [] [])],part:=hQ,nx:=368,ok:=true,v:=(.int .i64 (.ofNat 1)),out:=cy,nx':=368,wr:=[44]}
theorem rK:∀[F:Facts],Ab (Env.ofS Tryz.prog [] []) 1000000 XI=true:=by
 intro F
 kernel_rfl
theorem sI (G:Nat→D→D):XI.Valid Tryz.prog G:=Af.val (okE _ []) (w0 G) rK
def Yj:Orc:=
 {f:=282,args:=[(.ptr 44 0)],part:=hQ,nx:=368,ok:=true,v:=(.tuple []),out:=cy,nx':=370,wr:=[44]}
theorem mo:∀[F:Facts],Ab (Env.ofS Tryz.prog [XI] []) 1000000 Yj=true:=by
 intro F
 kernel_rfl
theorem nN (G:Nat→D→D):Yj.Valid Tryz.prog G:=Af.val (okE _ []) (.cons (sI G) (w0 G)) mo
def Wx:Orc:=
 {f:=284,args:=[(.slice 45 0 4 1),(.func (.func 285) [] [(.ptr 370 0)])],part:=(no y6 (no eJ (no (no (no .nil (no .nil (no .nil (no (lf (.cells 5 (nd (.int .i64 (.ofNat 0)) eG y59))) .nil)))) .nil) .nil))),nx:=371,ok:=true,v:=(.bool true),out:=(no .nil (no ey (no (no (no .nil (no .nil (no .nil (no (lf (.cells 5 (nd (.int .i64 (.ofNat 4)) eG y59))) .nil)))) .nil) .nil))),nx':=372,wr:=[44,370]}
theorem nX:∀[F:Facts],Ab (Env.ofS Tryz.prog [] []) 1000000 Wx=true:=by
 intro F
 kernel_rfl
theorem sW (G:Nat→D→D):Wx.Valid Tryz.prog G:=Af.val (okE _ []) (w0 G) nX
def Zd:Orc:=
 {f:=308,args:=[(.ptr 44 0),(.int .i64 (.ofNat 416)),(.func (.func 319) [] [])],part:=dk,nx:=374,ok:=true,v:=(.int .i64 (.ofNat 1)),out:=ky,nx':=374,wr:=[44]}
theorem tp:∀[F:Facts],Ab (Env.ofS Tryz.prog [] []) 1000000 Zd=true:=by
 intro F
 kernel_rfl
theorem mC (G:Nat→D→D):Zd.Valid Tryz.prog G:=Af.val (okE _ []) (w0 G) tp
def Wv:Orc:=
 {f:=282,args:=[(.ptr 44 0)],part:=dk,nx:=374,ok:=true,v:=(.tuple []),out:=ky,nx':=376,wr:=[44]}
theorem mI:∀[F:Facts],Ab (Env.ofS Tryz.prog [Zd] []) 1000000 Wv=true:=by
 intro F
 kernel_rfl
theorem sS (G:Nat→D→D):Wv.Valid Tryz.prog G:=Af.val (okE _ []) (.cons (mC G) (w0 G)) mI
def VZ:Orc:=
 {f:=284,args:=[(.slice 45 0 4 1),(.func (.func 285) [] [(.ptr 376 0)])],part:=(no y6 (no (no (no .nil (no .nil (no .nil (no .nil (no (lf (.cells 5 (nd (.int .i64 (.ofNat 0)) RZ y59))) .nil))))) ek) .nil)),nx:=377,ok:=true,v:=(.bool true),out:=(no .nil (no (no (no .nil (no .nil (no .nil (no .nil (no (lf (.cells 5 (nd (.int .i64 (.ofNat 1)) RZ y59))) .nil))))) fe) .nil)),nx':=377,wr:=[44,376]}
theorem nc:∀[F:Facts],Ab (Env.ofS Tryz.prog [] []) 1000000 VZ=true:=by
 intro F
 kernel_rfl
theorem tQ (G:Nat→D→D):VZ.Valid Tryz.prog G:=Af.val (okE _ []) (w0 G) nc
def Xa:Orc:=
 {f:=308,args:=[(.ptr 44 0),(.int .i64 (.ofNat 416)),(.func (.func 319) [] [])],part:=aU,nx:=379,ok:=true,v:=(.int .i64 (.ofNat 1)),out:=bK,nx':=379,wr:=[44]}
theorem lg:∀[F:Facts],Ab (Env.ofS Tryz.prog [] []) 1000000 Xa=true:=by
 intro F
 kernel_rfl
theorem uz (G:Nat→D→D):Xa.Valid Tryz.prog G:=Af.val (okE _ []) (w0 G) lg
def W3:Orc:=
 {f:=282,args:=[(.ptr 44 0)],part:=aU,nx:=379,ok:=true,v:=(.tuple []),out:=bK,nx':=381,wr:=[44]}
theorem rL:∀[F:Facts],Ab (Env.ofS Tryz.prog [Xa] []) 1000000 W3=true:=by
 intro F
 kernel_rfl
theorem lL (G:Nat→D→D):W3.Valid Tryz.prog G:=Af.val (okE _ []) (.cons (uz G) (w0 G)) rL
def Yz:Orc:=
 {f:=284,args:=[(.slice 45 0 4 1),(.func (.func 285) [] [(.ptr 381 0)])],part:=(no (no .nil (no .nil (no .nil (no y2 (no .nil (no .nil (no (lf (.cells 5 (nd (.int .i64 (.ofNat 0)) RZ y8))) .nil))))))) bg),nx:=382,ok:=true,v:=(.bool true),out:=(no (no .nil (no .nil (no .nil (no .nil (no .nil (no .nil (no (lf (.cells 5 (nd (.int .i64 (.ofNat 1)) RZ y8))) .nil))))))) gL),nx':=382,wr:=[44,381]}
theorem pZ:∀[F:Facts],Ab (Env.ofS Tryz.prog [] []) 1000000 Yz=true:=by
 intro F
 kernel_rfl
theorem rx (G:Nat→D→D):Yz.Valid Tryz.prog G:=Af.val (okE _ []) (w0 G) pZ
def ag:Orc:=
 {f:=308,args:=[(.ptr 44 0),(.int .i64 (.ofNat 416)),(.func (.func 319) [] [])],part:=eS,nx:=384,ok:=true,v:=(.int .i64 (.ofNat 1)),out:=eo,nx':=384,wr:=[44]}
theorem lx:∀[F:Facts],Ab (Env.ofS Tryz.prog [] []) 1000000 ag=true:=by
 intro F
 kernel_rfl
theorem rY (G:Nat→D→D):ag.Valid Tryz.prog G:=Af.val (okE _ []) (w0 G) lx
def ZG:Orc:=
 {f:=282,args:=[(.ptr 44 0)],part:=eS,nx:=384,ok:=true,v:=(.tuple []),out:=eo,nx':=386,wr:=[44]}
theorem lC:∀[F:Facts],Ab (Env.ofS Tryz.prog [ag] []) 1000000 ZG=true:=by
 intro F
 kernel_rfl
theorem tw (G:Nat→D→D):ZG.Valid Tryz.prog G:=Af.val (okE _ []) (.cons (rY G) (w0 G)) lC
def Yy:Orc:=
 {f:=284,args:=[(.slice 45 0 4 1),(.func (.func 285) [] [(.ptr 386 0)])],part:=(no y6 (no cE (no (no (no (no (no (no .nil (lf (.cells 5 (nd (.int .i64 (.ofNat 0)) RZ y14)))) .nil) .nil) .nil) .nil) .nil))),nx:=387,ok:=true,v:=(.bool true),out:=(no .nil (no jj (no (no (no (no (no (no .nil (lf (.cells 5 (nd (.int .i64 (.ofNat 4)) RZ y14)))) .nil) .nil) .nil) .nil) .nil))),nx':=388,wr:=[44,386]}
theorem rv:∀[F:Facts],Ab (Env.ofS Tryz.prog [] []) 1000000 Yy=true:=by
 intro F
 kernel_rfl
theorem oc (G:Nat→D→D):Yy.Valid Tryz.prog G:=Af.val (okE _ []) (w0 G) rv
def aO:Orc:=
 {f:=308,args:=[(.ptr 44 0),(.int .i64 (.ofNat 416)),(.func (.func 319) [] [])],part:=fL,nx:=390,ok:=true,v:=(.int .i64 (.ofNat 3)),out:=br,nx':=390,wr:=[44]}
theorem lX:∀[F:Facts],Ab (Env.ofS Tryz.prog [] []) 1000000 aO=true:=by
 intro F
 kernel_rfl
theorem rf (G:Nat→D→D):aO.Valid Tryz.prog G:=Af.val (okE _ []) (w0 G) lX
def X8:Orc:=
 {f:=282,args:=[(.ptr 44 0)],part:=fL,nx:=390,ok:=true,v:=(.tuple []),out:=br,nx':=392,wr:=[44]}
theorem lO:∀[F:Facts],Ab (Env.ofS Tryz.prog [aO] []) 1000000 X8=true:=by
 intro F
 kernel_rfl
theorem pW (G:Nat→D→D):X8.Valid Tryz.prog G:=Af.val (okE _ []) (.cons (rf G) (w0 G)) lO
def Xs:Orc:=
 {f:=284,args:=[(.slice 45 0 4 1),(.func (.func 285) [] [(.ptr 392 0)])],part:=(no y6 (no (no (no .nil (no (no (no (no .nil (lf (.cells 5 (nd (.int .i64 (.ofNat 0)) F9 y32)))) .nil) .nil) .nil)) ik) .nil)),nx:=393,ok:=true,v:=(.bool true),out:=(no .nil (no (no (no .nil (no (no (no (no .nil (lf (.cells 5 (nd (.int .i64 (.ofNat 1)) F9 y32)))) .nil) .nil) .nil)) gM) .nil)),nx':=393,wr:=[44,392]}
theorem nT:∀[F:Facts],Ab (Env.ofS Tryz.prog [] []) 1000000 Xs=true:=by
 intro F
 kernel_rfl
theorem pK (G:Nat→D→D):Xs.Valid Tryz.prog G:=Af.val (okE _ []) (w0 G) nT
def VJ:Orc:=
 {f:=282,args:=[(.ptr 44 0)],part:=(no .nil (no (no .nil gM) .nil)),nx:=395,ok:=true,v:=(.tuple []),out:=.nil,nx':=396,wr:=[]}
theorem ny:∀[F:Facts],Ab (Env.ofS Tryz.prog [] []) 1000000 VJ=true:=by
 intro F
 kernel_rfl
theorem rI (G:Nat→D→D):VJ.Valid Tryz.prog G:=Af.val (okE _ []) (w0 G) ny
def ac:Orc:=
 {f:=284,args:=[(.slice 45 0 4 1),(.func (.func 285) [] [(.ptr 396 0)])],part:=(no y6 (no (no .nil (no .nil (no (nd kh (no (no .nil (lf (.cells 5 (nd (.int .i64 (.ofNat 0)) F9 y34)))) .nil) .nil) .nil))) .nil)),nx:=397,ok:=true,v:=(.bool true),out:=(no .nil (no (no .nil (no .nil (no (nd bH (no (no .nil (lf (.cells 5 (nd (.int .i64 (.ofNat 4)) F9 y34)))) .nil) .nil) .nil))) .nil)),nx':=398,wr:=[44,396]}
theorem mb:∀[F:Facts],Ab (Env.ofS Tryz.prog [] []) 1000000 ac=true:=by
 intro F
 kernel_rfl
theorem lA (G:Nat→D→D):ac.Valid Tryz.prog G:=Af.val (okE _ []) (w0 G) mb
def Xg:Orc:=
 {f:=308,args:=[(.ptr 44 0),(.int .i64 (.ofNat 416)),(.func (.func 319) [] [])],part:=bY,nx:=400,ok:=true,v:=(.int .i64 (.ofNat 1)),out:=gr,nx':=400,wr:=[44]}
theorem l8:∀[F:Facts],Ab (Env.ofS Tryz.prog [] []) 1000000 Xg=true:=by
 intro F
 kernel_rfl
theorem mW (G:Nat→D→D):Xg.Valid Tryz.prog G:=Af.val (okE _ []) (w0 G) l8
def aq:Orc:=
 {f:=282,args:=[(.ptr 44 0)],part:=bY,nx:=400,ok:=true,v:=(.tuple []),out:=gr,nx':=402,wr:=[44]}
theorem tt:∀[F:Facts],Ab (Env.ofS Tryz.prog [Xg] []) 1000000 aq=true:=by
 intro F
 kernel_rfl
theorem qN (G:Nat→D→D):aq.Valid Tryz.prog G:=Af.val (okE _ []) (.cons (mW G) (w0 G)) tt
def Xi:Orc:=
 {f:=284,args:=[(.slice 45 0 4 1),(.func (.func 285) [] [(.ptr 402 0)])],part:=(no y6 (no dZ (no (no (no .nil (no (no (no .nil (lf (.cells 5 (nd (.int .i64 (.ofNat 0)) F9 y8)))) .nil) .nil)) .nil) .nil))),nx:=403,ok:=true,v:=(.bool true),out:=(no .nil (no aY (no (no (no .nil (no (no (no .nil (lf (.cells 5 (nd (.int .i64 (.ofNat 1)) F9 y8)))) .nil) .nil)) .nil) .nil))),nx':=403,wr:=[44,402]}
theorem pa:∀[F:Facts],Ab (Env.ofS Tryz.prog [] []) 1000000 Xi=true:=by
 intro F
 kernel_rfl
theorem pD (G:Nat→D→D):Xi.Valid Tryz.prog G:=Af.val (okE _ []) (w0 G) pa
def Xj:Orc:=
 {f:=308,args:=[(.ptr 44 0),(.int .i64 (.ofNat 416)),(.func (.func 319) [] [])],part:=jJ,nx:=405,ok:=true,v:=(.int .i64 (.ofNat 1)),out:=hY,nx':=405,wr:=[44]}
theorem nO:∀[F:Facts],Ab (Env.ofS Tryz.prog [] []) 1000000 Xj=true:=by
 intro F
 kernel_rfl
theorem lJ (G:Nat→D→D):Xj.Valid Tryz.prog G:=Af.val (okE _ []) (w0 G) nO
def Yt:Orc:=
 {f:=282,args:=[(.ptr 44 0)],part:=jJ,nx:=405,ok:=true,v:=(.tuple []),out:=hY,nx':=407,wr:=[44]}
theorem lV:∀[F:Facts],Ab (Env.ofS Tryz.prog [Xj] []) 1000000 Yt=true:=by
 intro F
 kernel_rfl
theorem uq (G:Nat→D→D):Yt.Valid Tryz.prog G:=Af.val (okE _ []) (.cons (lJ G) (w0 G)) lV
def Zo:Orc:=
 {f:=284,args:=[(.slice 45 0 4 1),(.func (.func 285) [] [(.ptr 407 0)])],part:=(no (no (no (no .nil (no .nil (no (no (no .nil (lf (.cells 5 (nd (.int .i64 (.ofNat 0)) F9 bo)))) .nil) .nil))) .nil) y5) eV),nx:=408,ok:=true,v:=(.bool true),out:=(no (no (no (no .nil (no .nil (no (no (no .nil (lf (.cells 5 (nd (.int .i64 (.ofNat 2)) F9 cU)))) .nil) .nil))) .nil) .nil) cX),nx':=410,wr:=[44,407]}
theorem lU:∀[F:Facts],Ab (Env.ofS Tryz.prog [] []) 1000000 Zo=true:=by
 intro F
 kernel_rfl
theorem qS (G:Nat→D→D):Zo.Valid Tryz.prog G:=Af.val (okE _ []) (w0 G) lU
def Wo:Orc:=
 {f:=308,args:=[(.ptr 44 0),(.int .i64 (.ofNat 416)),(.func (.func 319) [] [])],part:=jb,nx:=412,ok:=true,v:=(.int .i64 (.ofNat 1)),out:=hZ,nx':=412,wr:=[44]}
theorem qW:∀[F:Facts],Ab (Env.ofS Tryz.prog [] []) 1000000 Wo=true:=by
 intro F
 kernel_rfl
theorem pA (G:Nat→D→D):Wo.Valid Tryz.prog G:=Af.val (okE _ []) (w0 G) qW
def Xf:Orc:=
 {f:=282,args:=[(.ptr 44 0)],part:=jb,nx:=412,ok:=true,v:=(.tuple []),out:=hZ,nx':=414,wr:=[44]}
theorem rX:∀[F:Facts],Ab (Env.ofS Tryz.prog [Wo] []) 1000000 Xf=true:=by
 intro F
 kernel_rfl
theorem mH (G:Nat→D→D):Xf.Valid Tryz.prog G:=Af.val (okE _ []) (.cons (pA G) (w0 G)) rX
def WA:Orc:=
 {f:=284,args:=[(.slice 45 0 4 1),(.func (.func 285) [] [(.ptr 414 0)])],part:=(no y6 (no dQ (no .nil (no .nil (no .nil (no (no (no .nil (lf (.cells 5 (nd (.int .i64 (.ofNat 0)) F9 y19)))) .nil) .nil)))))),nx:=415,ok:=true,v:=(.bool true),out:=(no .nil (no de (no .nil (no .nil (no .nil (no (no (no .nil (lf (.cells 5 (nd (.int .i64 (.ofNat 2)) F9 y19)))) .nil) .nil)))))),nx':=417,wr:=[44,414]}
theorem uK:∀[F:Facts],Ab (Env.ofS Tryz.prog [] []) 1000000 WA=true:=by
 intro F
 kernel_rfl
theorem pG (G:Nat→D→D):WA.Valid Tryz.prog G:=Af.val (okE _ []) (w0 G) uK
def YW:Orc:=
 {f:=282,args:=[(.ptr 44 0)],part:=(no .nil (no de .nil)),nx:=419,ok:=true,v:=(.tuple []),out:=.nil,nx':=420,wr:=[]}
theorem rz:∀[F:Facts],Ab (Env.ofS Tryz.prog [] []) 1000000 YW=true:=by
 intro F
 kernel_rfl
theorem tE (G:Nat→D→D):YW.Valid Tryz.prog G:=Af.val (okE _ []) (w0 G) rz
def Zx:Orc:=
 {f:=284,args:=[(.slice 45 0 4 1),(.func (.func 285) [] [(.ptr 420 0)])],part:=(no y6 (no (no .nil (no (no (no .nil (no (no .nil (lf (.cells 5 (nd (.int .i64 (.ofNat 0)) F9 S2)))) .nil)) .nil) fY)) .nil)),nx:=421,ok:=true,v:=(.bool true),out:=(no .nil (no (no .nil (no (no (no .nil (no (no .nil (lf (.cells 5 (nd (.int .i64 (.ofNat 4)) F9 S2)))) .nil)) .nil) i5)) .nil)),nx':=422,wr:=[44,420]}
theorem kK:∀[F:Facts],Ab (Env.ofS Tryz.prog [] []) 1000000 Zx=true:=by
 intro F
 kernel_rfl
theorem tu (G:Nat→D→D):Zx.Valid Tryz.prog G:=Af.val (okE _ []) (w0 G) kK
def af:Orc:=
 {f:=282,args:=[(.ptr 44 0)],part:=(no .nil cH),nx:=424,ok:=true,v:=(.tuple []),out:=.nil,nx':=425,wr:=[]}
theorem uu:∀[F:Facts],Ab (Env.ofS Tryz.prog [] []) 1000000 af=true:=by
 intro F
 kernel_rfl
theorem rF (G:Nat→D→D):af.Valid Tryz.prog G:=Af.val (okE _ []) (w0 G) uu
def Z7:Orc:=
 {f:=284,args:=[(.slice 45 0 4 1),(.func (.func 285) [] [(.ptr 425 0)])],part:=(no (no .nil (no (no .nil (no (no .nil (no (no .nil (lf (.cells 5 (nd (.int .i64 (.ofNat 0)) F9 y97)))) .nil)) .nil)) y4)) cH),nx:=426,ok:=true,v:=(.bool true),out:=(no (no .nil (no (no .nil (no (no .nil (no (no .nil (lf (.cells 5 (nd (.int .i64 (.ofNat 2)) F9 fk)))) .nil)) .nil)) .nil)) aa),nx':=428,wr:=[44,425]}
theorem sR:∀[F:Facts],Ab (Env.ofS Tryz.prog [] []) 1000000 Z7=true:=by
 intro F
 kernel_rfl
theorem mQ (G:Nat→D→D):Z7.Valid Tryz.prog G:=Af.val (okE _ []) (w0 G) sR
def ZH:Orc:=
 {f:=282,args:=[(.ptr 44 0)],part:=(no .nil aa),nx:=430,ok:=true,v:=(.tuple []),out:=.nil,nx':=431,wr:=[]}
theorem oq:∀[F:Facts],Ab (Env.ofS Tryz.prog [] []) 1000000 ZH=true:=by
 intro F
 kernel_rfl
theorem kM (G:Nat→D→D):ZH.Valid Tryz.prog G:=Af.val (okE _ []) (w0 G) oq
def Wa:Orc:=
 {f:=284,args:=[(.slice 45 0 4 1),(.func (.func 285) [] [(.ptr 431 0)])],part:=(no (no (no (no (no .nil (no .nil (no (no .nil (lf (.cells 5 (nd (.int .i64 (.ofNat 0)) F9 y24)))) .nil))) .nil) .nil) y5) aa),nx:=432,ok:=true,v:=(.bool true),out:=(no (no (no (no (no .nil (no .nil (no (no .nil (lf (.cells 5 (nd (.int .i64 (.ofNat 4)) F9 y24)))) .nil))) .nil) .nil) .nil) kw),nx':=433,wr:=[44,431]}
theorem kN:∀[F:Facts],Ab (Env.ofS Tryz.prog [] []) 1000000 Wa=true:=by
 intro F
 kernel_rfl
theorem lP (G:Nat→D→D):Wa.Valid Tryz.prog G:=Af.val (okE _ []) (w0 G) kN
def ZO:Orc:=
 {f:=308,args:=[(.ptr 44 0),(.int .i64 (.ofNat 416)),(.func (.func 319) [] [])],part:=iC,nx:=435,ok:=true,v:=(.int .i64 (.ofNat 3)),out:=jd,nx':=435,wr:=[44]}
theorem kY:∀[F:Facts],Ab (Env.ofS Tryz.prog [] []) 1000000 ZO=true:=by
 intro F
 kernel_rfl
theorem lM (G:Nat→D→D):ZO.Valid Tryz.prog G:=Af.val (okE _ []) (w0 G) kY
def Yr:Orc:=
 {f:=282,args:=[(.ptr 44 0)],part:=iC,nx:=435,ok:=true,v:=(.tuple []),out:=jd,nx':=437,wr:=[44]}
theorem qx:∀[F:Facts],Ab (Env.ofS Tryz.prog [ZO] []) 1000000 Yr=true:=by
 intro F
 kernel_rfl
theorem mB (G:Nat→D→D):Yr.Valid Tryz.prog G:=Af.val (okE _ []) (.cons (lM G) (w0 G)) qx
def Z4:Orc:=
 {f:=284,args:=[(.slice 45 0 4 1),(.func (.func 285) [] [(.ptr 437 0)])],part:=(no (no .nil (no .nil (no (no .nil (no .nil (no (no .nil (lf (.cells 5 (nd (.int .i64 (.ofNat 0)) HA y32)))) .nil))) y3))) cB),nx:=438,ok:=true,v:=(.bool true),out:=(no (no .nil (no .nil (no (no .nil (no .nil (no (no .nil (lf (.cells 5 (nd (.int .i64 (.ofNat 1)) HA y32)))) .nil))) .nil))) Zs),nx':=438,wr:=[44,437]}
theorem mD:∀[F:Facts],Ab (Env.ofS Tryz.prog [] []) 1000000 Z4=true:=by
 intro F
 kernel_rfl
theorem mw (G:Nat→D→D):Z4.Valid Tryz.prog G:=Af.val (okE _ []) (w0 G) mD
def Ys:Orc:=
 {f:=282,args:=[(.ptr 44 0)],part:=(no .nil Zs),nx:=440,ok:=true,v:=(.tuple []),out:=.nil,nx':=441,wr:=[]}
theorem nr:∀[F:Facts],Ab (Env.ofS Tryz.prog [] []) 1000000 Ys=true:=by
 intro F
 kernel_rfl
theorem pk (G:Nat→D→D):Ys.Valid Tryz.prog G:=Af.val (okE _ []) (w0 G) nr
def Yx:Orc:=
 {f:=284,args:=[(.slice 45 0 4 1),(.func (.func 285) [] [(.ptr 441 0)])],part:=(no (no .nil (no (no .nil (no .nil (no .nil (no (no .nil (lf (.cells 5 (nd (.int .i64 (.ofNat 0)) HA y8)))) .nil)))) y4)) Zs),nx:=442,ok:=true,v:=(.bool true),out:=(no (no .nil (no (no .nil (no .nil (no .nil (no (no .nil (lf (.cells 5 (nd (.int .i64 (.ofNat 4)) HA y8)))) .nil)))) .nil)) fa),nx':=443,wr:=[44,441]}
theorem oi:∀[F:Facts],Ab (Env.ofS Tryz.prog [] []) 1000000 Yx=true:=by
 intro F
 kernel_rfl
theorem nM (G:Nat→D→D):Yx.Valid Tryz.prog G:=Af.val (okE _ []) (w0 G) oi
def XK:Orc:=
 {f:=308,args:=[(.ptr 44 0),(.int .i64 (.ofNat 416)),(.func (.func 319) [] [])],part:=fi,nx:=445,ok:=true,v:=(.int .i64 (.ofNat 1)),out:=kn,nx':=445,wr:=[44]}
theorem lq:∀[F:Facts],Ab (Env.ofS Tryz.prog [] []) 1000000 XK=true:=by
 intro F
 kernel_rfl
theorem oC (G:Nat→D→D):XK.Valid Tryz.prog G:=Af.val (okE _ []) (w0 G) lq
def YS:Orc:=
 {f:=282,args:=[(.ptr 44 0)],part:=fi,nx:=445,ok:=true,v:=(.tuple []),out:=kn,nx':=447,wr:=[44]}
theorem nZ:∀[F:Facts],Ab (Env.ofS Tryz.prog [XK] []) 1000000 YS=true:=by
 intro F
 kernel_rfl
theorem uA (G:Nat→D→D):YS.Valid Tryz.prog G:=Af.val (okE _ []) (.cons (oC G) (w0 G)) nZ
def WZ:Orc:=
 {f:=284,args:=[(.slice 45 0 4 1),(.func (.func 285) [] [(.ptr 447 0)])],part:=(no (no (no (no (no (no (no .nil (no .nil (lf (.cells 5 (nd (.int .i64 (.ofNat 0)) HA y83))))) .nil) .nil) .nil) .nil) y5) iy),nx:=448,ok:=true,v:=(.bool true),out:=(no (no (no (no (no (no (no .nil (no .nil (lf (.cells 5 (nd (.int .i64 (.ofNat 1)) HA y83))))) .nil) .nil) .nil) .nil) .nil) jM),nx':=448,wr:=[44,447]}
theorem nJ:∀[F:Facts],Ab (Env.ofS Tryz.prog [] []) 1000000 WZ=true:=by
 intro F
 kernel_rfl
theorem kR (G:Nat→D→D):WZ.Valid Tryz.prog G:=Af.val (okE _ []) (w0 G) nJ
def Zk:Orc:=
 {f:=308,args:=[(.ptr 44 0),(.int .i64 (.ofNat 416)),(.func (.func 319) [] [])],part:=iR,nx:=450,ok:=true,v:=(.int .i64 (.ofNat 1)),out:=iu,nx':=450,wr:=[44]}
theorem rE:∀[F:Facts],Ab (Env.ofS Tryz.prog [] []) 1000000 Zk=true:=by
 intro F
 kernel_rfl
theorem po (G:Nat→D→D):Zk.Valid Tryz.prog G:=Af.val (okE _ []) (w0 G) rE
end Go.Proofs.YtmjeljjkhblgeaaGreatDoor.familyLists

