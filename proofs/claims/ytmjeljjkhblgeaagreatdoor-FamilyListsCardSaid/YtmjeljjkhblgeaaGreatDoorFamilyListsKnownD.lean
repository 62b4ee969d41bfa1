/- What is proved: that certain calls which the law FamilyLists makes come to the results that are written here (part 4 of 10). Conditions: the memory that such a call reaches is as written here; the kernel runs the evaluator over each. -/
import Derived.Test.YtmjeljjkhblgeaaGreatDoorFamilyListsKnownC
set_option linter.unusedVariables false
set_option linter.unusedSectionVars false
set_option linter.unusedSimpArgs false
namespace Go.Proofs.YtmjeljjkhblgeaaGreatDoor.familyLists
open Go.AE
def aB:Orc:=
 {f:=282,args:=[(.ptr 44 0)],part:=iR,nx:=450,ok:=true,v:=(.tuple []),out:=iu,nx':=452,wr:=[44]}
theorem oO:∀[F:Facts],Ab (Env.ofS Tryz.prog [Zk] []) 1000000 aB=true:=by
 intro F
 kernel_rfl
theorem uL (G:Nat→D→D):aB.Valid Tryz.prog G:=Af.val (okE _ []) (.cons (po G) (w0 G)) oO
def aA:Orc:=
 {f:=284,args:=[(.slice 45 0 4 1),(.func (.func 285) [] [(.ptr 452 0)])],part:=(no y6 (no (no .nil (no (no (no (no .nil (no .nil (lf (.cells 5 (nd (.int .i64 (.ofNat 0)) HA y19))))) .nil) .nil) cw)) .nil)),nx:=453,ok:=true,v:=(.bool true),out:=(no .nil (no (no .nil (no (no (no (no .nil (no .nil (lf (.cells 5 (nd (.int .i64 (.ofNat 2)) HA y19))))) .nil) .nil) bN)) .nil)),nx':=455,wr:=[44,452]}
theorem pR:∀[F:Facts],Ab (Env.ofS Tryz.prog [] []) 1000000 aA=true:=by
 intro F
 kernel_rfl
theorem lY (G:Nat→D→D):aA.Valid Tryz.prog G:=Af.val (okE _ []) (w0 G) pR
def Zj:Orc:=
 {f:=308,args:=[(.ptr 44 0),(.int .i64 (.ofNat 416)),(.func (.func 319) [] [])],part:=ii,nx:=457,ok:=true,v:=(.int .i64 (.ofNat 1)),out:=cP,nx':=457,wr:=[44]}
theorem uG:∀[F:Facts],Ab (Env.ofS Tryz.prog [] []) 1000000 Zj=true:=by
 intro F
 kernel_rfl
theorem qF (G:Nat→D→D):Zj.Valid Tryz.prog G:=Af.val (okE _ []) (w0 G) uG
def X0:Orc:=
 {f:=282,args:=[(.ptr 44 0)],part:=ii,nx:=457,ok:=true,v:=(.tuple []),out:=cP,nx':=459,wr:=[44]}
theorem pB:∀[F:Facts],Ab (Env.ofS Tryz.prog [Zj] []) 1000000 X0=true:=by
 intro F
 kernel_rfl
theorem t9 (G:Nat→D→D):X0.Valid Tryz.prog G:=Af.val (okE _ []) (.cons (qF G) (w0 G)) pB
def aF:Orc:=
 {f:=284,args:=[(.slice 45 0 4 1),(.func (.func 285) [] [(.ptr 459 0)])],part:=(no (no (no .nil (no .nil (no (no (no .nil (no .nil (lf (.cells 5 (nd (.int .i64 (.ofNat 0)) HA y94))))) .nil) .nil))) y5) fM),nx:=460,ok:=true,v:=(.bool true),out:=(no (no (no .nil (no .nil (no (no (no .nil (no .nil (lf (.cells 5 (nd (.int .i64 (.ofNat 1)) HA y94))))) .nil) .nil))) .nil) kf),nx':=460,wr:=[44,459]}
theorem mj:∀[F:Facts],Ab (Env.ofS Tryz.prog [] []) 1000000 aF=true:=by
 intro F
 kernel_rfl
theorem uh (G:Nat→D→D):aF.Valid Tryz.prog G:=Af.val (okE _ []) (w0 G) mj
def ZL:Orc:=
 {f:=308,args:=[(.ptr 44 0),(.int .i64 (.ofNat 416)),(.func (.func 319) [] [])],part:=dc,nx:=462,ok:=true,v:=(.int .i64 (.ofNat 1)),out:=gy,nx':=462,wr:=[44]}
theorem qQ:∀[F:Facts],Ab (Env.ofS Tryz.prog [] []) 1000000 ZL=true:=by
 intro F
 kernel_rfl
theorem tF (G:Nat→D→D):ZL.Valid Tryz.prog G:=Af.val (okE _ []) (w0 G) qQ
def aJ:Orc:=
 {f:=282,args:=[(.ptr 44 0)],part:=dc,nx:=462,ok:=true,v:=(.tuple []),out:=gy,nx':=464,wr:=[44]}
theorem uB:∀[F:Facts],Ab (Env.ofS Tryz.prog [ZL] []) 1000000 aJ=true:=by
 intro F
 kernel_rfl
theorem qw (G:Nat→D→D):aJ.Valid Tryz.prog G:=Af.val (okE _ []) (.cons (tF G) (w0 G)) uB
def aD:Orc:=
 {f:=284,args:=[(.slice 45 0 4 1),(.func (.func 285) [] [(.ptr 464 0)])],part:=(no y6 (no (no (no (no .nil (no (no .nil (no .nil (lf (.cells 5 (nd (.int .i64 (.ofNat 0)) HA y53))))) .nil)) .nil) bF) .nil)),nx:=465,ok:=true,v:=(.bool true),out:=(no .nil (no (no (no (no .nil (no (no .nil (no .nil (lf (.cells 5 (nd (.int .i64 (.ofNat 2)) HA (nd (.int .i64 (.ofNat 200)) (lf (.int .i64 (.ofNat 23))) .nil)))))) .nil)) .nil) cC) .nil)),nx':=467,wr:=[44,464]}
theorem lK:∀[F:Facts],Ab (Env.ofS Tryz.prog [] []) 1000000 aD=true:=by
 intro F
 kernel_rfl
theorem lG (G:Nat→D→D):aD.Valid Tryz.prog G:=Af.val (okE _ []) (w0 G) lK
def Xu:Orc:=
 {f:=282,args:=[(.ptr 44 0)],part:=(no .nil (no jI .nil)),nx:=469,ok:=true,v:=(.tuple []),out:=.nil,nx':=470,wr:=[]}
theorem qj:∀[F:Facts],Ab (Env.ofS Tryz.prog [] []) 1000000 Xu=true:=by
 intro F
 kernel_rfl
theorem rB (G:Nat→D→D):Xu.Valid Tryz.prog G:=Af.val (okE _ []) (w0 G) qj
def Xl:Orc:=
 {f:=284,args:=[(.slice 45 0 4 1),(.func (.func 285) [] [(.ptr 470 0)])],part:=(no y6 (no jI (no .nil (no (no .nil (no (no .nil (no .nil (lf (.cells 5 (nd (.int .i64 (.ofNat 0)) HA cY))))) .nil)) .nil)))),nx:=471,ok:=true,v:=(.bool true),out:=(no .nil (no gX (no .nil (no (no .nil (no (no .nil (no .nil (lf (.cells 5 (nd (.int .i64 (.ofNat 4)) HA cY))))) .nil)) .nil)))),nx':=472,wr:=[44,470]}
theorem qo:∀[F:Facts],Ab (Env.ofS Tryz.prog [] []) 1000000 Xl=true:=by
 intro F
 kernel_rfl
theorem sn (G:Nat→D→D):Xl.Valid Tryz.prog G:=Af.val (okE _ []) (w0 G) qo
def V9:Orc:=
 {f:=308,args:=[(.ptr 44 0),(.int .i64 (.ofNat 416)),(.func (.func 319) [] [])],part:=ju,nx:=474,ok:=true,v:=(.int .i64 (.ofNat 1)),out:=j5,nx':=474,wr:=[44]}
theorem sg:∀[F:Facts],Ab (Env.ofS Tryz.prog [] []) 1000000 V9=true:=by
 intro F
 kernel_rfl
theorem qg (G:Nat→D→D):V9.Valid Tryz.prog G:=Af.val (okE _ []) (w0 G) sg
def ao:Orc:=
 {f:=282,args:=[(.ptr 44 0)],part:=ju,nx:=474,ok:=true,v:=(.tuple []),out:=j5,nx':=476,wr:=[44]}
theorem ou:∀[F:Facts],Ab (Env.ofS Tryz.prog [V9] []) 1000000 ao=true:=by
 intro F
 kernel_rfl
theorem lN (G:Nat→D→D):ao.Valid Tryz.prog G:=Af.val (okE _ []) (.cons (qg G) (w0 G)) ou
def ZJ:Orc:=
 {f:=284,args:=[(.slice 45 0 4 1),(.func (.func 285) [] [(.ptr 476 0)])],part:=(no y6 (no (no .nil (no .nil (no fv (no (no .nil (no .nil (lf (.cells 5 (nd (.int .i64 (.ofNat 0)) ba y59))))) .nil)))) .nil)),nx:=477,ok:=true,v:=(.bool true),out:=(no .nil (no (no .nil (no .nil (no jH (no (no .nil (no .nil (lf (.cells 5 (nd (.int .i64 (.ofNat 4)) ba y59))))) .nil)))) .nil)),nx':=478,wr:=[44,476]}
theorem pq:∀[F:Facts],Ab (Env.ofS Tryz.prog [] []) 1000000 ZJ=true:=by
 intro F
 kernel_rfl
theorem o0 (G:Nat→D→D):ZJ.Valid Tryz.prog G:=Af.val (okE _ []) (w0 G) pq
def XZ:Orc:=
 {f:=308,args:=[(.ptr 44 0),(.int .i64 (.ofNat 416)),(.func (.func 319) [] [])],part:=je,nx:=480,ok:=true,v:=(.int .i64 (.ofNat 1)),out:=eA,nx':=480,wr:=[44]}
theorem lR:∀[F:Facts],Ab (Env.ofS Tryz.prog [] []) 1000000 XZ=true:=by
 intro F
 kernel_rfl
theorem qa (G:Nat→D→D):XZ.Valid Tryz.prog G:=Af.val (okE _ []) (w0 G) lR
def YK:Orc:=
 {f:=282,args:=[(.ptr 44 0)],part:=je,nx:=480,ok:=true,v:=(.tuple []),out:=eA,nx':=482,wr:=[44]}
theorem nf:∀[F:Facts],Ab (Env.ofS Tryz.prog [XZ] []) 1000000 YK=true:=by
 intro F
 kernel_rfl
theorem sU (G:Nat→D→D):YK.Valid Tryz.prog G:=Af.val (okE _ []) (.cons (qa G) (w0 G)) nf
def Wh:Orc:=
 {f:=284,args:=[(.slice 45 0 4 1),(.func (.func 285) [] [(.ptr 482 0)])],part:=(no y6 (no gF (no (no (no (no .nil (no .nil (no .nil (lf (.cells 5 (nd (.int .i64 (.ofNat 0)) Q7 y59)))))) .nil) .nil) .nil))),nx:=483,ok:=true,v:=(.bool true),out:=(no .nil (no jm (no (no (no (no .nil (no .nil (no .nil (lf (.cells 5 (nd (.int .i64 (.ofNat 1)) Q7 y59)))))) .nil) .nil) .nil))),nx':=483,wr:=[44,482]}
theorem mT:∀[F:Facts],Ab (Env.ofS Tryz.prog [] []) 1000000 Wh=true:=by
 intro F
 kernel_rfl
theorem ra (G:Nat→D→D):Wh.Valid Tryz.prog G:=Af.val (okE _ []) (w0 G) mT
def V8:Orc:=
 {f:=308,args:=[(.ptr 44 0),(.int .i64 (.ofNat 416)),(.func (.func 319) [] [])],part:=eW,nx:=485,ok:=true,v:=(.int .i64 (.ofNat 1)),out:=gN,nx':=485,wr:=[44]}
theorem mV:∀[F:Facts],Ab (Env.ofS Tryz.prog [] []) 1000000 V8=true:=by
 intro F
 kernel_rfl
theorem qJ (G:Nat→D→D):V8.Valid Tryz.prog G:=Af.val (okE _ []) (w0 G) mV
def Yv:Orc:=
 {f:=282,args:=[(.ptr 44 0)],part:=eW,nx:=485,ok:=true,v:=(.tuple []),out:=gN,nx':=487,wr:=[44]}
theorem uQ:∀[F:Facts],Ab (Env.ofS Tryz.prog [V8] []) 1000000 Yv=true:=by
 intro F
 kernel_rfl
theorem ow (G:Nat→D→D):Yv.Valid Tryz.prog G:=Af.val (okE _ []) (.cons (qJ G) (w0 G)) uQ
def YA:Orc:=
 {f:=284,args:=[(.slice 45 0 4 1),(.func (.func 285) [] [(.ptr 487 0)])],part:=(no (no (no (no .nil (no (no .nil (no .nil (no .nil (lf (.cells 5 (nd (.int .i64 (.ofNat 0)) Q7 y8)))))) .nil)) .nil) y5) a9),nx:=488,ok:=true,v:=(.bool true),out:=(no (no (no (no .nil (no (no .nil (no .nil (no .nil (lf (.cells 5 (nd (.int .i64 (.ofNat 1)) Q7 y8)))))) .nil)) .nil) .nil) bq),nx':=488,wr:=[44,487]}
theorem n4:∀[F:Facts],Ab (Env.ofS Tryz.prog [] []) 1000000 YA=true:=by
 intro F
 kernel_rfl
theorem kz (G:Nat→D→D):YA.Valid Tryz.prog G:=Af.val (okE _ []) (w0 G) n4
def XV:Orc:=
 {f:=308,args:=[(.ptr 44 0),(.int .i64 (.ofNat 416)),(.func (.func 319) [] [])],part:=bE,nx:=490,ok:=true,v:=(.int .i64 (.ofNat 1)),out:=fB,nx':=490,wr:=[44]}
theorem uE:∀[F:Facts],Ab (Env.ofS Tryz.prog [] []) 1000000 XV=true:=by
 intro F
 kernel_rfl
theorem oK (G:Nat→D→D):XV.Valid Tryz.prog G:=Af.val (okE _ []) (w0 G) uE
def W7:Orc:=
 {f:=282,args:=[(.ptr 44 0)],part:=bE,nx:=490,ok:=true,v:=(.tuple []),out:=fB,nx':=492,wr:=[44]}
theorem pC:∀[F:Facts],Ab (Env.ofS Tryz.prog [XV] []) 1000000 W7=true:=by
 intro F
 kernel_rfl
theorem pd (G:Nat→D→D):W7.Valid Tryz.prog G:=Af.val (okE _ []) (.cons (oK G) (w0 G)) pC
def Wm:Orc:=
 {f:=284,args:=[(.slice 45 0 4 1),(.func (.func 285) [] [(.ptr 492 0)])],part:=(no y6 (no (no .nil (no .nil (no (nd dm .nil (no .nil (no .nil (lf (.cells 5 (nd (.int .i64 (.ofNat 0)) Q7 y88)))))) .nil))) .nil)),nx:=493,ok:=true,v:=(.bool true),out:=(no .nil (no (no .nil (no .nil (no (nd ga .nil (no .nil (no .nil (lf (.cells 5 (nd (.int .i64 (.ofNat 4)) Q7 y88)))))) .nil))) .nil)),nx':=494,wr:=[44,492]}
theorem na:∀[F:Facts],Ab (Env.ofS Tryz.prog [] []) 1000000 Wm=true:=by
 intro F
 kernel_rfl
theorem ma (G:Nat→D→D):Wm.Valid Tryz.prog G:=Af.val (okE _ []) (w0 G) na
def WK:Orc:=
 {f:=308,args:=[(.ptr 44 0),(.int .i64 (.ofNat 416)),(.func (.func 319) [] [])],part:=fG,nx:=496,ok:=true,v:=(.int .i64 (.ofNat 3)),out:=bp,nx':=496,wr:=[44]}
theorem pJ:∀[F:Facts],Ab (Env.ofS Tryz.prog [] []) 1000000 WK=true:=by
 intro F
 kernel_rfl
theorem qA (G:Nat→D→D):WK.Valid Tryz.prog G:=Af.val (okE _ []) (w0 G) pJ
def WV:Orc:=
 {f:=282,args:=[(.ptr 44 0)],part:=fG,nx:=496,ok:=true,v:=(.tuple []),out:=bp,nx':=498,wr:=[44]}
theorem rM:∀[F:Facts],Ab (Env.ofS Tryz.prog [WK] []) 1000000 WV=true:=by
 intro F
 kernel_rfl
theorem tH (G:Nat→D→D):WV.Valid Tryz.prog G:=Af.val (okE _ []) (.cons (qA G) (w0 G)) rM
def Zc:Orc:=
 {f:=284,args:=[(.slice 45 0 4 1),(.func (.func 285) [] [(.ptr 498 0)])],part:=(no y6 (no iP (no (no (no .nil (no .nil (no .nil (no .nil (lf (.cells 5 (nd (.int .i64 (.ofNat 0)) F7 y32))))))) .nil) .nil))),nx:=499,ok:=true,v:=(.bool true),out:=(no .nil (no Xd (no (no (no .nil (no .nil (no .nil (no .nil (lf (.cells 5 (nd (.int .i64 (.ofNat 1)) F7 y32))))))) .nil) .nil))),nx':=499,wr:=[44,498]}
theorem sX:∀[F:Facts],Ab (Env.ofS Tryz.prog [] []) 1000000 Zc=true:=by
 intro F
 kernel_rfl
theorem mL (G:Nat→D→D):Zc.Valid Tryz.prog G:=Af.val (okE _ []) (w0 G) sX
def ai:Orc:=
 {f:=282,args:=[(.ptr 44 0)],part:=(no .nil (no Xd .nil)),nx:=501,ok:=true,v:=(.tuple []),out:=.nil,nx':=502,wr:=[]}
theorem tv:∀[F:Facts],Ab (Env.ofS Tryz.prog [] []) 1000000 ai=true:=by
 intro F
 kernel_rfl
theorem tB (G:Nat→D→D):ai.Valid Tryz.prog G:=Af.val (okE _ []) (w0 G) tv
def YX:Orc:=
 {f:=284,args:=[(.slice 45 0 4 1),(.func (.func 285) [] [(.ptr 502 0)])],part:=(no y6 (no Xd (no .nil (no (no .nil (no .nil (no .nil (no .nil (lf (.cells 5 (nd (.int .i64 (.ofNat 0)) F7 be))))))) .nil)))),nx:=503,ok:=true,v:=(.bool true),out:=(no .nil (no dK (no .nil (no (no .nil (no .nil (no .nil (no .nil (lf (.cells 5 (nd (.int .i64 (.ofNat 4)) F7 be))))))) .nil)))),nx':=504,wr:=[44,502]}
theorem qq:∀[F:Facts],Ab (Env.ofS Tryz.prog [] []) 1000000 YX=true:=by
 intro F
 kernel_rfl
theorem uc (G:Nat→D→D):YX.Valid Tryz.prog G:=Af.val (okE _ []) (w0 G) qq
def YH:Orc:=
 {f:=308,args:=[(.ptr 44 0),(.int .i64 (.ofNat 416)),(.func (.func 319) [] [])],part:=dx,nx:=506,ok:=true,v:=(.int .i64 (.ofNat 1)),out:=g9,nx':=506,wr:=[44]}
theorem nm:∀[F:Facts],Ab (Env.ofS Tryz.prog [] []) 1000000 YH=true:=by
 intro F
 kernel_rfl
theorem tU (G:Nat→D→D):YH.Valid Tryz.prog G:=Af.val (okE _ []) (w0 G) nm
def XM:Orc:=
 {f:=282,args:=[(.ptr 44 0)],part:=dx,nx:=506,ok:=true,v:=(.tuple []),out:=g9,nx':=508,wr:=[44]}
theorem l9:∀[F:Facts],Ab (Env.ofS Tryz.prog [YH] []) 1000000 XM=true:=by
 intro F
 kernel_rfl
theorem uj (G:Nat→D→D):XM.Valid Tryz.prog G:=Af.val (okE _ []) (.cons (tU G) (w0 G)) l9
def WP:Orc:=
 {f:=284,args:=[(.slice 45 0 4 1),(.func (.func 285) [] [(.ptr 508 0)])],part:=(no y6 (no (no .nil (no .nil (no jx (no .nil (no .nil (no .nil (lf (.cells 5 (nd (.int .i64 (.ofNat 0)) F7 y34))))))))) .nil)),nx:=509,ok:=true,v:=(.bool true),out:=(no .nil (no (no .nil (no .nil (no fR (no .nil (no .nil (no .nil (lf (.cells 5 (nd (.int .i64 (.ofNat 1)) F7 y34))))))))) .nil)),nx':=509,wr:=[44,508]}
theorem nQ:∀[F:Facts],Ab (Env.ofS Tryz.prog [] []) 1000000 WP=true:=by
 intro F
 kernel_rfl
theorem l4 (G:Nat→D→D):WP.Valid Tryz.prog G:=Af.val (okE _ []) (w0 G) nQ
def YP:Orc:=
 {f:=308,args:=[(.ptr 44 0),(.int .i64 (.ofNat 416)),(.func (.func 319) [] [])],part:=jN,nx:=511,ok:=true,v:=(.int .i64 (.ofNat 1)),out:=bT,nx':=511,wr:=[44]}
theorem pM:∀[F:Facts],Ab (Env.ofS Tryz.prog [] []) 1000000 YP=true:=by
 intro F
 kernel_rfl
theorem oR (G:Nat→D→D):YP.Valid Tryz.prog G:=Af.val (okE _ []) (w0 G) pM
def Wu:Orc:=
 {f:=282,args:=[(.ptr 44 0)],part:=jN,nx:=511,ok:=true,v:=(.tuple []),out:=bT,nx':=513,wr:=[44]}
theorem rO:∀[F:Facts],Ab (Env.ofS Tryz.prog [YP] []) 1000000 Wu=true:=by
 intro F
 kernel_rfl
theorem ln (G:Nat→D→D):Wu.Valid Tryz.prog G:=Af.val (okE _ []) (.cons (oR G) (w0 G)) rO
def Wf:Orc:=
 {f:=284,args:=[(.slice 45 0 4 1),(.func (.func 285) [] [(.ptr 513 0)])],part:=(no (no .nil (no (no (no (no (no (no (no (lf (.cells 5 (nd (.int .i64 (.ofNat 0)) F7 fX))) .nil) .nil) .nil) .nil) .nil) .nil) y4)) bu),nx:=514,ok:=true,v:=(.bool true),out:=(no (no .nil (no (no (no (no (no (no (no (lf (.cells 5 (nd (.int .i64 (.ofNat 2)) F7 (nd (.int .i64 (.ofNat 16)) (lf (.int .i64 (.ofNat 12))) .nil)))) .nil) .nil) .nil) .nil) .nil) .nil) .nil)) jE),nx':=516,wr:=[44,513]}
theorem m5:∀[F:Facts],Ab (Env.ofS Tryz.prog [] []) 1000000 Wf=true:=by
 intro F
 kernel_rfl
theorem mr (G:Nat→D→D):Wf.Valid Tryz.prog G:=Af.val (okE _ []) (w0 G) m5
def WX:Orc:=
 {f:=308,args:=[(.ptr 44 0),(.int .i64 (.ofNat 416)),(.func (.func 319) [] [])],part:=jU,nx:=518,ok:=true,v:=(.int .i64 (.ofNat 1)),out:=jq,nx':=518,wr:=[44]}
theorem kG:∀[F:Facts],Ab (Env.ofS Tryz.prog [] []) 1000000 WX=true:=by
 intro F
 kernel_rfl
theorem oD (G:Nat→D→D):WX.Valid Tryz.prog G:=Af.val (okE _ []) (w0 G) kG
def Xr:Orc:=
 {f:=282,args:=[(.ptr 44 0)],part:=jU,nx:=518,ok:=true,v:=(.tuple []),out:=jq,nx':=520,wr:=[44]}
theorem ug:∀[F:Facts],Ab (Env.ofS Tryz.prog [WX] []) 1000000 Xr=true:=by
 intro F
 kernel_rfl
theorem rJ (G:Nat→D→D):Xr.Valid Tryz.prog G:=Af.val (okE _ []) (.cons (oD G) (w0 G)) ug
def Yw:Orc:=
 {f:=284,args:=[(.slice 45 0 4 1),(.func (.func 285) [] [(.ptr 520 0)])],part:=(no y6 (no (no (no .nil (no (no (no (no (no (lf (.cells 5 (nd (.int .i64 (.ofNat 0)) F7 y14))) .nil) .nil) .nil) .nil) .nil)) iw) .nil)),nx:=521,ok:=true,v:=(.bool true),out:=(no .nil (no (no (no .nil (no (no (no (no (no (lf (.cells 5 (nd (.int .i64 (.ofNat 2)) F7 (nd (.int .i64 (.ofNat 1)) (lf (.int .i64 (.ofNat 15))) .nil)))) .nil) .nil) .nil) .nil) .nil)) km) .nil)),nx':=523,wr:=[44,520]}
theorem sZ:∀[F:Facts],Ab (Env.ofS Tryz.prog [] []) 1000000 Yw=true:=by
 intro F
 kernel_rfl
theorem qi (G:Nat→D→D):Yw.Valid Tryz.prog G:=Af.val (okE _ []) (w0 G) sZ
def Xw:Orc:=
 {f:=282,args:=[(.ptr 44 0)],part:=(no .nil (no cN .nil)),nx:=525,ok:=true,v:=(.tuple []),out:=.nil,nx':=526,wr:=[]}
theorem qV:∀[F:Facts],Ab (Env.ofS Tryz.prog [] []) 1000000 Xw=true:=by
 intro F
 kernel_rfl
theorem sj (G:Nat→D→D):Xw.Valid Tryz.prog G:=Af.val (okE _ []) (w0 G) qV
def WY:Orc:=
 {f:=284,args:=[(.slice 45 0 4 1),(.func (.func 285) [] [(.ptr 526 0)])],part:=(no y6 (no cN (no .nil (no .nil (no (no (no (no (no (lf (.cells 5 (nd (.int .i64 (.ofNat 0)) F7 y88))) .nil) .nil) .nil) .nil) .nil))))),nx:=527,ok:=true,v:=(.bool true),out:=(no .nil (no jf (no .nil (no .nil (no (no (no (no (no (lf (.cells 5 (nd (.int .i64 (.ofNat 4)) F7 y88))) .nil) .nil) .nil) .nil) .nil))))),nx':=528,wr:=[44,526]}
theorem tA:∀[F:Facts],Ab (Env.ofS Tryz.prog [] []) 1000000 WY=true:=by
 intro F
 kernel_rfl
theorem tg (G:Nat→D→D):WY.Valid Tryz.prog G:=Af.val (okE _ []) (w0 G) tA
def X5:Orc:=
 {f:=282,args:=[(.ptr 44 0)],part:=(no .nil iA),nx:=530,ok:=true,v:=(.tuple []),out:=.nil,nx':=531,wr:=[]}
theorem pT:∀[F:Facts],Ab (Env.ofS Tryz.prog [] []) 1000000 X5=true:=by
 intro F
 kernel_rfl
theorem lw (G:Nat→D→D):X5.Valid Tryz.prog G:=Af.val (okE _ []) (w0 G) pT
def YZ:Orc:=
 {f:=284,args:=[(.slice 45 0 4 1),(.func (.func 285) [] [(.ptr 531 0)])],part:=(no (no (no .nil (no (no .nil (no (no (no (no (lf (.cells 5 (nd (.int .i64 (.ofNat 0)) F7 S2))) .nil) .nil) .nil) .nil)) .nil)) y5) iA),nx:=532,ok:=true,v:=(.bool true),out:=(no (no (no .nil (no (no .nil (no (no (no (no (lf (.cells 5 (nd (.int .i64 (.ofNat 2)) F7 (nd (.int .i64 (.ofNat 5)) (lf (.int .i64 (.ofNat 18))) .nil)))) .nil) .nil) .nil) .nil)) .nil)) .nil) Ww),nx':=534,wr:=[44,531]}
theorem oW:∀[F:Facts],Ab (Env.ofS Tryz.prog [] []) 1000000 YZ=true:=by
 intro F
 kernel_rfl
theorem rq (G:Nat→D→D):YZ.Valid Tryz.prog G:=Af.val (okE _ []) (w0 G) oW
def X1:Orc:=
 {f:=282,args:=[(.ptr 44 0)],part:=(no .nil Ww),nx:=536,ok:=true,v:=(.tuple []),out:=.nil,nx':=537,wr:=[]}
theorem qT:∀[F:Facts],Ab (Env.ofS Tryz.prog [] []) 1000000 X1=true:=by
 intro F
 kernel_rfl
theorem lQ (G:Nat→D→D):X1.Valid Tryz.prog G:=Af.val (okE _ []) (w0 G) qT
def WH:Orc:=
 {f:=284,args:=[(.slice 45 0 4 1),(.func (.func 285) [] [(.ptr 537 0)])],part:=(no (no .nil (no (no .nil (no .nil (no (no (no (no (lf (.cells 5 (nd (.int .i64 (.ofNat 0)) F7 y94))) .nil) .nil) .nil) .nil))) y4)) Ww),nx:=538,ok:=true,v:=(.bool true),out:=(no (no .nil (no (no .nil (no .nil (no (no (no (no (lf (.cells 5 (nd (.int .i64 (.ofNat 4)) F7 y94))) .nil) .nil) .nil) .nil))) .nil)) jV),nx':=539,wr:=[44,537]}
theorem ua:∀[F:Facts],Ab (Env.ofS Tryz.prog [] []) 1000000 WH=true:=by
 intro F
 kernel_rfl
theorem n6 (G:Nat→D→D):WH.Valid Tryz.prog G:=Af.val (okE _ []) (w0 G) ua
def WS:Orc:=
 {f:=308,args:=[(.ptr 44 0),(.int .i64 (.ofNat 416)),(.func (.func 319) [] [])],part:=fV,nx:=541,ok:=true,v:=(.int .i64 (.ofNat 3)),out:=eF,nx':=541,wr:=[44]}
theorem ly:∀[F:Facts],Ab (Env.ofS Tryz.prog [] []) 1000000 WS=true:=by
 intro F
 kernel_rfl
theorem pH (G:Nat→D→D):WS.Valid Tryz.prog G:=Af.val (okE _ []) (w0 G) ly
def Y6:Orc:=
 {f:=282,args:=[(.ptr 44 0)],part:=fV,nx:=541,ok:=true,v:=(.tuple []),out:=eF,nx':=543,wr:=[44]}
theorem sN:∀[F:Facts],Ab (Env.ofS Tryz.prog [WS] []) 1000000 Y6=true:=by
 intro F
 kernel_rfl
theorem qG (G:Nat→D→D):Y6.Valid Tryz.prog G:=Af.val (okE _ []) (.cons (pH G) (w0 G)) sN
def Xo:Orc:=
 {f:=284,args:=[(.slice 45 0 4 1),(.func (.func 285) [] [(.ptr 543 0)])],part:=(no (no (no (no (no (no .nil (no (no (no (lf (.cells 5 (nd (.int .i64 (.ofNat 0)) AO y32))) .nil) .nil) .nil)) .nil) .nil) .nil) y5) fw),nx:=544,ok:=true,v:=(.bool true),out:=(no (no (no (no (no (no .nil (no (no (no (lf (.cells 5 (nd (.int .i64 (.ofNat 1)) AO y32))) .nil) .nil) .nil)) .nil) .nil) .nil) .nil) V7),nx':=544,wr:=[44,543]}
theorem oQ:∀[F:Facts],Ab (Env.ofS Tryz.prog [] []) 1000000 Xo=true:=by
 intro F
 kernel_rfl
theorem uP (G:Nat→D→D):Xo.Valid Tryz.prog G:=Af.val (okE _ []) (w0 G) oQ
def ZN:Orc:=
 {f:=282,args:=[(.ptr 44 0)],part:=(no .nil V7),nx:=546,ok:=true,v:=(.tuple []),out:=.nil,nx':=547,wr:=[]}
theorem qp:∀[F:Facts],Ab (Env.ofS Tryz.prog [] []) 1000000 ZN=true:=by
 intro F
 kernel_rfl
theorem nb (G:Nat→D→D):ZN.Valid Tryz.prog G:=Af.val (okE _ []) (w0 G) qp
def Zf:Orc:=
 {f:=284,args:=[(.slice 45 0 4 1),(.func (.func 285) [] [(.ptr 547 0)])],part:=(no (no (no .nil (no (no (no .nil (no (no (no (lf (.cells 5 (nd (.int .i64 (.ofNat 0)) AO y34))) .nil) .nil) .nil)) .nil) .nil)) y5) V7),nx:=548,ok:=true,v:=(.bool true),out:=(no (no (no .nil (no (no (no .nil (no (no (no (lf (.cells 5 (nd (.int .i64 (.ofNat 4)) AO y34))) .nil) .nil) .nil)) .nil) .nil)) .nil) dA),nx':=549,wr:=[44,547]}
theorem n9:∀[F:Facts],Ab (Env.ofS Tryz.prog [] []) 1000000 Zf=true:=by
 intro F
 kernel_rfl
theorem ut (G:Nat→D→D):Zf.Valid Tryz.prog G:=Af.val (okE _ []) (w0 G) n9
def YO:Orc:=
 {f:=308,args:=[(.ptr 44 0),(.int .i64 (.ofNat 416)),(.func (.func 319) [] [])],part:=bL,nx:=551,ok:=true,v:=(.int .i64 (.ofNat 1)),out:=ko,nx':=551,wr:=[44]}
theorem ri:∀[F:Facts],Ab (Env.ofS Tryz.prog [] []) 1000000 YO=true:=by
 intro F
 kernel_rfl
theorem kC (G:Nat→D→D):YO.Valid Tryz.prog G:=Af.val (okE _ []) (w0 G) ri
def Ya:Orc:=
 {f:=282,args:=[(.ptr 44 0)],part:=bL,nx:=551,ok:=true,v:=(.tuple []),out:=ko,nx':=553,wr:=[44]}
theorem sG:∀[F:Facts],Ab (Env.ofS Tryz.prog [YO] []) 1000000 Ya=true:=by
 intro F
 kernel_rfl
theorem mM (G:Nat→D→D):Ya.Valid Tryz.prog G:=Af.val (okE _ []) (.cons (kC G) (w0 G)) sG
def X4:Orc:=
 {f:=284,args:=[(.slice 45 0 4 1),(.func (.func 285) [] [(.ptr 553 0)])],part:=(no (no .nil (no (no .nil (no (no .nil (no (no (no (lf (.cells 5 (nd (.int .i64 (.ofNat 0)) AO y8))) .nil) .nil) .nil)) .nil)) y4)) ir),nx:=554,ok:=true,v:=(.bool true),out:=(no (no .nil (no (no .nil (no (no .nil (no (no (no (lf (.cells 5 (nd (.int .i64 (.ofNat 1)) AO y8))) .nil) .nil) .nil)) .nil)) .nil)) dL),nx':=554,wr:=[44,553]}
theorem lm:∀[F:Facts],Ab (Env.ofS Tryz.prog [] []) 1000000 X4=true:=by
 intro F
 kernel_rfl
theorem sE (G:Nat→D→D):X4.Valid Tryz.prog G:=Af.val (okE _ []) (w0 G) lm
def Wz:Orc:=
 {f:=308,args:=[(.ptr 44 0),(.int .i64 (.ofNat 416)),(.func (.func 319) [] [])],part:=gk,nx:=556,ok:=true,v:=(.int .i64 (.ofNat 1)),out:=gK,nx':=556,wr:=[44]}
theorem nW:∀[F:Facts],Ab (Env.ofS Tryz.prog [] []) 1000000 Wz=true:=by
 intro F
 kernel_rfl
theorem qU (G:Nat→D→D):Wz.Valid Tryz.prog G:=Af.val (okE _ []) (w0 G) nW
def Z3:Orc:=
 {f:=282,args:=[(.ptr 44 0)],part:=gk,nx:=556,ok:=true,v:=(.tuple []),out:=gK,nx':=558,wr:=[44]}
theorem li:∀[F:Facts],Ab (Env.ofS Tryz.prog [Wz] []) 1000000 Z3=true:=by
 intro F
 kernel_rfl
theorem qC (G:Nat→D→D):Z3.Valid Tryz.prog G:=Af.val (okE _ []) (.cons (qU G) (w0 G)) li
def V1:Orc:=
 {f:=284,args:=[(.slice 45 0 4 1),(.func (.func 285) [] [(.ptr 558 0)])],part:=(no y6 (no i9 (no .nil (no .nil (no (no .nil (no (no (no (lf (.cells 5 (nd (.int .i64 (.ofNat 0)) AO y88))) .nil) .nil) .nil)) .nil))))),nx:=559,ok:=true,v:=(.bool true),out:=(no .nil (no dY (no .nil (no .nil (no (no .nil (no (no (no (lf (.cells 5 (nd (.int .i64 (.ofNat 1)) AO y88))) .nil) .nil) .nil)) .nil))))),nx':=559,wr:=[44,558]}
theorem tK:∀[F:Facts],Ab (Env.ofS Tryz.prog [] []) 1000000 V1=true:=by
 intro F
 kernel_rfl
theorem oA (G:Nat→D→D):V1.Valid Tryz.prog G:=Af.val (okE _ []) (w0 G) tK
def XF:Orc:=
 {f:=308,args:=[(.ptr 44 0),(.int .i64 (.ofNat 416)),(.func (.func 319) [] [])],part:=ja,nx:=561,ok:=true,v:=(.int .i64 (.ofNat 1)),out:=g7,nx':=561,wr:=[44]}
theorem qy:∀[F:Facts],Ab (Env.ofS Tryz.prog [] []) 1000000 XF=true:=by
 intro F
 kernel_rfl
theorem sD (G:Nat→D→D):XF.Valid Tryz.prog G:=Af.val (okE _ []) (w0 G) qy
def W4:Orc:=
 {f:=282,args:=[(.ptr 44 0)],part:=ja,nx:=561,ok:=true,v:=(.tuple []),out:=g7,nx':=563,wr:=[44]}
theorem rP:∀[F:Facts],Ab (Env.ofS Tryz.prog [XF] []) 1000000 W4=true:=by
 intro F
 kernel_rfl
theorem oS (G:Nat→D→D):W4.Valid Tryz.prog G:=Af.val (okE _ []) (.cons (sD G) (w0 G)) rP
def Ym:Orc:=
 {f:=284,args:=[(.slice 45 0 4 1),(.func (.func 285) [] [(.ptr 563 0)])],part:=(no (no (no .nil (no (no .nil (no .nil (no (no (no (lf (.cells 5 (nd (.int .i64 (.ofNat 0)) AO y94))) .nil) .nil) .nil))) .nil)) y5) iW),nx:=564,ok:=true,v:=(.bool true),out:=(no (no (no .nil (no (no .nil (no .nil (no (no (no (lf (.cells 5 (nd (.int .i64 (.ofNat 4)) AO y94))) .nil) .nil) .nil))) .nil)) .nil) gB),nx':=565,wr:=[44,563]}
theorem sa:∀[F:Facts],Ab (Env.ofS Tryz.prog [] []) 1000000 Ym=true:=by
 intro F
 kernel_rfl
theorem mn (G:Nat→D→D):Ym.Valid Tryz.prog G:=Af.val (okE _ []) (w0 G) sa
def Wp:Orc:=
 {f:=308,args:=[(.ptr 44 0),(.int .i64 (.ofNat 416)),(.func (.func 319) [] [])],part:=cF,nx:=567,ok:=true,v:=(.int .i64 (.ofNat 1)),out:=gd,nx':=567,wr:=[44]}
theorem kL:∀[F:Facts],Ab (Env.ofS Tryz.prog [] []) 1000000 Wp=true:=by
 intro F
 kernel_rfl
theorem om (G:Nat→D→D):Wp.Valid Tryz.prog G:=Af.val (okE _ []) (w0 G) kL
end Go.Proofs.YtmjeljjkhblgeaaGreatDoor.familyLists

