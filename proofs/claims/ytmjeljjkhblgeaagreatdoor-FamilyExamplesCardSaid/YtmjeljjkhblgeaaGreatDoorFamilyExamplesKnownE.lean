/- What is proved: that certain calls which the law FamilyExamples makes come to the results that are written here (part 5 of 16). Conditions: the memory that such a call reaches is as written here; the kernel runs the evaluator over each. -/
import Derived.Test.YtmjeljjkhblgeaaGreatDoorFamilyExamplesKnownA
import Derived.Test.YtmjeljjkhblgeaaGreatDoorFamilyExamplesKnownD
set_option linter.unusedVariables false
set_option linter.unusedSectionVars false
set_option linter.unusedSimpArgs false
namespace Go.Proofs.YtmjeljjkhblgeaaGreatDoor.familyExamples
open Go.AE
def ay:Orc:=
 {f:=282,args:=[(.ptr 44 0)],part:=fv,nx:=567,ok:=true,v:=(.tuple []),out:=kz,nx':=569,wr:=[44]}
theorem uY:∀[F:Facts],Ab (Env.ofS Tryz.prog [WY] []) 1000000 ay=true:=by
 intro F
 kernel_rfl
theorem Aa9 (G:Nat→D→D):ay.Valid Tryz.prog G:=Ad.val (okE _ []) (.cons (uG G) (w0 G)) uY
def bR:Orc:=
 {f:=284,args:=[(.slice 45 0 4 1),(.func (.func 285) [] [(.ptr 569 0)])],part:=(no (no .nil (no (no .nil (no .nil (no .nil (no (no (no (lf (.cells 5 (nd (.int .i64 (.ofNat 0)) AN y24))) .nil) .nil) .nil)))) y4)) pL),nx:=570,ok:=true,v:=(.bool true),out:=(no (no .nil (no (no .nil (no .nil (no .nil (no (no (no (lf (.cells 5 (nd (.int .i64 (.ofNat 2)) AN (nd (.int .i64 (.ofNat 1)) (lf (.int .i64 (.ofNat 21))) .nil)))) .nil) .nil) .nil)))) .nil)) WJ),nx':=572,wr:=[44,569]}
theorem qo:∀[F:Facts],Ab (Env.ofS Tryz.prog [] []) 1000000 bR=true:=by
 intro F
 kernel_rfl
theorem zh (G:Nat→D→D):bR.Valid Tryz.prog G:=Ad.val (okE _ []) (w0 G) qo
def Xe:Orc:=
 {f:=282,args:=[(.ptr 44 0)],part:=(no .nil WJ),nx:=574,ok:=true,v:=(.tuple []),out:=.nil,nx':=575,wr:=[]}
theorem tJ:∀[F:Facts],Ab (Env.ofS Tryz.prog [] []) 1000000 Xe=true:=by
 intro F
 kernel_rfl
theorem yH (G:Nat→D→D):Xe.Valid Tryz.prog G:=Ad.val (okE _ []) (w0 G) tJ
def Wr:Orc:=
 {f:=284,args:=[(.slice 45 0 4 1),(.func (.func 285) [] [(.ptr 575 0)])],part:=(no (no (no (no (no (no (no .nil (no (no (lf (.cells 5 (nd (.int .i64 (.ofNat 0)) AN OJ))) .nil) .nil)) .nil) .nil) .nil) .nil) y5) WJ),nx:=576,ok:=true,v:=(.bool true),out:=(no (no (no (no (no (no (no .nil (no (no (lf (.cells 5 (nd (.int .i64 (.ofNat 4)) AN OJ))) .nil) .nil)) .nil) .nil) .nil) .nil) .nil) kY),nx':=577,wr:=[44,575]}
theorem sD:∀[F:Facts],Ab (Env.ofS Tryz.prog [] []) 1000000 Wr=true:=by
 intro F
 kernel_rfl
theorem pU (G:Nat→D→D):Wr.Valid Tryz.prog G:=Ad.val (okE _ []) (w0 G) sD
def ZS:Orc:=
 {f:=282,args:=[(.ptr 44 0)],part:=(no .nil kY),nx:=579,ok:=true,v:=(.tuple []),out:=.nil,nx':=580,wr:=[]}
theorem vo:∀[F:Facts],Ab (Env.ofS Tryz.prog [] []) 1000000 ZS=true:=by
 intro F
 kernel_rfl
theorem t8 (G:Nat→D→D):ZS.Valid Tryz.prog G:=Ad.val (okE _ []) (w0 G) vo
def Y6:Orc:=
 {f:=284,args:=[(.slice 45 0 4 1),(.func (.func 285) [] [(.ptr 580 0)])],part:=(no y6 (no (no .nil (no (no (no (no .nil (no (no (lf (.cells 5 (nd (.int .i64 (.ofNat 0)) AN y26))) .nil) .nil)) .nil) .nil) eK)) .nil)),nx:=581,ok:=true,v:=(.bool true),out:=(no .nil (no (no .nil (no (no (no (no .nil (no (no (lf (.cells 5 (nd (.int .i64 (.ofNat 2)) AN (nd (.int .i64 (.ofNat 2)) (lf (.int .i64 (.ofNat 24))) .nil)))) .nil) .nil)) .nil) .nil) ph)) .nil)),nx':=583,wr:=[44,580]}
theorem yu:∀[F:Facts],Ab (Env.ofS Tryz.prog [] []) 1000000 Y6=true:=by
 intro F
 kernel_rfl
theorem uT (G:Nat→D→D):Y6.Valid Tryz.prog G:=Ad.val (okE _ []) (w0 G) yu
def WU:Orc:=
 {f:=282,args:=[(.ptr 44 0)],part:=(no .nil (no oL .nil)),nx:=585,ok:=true,v:=(.tuple []),out:=.nil,nx':=586,wr:=[]}
theorem wb:∀[F:Facts],Ab (Env.ofS Tryz.prog [] []) 1000000 WU=true:=by
 intro F
 kernel_rfl
theorem yU (G:Nat→D→D):WU.Valid Tryz.prog G:=Ad.val (okE _ []) (w0 G) wb
def a9:Orc:=
 {f:=284,args:=[(.slice 45 0 4 1),(.func (.func 285) [] [(.ptr 586 0)])],part:=(no y6 (no oL (no (no .nil (no (no (no .nil (no (no (lf (.cells 5 (nd (.int .i64 (.ofNat 0)) AN fh))) .nil) .nil)) .nil) .nil)) .nil))),nx:=587,ok:=true,v:=(.bool true),out:=(no .nil (no jU (no (no .nil (no (no (no .nil (no (no (lf (.cells 5 (nd (.int .i64 (.ofNat 4)) AN fh))) .nil) .nil)) .nil) .nil)) .nil))),nx':=588,wr:=[44,586]}
theorem z7:∀[F:Facts],Ab (Env.ofS Tryz.prog [] []) 1000000 a9=true:=by
 intro F
 kernel_rfl
theorem zz (G:Nat→D→D):a9.Valid Tryz.prog G:=Ad.val (okE _ []) (w0 G) z7
def Yu:Orc:=
 {f:=308,args:=[(.ptr 44 0),(.int .i64 (.ofNat 416)),(.func (.func 319) [] [])],part:=ig,nx:=590,ok:=true,v:=(.int .i64 (.ofNat 1)),out:=i8,nx':=590,wr:=[44]}
theorem xC:∀[F:Facts],Ab (Env.ofS Tryz.prog [] []) 1000000 Yu=true:=by
 intro F
 kernel_rfl
theorem Aa6 (G:Nat→D→D):Yu.Valid Tryz.prog G:=Ad.val (okE _ []) (w0 G) xC
def ZR:Orc:=
 {f:=282,args:=[(.ptr 44 0)],part:=ig,nx:=590,ok:=true,v:=(.tuple []),out:=i8,nx':=592,wr:=[44]}
theorem z6:∀[F:Facts],Ab (Env.ofS Tryz.prog [Yu] []) 1000000 ZR=true:=by
 intro F
 kernel_rfl
theorem wi (G:Nat→D→D):ZR.Valid Tryz.prog G:=Ad.val (okE _ []) (.cons (Aa6 G) (w0 G)) z6
def aJ:Orc:=
 {f:=284,args:=[(.slice 45 0 4 1),(.func (.func 285) [] [(.ptr 592 0)])],part:=(no y6 (no (no (no (no .nil (no (no .nil (no (no (lf (.cells 5 (nd (.int .i64 (.ofNat 0)) AN QN))) .nil) .nil)) .nil)) .nil) ia) .nil)),nx:=593,ok:=true,v:=(.bool true),out:=(no .nil (no (no (no (no .nil (no (no .nil (no (no (lf (.cells 5 (nd (.int .i64 (.ofNat 1)) AN QN))) .nil) .nil)) .nil)) .nil) eR) .nil)),nx':=593,wr:=[44,592]}
theorem Aa0:∀[F:Facts],Ab (Env.ofS Tryz.prog [] []) 1000000 aJ=true:=by
 intro F
 kernel_rfl
theorem wm (G:Nat→D→D):aJ.Valid Tryz.prog G:=Ad.val (okE _ []) (w0 G) Aa0
def cq:Orc:=
 {f:=282,args:=[(.ptr 44 0)],part:=(no .nil (no (no .nil eR) .nil)),nx:=595,ok:=true,v:=(.tuple []),out:=.nil,nx':=596,wr:=[]}
theorem yN:∀[F:Facts],Ab (Env.ofS Tryz.prog [] []) 1000000 cq=true:=by
 intro F
 kernel_rfl
theorem yk (G:Nat→D→D):cq.Valid Tryz.prog G:=Ad.val (okE _ []) (w0 G) yN
def W2:Orc:=
 {f:=284,args:=[(.slice 45 0 4 1),(.func (.func 285) [] [(.ptr 596 0)])],part:=(no y6 (no (no .nil (no (no .nil (no (no .nil (no (no (lf (.cells 5 (nd (.int .i64 (.ofNat 0)) AN oN))) .nil) .nil)) .nil)) gi)) .nil)),nx:=597,ok:=true,v:=(.bool true),out:=(no .nil (no (no .nil (no (no .nil (no (no .nil (no (no (lf (.cells 5 (nd (.int .i64 (.ofNat 4)) AN oN))) .nil) .nil)) .nil)) nF)) .nil)),nx':=598,wr:=[44,596]}
theorem zl:∀[F:Facts],Ab (Env.ofS Tryz.prog [] []) 1000000 W2=true:=by
 intro F
 kernel_rfl
theorem zi (G:Nat→D→D):W2.Valid Tryz.prog G:=Ad.val (okE _ []) (w0 G) zl
def bt:Orc:=
 {f:=308,args:=[(.ptr 44 0),(.int .i64 (.ofNat 416)),(.func (.func 319) [] [])],part:=kg,nx:=600,ok:=true,v:=(.int .i64 (.ofNat 1)),out:=pC,nx':=600,wr:=[44]}
theorem xz:∀[F:Facts],Ab (Env.ofS Tryz.prog [] []) 1000000 bt=true:=by
 intro F
 kernel_rfl
theorem qq (G:Nat→D→D):bt.Valid Tryz.prog G:=Ad.val (okE _ []) (w0 G) xz
def aH:Orc:=
 {f:=282,args:=[(.ptr 44 0)],part:=kg,nx:=600,ok:=true,v:=(.tuple []),out:=pC,nx':=602,wr:=[44]}
theorem ry:∀[F:Facts],Ab (Env.ofS Tryz.prog [bt] []) 1000000 aH=true:=by
 intro F
 kernel_rfl
theorem wA (G:Nat→D→D):aH.Valid Tryz.prog G:=Ad.val (okE _ []) (.cons (qq G) (w0 G)) ry
def cN:Orc:=
 {f:=284,args:=[(.slice 45 0 4 1),(.func (.func 285) [] [(.ptr 602 0)])],part:=(no y6 (no jV (no (no .nil (no .nil (no (no .nil (no (no (lf (.cells 5 (nd (.int .i64 (.ofNat 0)) AN (nd (.int .i64 (.ofNat 0)) (lf (.int .i64 (.ofNat 36))) .nil)))) .nil) .nil)) .nil))) .nil))),nx:=603,ok:=true,v:=(.bool true),out:=(no .nil (no pw (no (no .nil (no .nil (no (no .nil (no (no (lf (.cells 5 (nd (.int .i64 (.ofNat 2)) AN (nd (.int .i64 (.ofNat 3)) (lf (.int .i64 (.ofNat 36))) .nil)))) .nil) .nil)) .nil))) .nil))),nx':=605,wr:=[44,602]}
theorem Aai:∀[F:Facts],Ab (Env.ofS Tryz.prog [] []) 1000000 cN=true:=by
 intro F
 kernel_rfl
theorem xr (G:Nat→D→D):cN.Valid Tryz.prog G:=Ad.val (okE _ []) (w0 G) Aai
def cF:Orc:=
 {f:=282,args:=[(.ptr 44 0)],part:=(no .nil (no pw .nil)),nx:=607,ok:=true,v:=(.tuple []),out:=.nil,nx':=608,wr:=[]}
theorem zt:∀[F:Facts],Ab (Env.ofS Tryz.prog [] []) 1000000 cF=true:=by
 intro F
 kernel_rfl
theorem yI (G:Nat→D→D):cF.Valid Tryz.prog G:=Ad.val (okE _ []) (w0 G) zt
def Xd:Orc:=
 {f:=284,args:=[(.slice 45 0 4 1),(.func (.func 285) [] [(.ptr 608 0)])],part:=(no y6 (no (no (no (no (no .nil (no .nil (no (no (lf (.cells 5 (nd (.int .i64 (.ofNat 0)) AN ej))) .nil) .nil))) .nil) .nil) ik) .nil)),nx:=609,ok:=true,v:=(.bool true),out:=(no .nil (no (no (no (no (no .nil (no .nil (no (no (lf (.cells 5 (nd (.int .i64 (.ofNat 4)) AN ej))) .nil) .nil))) .nil) .nil) oM) .nil)),nx':=610,wr:=[44,608]}
theorem sA:∀[F:Facts],Ab (Env.ofS Tryz.prog [] []) 1000000 Xd=true:=by
 intro F
 kernel_rfl
theorem yC (G:Nat→D→D):Xd.Valid Tryz.prog G:=Ad.val (okE _ []) (w0 G) sA
def Xy:Orc:=
 {f:=282,args:=[(.ptr 44 0)],part:=(no .nil cY),nx:=612,ok:=true,v:=(.tuple []),out:=.nil,nx':=613,wr:=[]}
theorem wB:∀[F:Facts],Ab (Env.ofS Tryz.prog [] []) 1000000 Xy=true:=by
 intro F
 kernel_rfl
theorem wq (G:Nat→D→D):Xy.Valid Tryz.prog G:=Ad.val (okE _ []) (w0 G) wB
def b8:Orc:=
 {f:=284,args:=[(.slice 45 0 4 1),(.func (.func 285) [] [(.ptr 613 0)])],part:=(no (no .nil (no .nil (no (no (no .nil (no .nil (no (no (lf (.cells 5 (nd (.int .i64 (.ofNat 0)) AN (nd (.int .i64 (.ofNat 0)) (lf (.int .i64 (.ofNat 39))) .nil)))) .nil) .nil))) .nil) y3))) cY),nx:=614,ok:=true,v:=(.bool true),out:=(no (no .nil (no .nil (no (no (no .nil (no .nil (no (no (lf (.cells 5 (nd (.int .i64 (.ofNat 2)) AN (nd (.int .i64 (.ofNat 3)) (lf (.int .i64 (.ofNat 39))) .nil)))) .nil) .nil))) .nil) .nil))) XI),nx':=616,wr:=[44,613]}
theorem vM:∀[F:Facts],Ab (Env.ofS Tryz.prog [] []) 1000000 b8=true:=by
 intro F
 kernel_rfl
theorem sX (G:Nat→D→D):b8.Valid Tryz.prog G:=Ad.val (okE _ []) (w0 G) vM
def Z9:Orc:=
 {f:=282,args:=[(.ptr 44 0)],part:=(no .nil XI),nx:=618,ok:=true,v:=(.tuple []),out:=.nil,nx':=619,wr:=[]}
theorem we:∀[F:Facts],Ab (Env.ofS Tryz.prog [] []) 1000000 Z9=true:=by
 intro F
 kernel_rfl
theorem xu (G:Nat→D→D):Z9.Valid Tryz.prog G:=Ad.val (okE _ []) (w0 G) we
def XT:Orc:=
 {f:=284,args:=[(.slice 45 0 4 1),(.func (.func 285) [] [(.ptr 619 0)])],part:=(no (no (no .nil (no .nil (no (no .nil (no .nil (no (no (lf (.cells 5 (nd (.int .i64 (.ofNat 0)) AN n7))) .nil) .nil))) .nil))) y5) XI),nx:=620,ok:=true,v:=(.bool true),out:=(no (no (no .nil (no .nil (no (no .nil (no .nil (no (no (lf (.cells 5 (nd (.int .i64 (.ofNat 4)) AN n7))) .nil) .nil))) .nil))) .nil) gO),nx':=621,wr:=[44,619]}
theorem wX:∀[F:Facts],Ab (Env.ofS Tryz.prog [] []) 1000000 XT=true:=by
 intro F
 kernel_rfl
theorem qT (G:Nat→D→D):XT.Valid Tryz.prog G:=Ad.val (okE _ []) (w0 G) wX
def aP:Orc:=
 {f:=308,args:=[(.ptr 44 0),(.int .i64 (.ofNat 416)),(.func (.func 319) [] [])],part:=dN,nx:=623,ok:=true,v:=(.int .i64 (.ofNat 1)),out:=ep,nx':=623,wr:=[44]}
theorem rJ:∀[F:Facts],Ab (Env.ofS Tryz.prog [] []) 1000000 aP=true:=by
 intro F
 kernel_rfl
theorem Aaj (G:Nat→D→D):aP.Valid Tryz.prog G:=Ad.val (okE _ []) (w0 G) rJ
def Yq:Orc:=
 {f:=282,args:=[(.ptr 44 0)],part:=dN,nx:=623,ok:=true,v:=(.tuple []),out:=ep,nx':=625,wr:=[44]}
theorem uf:∀[F:Facts],Ab (Env.ofS Tryz.prog [aP] []) 1000000 Yq=true:=by
 intro F
 kernel_rfl
theorem yr (G:Nat→D→D):Yq.Valid Tryz.prog G:=Ad.val (okE _ []) (.cons (Aaj G) (w0 G)) uf
def cP:Orc:=
 {f:=284,args:=[(.slice 45 0 4 1),(.func (.func 285) [] [(.ptr 625 0)])],part:=(no (no .nil (no (no (no .nil (no .nil (no .nil (no (no (lf (.cells 5 (nd (.int .i64 (.ofNat 0)) AN fE))) .nil) .nil)))) .nil) y4)) oK),nx:=626,ok:=true,v:=(.bool true),out:=(no (no .nil (no (no (no .nil (no .nil (no .nil (no (no (lf (.cells 5 (nd (.int .i64 (.ofNat 1)) AN fE))) .nil) .nil)))) .nil) .nil)) cS),nx':=626,wr:=[44,625]}
theorem xW:∀[F:Facts],Ab (Env.ofS Tryz.prog [] []) 1000000 cP=true:=by
 intro F
 kernel_rfl
theorem yD (G:Nat→D→D):cP.Valid Tryz.prog G:=Ad.val (okE _ []) (w0 G) xW
def Zf:Orc:=
 {f:=282,args:=[(.ptr 44 0)],part:=(no .nil cS),nx:=628,ok:=true,v:=(.tuple []),out:=.nil,nx':=629,wr:=[]}
theorem zD:∀[F:Facts],Ab (Env.ofS Tryz.prog [] []) 1000000 Zf=true:=by
 intro F
 kernel_rfl
theorem ul (G:Nat→D→D):Zf.Valid Tryz.prog G:=Ad.val (okE _ []) (w0 G) zD
def aa:Orc:=
 {f:=284,args:=[(.slice 45 0 4 1),(.func (.func 285) [] [(.ptr 629 0)])],part:=(no (no .nil (no .nil (no (no .nil (no .nil (no .nil (no (no (lf (.cells 5 (nd (.int .i64 (.ofNat 0)) AN gx))) .nil) .nil)))) y3))) cS),nx:=630,ok:=true,v:=(.bool true),out:=(no (no .nil (no .nil (no (no .nil (no .nil (no .nil (no (no (lf (.cells 5 (nd (.int .i64 (.ofNat 4)) AN gx))) .nil) .nil)))) .nil))) iX),nx':=631,wr:=[44,629]}
theorem ze:∀[F:Facts],Ab (Env.ofS Tryz.prog [] []) 1000000 aa=true:=by
 intro F
 kernel_rfl
theorem tE (G:Nat→D→D):aa.Valid Tryz.prog G:=Ad.val (okE _ []) (w0 G) ze
def YS:Orc:=
 {f:=308,args:=[(.ptr 44 0),(.int .i64 (.ofNat 416)),(.func (.func 319) [] [])],part:=jg,nx:=633,ok:=true,v:=(.int .i64 (.ofNat 1)),out:=dB,nx':=633,wr:=[44]}
theorem tq:∀[F:Facts],Ab (Env.ofS Tryz.prog [] []) 1000000 YS=true:=by
 intro F
 kernel_rfl
theorem uS (G:Nat→D→D):YS.Valid Tryz.prog G:=Ad.val (okE _ []) (w0 G) tq
def ZK:Orc:=
 {f:=282,args:=[(.ptr 44 0)],part:=jg,nx:=633,ok:=true,v:=(.tuple []),out:=dB,nx':=635,wr:=[44]}
theorem zF:∀[F:Facts],Ab (Env.ofS Tryz.prog [YS] []) 1000000 ZK=true:=by
 intro F
 kernel_rfl
theorem uA (G:Nat→D→D):ZK.Valid Tryz.prog G:=Ad.val (okE _ []) (.cons (uS G) (w0 G)) zF
def Yt:Orc:=
 {f:=284,args:=[(.slice 45 0 4 1),(.func (.func 285) [] [(.ptr 635 0)])],part:=(no (no (no .nil (no .nil (no .nil (no .nil (no .nil (no (no (lf (.cells 5 (nd (.int .i64 (.ofNat 0)) AN (nd (.int .i64 (.ofNat 0)) (lf (.int .i64 (.ofNat 49))) .nil)))) .nil) .nil)))))) y5) po),nx:=636,ok:=true,v:=(.bool true),out:=(no (no (no .nil (no .nil (no .nil (no .nil (no .nil (no (no (lf (.cells 5 (nd (.int .i64 (.ofNat 2)) AN (nd (.int .i64 (.ofNat 4)) (lf (.int .i64 (.ofNat 49))) .nil)))) .nil) .nil)))))) .nil) Zh),nx':=638,wr:=[44,635]}
theorem yW:∀[F:Facts],Ab (Env.ofS Tryz.prog [] []) 1000000 Yt=true:=by
 intro F
 kernel_rfl
theorem qt (G:Nat→D→D):Yt.Valid Tryz.prog G:=Ad.val (okE _ []) (w0 G) yW
def cM:Orc:=
 {f:=282,args:=[(.ptr 44 0)],part:=(no .nil Zh),nx:=640,ok:=true,v:=(.tuple []),out:=.nil,nx':=641,wr:=[]}
theorem xE:∀[F:Facts],Ab (Env.ofS Tryz.prog [] []) 1000000 cM=true:=by
 intro F
 kernel_rfl
theorem rK (G:Nat→D→D):cM.Valid Tryz.prog G:=Ad.val (okE _ []) (w0 G) xE
def Wu:Orc:=
 {f:=284,args:=[(.slice 45 0 4 1),(.func (.func 285) [] [(.ptr 641 0)])],part:=(no (no .nil (no (no (no (no (no (no .nil (no (lf (.cells 5 (nd (.int .i64 (.ofNat 0)) AN jN))) .nil)) .nil) .nil) .nil) .nil) y4)) Zh),nx:=642,ok:=true,v:=(.bool true),out:=(no (no .nil (no (no (no (no (no (no .nil (no (lf (.cells 5 (nd (.int .i64 (.ofNat 4)) AN jN))) .nil)) .nil) .nil) .nil) .nil) .nil)) ou),nx':=643,wr:=[44,641]}
theorem tU:∀[F:Facts],Ab (Env.ofS Tryz.prog [] []) 1000000 Wu=true:=by
 intro F
 kernel_rfl
theorem vN (G:Nat→D→D):Wu.Valid Tryz.prog G:=Ad.val (okE _ []) (w0 G) tU
def cT:Orc:=
 {f:=282,args:=[(.ptr 44 0)],part:=(no .nil ou),nx:=645,ok:=true,v:=(.tuple []),out:=.nil,nx':=646,wr:=[]}
theorem yo:∀[F:Facts],Ab (Env.ofS Tryz.prog [] []) 1000000 cT=true:=by
 intro F
 kernel_rfl
theorem sr (G:Nat→D→D):cT.Valid Tryz.prog G:=Ad.val (okE _ []) (w0 G) yo
def bb:Orc:=
 {f:=284,args:=[(.slice 45 0 4 1),(.func (.func 285) [] [(.ptr 646 0)])],part:=(no y6 (no dX (no .nil (no (no (no (no (no .nil (no (lf (.cells 5 (nd (.int .i64 (.ofNat 0)) AN (nd (.int .i64 (.ofNat 0)) (lf (.int .i64 (.ofNat 52))) .nil)))) .nil)) .nil) .nil) .nil) .nil)))),nx:=647,ok:=true,v:=(.bool true),out:=(no .nil (no ff (no .nil (no (no (no (no (no .nil (no (lf (.cells 5 (nd (.int .i64 (.ofNat 2)) AN (nd (.int .i64 (.ofNat 4)) (lf (.int .i64 (.ofNat 52))) .nil)))) .nil)) .nil) .nil) .nil) .nil)))),nx':=649,wr:=[44,646]}
theorem Aap:∀[F:Facts],Ab (Env.ofS Tryz.prog [] []) 1000000 bb=true:=by
 intro F
 kernel_rfl
theorem yP (G:Nat→D→D):bb.Valid Tryz.prog G:=Ad.val (okE _ []) (w0 G) Aap
def X3:Orc:=
 {f:=282,args:=[(.ptr 44 0)],part:=(no .nil (no ff .nil)),nx:=651,ok:=true,v:=(.tuple []),out:=.nil,nx':=652,wr:=[]}
theorem pY:∀[F:Facts],Ab (Env.ofS Tryz.prog [] []) 1000000 X3=true:=by
 intro F
 kernel_rfl
theorem uR (G:Nat→D→D):X3.Valid Tryz.prog G:=Ad.val (okE _ []) (w0 G) pY
def ZZ:Orc:=
 {f:=284,args:=[(.slice 45 0 4 1),(.func (.func 285) [] [(.ptr 652 0)])],part:=(no y6 (no (no .nil (no .nil (no (nd md (no (no .nil (no (lf (.cells 5 (nd (.int .i64 (.ofNat 0)) AN dR))) .nil)) .nil) .nil) .nil))) .nil)),nx:=653,ok:=true,v:=(.bool true),out:=(no .nil (no (no .nil (no .nil (no (nd kb (no (no .nil (no (lf (.cells 5 (nd (.int .i64 (.ofNat 4)) AN dR))) .nil)) .nil) .nil) .nil))) .nil)),nx':=654,wr:=[44,652]}
theorem wC:∀[F:Facts],Ab (Env.ofS Tryz.prog [] []) 1000000 ZZ=true:=by
 intro F
 kernel_rfl
theorem zd (G:Nat→D→D):ZZ.Valid Tryz.prog G:=Ad.val (okE _ []) (w0 G) wC
def W8:Orc:=
 {f:=308,args:=[(.ptr 44 0),(.int .i64 (.ofNat 416)),(.func (.func 319) [] [])],part:=eV,nx:=656,ok:=true,v:=(.int .i64 (.ofNat 1)),out:=ja,nx':=656,wr:=[44]}
theorem yG:∀[F:Facts],Ab (Env.ofS Tryz.prog [] []) 1000000 W8=true:=by
 intro F
 kernel_rfl
theorem zB (G:Nat→D→D):W8.Valid Tryz.prog G:=Ad.val (okE _ []) (w0 G) yG
def ac:Orc:=
 {f:=282,args:=[(.ptr 44 0)],part:=eV,nx:=656,ok:=true,v:=(.tuple []),out:=ja,nx':=658,wr:=[44]}
theorem qj:∀[F:Facts],Ab (Env.ofS Tryz.prog [W8] []) 1000000 ac=true:=by
 intro F
 kernel_rfl
theorem qm (G:Nat→D→D):ac.Valid Tryz.prog G:=Ad.val (okE _ []) (.cons (zB G) (w0 G)) qj
def WL:Orc:=
 {f:=284,args:=[(.slice 45 0 4 1),(.func (.func 285) [] [(.ptr 658 0)])],part:=(no y6 (no mh (no (no (no .nil (no (no (no .nil (no (lf (.cells 5 (nd (.int .i64 (.ofNat 0)) AN kM))) .nil)) .nil) .nil)) .nil) .nil))),nx:=659,ok:=true,v:=(.bool true),out:=(no .nil (no YL (no (no (no .nil (no (no (no .nil (no (lf (.cells 5 (nd (.int .i64 (.ofNat 1)) AN kM))) .nil)) .nil) .nil)) .nil) .nil))),nx':=659,wr:=[44,658]}
theorem Aaf:∀[F:Facts],Ab (Env.ofS Tryz.prog [] []) 1000000 WL=true:=by
 intro F
 kernel_rfl
theorem wQ (G:Nat→D→D):WL.Valid Tryz.prog G:=Ad.val (okE _ []) (w0 G) Aaf
def Ys:Orc:=
 {f:=282,args:=[(.ptr 44 0)],part:=(no .nil (no YL .nil)),nx:=661,ok:=true,v:=(.tuple []),out:=.nil,nx':=662,wr:=[]}
theorem z8:∀[F:Facts],Ab (Env.ofS Tryz.prog [] []) 1000000 Ys=true:=by
 intro F
 kernel_rfl
theorem zJ (G:Nat→D→D):Ys.Valid Tryz.prog G:=Ad.val (okE _ []) (w0 G) z8
def Xp:Orc:=
 {f:=284,args:=[(.slice 45 0 4 1),(.func (.func 285) [] [(.ptr 662 0)])],part:=(no y6 (no YL (no .nil (no (no .nil (no (no (no .nil (no (lf (.cells 5 (nd (.int .i64 (.ofNat 0)) AN dj))) .nil)) .nil) .nil)) .nil)))),nx:=663,ok:=true,v:=(.bool true),out:=(no .nil (no lh (no .nil (no (no .nil (no (no (no .nil (no (lf (.cells 5 (nd (.int .i64 (.ofNat 4)) AN dj))) .nil)) .nil) .nil)) .nil)))),nx':=664,wr:=[44,662]}
theorem rR:∀[F:Facts],Ab (Env.ofS Tryz.prog [] []) 1000000 Xp=true:=by
 intro F
 kernel_rfl
theorem tk (G:Nat→D→D):Xp.Valid Tryz.prog G:=Ad.val (okE _ []) (w0 G) rR
def cA:Orc:=
 {f:=308,args:=[(.ptr 44 0),(.int .i64 (.ofNat 416)),(.func (.func 319) [] [])],part:=hQ,nx:=666,ok:=true,v:=(.int .i64 (.ofNat 1)),out:=g6,nx':=666,wr:=[44]}
theorem xG:∀[F:Facts],Ab (Env.ofS Tryz.prog [] []) 1000000 cA=true:=by
 intro F
 kernel_rfl
theorem Aah (G:Nat→D→D):cA.Valid Tryz.prog G:=Ad.val (okE _ []) (w0 G) xG
def YE:Orc:=
 {f:=282,args:=[(.ptr 44 0)],part:=hQ,nx:=666,ok:=true,v:=(.tuple []),out:=g6,nx':=668,wr:=[44]}
theorem tK:∀[F:Facts],Ab (Env.ofS Tryz.prog [cA] []) 1000000 YE=true:=by
 intro F
 kernel_rfl
theorem ux (G:Nat→D→D):YE.Valid Tryz.prog G:=Ad.val (okE _ []) (.cons (Aah G) (w0 G)) tK
def XH:Orc:=
 {f:=284,args:=[(.slice 45 0 4 1),(.func (.func 285) [] [(.ptr 668 0)])],part:=(no y6 (no (no .nil (no .nil (no l7 (no (no (no .nil (no (lf (.cells 5 (nd (.int .i64 (.ofNat 0)) AN (nd (.int .i64 (.ofNat 0)) (lf (.int .i64 (.ofNat 60))) .nil)))) .nil)) .nil) .nil)))) .nil)),nx:=669,ok:=true,v:=(.bool true),out:=(no .nil (no (no .nil (no .nil (no db (no (no (no .nil (no (lf (.cells 5 (nd (.int .i64 (.ofNat 2)) AN (nd (.int .i64 (.ofNat 5)) (lf (.int .i64 (.ofNat 60))) .nil)))) .nil)) .nil) .nil)))) .nil)),nx':=671,wr:=[44,668]}
theorem rB:∀[F:Facts],Ab (Env.ofS Tryz.prog [] []) 1000000 XH=true:=by
 intro F
 kernel_rfl
theorem vT (G:Nat→D→D):XH.Valid Tryz.prog G:=Ad.val (okE _ []) (w0 G) rB
def cI:Orc:=
 {f:=282,args:=[(.ptr 44 0)],part:=(no .nil (no i5 .nil)),nx:=673,ok:=true,v:=(.tuple []),out:=.nil,nx':=674,wr:=[]}
theorem vB:∀[F:Facts],Ab (Env.ofS Tryz.prog [] []) 1000000 cI=true:=by
 intro F
 kernel_rfl
theorem sa (G:Nat→D→D):cI.Valid Tryz.prog G:=Ad.val (okE _ []) (w0 G) vB
def Zn:Orc:=
 {f:=284,args:=[(.slice 45 0 4 1),(.func (.func 285) [] [(.ptr 674 0)])],part:=(no y6 (no i5 (no (no (no (no .nil (no (no .nil (no (lf (.cells 5 (nd (.int .i64 (.ofNat 0)) AN jH))) .nil)) .nil)) .nil) .nil) .nil))),nx:=675,ok:=true,v:=(.bool true),out:=(no .nil (no kB (no (no (no (no .nil (no (no .nil (no (lf (.cells 5 (nd (.int .i64 (.ofNat 4)) AN jH))) .nil)) .nil)) .nil) .nil) .nil))),nx':=676,wr:=[44,674]}
theorem xK:∀[F:Facts],Ab (Env.ofS Tryz.prog [] []) 1000000 Zn=true:=by
 intro F
 kernel_rfl
theorem xa (G:Nat→D→D):Zn.Valid Tryz.prog G:=Ad.val (okE _ []) (w0 G) xK
def Zk:Orc:=
 {f:=282,args:=[(.ptr 44 0)],part:=(no .nil lH),nx:=678,ok:=true,v:=(.tuple []),out:=.nil,nx':=679,wr:=[]}
theorem uM:∀[F:Facts],Ab (Env.ofS Tryz.prog [] []) 1000000 Zk=true:=by
 intro F
 kernel_rfl
theorem wt (G:Nat→D→D):Zk.Valid Tryz.prog G:=Ad.val (okE _ []) (w0 G) uM
def XO:Orc:=
 {f:=284,args:=[(.slice 45 0 4 1),(.func (.func 285) [] [(.ptr 679 0)])],part:=(no (no (no (no .nil (no (no .nil (no (no .nil (no (lf (.cells 5 (nd (.int .i64 (.ofNat 0)) AN (nd (.int .i64 (.ofNat 0)) (lf (.int .i64 (.ofNat 63))) .nil)))) .nil)) .nil)) .nil)) .nil) y5) lH),nx:=680,ok:=true,v:=(.bool true),out:=(no (no (no (no .nil (no (no .nil (no (no .nil (no (lf (.cells 5 (nd (.int .i64 (.ofNat 2)) AN (nd (.int .i64 (.ofNat 5)) (lf (.int .i64 (.ofNat 63))) .nil)))) .nil)) .nil)) .nil)) .nil) .nil) bE),nx':=682,wr:=[44,679]}
theorem xk:∀[F:Facts],Ab (Env.ofS Tryz.prog [] []) 1000000 XO=true:=by
 intro F
 kernel_rfl
theorem qx (G:Nat→D→D):XO.Valid Tryz.prog G:=Ad.val (okE _ []) (w0 G) xk
def WR:Orc:=
 {f:=282,args:=[(.ptr 44 0)],part:=(no .nil bE),nx:=684,ok:=true,v:=(.tuple []),out:=.nil,nx':=685,wr:=[]}
theorem yh:∀[F:Facts],Ab (Env.ofS Tryz.prog [] []) 1000000 WR=true:=by
 intro F
 kernel_rfl
theorem Abe (G:Nat→D→D):WR.Valid Tryz.prog G:=Ad.val (okE _ []) (w0 G) yh
def aI:Orc:=
 {f:=284,args:=[(.slice 45 0 4 1),(.func (.func 285) [] [(.ptr 685 0)])],part:=(no (no .nil (no .nil (no .nil (no (nd y1 .nil (no (no .nil (no (lf (.cells 5 (nd (.int .i64 (.ofNat 0)) AN fc))) .nil)) .nil)) .nil)))) bE),nx:=686,ok:=true,v:=(.bool true),out:=(no (no .nil (no .nil (no .nil (no (no .nil (no (no .nil (no (lf (.cells 5 (nd (.int .i64 (.ofNat 4)) AN fc))) .nil)) .nil)) .nil)))) fV),nx':=687,wr:=[44,685]}
theorem zE:∀[F:Facts],Ab (Env.ofS Tryz.prog [] []) 1000000 aI=true:=by
 intro F
 kernel_rfl
theorem zb (G:Nat→D→D):aI.Valid Tryz.prog G:=Ad.val (okE _ []) (w0 G) zE
def X8:Orc:=
 {f:=308,args:=[(.ptr 44 0),(.int .i64 (.ofNat 416)),(.func (.func 319) [] [])],part:=lK,nx:=689,ok:=true,v:=(.int .i64 (.ofNat 1)),out:=kj,nx':=689,wr:=[44]}
theorem uU:∀[F:Facts],Ab (Env.ofS Tryz.prog [] []) 1000000 X8=true:=by
 intro F
 kernel_rfl
theorem xw (G:Nat→D→D):X8.Valid Tryz.prog G:=Ad.val (okE _ []) (w0 G) uU
def YR:Orc:=
 {f:=282,args:=[(.ptr 44 0)],part:=lK,nx:=689,ok:=true,v:=(.tuple []),out:=kj,nx':=691,wr:=[44]}
theorem ur:∀[F:Facts],Ab (Env.ofS Tryz.prog [X8] []) 1000000 YR=true:=by
 intro F
 kernel_rfl
theorem zH (G:Nat→D→D):YR.Valid Tryz.prog G:=Ad.val (okE _ []) (.cons (xw G) (w0 G)) ur
def Ww:Orc:=
 {f:=284,args:=[(.slice 45 0 4 1),(.func (.func 285) [] [(.ptr 691 0)])],part:=(no (no (no .nil (no (no .nil (no .nil (no (no .nil (no (lf (.cells 5 (nd (.int .i64 (.ofNat 0)) AN oX))) .nil)) .nil))) .nil)) y5) om),nx:=692,ok:=true,v:=(.bool true),out:=(no (no (no .nil (no (no .nil (no .nil (no (no .nil (no (lf (.cells 5 (nd (.int .i64 (.ofNat 1)) AN oX))) .nil)) .nil))) .nil)) .nil) Ym),nx':=692,wr:=[44,691]}
theorem uO:∀[F:Facts],Ab (Env.ofS Tryz.prog [] []) 1000000 Ww=true:=by
 intro F
 kernel_rfl
theorem zZ (G:Nat→D→D):Ww.Valid Tryz.prog G:=Ad.val (okE _ []) (w0 G) uO
def ZI:Orc:=
 {f:=282,args:=[(.ptr 44 0)],part:=(no .nil Ym),nx:=694,ok:=true,v:=(.tuple []),out:=.nil,nx':=695,wr:=[]}
theorem Abm:∀[F:Facts],Ab (Env.ofS Tryz.prog [] []) 1000000 ZI=true:=by
 intro F
 kernel_rfl
theorem wJ (G:Nat→D→D):ZI.Valid Tryz.prog G:=Ad.val (okE _ []) (w0 G) Abm
def bA:Orc:=
 {f:=284,args:=[(.slice 45 0 4 1),(.func (.func 285) [] [(.ptr 695 0)])],part:=(no (no (no (no .nil (no .nil (no .nil (no (no .nil (no (lf (.cells 5 (nd (.int .i64 (.ofNat 0)) AN gN))) .nil)) .nil)))) .nil) y5) Ym),nx:=696,ok:=true,v:=(.bool true),out:=(no (no (no (no .nil (no .nil (no .nil (no (no .nil (no (lf (.cells 5 (nd (.int .i64 (.ofNat 4)) AN gN))) .nil)) .nil)))) .nil) .nil) ic),nx':=697,wr:=[44,695]}
theorem vk:∀[F:Facts],Ab (Env.ofS Tryz.prog [] []) 1000000 bA=true:=by
 intro F
 kernel_rfl
theorem ye (G:Nat→D→D):bA.Valid Tryz.prog G:=Ad.val (okE _ []) (w0 G) vk
def WC:Orc:=
 {f:=308,args:=[(.ptr 44 0),(.int .i64 (.ofNat 416)),(.func (.func 319) [] [])],part:=kG,nx:=699,ok:=true,v:=(.int .i64 (.ofNat 1)),out:=mV,nx':=699,wr:=[44]}
theorem zC:∀[F:Facts],Ab (Env.ofS Tryz.prog [] []) 1000000 WC=true:=by
 intro F
 kernel_rfl
theorem zx (G:Nat→D→D):WC.Valid Tryz.prog G:=Ad.val (okE _ []) (w0 G) zC
def Ws:Orc:=
 {f:=282,args:=[(.ptr 44 0)],part:=kG,nx:=699,ok:=true,v:=(.tuple []),out:=mV,nx':=701,wr:=[44]}
theorem uh:∀[F:Facts],Ab (Env.ofS Tryz.prog [WC] []) 1000000 Ws=true:=by
 intro F
 kernel_rfl
theorem xc (G:Nat→D→D):Ws.Valid Tryz.prog G:=Ad.val (okE _ []) (.cons (zx G) (w0 G)) uh
def Wp:Orc:=
 {f:=284,args:=[(.slice 45 0 4 1),(.func (.func 285) [] [(.ptr 701 0)])],part:=(no (no .nil (no .nil (no .nil (no y2 (no .nil (no (no .nil (no (lf (.cells 5 (nd (.int .i64 (.ofNat 0)) AN oq))) .nil)) .nil)))))) jJ),nx:=702,ok:=true,v:=(.bool true),out:=(no (no .nil (no .nil (no .nil (no .nil (no .nil (no (no .nil (no (lf (.cells 5 (nd (.int .i64 (.ofNat 4)) AN oq))) .nil)) .nil)))))) fC),nx':=703,wr:=[44,701]}
theorem sY:∀[F:Facts],Ab (Env.ofS Tryz.prog [] []) 1000000 Wp=true:=by
 intro F
 kernel_rfl
theorem up (G:Nat→D→D):Wp.Valid Tryz.prog G:=Ad.val (okE _ []) (w0 G) sY
def Wq:Orc:=
 {f:=282,args:=[(.ptr 44 0)],part:=(no .nil fC),nx:=705,ok:=true,v:=(.tuple []),out:=.nil,nx':=706,wr:=[]}
theorem rY:∀[F:Facts],Ab (Env.ofS Tryz.prog [] []) 1000000 Wq=true:=by
 intro F
 kernel_rfl
theorem xi (G:Nat→D→D):Wq.Valid Tryz.prog G:=Ad.val (okE _ []) (w0 G) rY
def ZW:Orc:=
 {f:=284,args:=[(.slice 45 0 4 1),(.func (.func 285) [] [(.ptr 706 0)])],part:=(no y6 (no iq (no (no (no (no (no .nil (no .nil (no (lf (.cells 5 (nd (.int .i64 (.ofNat 0)) AN lw))) .nil))) .nil) .nil) .nil) .nil))),nx:=707,ok:=true,v:=(.bool true),out:=(no .nil (no hU (no (no (no (no (no .nil (no .nil (no (lf (.cells 5 (nd (.int .i64 (.ofNat 4)) AN lw))) .nil))) .nil) .nil) .nil) .nil))),nx':=708,wr:=[44,706]}
theorem sq:∀[F:Facts],Ab (Env.ofS Tryz.prog [] []) 1000000 ZW=true:=by
 intro F
 kernel_rfl
theorem Aay (G:Nat→D→D):ZW.Valid Tryz.prog G:=Ad.val (okE _ []) (w0 G) sq
def Xk:Orc:=
 {f:=308,args:=[(.ptr 44 0),(.int .i64 (.ofNat 416)),(.func (.func 319) [] [])],part:=me,nx:=710,ok:=true,v:=(.int .i64 (.ofNat 1)),out:=kS,nx':=710,wr:=[44]}
theorem ti:∀[F:Facts],Ab (Env.ofS Tryz.prog [] []) 1000000 Xk=true:=by
 intro F
 kernel_rfl
theorem sQ (G:Nat→D→D):Xk.Valid Tryz.prog G:=Ad.val (okE _ []) (w0 G) ti
end Go.Proofs.YtmjeljjkhblgeaaGreatDoor.familyExamples

