/- What is proved: that certain calls which the law FamilySessions makes come to the results that are written here (part 5 of 19). Conditions: the memory that such a call reaches is as written here; the kernel runs the evaluator over each. -/
import Derived.Test.YtmjeljjkhblgeaaGreatDoorFamilySessionsKnownA
import Derived.Test.YtmjeljjkhblgeaaGreatDoorFamilySessionsKnownD
set_option linter.unusedVariables false
set_option linter.unusedSectionVars false
set_option linter.unusedSimpArgs false
namespace Go.Proofs.YtmjeljjkhblgeaaGreatDoor.familySessions
open Go.AE
def cq:Orc:=
 {f:=282,args:=[(.ptr 44 0)],part:=jC,nx:=567,ok:=true,v:=(.tuple []),out:=qH,nx':=569,wr:=[44]}
theorem Ag1:∀[F:Facts],Ac (Env.ofS Tryz.prog [XG] []) 1000000 cq=true:=by
 intro F
 kernel_rfl
theorem Ar4 (G:Nat→D→D):cq.Valid Tryz.prog G:=Ad.val (okE _ []) (.cons (Age G) (w0 G)) Ag1
def ej:Orc:=
 {f:=284,args:=[(.slice 45 0 4 1),(.func (.func 285) [] [(.ptr 569 0)])],part:=(no (no .nil (no (no .nil (no .nil (no .nil (no (no (no (lf (.cells 5 (nd (.int .i64 (.ofNat 0)) AQ y24))) .nil) .nil) .nil)))) y4)) yI),nx:=570,ok:=true,v:=(.bool true),out:=(no (no .nil (no (no .nil (no .nil (no .nil (no (no (no (lf (.cells 5 (nd (.int .i64 (.ofNat 2)) AQ (nd (.int .i64 (.ofNat 1)) (lf (.int .i64 (.ofNat 21))) .nil)))) .nil) .nil) .nil)))) .nil)) Xm),nx':=572,wr:=[44,569]}
theorem zB:∀[F:Facts],Ac (Env.ofS Tryz.prog [] []) 1000000 ej=true:=by
 intro F
 kernel_rfl
theorem Aoj (G:Nat→D→D):ej.Valid Tryz.prog G:=Ad.val (okE _ []) (w0 G) zB
def XV:Orc:=
 {f:=282,args:=[(.ptr 44 0)],part:=(no .nil Xm),nx:=574,ok:=true,v:=(.tuple []),out:=.nil,nx':=575,wr:=[]}
theorem Aex:∀[F:Facts],Ac (Env.ofS Tryz.prog [] []) 1000000 XV=true:=by
 intro F
 kernel_rfl
theorem Ano (G:Nat→D→D):XV.Valid Tryz.prog G:=Ad.val (okE _ []) (w0 G) Aex
def W1:Orc:=
 {f:=284,args:=[(.slice 45 0 4 1),(.func (.func 285) [] [(.ptr 575 0)])],part:=(no (no (no (no (no (no (no .nil (no (no (lf (.cells 5 (nd (.int .i64 (.ofNat 0)) AQ OU))) .nil) .nil)) .nil) .nil) .nil) .nil) y5) Xm),nx:=576,ok:=true,v:=(.bool true),out:=(no (no (no (no (no (no (no .nil (no (no (lf (.cells 5 (nd (.int .i64 (.ofNat 4)) AQ OU))) .nil) .nil)) .nil) .nil) .nil) .nil) .nil) rA),nx':=577,wr:=[44,575]}
theorem Ac7:∀[F:Facts],Ac (Env.ofS Tryz.prog [] []) 1000000 W1=true:=by
 intro F
 kernel_rfl
theorem yY (G:Nat→D→D):W1.Valid Tryz.prog G:=Ad.val (okE _ []) (w0 G) Ac7
def bu:Orc:=
 {f:=282,args:=[(.ptr 44 0)],part:=(no .nil rA),nx:=579,ok:=true,v:=(.tuple []),out:=.nil,nx':=580,wr:=[]}
theorem Ahn:∀[F:Facts],Ac (Env.ofS Tryz.prog [] []) 1000000 bu=true:=by
 intro F
 kernel_rfl
theorem Afg (G:Nat→D→D):bu.Valid Tryz.prog G:=Ad.val (okE _ []) (w0 G) Ahn
def Z9:Orc:=
 {f:=284,args:=[(.slice 45 0 4 1),(.func (.func 285) [] [(.ptr 580 0)])],part:=(no y6 (no (no .nil (no (no (no (no .nil (no (no (lf (.cells 5 (nd (.int .i64 (.ofNat 0)) AQ y26))) .nil) .nil)) .nil) .nil) iG)) .nil)),nx:=581,ok:=true,v:=(.bool true),out:=(no .nil (no (no .nil (no (no (no (no .nil (no (no (lf (.cells 5 (nd (.int .i64 (.ofNat 2)) AQ (nd (.int .i64 (.ofNat 2)) (lf (.int .i64 (.ofNat 24))) .nil)))) .nil) .nil)) .nil) .nil) ya)) .nil)),nx':=583,wr:=[44,580]}
theorem Am9:∀[F:Facts],Ac (Env.ofS Tryz.prog [] []) 1000000 Z9=true:=by
 intro F
 kernel_rfl
theorem Agv (G:Nat→D→D):Z9.Valid Tryz.prog G:=Ad.val (okE _ []) (w0 G) Am9
def XB:Orc:=
 {f:=282,args:=[(.ptr 44 0)],part:=(no .nil (no xA .nil)),nx:=585,ok:=true,v:=(.tuple []),out:=.nil,nx':=586,wr:=[]}
theorem Ai4:∀[F:Facts],Ac (Env.ofS Tryz.prog [] []) 1000000 XB=true:=by
 intro F
 kernel_rfl
theorem An6 (G:Nat→D→D):XB.Valid Tryz.prog G:=Ad.val (okE _ []) (w0 G) Ai4
def dk:Orc:=
 {f:=284,args:=[(.slice 45 0 4 1),(.func (.func 285) [] [(.ptr 586 0)])],part:=(no y6 (no xA (no (no .nil (no (no (no .nil (no (no (lf (.cells 5 (nd (.int .i64 (.ofNat 0)) AQ jo))) .nil) .nil)) .nil) .nil)) .nil))),nx:=587,ok:=true,v:=(.bool true),out:=(no .nil (no pw (no (no .nil (no (no (no .nil (no (no (lf (.cells 5 (nd (.int .i64 (.ofNat 4)) AQ jo))) .nil) .nil)) .nil) .nil)) .nil))),nx':=588,wr:=[44,586]}
theorem Aql:∀[F:Facts],Ac (Env.ofS Tryz.prog [] []) 1000000 dk=true:=by
 intro F
 kernel_rfl
theorem Apb (G:Nat→D→D):dk.Valid Tryz.prog G:=Ad.val (okE _ []) (w0 G) Aql
def Zq:Orc:=
 {f:=308,args:=[(.ptr 44 0),(.int .i64 (.ofNat 416)),(.func (.func 319) [] [])],part:=mw,nx:=590,ok:=true,v:=(.int .i64 (.ofNat 1)),out:=nX,nx':=590,wr:=[44]}
theorem Aln:∀[F:Facts],Ac (Env.ofS Tryz.prog [] []) 1000000 Zq=true:=by
 intro F
 kernel_rfl
theorem Arz (G:Nat→D→D):Zq.Valid Tryz.prog G:=Ad.val (okE _ []) (w0 G) Aln
def bt:Orc:=
 {f:=282,args:=[(.ptr 44 0)],part:=mw,nx:=590,ok:=true,v:=(.tuple []),out:=nX,nx':=592,wr:=[44]}
theorem Aqk:∀[F:Facts],Ac (Env.ofS Tryz.prog [Zq] []) 1000000 bt=true:=by
 intro F
 kernel_rfl
theorem Ajd (G:Nat→D→D):bt.Valid Tryz.prog G:=Ad.val (okE _ []) (.cons (Arz G) (w0 G)) Aqk
def cM:Orc:=
 {f:=284,args:=[(.slice 45 0 4 1),(.func (.func 285) [] [(.ptr 592 0)])],part:=(no y6 (no (no (no (no .nil (no (no .nil (no (no (lf (.cells 5 (nd (.int .i64 (.ofNat 0)) AQ QW))) .nil) .nil)) .nil)) .nil) mr) .nil)),nx:=593,ok:=true,v:=(.bool true),out:=(no .nil (no (no (no (no .nil (no (no .nil (no (no (lf (.cells 5 (nd (.int .i64 (.ofNat 1)) AQ QW))) .nil) .nil)) .nil)) .nil) iN) .nil)),nx':=593,wr:=[44,592]}
theorem Art:∀[F:Facts],Ac (Env.ofS Tryz.prog [] []) 1000000 cM=true:=by
 intro F
 kernel_rfl
theorem Ajh (G:Nat→D→D):cM.Valid Tryz.prog G:=Ad.val (okE _ []) (w0 G) Art
def eT:Orc:=
 {f:=282,args:=[(.ptr 44 0)],part:=(no .nil (no (no .nil iN) .nil)),nx:=595,ok:=true,v:=(.tuple []),out:=.nil,nx':=596,wr:=[]}
theorem Anx:∀[F:Facts],Ac (Env.ofS Tryz.prog [] []) 1000000 eT=true:=by
 intro F
 kernel_rfl
theorem Am0 (G:Nat→D→D):eT.Valid Tryz.prog G:=Ad.val (okE _ []) (w0 G) Anx
def XL:Orc:=
 {f:=284,args:=[(.slice 45 0 4 1),(.func (.func 285) [] [(.ptr 596 0)])],part:=(no y6 (no (no .nil (no (no .nil (no (no .nil (no (no (lf (.cells 5 (nd (.int .i64 (.ofNat 0)) AQ xC))) .nil) .nil)) .nil)) kN)) .nil)),nx:=597,ok:=true,v:=(.bool true),out:=(no .nil (no (no .nil (no (no .nil (no (no .nil (no (no (lf (.cells 5 (nd (.int .i64 (.ofNat 4)) AQ xC))) .nil) .nil)) .nil)) vI)) .nil)),nx':=598,wr:=[44,596]}
theorem Aoo:∀[F:Facts],Ac (Env.ofS Tryz.prog [] []) 1000000 XL=true:=by
 intro F
 kernel_rfl
theorem Aol (G:Nat→D→D):XL.Valid Tryz.prog G:=Ad.val (okE _ []) (w0 G) Aoo
def dG:Orc:=
 {f:=308,args:=[(.ptr 44 0),(.int .i64 (.ofNat 416)),(.func (.func 319) [] [])],part:=pY,nx:=600,ok:=true,v:=(.int .i64 (.ofNat 1)),out:=yA,nx':=600,wr:=[44]}
theorem Alj:∀[F:Facts],Ac (Env.ofS Tryz.prog [] []) 1000000 dG=true:=by
 intro F
 kernel_rfl
theorem zD (G:Nat→D→D):dG.Valid Tryz.prog G:=Ad.val (okE _ []) (w0 G) Alj
def cJ:Orc:=
 {f:=282,args:=[(.ptr 44 0)],part:=pY,nx:=600,ok:=true,v:=(.tuple []),out:=yA,nx':=602,wr:=[44]}
theorem Abi:∀[F:Facts],Ac (Env.ofS Tryz.prog [dG] []) 1000000 cJ=true:=by
 intro F
 kernel_rfl
theorem Ajw (G:Nat→D→D):cJ.Valid Tryz.prog G:=Ad.val (okE _ []) (.cons (zD G) (w0 G)) Abi
def fD:Orc:=
 {f:=284,args:=[(.slice 45 0 4 1),(.func (.func 285) [] [(.ptr 602 0)])],part:=(no y6 (no py (no (no .nil (no .nil (no (no .nil (no (no (lf (.cells 5 (nd (.int .i64 (.ofNat 0)) AQ (nd (.int .i64 (.ofNat 0)) (lf (.int .i64 (.ofNat 36))) .nil)))) .nil) .nil)) .nil))) .nil))),nx:=603,ok:=true,v:=(.bool true),out:=(no .nil (no yp (no (no .nil (no .nil (no (no .nil (no (no (lf (.cells 5 (nd (.int .i64 (.ofNat 2)) AQ (nd (.int .i64 (.ofNat 3)) (lf (.int .i64 (.ofNat 36))) .nil)))) .nil) .nil)) .nil))) .nil))),nx':=605,wr:=[44,602]}
theorem Aqx:∀[F:Facts],Ac (Env.ofS Tryz.prog [] []) 1000000 fD=true:=by
 intro F
 kernel_rfl
theorem Ale (G:Nat→D→D):fD.Valid Tryz.prog G:=Ad.val (okE _ []) (w0 G) Aqx
def fj:Orc:=
 {f:=282,args:=[(.ptr 44 0)],part:=(no .nil (no yp .nil)),nx:=607,ok:=true,v:=(.tuple []),out:=.nil,nx':=608,wr:=[]}
theorem Ao5:∀[F:Facts],Ac (Env.ofS Tryz.prog [] []) 1000000 fj=true:=by
 intro F
 kernel_rfl
theorem Anp (G:Nat→D→D):fj.Valid Tryz.prog G:=Ad.val (okE _ []) (w0 G) Ao5
def aK:Orc:=
 {f:=284,args:=[(.slice 45 0 4 1),(.func (.func 285) [] [(.ptr 608 0)])],part:=(no y6 (no (no (no (no (no .nil (no .nil (no (no (lf (.cells 5 (nd (.int .i64 (.ofNat 0)) AQ hQ))) .nil) .nil))) .nil) .nil) mG) .nil)),nx:=609,ok:=true,v:=(.bool true),out:=(no .nil (no (no (no (no (no .nil (no .nil (no (no (lf (.cells 5 (nd (.int .i64 (.ofNat 4)) AQ hQ))) .nil) .nil))) .nil) .nil) xB) .nil)),nx':=610,wr:=[44,608]}
theorem Acz:∀[F:Facts],Ac (Env.ofS Tryz.prog [] []) 1000000 aK=true:=by
 intro F
 kernel_rfl
theorem Anj (G:Nat→D→D):aK.Valid Tryz.prog G:=Ad.val (okE _ []) (w0 G) Acz
def Yc:Orc:=
 {f:=282,args:=[(.ptr 44 0)],part:=(no .nil fN),nx:=612,ok:=true,v:=(.tuple []),out:=.nil,nx':=613,wr:=[]}
theorem Ajx:∀[F:Facts],Ac (Env.ofS Tryz.prog [] []) 1000000 Yc=true:=by
 intro F
 kernel_rfl
theorem Ajl (G:Nat→D→D):Yc.Valid Tryz.prog G:=Ad.val (okE _ []) (w0 G) Ajx
def eB:Orc:=
 {f:=284,args:=[(.slice 45 0 4 1),(.func (.func 285) [] [(.ptr 613 0)])],part:=(no (no .nil (no .nil (no (no (no .nil (no .nil (no (no (lf (.cells 5 (nd (.int .i64 (.ofNat 0)) AQ (nd (.int .i64 (.ofNat 0)) (lf (.int .i64 (.ofNat 39))) .nil)))) .nil) .nil))) .nil) y3))) fN),nx:=614,ok:=true,v:=(.bool true),out:=(no (no .nil (no .nil (no (no (no .nil (no .nil (no (no (lf (.cells 5 (nd (.int .i64 (.ofNat 2)) AQ (nd (.int .i64 (.ofNat 3)) (lf (.int .i64 (.ofNat 39))) .nil)))) .nil) .nil))) .nil) .nil))) Yu),nx':=616,wr:=[44,613]}
theorem Aia:∀[F:Facts],Ac (Env.ofS Tryz.prog [] []) 1000000 eB=true:=by
 intro F
 kernel_rfl
theorem Adw (G:Nat→D→D):eB.Valid Tryz.prog G:=Ad.val (okE _ []) (w0 G) Aia
def bQ:Orc:=
 {f:=282,args:=[(.ptr 44 0)],part:=(no .nil Yu),nx:=618,ok:=true,v:=(.tuple []),out:=.nil,nx':=619,wr:=[]}
theorem Ai9:∀[F:Facts],Ac (Env.ofS Tryz.prog [] []) 1000000 bQ=true:=by
 intro F
 kernel_rfl
theorem Alf (G:Nat→D→D):bQ.Valid Tryz.prog G:=Ad.val (okE _ []) (w0 G) Ai9
def YH:Orc:=
 {f:=284,args:=[(.slice 45 0 4 1),(.func (.func 285) [] [(.ptr 619 0)])],part:=(no (no (no .nil (no .nil (no (no .nil (no .nil (no (no (lf (.cells 5 (nd (.int .i64 (.ofNat 0)) AQ wC))) .nil) .nil))) .nil))) y5) Yu),nx:=620,ok:=true,v:=(.bool true),out:=(no (no (no .nil (no .nil (no (no .nil (no .nil (no (no (lf (.cells 5 (nd (.int .i64 (.ofNat 4)) AQ wC))) .nil) .nil))) .nil))) .nil) lL),nx':=621,wr:=[44,619]}
theorem Akq:∀[F:Facts],Ac (Env.ofS Tryz.prog [] []) 1000000 YH=true:=by
 intro F
 kernel_rfl
theorem Aag (G:Nat→D→D):YH.Valid Tryz.prog G:=Ad.val (okE _ []) (w0 G) Akq
def cV:Orc:=
 {f:=308,args:=[(.ptr 44 0),(.int .i64 (.ofNat 416)),(.func (.func 319) [] [])],part:=gI,nx:=623,ok:=true,v:=(.int .i64 (.ofNat 1)),out:=ia,nx':=623,wr:=[44]}
theorem Abx:∀[F:Facts],Ac (Env.ofS Tryz.prog [] []) 1000000 cV=true:=by
 intro F
 kernel_rfl
theorem Aqz (G:Nat→D→D):cV.Valid Tryz.prog G:=Ad.val (okE _ []) (w0 G) Abx
def Zm:Orc:=
 {f:=282,args:=[(.ptr 44 0)],part:=gI,nx:=623,ok:=true,v:=(.tuple []),out:=ia,nx':=625,wr:=[44]}
theorem Afl:∀[F:Facts],Ac (Env.ofS Tryz.prog [cV] []) 1000000 Zm=true:=by
 intro F
 kernel_rfl
theorem Am7 (G:Nat→D→D):Zm.Valid Tryz.prog G:=Ad.val (okE _ []) (.cons (Aqz G) (w0 G)) Afl
def fF:Orc:=
 {f:=284,args:=[(.slice 45 0 4 1),(.func (.func 285) [] [(.ptr 625 0)])],part:=(no (no .nil (no (no (no .nil (no .nil (no .nil (no (no (lf (.cells 5 (nd (.int .i64 (.ofNat 0)) AQ jP))) .nil) .nil)))) .nil) y4)) xy),nx:=626,ok:=true,v:=(.bool true),out:=(no (no .nil (no (no (no .nil (no .nil (no .nil (no (no (lf (.cells 5 (nd (.int .i64 (.ofNat 1)) AQ jP))) .nil) .nil)))) .nil) .nil)) fH),nx':=626,wr:=[44,625]}
theorem Amf:∀[F:Facts],Ac (Env.ofS Tryz.prog [] []) 1000000 fF=true:=by
 intro F
 kernel_rfl
theorem Ank (G:Nat→D→D):fF.Valid Tryz.prog G:=Ad.val (okE _ []) (w0 G) Amf
def au:Orc:=
 {f:=282,args:=[(.ptr 44 0)],part:=(no .nil fH),nx:=628,ok:=true,v:=(.tuple []),out:=.nil,nx':=629,wr:=[]}
theorem Apj:∀[F:Facts],Ac (Env.ofS Tryz.prog [] []) 1000000 au=true:=by
 intro F
 kernel_rfl
theorem Aft (G:Nat→D→D):au.Valid Tryz.prog G:=Ad.val (okE _ []) (w0 G) Apj
def bR:Orc:=
 {f:=284,args:=[(.slice 45 0 4 1),(.func (.func 285) [] [(.ptr 629 0)])],part:=(no (no .nil (no .nil (no (no .nil (no .nil (no .nil (no (no (lf (.cells 5 (nd (.int .i64 (.ofNat 0)) AQ li))) .nil) .nil)))) y3))) fH),nx:=630,ok:=true,v:=(.bool true),out:=(no (no .nil (no .nil (no (no .nil (no .nil (no .nil (no (no (lf (.cells 5 (nd (.int .i64 (.ofNat 4)) AQ li))) .nil) .nil)))) .nil))) nN),nx':=631,wr:=[44,629]}
theorem Aog:∀[F:Facts],Ac (Env.ofS Tryz.prog [] []) 1000000 bR=true:=by
 intro F
 kernel_rfl
theorem Aes (G:Nat→D→D):bR.Valid Tryz.prog G:=Ad.val (okE _ []) (w0 G) Aog
def ZT:Orc:=
 {f:=308,args:=[(.ptr 44 0),(.int .i64 (.ofNat 416)),(.func (.func 319) [] [])],part:=n8,nx:=633,ok:=true,v:=(.int .i64 (.ofNat 1)),out:=gp,nx':=633,wr:=[44]}
theorem Aeh:∀[F:Facts],Ac (Env.ofS Tryz.prog [] []) 1000000 ZT=true:=by
 intro F
 kernel_rfl
theorem Agu (G:Nat→D→D):ZT.Valid Tryz.prog G:=Ad.val (okE _ []) (w0 G) Aeh
def bh:Orc:=
 {f:=282,args:=[(.ptr 44 0)],part:=n8,nx:=633,ok:=true,v:=(.tuple []),out:=gp,nx':=635,wr:=[44]}
theorem Apo:∀[F:Facts],Ac (Env.ofS Tryz.prog [ZT] []) 1000000 bh=true:=by
 intro F
 kernel_rfl
theorem Af7 (G:Nat→D→D):bh.Valid Tryz.prog G:=Ad.val (okE _ []) (.cons (Agu G) (w0 G)) Apo
def Zp:Orc:=
 {f:=284,args:=[(.slice 45 0 4 1),(.func (.func 285) [] [(.ptr 635 0)])],part:=(no (no (no .nil (no .nil (no .nil (no .nil (no .nil (no (no (lf (.cells 5 (nd (.int .i64 (.ofNat 0)) AQ (nd (.int .i64 (.ofNat 0)) (lf (.int .i64 (.ofNat 49))) .nil)))) .nil) .nil)))))) y5) ye),nx:=636,ok:=true,v:=(.bool true),out:=(no (no (no .nil (no .nil (no .nil (no .nil (no .nil (no (no (lf (.cells 5 (nd (.int .i64 (.ofNat 2)) AQ (nd (.int .i64 (.ofNat 4)) (lf (.int .i64 (.ofNat 49))) .nil)))) .nil) .nil)))))) .nil) ax),nx':=638,wr:=[44,635]}
theorem An8:∀[F:Facts],Ac (Env.ofS Tryz.prog [] []) 1000000 Zp=true:=by
 intro F
 kernel_rfl
theorem zE (G:Nat→D→D):Zp.Valid Tryz.prog G:=Ad.val (okE _ []) (w0 G) An8
def fA:Orc:=
 {f:=282,args:=[(.ptr 44 0)],part:=(no .nil ax),nx:=640,ok:=true,v:=(.tuple []),out:=.nil,nx':=641,wr:=[]}
theorem Alp:∀[F:Facts],Ac (Env.ofS Tryz.prog [] []) 1000000 fA=true:=by
 intro F
 kernel_rfl
theorem Aby (G:Nat→D→D):fA.Valid Tryz.prog G:=Ad.val (okE _ []) (w0 G) Alp
def W4:Orc:=
 {f:=284,args:=[(.slice 45 0 4 1),(.func (.func 285) [] [(.ptr 641 0)])],part:=(no (no .nil (no (no (no (no (no (no .nil (no (lf (.cells 5 (nd (.int .i64 (.ofNat 0)) AQ pa))) .nil)) .nil) .nil) .nil) .nil) y4)) ax),nx:=642,ok:=true,v:=(.bool true),out:=(no (no .nil (no (no (no (no (no (no .nil (no (lf (.cells 5 (nd (.int .i64 (.ofNat 4)) AQ pa))) .nil)) .nil) .nil) .nil) .nil) .nil)) wT),nx':=643,wr:=[44,641]}
theorem Ae9:∀[F:Facts],Ac (Env.ofS Tryz.prog [] []) 1000000 W4=true:=by
 intro F
 kernel_rfl
theorem Aib (G:Nat→D→D):W4.Valid Tryz.prog G:=Ad.val (okE _ []) (w0 G) Ae9
def fI:Orc:=
 {f:=282,args:=[(.ptr 44 0)],part:=(no .nil wT),nx:=645,ok:=true,v:=(.tuple []),out:=.nil,nx':=646,wr:=[]}
theorem Am3:∀[F:Facts],Ac (Env.ofS Tryz.prog [] []) 1000000 fI=true:=by
 intro F
 kernel_rfl
theorem Act (G:Nat→D→D):fI.Valid Tryz.prog G:=Ad.val (okE _ []) (w0 G) Am3
def dn:Orc:=
 {f:=284,args:=[(.slice 45 0 4 1),(.func (.func 285) [] [(.ptr 646 0)])],part:=(no y6 (no gS (no .nil (no (no (no (no (no .nil (no (lf (.cells 5 (nd (.int .i64 (.ofNat 0)) AQ (nd (.int .i64 (.ofNat 0)) (lf (.int .i64 (.ofNat 52))) .nil)))) .nil)) .nil) .nil) .nil) .nil)))),nx:=647,ok:=true,v:=(.bool true),out:=(no .nil (no jm (no .nil (no (no (no (no (no .nil (no (lf (.cells 5 (nd (.int .i64 (.ofNat 2)) AQ (nd (.int .i64 (.ofNat 4)) (lf (.int .i64 (.ofNat 52))) .nil)))) .nil)) .nil) .nil) .nil) .nil)))),nx':=649,wr:=[44,646]}
theorem Arb:∀[F:Facts],Ac (Env.ofS Tryz.prog [] []) 1000000 dn=true:=by
 intro F
 kernel_rfl
theorem An0 (G:Nat→D→D):dn.Valid Tryz.prog G:=Ad.val (okE _ []) (w0 G) Arb
def YS:Orc:=
 {f:=282,args:=[(.ptr 44 0)],part:=(no .nil (no jm .nil)),nx:=651,ok:=true,v:=(.tuple []),out:=.nil,nx':=652,wr:=[]}
theorem zf:∀[F:Facts],Ac (Env.ofS Tryz.prog [] []) 1000000 YS=true:=by
 intro F
 kernel_rfl
theorem Ags (G:Nat→D→D):YS.Valid Tryz.prog G:=Ad.val (okE _ []) (w0 G) zf
def bD:Orc:=
 {f:=284,args:=[(.slice 45 0 4 1),(.func (.func 285) [] [(.ptr 652 0)])],part:=(no y6 (no (no .nil (no .nil (no (nd tu (no (no .nil (no (lf (.cells 5 (nd (.int .i64 (.ofNat 0)) AQ gM))) .nil)) .nil) .nil) .nil))) .nil)),nx:=653,ok:=true,v:=(.bool true),out:=(no .nil (no (no .nil (no .nil (no (nd pO (no (no .nil (no (lf (.cells 5 (nd (.int .i64 (.ofNat 4)) AQ gM))) .nil)) .nil) .nil) .nil))) .nil)),nx':=654,wr:=[44,652]}
theorem Aj0:∀[F:Facts],Ac (Env.ofS Tryz.prog [] []) 1000000 bD=true:=by
 intro F
 kernel_rfl
theorem Aoe (G:Nat→D→D):bD.Valid Tryz.prog G:=Ad.val (okE _ []) (w0 G) Aj0
def XQ:Orc:=
 {f:=308,args:=[(.ptr 44 0),(.int .i64 (.ofNat 416)),(.func (.func 319) [] [])],part:=iY,nx:=656,ok:=true,v:=(.int .i64 (.ofNat 1)),out:=nY,nx':=656,wr:=[44]}
theorem Ann:∀[F:Facts],Ac (Env.ofS Tryz.prog [] []) 1000000 XQ=true:=by
 intro F
 kernel_rfl
theorem Apf (G:Nat→D→D):XQ.Valid Tryz.prog G:=Ad.val (okE _ []) (w0 G) Ann
def bS:Orc:=
 {f:=282,args:=[(.ptr 44 0)],part:=iY,nx:=656,ok:=true,v:=(.tuple []),out:=nY,nx':=658,wr:=[44]}
theorem zw:∀[F:Facts],Ac (Env.ofS Tryz.prog [XQ] []) 1000000 bS=true:=by
 intro F
 kernel_rfl
theorem zA (G:Nat→D→D):bS.Valid Tryz.prog G:=Ad.val (okE _ []) (.cons (Apf G) (w0 G)) zw
def Xq:Orc:=
 {f:=284,args:=[(.slice 45 0 4 1),(.func (.func 285) [] [(.ptr 658 0)])],part:=(no y6 (no tC (no (no (no .nil (no (no (no .nil (no (lf (.cells 5 (nd (.int .i64 (.ofNat 0)) AQ qZ))) .nil)) .nil) .nil)) .nil) .nil))),nx:=659,ok:=true,v:=(.bool true),out:=(no .nil (no ZL (no (no (no .nil (no (no (no .nil (no (lf (.cells 5 (nd (.int .i64 (.ofNat 1)) AQ qZ))) .nil)) .nil) .nil)) .nil) .nil))),nx':=659,wr:=[44,658]}
theorem Aqu:∀[F:Facts],Ac (Env.ofS Tryz.prog [] []) 1000000 Xq=true:=by
 intro F
 kernel_rfl
theorem Aki (G:Nat→D→D):Xq.Valid Tryz.prog G:=Ad.val (okE _ []) (w0 G) Aqu
def Zo:Orc:=
 {f:=282,args:=[(.ptr 44 0)],part:=(no .nil (no ZL .nil)),nx:=661,ok:=true,v:=(.tuple []),out:=.nil,nx':=662,wr:=[]}
theorem Aqm:∀[F:Facts],Ac (Env.ofS Tryz.prog [] []) 1000000 Zo=true:=by
 intro F
 kernel_rfl
theorem Apt (G:Nat→D→D):Zo.Valid Tryz.prog G:=Ad.val (okE _ []) (w0 G) Aqm
def X4:Orc:=
 {f:=284,args:=[(.slice 45 0 4 1),(.func (.func 285) [] [(.ptr 662 0)])],part:=(no y6 (no ZL (no .nil (no (no .nil (no (no (no .nil (no (lf (.cells 5 (nd (.int .i64 (.ofNat 0)) AQ f5))) .nil)) .nil) .nil)) .nil)))),nx:=663,ok:=true,v:=(.bool true),out:=(no .nil (no rK (no .nil (no (no .nil (no (no (no .nil (no (lf (.cells 5 (nd (.int .i64 (.ofNat 4)) AQ f5))) .nil)) .nil) .nil)) .nil)))),nx':=664,wr:=[44,662]}
theorem Ab6:∀[F:Facts],Ac (Env.ofS Tryz.prog [] []) 1000000 X4=true:=by
 intro F
 kernel_rfl
theorem Aeb (G:Nat→D→D):X4.Valid Tryz.prog G:=Ad.val (okE _ []) (w0 G) Ab6
def fb:Orc:=
 {f:=308,args:=[(.ptr 44 0),(.int .i64 (.ofNat 416)),(.func (.func 319) [] [])],part:=mi,nx:=666,ok:=true,v:=(.int .i64 (.ofNat 1)),out:=l9,nx':=666,wr:=[44]}
theorem Als:∀[F:Facts],Ac (Env.ofS Tryz.prog [] []) 1000000 fb=true:=by
 intro F
 kernel_rfl
theorem Aqw (G:Nat→D→D):fb.Valid Tryz.prog G:=Ad.val (okE _ []) (w0 G) Als
def ZC:Orc:=
 {f:=282,args:=[(.ptr 44 0)],part:=mi,nx:=666,ok:=true,v:=(.tuple []),out:=l9,nx':=668,wr:=[44]}
theorem Aey:∀[F:Facts],Ac (Env.ofS Tryz.prog [fb] []) 1000000 ZC=true:=by
 intro F
 kernel_rfl
theorem Af4 (G:Nat→D→D):ZC.Valid Tryz.prog G:=Ad.val (okE _ []) (.cons (Aqw G) (w0 G)) Aey
def Yr:Orc:=
 {f:=284,args:=[(.slice 45 0 4 1),(.func (.func 285) [] [(.ptr 668 0)])],part:=(no y6 (no (no .nil (no .nil (no th (no (no (no .nil (no (lf (.cells 5 (nd (.int .i64 (.ofNat 0)) AQ (nd (.int .i64 (.ofNat 0)) (lf (.int .i64 (.ofNat 60))) .nil)))) .nil)) .nil) .nil)))) .nil)),nx:=669,ok:=true,v:=(.bool true),out:=(no .nil (no (no .nil (no .nil (no fQ (no (no (no .nil (no (lf (.cells 5 (nd (.int .i64 (.ofNat 2)) AQ (nd (.int .i64 (.ofNat 5)) (lf (.int .i64 (.ofNat 60))) .nil)))) .nil)) .nil) .nil)))) .nil)),nx':=671,wr:=[44,668]}
theorem Abm:∀[F:Facts],Ac (Env.ofS Tryz.prog [] []) 1000000 Yr=true:=by
 intro F
 kernel_rfl
theorem Aim (G:Nat→D→D):Yr.Valid Tryz.prog G:=Ad.val (okE _ []) (w0 G) Abm
def fu:Orc:=
 {f:=282,args:=[(.ptr 44 0)],part:=(no .nil (no nS .nil)),nx:=673,ok:=true,v:=(.tuple []),out:=.nil,nx':=674,wr:=[]}
theorem Ahw:∀[F:Facts],Ac (Env.ofS Tryz.prog [] []) 1000000 fu=true:=by
 intro F
 kernel_rfl
theorem Acg (G:Nat→D→D):fu.Valid Tryz.prog G:=Ad.val (okE _ []) (w0 G) Ahw
def aG:Orc:=
 {f:=284,args:=[(.slice 45 0 4 1),(.func (.func 285) [] [(.ptr 674 0)])],part:=(no y6 (no nS (no (no (no (no .nil (no (no .nil (no (lf (.cells 5 (nd (.int .i64 (.ofNat 0)) AQ oW))) .nil)) .nil)) .nil) .nil) .nil))),nx:=675,ok:=true,v:=(.bool true),out:=(no .nil (no qJ (no (no (no (no .nil (no (no .nil (no (lf (.cells 5 (nd (.int .i64 (.ofNat 4)) AQ oW))) .nil)) .nil)) .nil) .nil) .nil))),nx':=676,wr:=[44,674]}
theorem Alz:∀[F:Facts],Ac (Env.ofS Tryz.prog [] []) 1000000 aG=true:=by
 intro F
 kernel_rfl
theorem Akx (G:Nat→D→D):aG.Valid Tryz.prog G:=Ad.val (okE _ []) (w0 G) Alz
def aC:Orc:=
 {f:=282,args:=[(.ptr 44 0)],part:=(no .nil su),nx:=678,ok:=true,v:=(.tuple []),out:=.nil,nx':=679,wr:=[]}
theorem Agm:∀[F:Facts],Ac (Env.ofS Tryz.prog [] []) 1000000 aC=true:=by
 intro F
 kernel_rfl
theorem Ajm (G:Nat→D→D):aC.Valid Tryz.prog G:=Ad.val (okE _ []) (w0 G) Agm
def YA:Orc:=
 {f:=284,args:=[(.slice 45 0 4 1),(.func (.func 285) [] [(.ptr 679 0)])],part:=(no (no (no (no .nil (no (no .nil (no (no .nil (no (lf (.cells 5 (nd (.int .i64 (.ofNat 0)) AQ (nd (.int .i64 (.ofNat 0)) (lf (.int .i64 (.ofNat 63))) .nil)))) .nil)) .nil)) .nil)) .nil) y5) su),nx:=680,ok:=true,v:=(.bool true),out:=(no (no (no (no .nil (no (no .nil (no (no .nil (no (lf (.cells 5 (nd (.int .i64 (.ofNat 2)) AQ (nd (.int .i64 (.ofNat 5)) (lf (.int .i64 (.ofNat 63))) .nil)))) .nil)) .nil)) .nil)) .nil) .nil) dO),nx':=682,wr:=[44,679]}
theorem Ak6:∀[F:Facts],Ac (Env.ofS Tryz.prog [] []) 1000000 YA=true:=by
 intro F
 kernel_rfl
theorem zI (G:Nat→D→D):YA.Valid Tryz.prog G:=Ad.val (okE _ []) (w0 G) Ak6
def Xy:Orc:=
 {f:=282,args:=[(.ptr 44 0)],part:=(no .nil dO),nx:=684,ok:=true,v:=(.tuple []),out:=.nil,nx':=685,wr:=[]}
theorem Amx:∀[F:Facts],Ac (Env.ofS Tryz.prog [] []) 1000000 Xy=true:=by
 intro F
 kernel_rfl
theorem Asa (G:Nat→D→D):Xy.Valid Tryz.prog G:=Ad.val (okE _ []) (w0 G) Amx
def cK:Orc:=
 {f:=284,args:=[(.slice 45 0 4 1),(.func (.func 285) [] [(.ptr 685 0)])],part:=(no (no .nil (no .nil (no .nil (no (nd y1 .nil (no (no .nil (no (lf (.cells 5 (nd (.int .i64 (.ofNat 0)) AQ jg))) .nil)) .nil)) .nil)))) dO),nx:=686,ok:=true,v:=(.bool true),out:=(no (no .nil (no .nil (no .nil (no (no .nil (no (no .nil (no (lf (.cells 5 (nd (.int .i64 (.ofNat 4)) AQ jg))) .nil)) .nil)) .nil)))) kj),nx':=687,wr:=[44,685]}
theorem Apk:∀[F:Facts],Ac (Env.ofS Tryz.prog [] []) 1000000 cK=true:=by
 intro F
 kernel_rfl
theorem Aod (G:Nat→D→D):cK.Valid Tryz.prog G:=Ad.val (okE _ []) (w0 G) Apk
def Y1:Orc:=
 {f:=308,args:=[(.ptr 44 0),(.int .i64 (.ofNat 416)),(.func (.func 319) [] [])],part:=sx,nx:=689,ok:=true,v:=(.int .i64 (.ofNat 1)),out:=qi,nx':=689,wr:=[44]}
theorem Agw:∀[F:Facts],Ac (Env.ofS Tryz.prog [] []) 1000000 Y1=true:=by
 intro F
 kernel_rfl
theorem Alg (G:Nat→D→D):Y1.Valid Tryz.prog G:=Ad.val (okE _ []) (w0 G) Agw
def ZS:Orc:=
 {f:=282,args:=[(.ptr 44 0)],part:=sx,nx:=689,ok:=true,v:=(.tuple []),out:=qi,nx':=691,wr:=[44]}
theorem Afy:∀[F:Facts],Ac (Env.ofS Tryz.prog [Y1] []) 1000000 ZS=true:=by
 intro F
 kernel_rfl
theorem Apr (G:Nat→D→D):ZS.Valid Tryz.prog G:=Ad.val (okE _ []) (.cons (Alg G) (w0 G)) Afy
def W6:Orc:=
 {f:=284,args:=[(.slice 45 0 4 1),(.func (.func 285) [] [(.ptr 691 0)])],part:=(no (no (no .nil (no (no .nil (no .nil (no (no .nil (no (lf (.cells 5 (nd (.int .i64 (.ofNat 0)) AQ xS))) .nil)) .nil))) .nil)) y5) wP),nx:=692,ok:=true,v:=(.bool true),out:=(no (no (no .nil (no (no .nil (no .nil (no (no .nil (no (lf (.cells 5 (nd (.int .i64 (.ofNat 1)) AQ xS))) .nil)) .nil))) .nil)) .nil) Zh),nx':=692,wr:=[44,691]}
theorem Ago:∀[F:Facts],Ac (Env.ofS Tryz.prog [] []) 1000000 W6=true:=by
 intro F
 kernel_rfl
theorem Aqh (G:Nat→D→D):W6.Valid Tryz.prog G:=Ad.val (okE _ []) (w0 G) Ago
def bb:Orc:=
 {f:=282,args:=[(.ptr 44 0)],part:=(no .nil Zh),nx:=694,ok:=true,v:=(.tuple []),out:=.nil,nx':=695,wr:=[]}
theorem Aso:∀[F:Facts],Ac (Env.ofS Tryz.prog [] []) 1000000 bb=true:=by
 intro F
 kernel_rfl
theorem Aj9 (G:Nat→D→D):bb.Valid Tryz.prog G:=Ad.val (okE _ []) (w0 G) Aso
def dL:Orc:=
 {f:=284,args:=[(.slice 45 0 4 1),(.func (.func 285) [] [(.ptr 695 0)])],part:=(no (no (no (no .nil (no .nil (no .nil (no (no .nil (no (lf (.cells 5 (nd (.int .i64 (.ofNat 0)) AQ lK))) .nil)) .nil)))) .nil) y5) Zh),nx:=696,ok:=true,v:=(.bool true),out:=(no (no (no (no .nil (no .nil (no .nil (no (no .nil (no (lf (.cells 5 (nd (.int .i64 (.ofNat 4)) AQ lK))) .nil)) .nil)))) .nil) .nil) mu),nx':=697,wr:=[44,695]}
theorem Ahk:∀[F:Facts],Ac (Env.ofS Tryz.prog [] []) 1000000 dL=true:=by
 intro F
 kernel_rfl
theorem Amu (G:Nat→D→D):dL.Valid Tryz.prog G:=Ad.val (okE _ []) (w0 G) Ahk
def Xe:Orc:=
 {f:=308,args:=[(.ptr 44 0),(.int .i64 (.ofNat 416)),(.func (.func 319) [] [])],part:=qR,nx:=699,ok:=true,v:=(.int .i64 (.ofNat 1)),out:=uC,nx':=699,wr:=[44]}
theorem Aph:∀[F:Facts],Ac (Env.ofS Tryz.prog [] []) 1000000 Xe=true:=by
 intro F
 kernel_rfl
theorem Ao7 (G:Nat→D→D):Xe.Valid Tryz.prog G:=Ad.val (okE _ []) (w0 G) Aph
def W2:Orc:=
 {f:=282,args:=[(.ptr 44 0)],part:=qR,nx:=699,ok:=true,v:=(.tuple []),out:=uC,nx':=701,wr:=[44]}
theorem Afn:∀[F:Facts],Ac (Env.ofS Tryz.prog [Xe] []) 1000000 W2=true:=by
 intro F
 kernel_rfl
theorem Aky (G:Nat→D→D):W2.Valid Tryz.prog G:=Ad.val (okE _ []) (.cons (Ao7 G) (w0 G)) Afn
def WZ:Orc:=
 {f:=284,args:=[(.slice 45 0 4 1),(.func (.func 285) [] [(.ptr 701 0)])],part:=(no (no .nil (no .nil (no .nil (no y2 (no .nil (no (no .nil (no (lf (.cells 5 (nd (.int .i64 (.ofNat 0)) AQ wQ))) .nil)) .nil)))))) oY),nx:=702,ok:=true,v:=(.bool true),out:=(no (no .nil (no .nil (no .nil (no .nil (no .nil (no (no .nil (no (lf (.cells 5 (nd (.int .i64 (.ofNat 4)) AQ wQ))) .nil)) .nil)))))) jN),nx':=703,wr:=[44,701]}
theorem Ady:∀[F:Facts],Ac (Env.ofS Tryz.prog [] []) 1000000 WZ=true:=by
 intro F
 kernel_rfl
theorem Afx (G:Nat→D→D):WZ.Valid Tryz.prog G:=Ad.val (okE _ []) (w0 G) Ady
def W0:Orc:=
 {f:=282,args:=[(.ptr 44 0)],part:=(no .nil jN),nx:=705,ok:=true,v:=(.tuple []),out:=.nil,nx':=706,wr:=[]}
theorem Acd:∀[F:Facts],Ac (Env.ofS Tryz.prog [] []) 1000000 W0=true:=by
 intro F
 kernel_rfl
theorem Afb (G:Nat→D→D):W0.Valid Tryz.prog G:=Ad.val (okE _ []) (w0 G) Acd
def bz:Orc:=
 {f:=284,args:=[(.slice 45 0 4 1),(.func (.func 285) [] [(.ptr 706 0)])],part:=(no y6 (no mN (no (no (no (no (no .nil (no .nil (no (lf (.cells 5 (nd (.int .i64 (.ofNat 0)) AQ rX))) .nil))) .nil) .nil) .nil) .nil))),nx:=707,ok:=true,v:=(.bool true),out:=(no .nil (no mj (no (no (no (no (no .nil (no .nil (no (lf (.cells 5 (nd (.int .i64 (.ofNat 4)) AQ rX))) .nil))) .nil) .nil) .nil) .nil))),nx':=708,wr:=[44,706]}
theorem Acr:∀[F:Facts],Ac (Env.ofS Tryz.prog [] []) 1000000 bz=true:=by
 intro F
 kernel_rfl
theorem Aro (G:Nat→D→D):bz.Valid Tryz.prog G:=Ad.val (okE _ []) (w0 G) Acr
def X1:Orc:=
 {f:=308,args:=[(.ptr 44 0),(.int .i64 (.ofNat 416)),(.func (.func 319) [] [])],part:=tv,nx:=710,ok:=true,v:=(.int .i64 (.ofNat 1)),out:=rk,nx':=710,wr:=[44]}
theorem Ad9:∀[F:Facts],Ac (Env.ofS Tryz.prog [] []) 1000000 X1=true:=by
 intro F
 kernel_rfl
theorem Adp (G:Nat→D→D):X1.Valid Tryz.prog G:=Ad.val (okE _ []) (w0 G) Ad9
end Go.Proofs.YtmjeljjkhblgeaaGreatDoor.familySessions

