/- What is proved: that certain calls which the law FamilySessions makes come to the results that are written here (part 6 of 19). Conditions: the memory that such a call reaches is as written here; the kernel runs the evaluator over each. -/
import Derived.Test.YtmjeljjkhblgeaaGreatDoorFamilySessionsKnownA
import Derived.Test.YtmjeljjkhblgeaaGreatDoorFamilySessionsKnownE
set_option linter.unusedVariables false
set_option linter.unusedSectionVars false
set_option linter.unusedSimpArgs false
namespace Go.Proofs.YtmjeljjkhblgeaaGreatDoor.familySessions
open Go.AE
def dz:Orc:=
 {f:=282,args:=[(.ptr 44 0)],part:=tv,nx:=710,ok:=true,v:=(.tuple []),out:=rk,nx':=712,wr:=[44]}
theorem Aej:∀[F:Facts],Ac (Env.ofS Tryz.prog [X1] []) 1000000 dz=true:=by
 intro F
 kernel_rfl
theorem z7 (G:Nat→D→D):dz.Valid Tryz.prog G:=Ad.val (okE _ []) (.cons (Adp G) (w0 G)) Aej
def XT:Orc:=
 {f:=284,args:=[(.slice 45 0 4 1),(.func (.func 285) [] [(.ptr 712 0)])],part:=(no y6 (no (no (no .nil (no (no (no .nil (no .nil (no (lf (.cells 5 (nd (.int .i64 (.ofNat 0)) ib y59))) .nil))) .nil) .nil)) mZ) .nil)),nx:=713,ok:=true,v:=(.bool true),out:=(no .nil (no (no (no .nil (no (no (no .nil (no .nil (no (lf (.cells 5 (nd (.int .i64 (.ofNat 4)) ib y59))) .nil))) .nil) .nil)) ku) .nil)),nx':=714,wr:=[44,712]}
theorem Aka:∀[F:Facts],Ac (Env.ofS Tryz.prog [] []) 1000000 XT=true:=by
 intro F
 kernel_rfl
theorem zO (G:Nat→D→D):XT.Valid Tryz.prog G:=Ad.val (okE _ []) (w0 G) Aka
def bX:Orc:=
 {f:=308,args:=[(.ptr 44 0),(.int .i64 (.ofNat 416)),(.func (.func 319) [] [])],part:=tf,nx:=716,ok:=true,v:=(.int .i64 (.ofNat 1)),out:=qW,nx':=716,wr:=[44]}
theorem Abe:∀[F:Facts],Ac (Env.ofS Tryz.prog [] []) 1000000 bX=true:=by
 intro F
 kernel_rfl
theorem Adr (G:Nat→D→D):bX.Valid Tryz.prog G:=Ad.val (okE _ []) (w0 G) Abe
def YE:Orc:=
 {f:=282,args:=[(.ptr 44 0)],part:=tf,nx:=716,ok:=true,v:=(.tuple []),out:=qW,nx':=718,wr:=[44]}
theorem Aji:∀[F:Facts],Ac (Env.ofS Tryz.prog [bX] []) 1000000 YE=true:=by
 intro F
 kernel_rfl
theorem ze (G:Nat→D→D):YE.Valid Tryz.prog G:=Ad.val (okE _ []) (.cons (Adr G) (w0 G)) Aji
def Ym:Orc:=
 {f:=284,args:=[(.slice 45 0 4 1),(.func (.func 285) [] [(.ptr 718 0)])],part:=(no y6 (no sC (no .nil (no .nil (no (no (no .nil (no .nil (no (lf (.cells 5 (nd (.int .i64 (.ofNat 0)) RX y59))) .nil))) .nil) .nil))))),nx:=719,ok:=true,v:=(.bool true),out:=(no .nil (no lq (no .nil (no .nil (no (no (no .nil (no .nil (no (lf (.cells 5 (nd (.int .i64 (.ofNat 1)) RX y59))) .nil))) .nil) .nil))))),nx':=719,wr:=[44,718]}
theorem Ahg:∀[F:Facts],Ac (Env.ofS Tryz.prog [] []) 1000000 Ym=true:=by
 intro F
 kernel_rfl
theorem Aha (G:Nat→D→D):Ym.Valid Tryz.prog G:=Ad.val (okE _ []) (w0 G) Ahg
def WT:Orc:=
 {f:=308,args:=[(.ptr 44 0),(.int .i64 (.ofNat 416)),(.func (.func 319) [] [])],part:=oE,nx:=721,ok:=true,v:=(.int .i64 (.ofNat 1)),out:=qL,nx':=721,wr:=[44]}
theorem zJ:∀[F:Facts],Ac (Env.ofS Tryz.prog [] []) 1000000 WT=true:=by
 intro F
 kernel_rfl
theorem Alx (G:Nat→D→D):WT.Valid Tryz.prog G:=Ad.val (okE _ []) (w0 G) zJ
def aH:Orc:=
 {f:=282,args:=[(.ptr 44 0)],part:=oE,nx:=721,ok:=true,v:=(.tuple []),out:=qL,nx':=723,wr:=[44]}
theorem Aqa:∀[F:Facts],Ac (Env.ofS Tryz.prog [WT] []) 1000000 aH=true:=by
 intro F
 kernel_rfl
theorem Am2 (G:Nat→D→D):aH.Valid Tryz.prog G:=Ad.val (okE _ []) (.cons (Alx G) (w0 G)) Aqa
def ZG:Orc:=
 {f:=284,args:=[(.slice 45 0 4 1),(.func (.func 285) [] [(.ptr 723 0)])],part:=(no (no (no .nil (no (no .nil (no (no .nil (no .nil (no (lf (.cells 5 (nd (.int .i64 (.ofNat 0)) RX y34))) .nil))) .nil)) .nil)) y5) wc),nx:=724,ok:=true,v:=(.bool true),out:=(no (no (no .nil (no (no .nil (no (no .nil (no .nil (no (lf (.cells 5 (nd (.int .i64 (.ofNat 1)) RX y34))) .nil))) .nil)) .nil)) .nil) aB),nx':=724,wr:=[44,723]}
theorem Ah5:∀[F:Facts],Ac (Env.ofS Tryz.prog [] []) 1000000 ZG=true:=by
 intro F
 kernel_rfl
theorem Ajr (G:Nat→D→D):ZG.Valid Tryz.prog G:=Ad.val (okE _ []) (w0 G) Ah5
def dJ:Orc:=
 {f:=282,args:=[(.ptr 44 0)],part:=(no .nil aB),nx:=726,ok:=true,v:=(.tuple []),out:=.nil,nx':=727,wr:=[]}
theorem Adz:∀[F:Facts],Ac (Env.ofS Tryz.prog [] []) 1000000 dJ=true:=by
 intro F
 kernel_rfl
theorem Arf (G:Nat→D→D):dJ.Valid Tryz.prog G:=Ad.val (okE _ []) (w0 G) Adz
def ZE:Orc:=
 {f:=284,args:=[(.slice 45 0 4 1),(.func (.func 285) [] [(.ptr 727 0)])],part:=(no (no (no (no .nil (no .nil (no (no .nil (no .nil (no (lf (.cells 5 (nd (.int .i64 (.ofNat 0)) RX VP))) .nil))) .nil))) .nil) y5) aB),nx:=728,ok:=true,v:=(.bool true),out:=(no (no (no (no .nil (no .nil (no (no .nil (no .nil (no (lf (.cells 5 (nd (.int .i64 (.ofNat 4)) RX VP))) .nil))) .nil))) .nil) .nil) uy),nx':=729,wr:=[44,727]}
theorem Ab1:∀[F:Facts],Ac (Env.ofS Tryz.prog [] []) 1000000 ZE=true:=by
 intro F
 kernel_rfl
theorem Aam (G:Nat→D→D):ZE.Valid Tryz.prog G:=Ad.val (okE _ []) (w0 G) Ab1
def WJ:Orc:=
 {f:=308,args:=[(.ptr 44 0),(.int .i64 (.ofNat 416)),(.func (.func 319) [] [])],part:=nR,nx:=731,ok:=true,v:=(.int .i64 (.ofNat 1)),out:=lB,nx':=731,wr:=[44]}
theorem Aqr:∀[F:Facts],Ac (Env.ofS Tryz.prog [] []) 1000000 WJ=true:=by
 intro F
 kernel_rfl
theorem Af2 (G:Nat→D→D):WJ.Valid Tryz.prog G:=Ad.val (okE _ []) (w0 G) Aqr
def WU:Orc:=
 {f:=282,args:=[(.ptr 44 0)],part:=nR,nx:=731,ok:=true,v:=(.tuple []),out:=lB,nx':=733,wr:=[44]}
theorem Adj:∀[F:Facts],Ac (Env.ofS Tryz.prog [WJ] []) 1000000 WU=true:=by
 intro F
 kernel_rfl
theorem Aev (G:Nat→D→D):WU.Valid Tryz.prog G:=Ad.val (okE _ []) (.cons (Af2 G) (w0 G)) Adj
end Go.Proofs.YtmjeljjkhblgeaaGreatDoor.familySessions

