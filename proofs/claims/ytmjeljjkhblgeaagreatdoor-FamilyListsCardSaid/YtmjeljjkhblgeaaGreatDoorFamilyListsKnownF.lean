/- What is proved: that certain calls which the law FamilyLists makes come to the results that are written here (part 6 of 10). Conditions: the memory that such a call reaches is as written here; the kernel runs the evaluator over each. -/
import Derived.Test.YtmjeljjkhblgeaaGreatDoorFamilyListsKnownE
set_option linter.unusedVariables false
set_option linter.unusedSectionVars false
set_option linter.unusedSimpArgs false
namespace Go.Proofs.YtmjeljjkhblgeaaGreatDoor.familyLists
open Go.AE
def ZM:Orc:=
 {f:=282,args:=[(.ptr 44 0)],part:=ib,nx:=710,ok:=true,v:=(.tuple []),out:=gx,nx':=712,wr:=[44]}
theorem nq:∀[F:Facts],Ab (Env.ofS Tryz.prog [WJ] []) 1000000 ZM=true:=by
 intro F
 kernel_rfl
theorem lz (G:Nat→D→D):ZM.Valid Tryz.prog G:=Af.val (okE _ []) (.cons (m3 G) (w0 G)) nq
def WB:Orc:=
 {f:=284,args:=[(.slice 45 0 4 1),(.func (.func 285) [] [(.ptr 712 0)])],part:=(no y6 (no (no (no .nil (no (no (no .nil (no .nil (no (lf (.cells 5 (nd (.int .i64 (.ofNat 0)) bP y59))) .nil))) .nil) .nil)) eE) .nil)),nx:=713,ok:=true,v:=(.bool true),out:=(no .nil (no (no (no .nil (no (no (no .nil (no .nil (no (lf (.cells 5 (nd (.int .i64 (.ofNat 4)) bP y59))) .nil))) .nil) .nil)) dj) .nil)),nx':=714,wr:=[44,712]}
theorem qv:∀[F:Facts],Ab (Env.ofS Tryz.prog [] []) 1000000 WB=true:=by
 intro F
 kernel_rfl
theorem lj (G:Nat→D→D):WB.Valid Tryz.prog G:=Af.val (okE _ []) (w0 G) qv
def Y7:Orc:=
 {f:=308,args:=[(.ptr 44 0),(.int .i64 (.ofNat 416)),(.func (.func 319) [] [])],part:=hP,nx:=716,ok:=true,v:=(.int .i64 (.ofNat 1)),out:=gq,nx':=716,wr:=[44]}
theorem lW:∀[F:Facts],Ab (Env.ofS Tryz.prog [] []) 1000000 Y7=true:=by
 intro F
 kernel_rfl
theorem m4 (G:Nat→D→D):Y7.Valid Tryz.prog G:=Af.val (okE _ []) (w0 G) lW
def Xb:Orc:=
 {f:=282,args:=[(.ptr 44 0)],part:=hP,nx:=716,ok:=true,v:=(.tuple []),out:=gq,nx':=718,wr:=[44]}
theorem pY:∀[F:Facts],Ab (Env.ofS Tryz.prog [Y7] []) 1000000 Xb=true:=by
 intro F
 kernel_rfl
theorem kD (G:Nat→D→D):Xb.Valid Tryz.prog G:=Af.val (okE _ []) (.cons (m4 G) (w0 G)) pY
def W0:Orc:=
 {f:=284,args:=[(.slice 45 0 4 1),(.func (.func 285) [] [(.ptr 718 0)])],part:=(no y6 (no gV (no .nil (no .nil (no (no (no .nil (no .nil (no (lf (.cells 5 (nd (.int .i64 (.ofNat 0)) RQ y59))) .nil))) .nil) .nil))))),nx:=719,ok:=true,v:=(.bool true),out:=(no .nil (no dD (no .nil (no .nil (no (no (no .nil (no .nil (no (lf (.cells 5 (nd (.int .i64 (.ofNat 1)) RQ y59))) .nil))) .nil) .nil))))),nx':=719,wr:=[44,718]}
theorem oT:∀[F:Facts],Ab (Env.ofS Tryz.prog [] []) 1000000 W0=true:=by
 intro F
 kernel_rfl
theorem oP (G:Nat→D→D):W0.Valid Tryz.prog G:=Af.val (okE _ []) (w0 G) oT
def VO:Orc:=
 {f:=308,args:=[(.ptr 44 0),(.int .i64 (.ofNat 416)),(.func (.func 319) [] [])],part:=ft,nx:=721,ok:=true,v:=(.int .i64 (.ofNat 1)),out:=gh,nx':=721,wr:=[44]}
theorem ld:∀[F:Facts],Ab (Env.ofS Tryz.prog [] []) 1000000 VO=true:=by
 intro F
 kernel_rfl
theorem ro (G:Nat→D→D):VO.Valid Tryz.prog G:=Af.val (okE _ []) (w0 G) ld
def Yp:Orc:=
 {f:=282,args:=[(.ptr 44 0)],part:=ft,nx:=721,ok:=true,v:=(.tuple []),out:=gh,nx':=723,wr:=[44]}
theorem tC:∀[F:Facts],Ab (Env.ofS Tryz.prog [VO] []) 1000000 Yp=true:=by
 intro F
 kernel_rfl
theorem rU (G:Nat→D→D):Yp.Valid Tryz.prog G:=Af.val (okE _ []) (.cons (ro G) (w0 G)) tC
def XQ:Orc:=
 {f:=284,args:=[(.slice 45 0 4 1),(.func (.func 285) [] [(.ptr 723 0)])],part:=(no (no (no .nil (no (no .nil (no (no .nil (no .nil (no (lf (.cells 5 (nd (.int .i64 (.ofNat 0)) RQ y34))) .nil))) .nil)) .nil)) y5) jk),nx:=724,ok:=true,v:=(.bool true),out:=(no (no (no .nil (no (no .nil (no (no .nil (no .nil (no (lf (.cells 5 (nd (.int .i64 (.ofNat 1)) RQ y34))) .nil))) .nil)) .nil)) .nil) Yk),nx':=724,wr:=[44,723]}
theorem pu:∀[F:Facts],Ab (Env.ofS Tryz.prog [] []) 1000000 XQ=true:=by
 intro F
 kernel_rfl
theorem qh (G:Nat→D→D):XQ.Valid Tryz.prog G:=Af.val (okE _ []) (w0 G) pu
def ZU:Orc:=
 {f:=282,args:=[(.ptr 44 0)],part:=(no .nil Yk),nx:=726,ok:=true,v:=(.tuple []),out:=.nil,nx':=727,wr:=[]}
theorem m9:∀[F:Facts],Ab (Env.ofS Tryz.prog [] []) 1000000 ZU=true:=by
 intro F
 kernel_rfl
theorem ui (G:Nat→D→D):ZU.Valid Tryz.prog G:=Af.val (okE _ []) (w0 G) m9
def XP:Orc:=
 {f:=284,args:=[(.slice 45 0 4 1),(.func (.func 285) [] [(.ptr 727 0)])],part:=(no (no (no (no .nil (no .nil (no (no .nil (no .nil (no (lf (.cells 5 (nd (.int .i64 (.ofNat 0)) RQ UX))) .nil))) .nil))) .nil) y5) Yk),nx:=728,ok:=true,v:=(.bool true),out:=(no (no (no (no .nil (no .nil (no (no .nil (no .nil (no (lf (.cells 5 (nd (.int .i64 (.ofNat 4)) RQ UX))) .nil))) .nil))) .nil) .nil) iH),nx':=729,wr:=[44,727]}
theorem me:∀[F:Facts],Ab (Env.ofS Tryz.prog [] []) 1000000 XP=true:=by
 intro F
 kernel_rfl
theorem lH (G:Nat→D→D):XP.Valid Tryz.prog G:=Af.val (okE _ []) (w0 G) me
def VG:Orc:=
 {f:=308,args:=[(.ptr 44 0),(.int .i64 (.ofNat 416)),(.func (.func 319) [] [])],part:=eT,nx:=731,ok:=true,v:=(.int .i64 (.ofNat 1)),out:=dH,nx':=731,wr:=[44]}
theorem tT:∀[F:Facts],Ab (Env.ofS Tryz.prog [] []) 1000000 VG=true:=by
 intro F
 kernel_rfl
theorem od (G:Nat→D→D):VG.Valid Tryz.prog G:=Af.val (okE _ []) (w0 G) tT
def VP:Orc:=
 {f:=282,args:=[(.ptr 44 0)],part:=eT,nx:=731,ok:=true,v:=(.tuple []),out:=dH,nx':=733,wr:=[44]}
theorem mX:∀[F:Facts],Ab (Env.ofS Tryz.prog [VG] []) 1000000 VP=true:=by
 intro F
 kernel_rfl
theorem nD (G:Nat→D→D):VP.Valid Tryz.prog G:=Af.val (okE _ []) (.cons (od G) (w0 G)) mX
end Go.Proofs.YtmjeljjkhblgeaaGreatDoor.familyLists

