/- What is proved: that certain calls which the law FamilySessions makes come to the results that are written here (part 19 of 19). Conditions: the memory that such a call reaches is as written here; the kernel runs the evaluator over each. -/
import Derived.Test.YtmjeljjkhblgeaaGreatDoorFamilySessionsKnownA
set_option linter.unusedVariables false
set_option linter.unusedSectionVars false
set_option linter.unusedSimpArgs false
namespace Go.Proofs.YtmjeljjkhblgeaaGreatDoor.familySessions
open Go.AE
def af:Orc:=
 {f:=132,args:=[(.ptr 4112 0),(.ptr 4109 0)],part:=(no (no (no (no (no .nil (no (no (no (no (no (no (no (lf (.cells 11 (nd ai (nd ct uT (nd dE ot .nil)) (nd Fq (nd YR Vs .nil) (nd (.str 10 479142750683034035187570) yz .nil))))) .nil) .nil) .nil) .nil) .nil) .nil) .nil)) .nil) .nil) cX) (no (no (no (no .nil (no (no (no (no (no (no (no (lf (.cells 3 (nd (.slice 4111 0 11 1) (lf (.int .i64 (.ofNat 0))) (lf .slice0)))) .nil) .nil) .nil) .nil) .nil) .nil) .nil)) .nil) .nil) .nil)),nx:=4113,ok:=true,v:=(.tuple []),out:=(no (no iU (no hJ (no .nil (no (no (no (no (no (no (no (no (lf (.cells 4 (nd (.str 9 2129618691208608441714) (nd (.slice 4203 0 2 4) (lf (.int .i64 (.ofNat 1))) .nil) (lf (.int .i64 (.ofNat 2)))))) .nil) .nil) .nil) .nil) .nil) .nil) .nil) (no (no .nil (no (no (no (no (no rE .nil) .nil) .nil) .nil) .nil)) kz))))) (no (no (no (no .nil (no (no (no (no (no (no (no (lf (.cells 3 (nd (.slice 4111 0 11 1) (lf (.int .i64 (.ofNat 11))) (lf (.slice 4189 6 0 1))))) .nil) .nil) .nil) .nil) .nil) .nil) .nil)) .nil) .nil) VO)),nx':=4204,wr:=[4109,4112]}
theorem Ag3:∀[F:Facts],Ac (Env.ofS Tryz.prog [] []) 1000000 af=true:=by
 intro F
 kernel_rfl
theorem Aip (G:Nat→D→D):af.Valid Tryz.prog G:=Ad.val (okE _ []) (w0 G) Ag3
def ay:Orc:=
 {f:=49,args:=[(.str 243 eY)],part:=.nil,nx:=4109,ok:=true,v:=(.tuple [(.agg [(.str 9 2129618691208608441714),(.slice 4203 0 2 4),(.int .i64 (.ofNat 2)),(.int .i64 (.ofNat 1))]),(.int .i64 (.ofNat 0)),(.int .i64 (.ofNat 0))]),out:=sO,nx':=4332,wr:=[]}
theorem Abr:∀[F:Facts],Ac (Env.ofS Tryz.prog [af] []) 1000000 ay=true:=by
 intro F
 kernel_rfl
theorem Ab0 (G:Nat→D→D):ay.Valid Tryz.prog G:=Ad.val (okE _ []) (.cons (Aip G) (w0 G)) Abr
def Tf:Orc:=
 {f:=21,args:=[(.str 9 2129618691208608441714)],part:=.nil,nx:=4096,ok:=true,v:=(.tuple [(.agg [(.str 9 2129618691208608441714),(.slice 4203 0 2 4),(.int .i64 (.ofNat 2)),(.int .i64 (.ofNat 1))]),(.int .i64 (.ofNat 0))]),out:=sO,nx':=4333,wr:=[]}
theorem Apa:∀[F:Facts],Ac (Env.ofS Tryz.prog [ay] []) 1000000 Tf=true:=by
 intro F
 kernel_rfl
theorem ql (G:Nat→D→D):Tf.Valid Tryz.prog G:=Ad.val (okE _ []) (.cons (Ab0 G) (w0 G)) Apa
def Vl:Orc:=
 {f:=22,args:=[(.str 9 2129618691208608441714)],part:=.nil,nx:=8192,ok:=true,v:=wZ,out:=.nil,nx':=8204,wr:=[]}
theorem Ae7:∀[F:Facts],Ac (Env.ofS Tryz.prog [] []) 1000000 Vl=true:=by
 intro F
 kernel_rfl
theorem Af8 (G:Nat→D→D):Vl.Valid Tryz.prog G:=Ad.val (okE _ []) (w0 G) Ae7
def Q7:Orc:=
 {f:=25,args:=[(.int .i64 (.ofNat 7))],part:=.nil,nx:=12288,ok:=true,v:=(.agg [(.str 9 2129618691208608441714),(.slice 12444 0 2 4),(.int .i64 (.ofNat 2)),(.int .i64 (.ofNat 1))]),out:=xq,nx':=12449,wr:=[]}
theorem An4:∀[F:Facts],Ac (Env.ofS Tryz.prog [] []) 1000000 Q7=true:=by
 intro F
 kernel_rfl
theorem fw (G:Nat→D→D):Q7.Valid Tryz.prog G:=Ad.val (okE _ []) (w0 G) An4
def jW:Orc:=
 {f:=40,args:=[(.slice 12587 0 4 1),(.str 1 32)],part:=(no (no (no .nil (no .nil (no (no .nil (no (no (no .nil (no (no (no (no .nil (lf (.cells 4 (nd (.str 7 31084746137363827) (nd (.str 9 2129618691208608441714) (lf (.str 1 49)) .nil) (lf (.str 5 431199119725)))))) .nil) .nil) .nil)) .nil) .nil)) .nil))) .nil) .nil),nx:=12588,ok:=true,v:=ai,out:=.nil,nx':=12588,wr:=[]}
theorem Aav (G:Nat→D→D):jW.Valid Tryz.prog G:=Orc.Valid.join An Aj (by kernel_rfl)
def sY:Orc:=
 {f:=40,args:=[(.slice 12644 0 2 1),(.str 1 32)],part:=(no .nil (no (no .nil (no (no (no .nil (no .nil (no (no .nil (no (no (no (no .nil (lf (.cells 2 (nd (.str 4 1701605234) (lf (.str 6 125780070981997)) .nil)))) .nil) .nil) .nil)) .nil))) .nil) .nil)) .nil)),nx:=12645,ok:=true,v:=ct,out:=.nil,nx':=12645,wr:=[]}
theorem Asj (G:Nat→D→D):sY.Valid Tryz.prog G:=Orc.Valid.join An Aj (by kernel_rfl)
def uM:Orc:=
 {f:=40,args:=[(.slice 12655 0 3 1),(.str 1 32)],part:=(no (no (no (no (no .nil (no .nil (no .nil (no lA .nil)))) .nil) .nil) .nil) .nil),nx:=12656,ok:=true,v:=Fq,out:=.nil,nx':=12656,wr:=[]}
theorem Ap0 (G:Nat→D→D):uM.Valid Tryz.prog G:=Orc.Valid.join An Aj (by kernel_rfl)
def mC:Orc:=
 {f:=40,args:=[(.slice 12663 0 2 1),(.str 1 32)],part:=(no (no (no (no .nil (no .nil (no .nil (no .nil (no (no .nil (no (no (no (no .nil yg) .nil) .nil) .nil)) .nil))))) .nil) .nil) .nil),nx:=12664,ok:=true,v:=(.str 10 549738434251183116874867),out:=.nil,nx':=12664,wr:=[]}
theorem zm (G:Nat→D→D):mC.Valid Tryz.prog G:=Orc.Valid.join An Aj (by kernel_rfl)
def yt:Orc:=
 {f:=40,args:=[(.slice 12683 0 6 1),(.str 1 32)],part:=(no (no (no .nil (no .nil (no (no (no (no .nil (no .nil (no (no (no (no .nil (lf (.cells 6 (nd (.str 4 1885697139) (nd (.str 4 1701602377) (lf (.str 4 1684956531)) (lf (.str 5 435777793139))) (nd (.str 4 1953063255) (lf (.str 5 435626799686)) .nil))))) .nil) .nil) .nil))) .nil) .nil) .nil))) .nil) .nil),nx:=12684,ok:=true,v:=YR,out:=.nil,nx':=12684,wr:=[]}
theorem Anm (G:Nat→D→D):yt.Valid Tryz.prog G:=Orc.Valid.join An Aj (by kernel_rfl)
def tl:Orc:=
 {f:=40,args:=[(.slice 12703 0 6 1),(.str 1 32)],part:=(no (no (no (no (no (no .nil (no (no .nil (no .nil (no (no (no (no .nil (lf (.cells 6 (nd (.str 4 1885697139) (nd (.str 4 1953063255) (lf (.str 7 28559167692432754)) (lf (.str 5 435777793139))) (nd (.str 4 1701602377) (lf (.str 5 435626799686)) .nil))))) .nil) .nil) .nil))) .nil)) .nil) .nil) .nil) .nil) .nil),nx:=12704,ok:=true,v:=dE,out:=.nil,nx':=12704,wr:=[]}
theorem Ao2 (G:Nat→D→D):tl.Valid Tryz.prog G:=Orc.Valid.join An Aj (by kernel_rfl)
def lO:Orc:=
 {f:=40,args:=[(.slice 12705 0 5 1),(.str 1 10)],part:=(no (no .nil (no (no (no (no .nil (no (no .nil (no .nil (no (no (no (no .nil (lf (.cells 5 (nd ct (nd Fq (lf YR) .nil) (nd (.str 10 549738434251183116874867) (lf dE) .nil))))) .nil) .nil) .nil))) .nil)) .nil) .nil) .nil)) .nil),nx:=12706,ok:=true,v:=nh,out:=.nil,nx':=12706,wr:=[]}
theorem Amn (G:Nat→D→D):lO.Valid Tryz.prog G:=Orc.Valid.join An Aj (by kernel_rfl)
def l3:Orc:=
 {f:=40,args:=[(.slice 12763 0 2 1),(.str 1 32)],part:=(no (no (no .nil (no .nil (no .nil (no (no .nil (no .nil (no .nil (no (no (no (no .nil (lf (.cells 2 (nd (.str 4 1701605234) (lf (.str 5 435777793139)) .nil)))) .nil) .nil) .nil)))) .nil)))) .nil) .nil),nx:=12764,ok:=true,v:=(.str 10 479142750683034035187570),out:=.nil,nx':=12764,wr:=[]}
theorem Arc (G:Nat→D→D):l3.Valid Tryz.prog G:=Orc.Valid.join An Aj (by kernel_rfl)
def ix:Orc:=
 {f:=40,args:=[(.slice 12774 0 3 1),(.str 1 32)],part:=(no .nil (no .nil (no .nil (no (no (no .nil (no .nil (no .nil (no .nil (no wg .nil))))) .nil) .nil)))),nx:=12775,ok:=true,v:=Ku,out:=.nil,nx':=12775,wr:=[]}
theorem Ai7 (G:Nat→D→D):ix.Valid Tryz.prog G:=Orc.Valid.join An Aj (by kernel_rfl)
def uo:Orc:=
 {f:=40,args:=[(.slice 12782 0 2 1),(.str 1 32)],part:=(no .nil (no .nil (no .nil (no .nil (no (no .nil (no .nil (no .nil (no .nil (no lW .nil))))) .nil))))),nx:=12783,ok:=true,v:=(.str 10 573536169347174686094451),out:=.nil,nx':=12783,wr:=[]}
theorem Asl (G:Nat→D→D):uo.Valid Tryz.prog G:=Orc.Valid.join An Aj (by kernel_rfl)
def vL:Orc:=
 {f:=40,args:=[(.slice 12802 0 6 1),(.str 1 32)],part:=(no .nil (no .nil (no (no (no (no (no (no (no (no .nil (no (no (no .nil (lf (.cells 6 (nd (.str 4 1885697139) (nd (.str 5 521375147346) (lf (.str 7 28559167692432754)) (lf (.str 6 125780070981997))) (nd (.str 4 2037609794) (lf (.str 5 435626799686)) .nil))))) .nil) .nil)) .nil) .nil) .nil) .nil) .nil) .nil) .nil))),nx:=12803,ok:=true,v:=kS,out:=.nil,nx':=12803,wr:=[]}
theorem Apc (G:Nat→D→D):vL.Valid Tryz.prog G:=Orc.Valid.join An Aj (by kernel_rfl)
def yh:Orc:=
 {f:=40,args:=[(.slice 12822 0 6 1),(.str 1 32)],part:=(no .nil (no .nil (no .nil (no (no .nil (no (no (no (no (no .nil (no (no (no .nil rE) .nil) .nil)) .nil) .nil) .nil) .nil)) .nil)))),nx:=12823,ok:=true,v:=lg,out:=.nil,nx':=12823,wr:=[]}
theorem Amq (G:Nat→D→D):yh.Valid Tryz.prog G:=Orc.Valid.join An Aj (by kernel_rfl)
def qd:Orc:=
 {f:=40,args:=[(.slice 12824 0 5 1),(.str 1 10)],part:=(no .nil (no (no (no .nil (no .nil (no (no (no (no (no .nil (no (no (no .nil (lf (.cells 5 (nd (.str 10 479142750683034035187570) (nd Ku ot .nil) (nd (.str 10 573536169347174686094451) yz .nil))))) .nil) .nil)) .nil) .nil) .nil) .nil))) .nil) .nil)),nx:=12825,ok:=true,v:=wa,out:=.nil,nx':=12825,wr:=[]}
theorem Ap9 (G:Nat→D→D):qd.Valid Tryz.prog G:=Orc.Valid.join An Aj (by kernel_rfl)
def lT:Orc:=
 {f:=40,args:=[(.slice 12826 0 3 1),(.str 1 10)],part:=(no .nil (no .nil (no (no .nil (no .nil (no (no (no (no (no .nil (no (no (no .nil (lf (.cells 3 (nd ai (lf nh) (lf wa))))) .nil) .nil)) .nil) .nil) .nil) .nil))) .nil))),nx:=12827,ok:=true,v:=(.str 243 eY),out:=.nil,nx':=12827,wr:=[]}
theorem Aa3 (G:Nat→D→D):lT.Valid Tryz.prog G:=Orc.Valid.join An Aj (by kernel_rfl)
def V1:Orc:=
 {f:=24,args:=[(.agg [(.str 9 2129618691208608441714),(.slice 12444 0 2 4),(.int .i64 (.ofNat 2)),(.int .i64 (.ofNat 1))])],part:=xq,nx:=12449,ok:=true,v:=wZ,out:=.nil,nx':=12827,wr:=[]}
theorem Arr:∀[F:Facts],Ac (Env.ofS Tryz.prog [lT,qd,yh,vL,uo,ix,l3,lO,tl,yt,mC,uM,sY,jW] []) 1000000 V1=true:=by
 intro F
 kernel_rfl
theorem Ap6 (G:Nat→D→D):V1.Valid Tryz.prog G:=Ad.val (okE _ []) (.cons (Aa3 G) (.cons (Ap9 G) (.cons (Amq G) (.cons (Apc G) (.cons (Asl G) (.cons (Ai7 G) (.cons (Arc G) (.cons (Amn G) (.cons (Ao2 G) (.cons (Anm G) (.cons (zm G) (.cons (Ap0 G) (.cons (Asj G) (.cons (Aav G) (w0 G))))))))))))))) Arr
def aL:Orc:=Q7.move 4096
theorem Ack (G:Nat→D→D):aL.Valid Tryz.prog G:=Orc.Valid.move (fw G) (by kernel_rfl) 4096
def VS:Orc:=
 {f:=23,args:=[(.agg [(.str 9 2129618691208608441714),(.slice 4203 0 2 4),(.int .i64 (.ofNat 2)),(.int .i64 (.ofNat 1))]),(.agg [(.str 9 2129618691208608441714),(.slice 16540 0 2 4),(.int .i64 (.ofNat 2)),(.int .i64 (.ofNat 1))])],part:=(no (no (no (no .nil (no .nil ki)) (no (no .nil (no (no wA .nil) .nil)) oJ)) qK) (no (no (no (no .nil se) .nil) (no .nil (no .nil (no (no (no .nil (no (no (no (no (no (no (lf (.cells 8 (nd (.str 6 125780070981997) (nd (.slice 16528 0 2 3) (nd (.slice 16531 0 2 9) (lf (.slice 16538 0 2 9)) .nil) (lf (.slice 16535 0 2 3))) SO))) .nil) .nil) .nil) .nil) .nil) .nil)) .nil) .nil)))) (no (no nm (no .nil (no (no (no .nil (no ww .nil)) .nil) .nil))) Y5))),nx:=16545,ok:=true,v:=(.bool true),out:=.nil,nx':=16551,wr:=[]}
theorem Ado:∀[F:Facts],Ac (Env.ofS Tryz.prog [] []) 1000000 VS=true:=by
 intro F
 kernel_rfl
theorem Ars (G:Nat→D→D):VS.Valid Tryz.prog G:=Ad.val (okE _ []) (w0 G) Ado
def ZR:Orc:=Tf.move 16384
theorem Aq4 (G:Nat→D→D):ZR.Valid Tryz.prog G:=Orc.Valid.move (ql G) (by kernel_rfl) 16384
def ZB:Orc:=Q7.move 12288
theorem Aa4 (G:Nat→D→D):ZB.Valid Tryz.prog G:=Orc.Valid.move (fw G) (by kernel_rfl) 12288
def Vn:Orc:=
 {f:=23,args:=[(.agg [(.str 9 2129618691208608441714),(.slice 20587 0 2 4),(.int .i64 (.ofNat 2)),(.int .i64 (.ofNat 1))]),(.agg [(.str 9 2129618691208608441714),(.slice 24732 0 2 4),(.int .i64 (.ofNat 2)),(.int .i64 (.ofNat 1))])],part:=(no (no (no (no .nil (no .nil tP)) (no (no .nil (no (no (no .nil (no uj .nil)) .nil) .nil)) (no (no .nil (no .nil (no (no (no (no (no (no .nil (no (lf (.cells 8 (nd (.str 6 125780070981997) (nd (.slice 20514 0 2 3) (nd (.slice 20541 0 2 9) (lf (.slice 20585 0 2 9)) .nil) (lf (.slice 20558 0 2 3))) SO))) .nil)) .nil) .nil) .nil) .nil) .nil))) .nil))) (no (no .nil (no (no .nil (no .nil (no (no (no (no (no (no .nil jj) .nil) .nil) .nil) .nil) .nil))) .nil)) (no .nil (no .nil (no .nil (no (no (no (no (no (no (no .nil wx) .nil) .nil) .nil) .nil) .nil) .nil)))))) (no (no (no (no .nil (no (no (no .nil (no nJ .nil)) .nil) .nil)) .nil) (no .nil (no .nil (no (no (no .nil (no (no (no (no (no (no .nil (lf (.cells 8 (nd (.str 6 125780070981997) (nd (.slice 24720 0 2 3) (nd (.slice 24723 0 2 9) (lf (.slice 24730 0 2 9)) .nil) (lf (.slice 24727 0 2 3))) SO)))) .nil) .nil) .nil) .nil) .nil)) .nil) .nil)))) (no (no (no (no .nil (no (no (no (no (no (no (no .nil YM) .nil) .nil) .nil) .nil) .nil) .nil)) .nil) (no .nil (no (no (no .nil (no pW .nil)) .nil) .nil))) (no .nil (no (no g6 .nil) .nil))))),nx:=24737,ok:=true,v:=(.bool true),out:=.nil,nx':=24743,wr:=[]}
theorem Aoc:∀[F:Facts],Ac (Env.ofS Tryz.prog [] []) 1000000 Vn=true:=by
 intro F
 kernel_rfl
theorem Ahb (G:Nat→D→D):Vn.Valid Tryz.prog G:=Ad.val (okE _ []) (w0 G) Aoc
def UG:Orc:=
 {f:=21,args:=[(.str 2 31354)],part:=.nil,nx:=4096,ok:=true,v:=(.tuple [(.agg [(.str 0 0),.slice0,(.int .i64 (.ofNat 0)),(.int .i64 (.ofNat 0))]),(.int .i64 (.ofNat 9))]),out:=.nil,nx':=4109,wr:=[]}
theorem Ac1:∀[F:Facts],Ac (Env.ofS Tryz.prog [] []) 1000000 UG=true:=by
 intro F
 kernel_rfl
theorem Ae1 (G:Nat→D→D):UG.Valid Tryz.prog G:=Ad.val (okE _ []) (w0 G) Ac1
def V9:Orc:=
 {f:=22,args:=[(.str 2 31354)],part:=.nil,nx:=8192,ok:=true,v:=(.tuple [(.str 0 0),(.int .i64 (.ofNat 9))]),out:=.nil,nx':=8204,wr:=[]}
theorem Aq2:∀[F:Facts],Ac (Env.ofS Tryz.prog [] []) 1000000 V9=true:=by
 intro F
 kernel_rfl
theorem Anr (G:Nat→D→D):V9.Valid Tryz.prog G:=Ad.val (okE _ []) (w0 G) Aq2
end Go.Proofs.YtmjeljjkhblgeaaGreatDoor.familySessions

