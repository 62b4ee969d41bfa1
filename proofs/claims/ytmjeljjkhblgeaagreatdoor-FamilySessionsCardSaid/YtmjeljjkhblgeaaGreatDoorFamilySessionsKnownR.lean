/- What is proved: that certain calls which the law FamilySessions makes come to the results that are written here (part 18 of 19). Conditions: the memory that such a call reaches is as written here; the kernel runs the evaluator over each. -/
import Derived.Test.YtmjeljjkhblgeaaGreatDoorFamilySessionsKnownA
import Derived.Test.YtmjeljjkhblgeaaGreatDoorFamilySessionsKnownQ
set_option linter.unusedVariables false
set_option linter.unusedSectionVars false
set_option linter.unusedSimpArgs false
namespace Go.Proofs.YtmjeljjkhblgeaaGreatDoor.familySessions
open Go.AE
def cp:Orc:=
 {f:=49,args:=[(.str 386 ZK)],part:=.nil,nx:=4108,ok:=true,v:=(.tuple [(.agg [(.str 7 32497592573780591),(.slice 4249 0 2 4),(.int .i64 (.ofNat 3)),(.int .i64 (.ofNat 1))]),(.int .i64 (.ofNat 0)),(.int .i64 (.ofNat 0))]),out:=wU,nx':=4450,wr:=[]}
theorem Aoy:∀[F:Facts],Ac (Env.ofS Tryz.prog [dD] []) 1000000 cp=true:=by
 intro F
 kernel_rfl
theorem zS (G:Nat→D→D):cp.Valid Tryz.prog G:=Ad.val (okE _ []) (.cons (Ar3 G) (w0 G)) Aoy
def T4:Orc:=
 {f:=21,args:=[(.str 7 32497592573780591)],part:=.nil,nx:=4096,ok:=true,v:=(.tuple [(.agg [(.str 7 32497592573780591),(.slice 4249 0 2 4),(.int .i64 (.ofNat 3)),(.int .i64 (.ofNat 1))]),(.int .i64 (.ofNat 0))]),out:=wU,nx':=4451,wr:=[]}
theorem Ajf:∀[F:Facts],Ac (Env.ofS Tryz.prog [cp] []) 1000000 T4=true:=by
 intro F
 kernel_rfl
theorem mz (G:Nat→D→D):T4.Valid Tryz.prog G:=Ad.val (okE _ []) (.cons (zS G) (w0 G)) Ajf
def Vw:Orc:=
 {f:=22,args:=[(.str 7 32497592573780591)],part:=.nil,nx:=8192,ok:=true,v:=xp,out:=.nil,nx':=8203,wr:=[]}
theorem Ap8:∀[F:Facts],Ac (Env.ofS Tryz.prog [] []) 1000000 Vw=true:=by
 intro F
 kernel_rfl
theorem Akv (G:Nat→D→D):Vw.Valid Tryz.prog G:=Ad.val (okE _ []) (w0 G) Ap8
def Rf:Orc:=
 {f:=25,args:=[(.int .i64 (.ofNat 6))],part:=.nil,nx:=12288,ok:=true,v:=(.agg [(.str 7 32497592573780591),(.slice 12420 0 2 4),(.int .i64 (.ofNat 3)),(.int .i64 (.ofNat 1))]),out:=gr,nx':=12449,wr:=[]}
theorem Aht:∀[F:Facts],Ac (Env.ofS Tryz.prog [] []) 1000000 Rf=true:=by
 intro F
 kernel_rfl
theorem fe (G:Nat→D→D):Rf.Valid Tryz.prog G:=Ad.val (okE _ []) (w0 G) Aht
def jM:Orc:=
 {f:=40,args:=[(.slice 12659 0 4 1),(.str 1 32)],part:=(no (no (no .nil (no (no .nil (no .nil (no .nil (no (no .nil (no (no (no (no .nil lQ) .nil) .nil) .nil)) .nil)))) .nil)) .nil) .nil),nx:=12660,ok:=true,v:=de,out:=.nil,nx':=12660,wr:=[]}
theorem Ao0 (G:Nat→D→D):jM.Valid Tryz.prog G:=Orc.Valid.join An Aj (by kernel_rfl)
def m9:Orc:=
 {f:=40,args:=[(.slice 12758 0 2 1),(.str 1 32)],part:=(no .nil (no .nil (no .nil (no (no .nil (no (no .nil (no .nil (no .nil (no (no (no (no .nil (lf (.cells 2 (nd (.str 4 1701605234) (lf (.str 7 32199642035675501)) .nil)))) .nil) .nil) .nil)))) .nil)) .nil)))),nx:=12759,ok:=true,v:=Xg,out:=.nil,nx':=12759,wr:=[]}
theorem Aaa (G:Nat→D→D):m9.Valid Tryz.prog G:=Orc.Valid.join An Aj (by kernel_rfl)
def rz:Orc:=
 {f:=40,args:=[(.slice 12767 0 3 1),(.str 1 32)],part:=(no (no (no (no (no (no .nil (no .nil (no .nil (no .nil (no (no (no (no .nil (lf (.cells 3 (nd (.str 7 32199698088816483) (lf (.str 5 495622648436)) (lf (.str 1 53)))))) .nil) .nil) .nil))))) .nil) .nil) .nil) .nil) .nil),nx:=12768,ok:=true,v:=Xi,out:=.nil,nx':=12768,wr:=[]}
theorem Ar2 (G:Nat→D→D):rz.Valid Tryz.prog G:=Orc.Valid.join An Aj (by kernel_rfl)
def lP:Orc:=
 {f:=40,args:=[(.slice 12779 0 3 1),(.str 1 32)],part:=(no (no (no .nil (no .nil (no (no .nil (no .nil (no .nil lA))) .nil))) .nil) .nil),nx:=12780,ok:=true,v:=Fq,out:=.nil,nx':=12780,wr:=[]}
theorem Aq8 (G:Nat→D→D):lP.Valid Tryz.prog G:=Orc.Valid.join An Aj (by kernel_rfl)
def wB:Orc:=
 {f:=40,args:=[(.slice 12793 0 4 1),(.str 1 32)],part:=(no (no .nil (no (no .nil (no .nil (no .nil (no .nil (no .nil (no .nil (no (no (no (no .nil (lf (.cells 4 (nd (.str 5 435744240755) (nd (.str 4 1953063255) (lf (.str 2 12338)) .nil) (lf (.str 4 1953063287)))))) .nil) .nil) .nil))))))) .nil)) .nil),nx:=12794,ok:=true,v:=Zs,out:=.nil,nx':=12794,wr:=[]}
theorem Apl (G:Nat→D→D):wB.Valid Tryz.prog G:=Orc.Valid.join An Aj (by kernel_rfl)
def rv:Orc:=
 {f:=40,args:=[(.slice 12825 0 11 1),(.str 1 32)],part:=(no (no .nil (no (no .nil (no .nil (no (no (no (no (no .nil (no (no (no .nil (lf (.cells 11 (nd (.str 4 1885697139) (nd (.str 4 1701602377) oe (nd (.str 5 500068345697) (lf (.str 1 52)) .nil)) gQ)))) .nil) .nil)) .nil) .nil) .nil) .nil))) .nil)) .nil),nx:=12826,ok:=true,v:=fc,out:=.nil,nx':=12826,wr:=[]}
theorem Ake (G:Nat→D→D):rv.Valid Tryz.prog G:=Orc.Valid.join An Aj (by kernel_rfl)
def wh:Orc:=
 {f:=40,args:=[(.slice 12845 0 6 1),(.str 1 32)],part:=(no (no .nil (no .nil (no .nil (no (no .nil (no (no (no (no .nil (no (no (no .nil (lf (.cells 6 (nd (.str 4 1885697139) (nd (.str 4 1953063255) (lf (.str 7 28559167692432754)) (lf (.str 5 500068345697))) Sq)))) .nil) .nil)) .nil) .nil) .nil)) .nil)))) .nil),nx:=12846,ok:=true,v:=Z7,out:=.nil,nx':=12846,wr:=[]}
theorem Aq3 (G:Nat→D→D):wh.Valid Tryz.prog G:=Orc.Valid.join An Aj (by kernel_rfl)
def mK:Orc:=
 {f:=40,args:=[(.slice 12859 0 4 1),(.str 1 32)],part:=(no (no (no .nil (no .nil (no .nil (no .nil (no (no (no (no .nil (no (no (no .nil l7) .nil) .nil)) .nil) .nil) .nil))))) .nil) .nil),nx:=12860,ok:=true,v:=Xr,out:=.nil,nx':=12860,wr:=[]}
theorem Alw (G:Nat→D→D):mK.Valid Tryz.prog G:=Orc.Valid.join An Aj (by kernel_rfl)
def lN:Orc:=
 {f:=40,args:=[(.slice 12879 0 6 1),(.str 1 32)],part:=(no (no (no (no (no .nil (no (no .nil (no (no (no .nil (no (no (no .nil lx) .nil) .nil)) .nil) .nil)) .nil)) .nil) .nil) .nil) .nil),nx:=12880,ok:=true,v:=iD,out:=.nil,nx':=12880,wr:=[]}
theorem Aeu (G:Nat→D→D):lN.Valid Tryz.prog G:=Orc.Valid.join An Aj (by kernel_rfl)
def nc:Orc:=
 {f:=40,args:=[(.slice 12881 0 8 1),(.str 1 10)],part:=(no (no .nil (no (no (no .nil (no (no .nil (no (no (no .nil (no (no (no .nil (lf (.cells 8 (nd Xg (nd Xi (nd Zs pR .nil) (lf Z7)) (nd Fq (lf fc) XZ))))) .nil) .nil)) .nil) .nil)) .nil)) .nil) .nil)) .nil),nx:=12882,ok:=true,v:=nI,out:=.nil,nx':=12882,wr:=[]}
theorem yW (G:Nat→D→D):nc.Valid Tryz.prog G:=Orc.Valid.join An Aj (by kernel_rfl)
def fU:Orc:=
 {f:=40,args:=[(.slice 12958 0 2 1),(.str 1 32)],part:=(no .nil (no .nil (no .nil (no .nil (no .nil (no (no (no .nil (no (no .nil (no (no (no .nil (lf (.cells 2 (nd (.str 4 1701605234) (lf (.str 5 500068345697)) .nil)))) .nil) .nil)) .nil)) .nil) .nil)))))),nx:=12959,ok:=true,v:=(.str 10 549830960776699095838578),out:=.nil,nx':=12959,wr:=[]}
theorem Ao1 (G:Nat→D→D):fU.Valid Tryz.prog G:=Orc.Valid.join An Aj (by kernel_rfl)
def qq:Orc:=
 {f:=40,args:=[(.slice 12969 0 3 1),(.str 1 32)],part:=(no (no .nil (no (no .nil (no (no .nil (no (no .nil (no (no .nil wg) .nil)) .nil)) .nil)) .nil)) .nil),nx:=12970,ok:=true,v:=Ku,out:=.nil,nx':=12970,wr:=[]}
theorem Aoq (G:Nat→D→D):qq.Valid Tryz.prog G:=Orc.Valid.join An Aj (by kernel_rfl)
def pT:Orc:=
 {f:=40,args:=[(.slice 12977 0 2 1),(.str 1 32)],part:=(no (no .nil (no (no (no .nil (no .nil (no (no .nil (no (no .nil lW) .nil)) .nil))) .nil) .nil)) .nil),nx:=12978,ok:=true,v:=(.str 10 573536169347174686094451),out:=.nil,nx':=12978,wr:=[]}
theorem Aic (G:Nat→D→D):pT.Valid Tryz.prog G:=Orc.Valid.join An Aj (by kernel_rfl)
def tV:Orc:=
 {f:=40,args:=[(.slice 12997 0 6 1),(.str 1 32)],part:=(no (no .nil (no .nil (no (no (no (no .nil (no .nil (no (no .nil (no (no (no .nil (lf (.cells 6 (nd (.str 4 1885697139) (nd (.str 5 521375147346) (lf (.str 7 28559167692432754)) (lf (.str 7 32199642035675501))) Vv)))) .nil) .nil)) .nil))) .nil) .nil) .nil))) .nil),nx:=12998,ok:=true,v:=xi,out:=.nil,nx':=12998,wr:=[]}
theorem Apq (G:Nat→D→D):tV.Valid Tryz.prog G:=Orc.Valid.join An Aj (by kernel_rfl)
def nT:Orc:=
 {f:=40,args:=[(.slice 13017 0 6 1),(.str 1 32)],part:=(no (no .nil (no (no .nil (no .nil (no (no .nil (no .nil (no (no .nil (no (no (no .nil (lf (.cells 6 (nd (.str 4 1885697139) (nd (.str 4 2037609794) (lf (.str 4 1684956531)) (lf (.str 7 32199642035675501))) uL)))) .nil) .nil)) .nil))) .nil))) .nil)) .nil),nx:=13018,ok:=true,v:=mE,out:=.nil,nx':=13018,wr:=[]}
theorem Aok (G:Nat→D→D):nT.Valid Tryz.prog G:=Orc.Valid.join An Aj (by kernel_rfl)
def m5:Orc:=
 {f:=40,args:=[(.slice 13037 0 6 1),(.str 1 32)],part:=(no (no .nil (no .nil (no .nil (no (no .nil (no .nil (no .nil (no (no .nil (no (no (no .nil ta) .nil) .nil)) .nil)))) .nil)))) .nil),nx:=13038,ok:=true,v:=oL,out:=.nil,nx':=13038,wr:=[]}
theorem Ad0 (G:Nat→D→D):m5.Valid Tryz.prog G:=Orc.Valid.join An Aj (by kernel_rfl)
def gh:Orc:=
 {f:=40,args:=[(.slice 13039 0 6 1),(.str 1 10)],part:=(no (no (no (no (no .nil (no .nil (no .nil (no .nil (no (no .nil (no (no (no .nil (lf (.cells 6 (nd (.str 10 549830960776699095838578) (nd Ku ow xG) (nd (.str 10 573536169347174686094451) mA .nil))))) .nil) .nil)) .nil))))) .nil) .nil) .nil) .nil),nx:=13040,ok:=true,v:=iX,out:=.nil,nx':=13040,wr:=[]}
theorem Aor (G:Nat→D→D):gh.Valid Tryz.prog G:=Orc.Valid.join An Aj (by kernel_rfl)
def vN:Orc:=
 {f:=40,args:=[(.slice 13041 0 3 1),(.str 1 10)],part:=(no (no .nil (no (no (no .nil (no .nil (no .nil (no .nil (no (no .nil (no (no (no .nil (lf (.cells 3 (nd de (lf nI) (lf iX))))) .nil) .nil)) .nil))))) .nil) .nil)) .nil),nx:=13042,ok:=true,v:=(.str 386 ZK),out:=.nil,nx':=13042,wr:=[]}
theorem Abc (G:Nat→D→D):vN.Valid Tryz.prog G:=Orc.Valid.join An Aj (by kernel_rfl)
def U4:Orc:=
 {f:=24,args:=[(.agg [(.str 7 32497592573780591),(.slice 12420 0 2 4),(.int .i64 (.ofNat 3)),(.int .i64 (.ofNat 1))])],part:=gr,nx:=12449,ok:=true,v:=xp,out:=.nil,nx':=13042,wr:=[]}
theorem Ak1:∀[F:Facts],Ac (Env.ofS Tryz.prog [vN,gh,m5,nT,tV,pT,qq,fU,nc,lN,mK,wh,rv,wB,lP,rz,m9,jM] []) 1000000 U4=true:=by
 intro F
 kernel_rfl
theorem Acf (G:Nat→D→D):U4.Valid Tryz.prog G:=Ad.val (okE _ []) (.cons (Abc G) (.cons (Aor G) (.cons (Ad0 G) (.cons (Aok G) (.cons (Apq G) (.cons (Aic G) (.cons (Aoq G) (.cons (Ao1 G) (.cons (yW G) (.cons (Aeu G) (.cons (Alw G) (.cons (Aq3 G) (.cons (Ake G) (.cons (Apl G) (.cons (Aq8 G) (.cons (Ar2 G) (.cons (Aaa G) (.cons (Ao0 G) (w0 G))))))))))))))))))) Ak1
def dR:Orc:=Rf.move 4096
theorem Ahx (G:Nat→D→D):dR.Valid Tryz.prog G:=Orc.Valid.move (fe G) (by kernel_rfl) 4096
def Vu:Orc:=
 {f:=23,args:=[(.agg [(.str 7 32497592573780591),(.slice 4249 0 2 4),(.int .i64 (.ofNat 3)),(.int .i64 (.ofNat 1))]),(.agg [(.str 7 32497592573780591),(.slice 16516 0 2 4),(.int .i64 (.ofNat 3)),(.int .i64 (.ofNat 1))])],part:=(no (no (no (no (no ki Yp) bN) cN) (no ji (no (no (no (no (no .nil uz) .nil) .nil) .nil) (no (no (no (no .nil (no (no i8 .nil) .nil)) .nil) .nil) .nil)))) (no (no (no .nil (no .nil (no .nil (no .nil (no uc .nil))))) (no (no (no (no (no .nil (no (no (no (no (no (no (lf (.cells 8 (nd (.str 7 32199642035675501) (nd (.slice 16504 0 2 3) (nd (.slice 16522 0 4 9) (lf (.slice 16525 0 3 9)) .nil) (lf (.slice 16511 0 2 3))) (nd (.slice 16517 0 1 2) (lf (.str 5 500068345697)) (lf .slice0))))) .nil) .nil) .nil) .nil) .nil) .nil)) .nil) .nil) .nil) .nil)) (no (no .nil (no (no (no (no .nil (no so .nil)) .nil) .nil) .nil)) br))),nx:=16545,ok:=true,v:=(.bool true),out:=.nil,nx':=16551,wr:=[]}
theorem Apg:∀[F:Facts],Ac (Env.ofS Tryz.prog [] []) 1000000 Vu=true:=by
 intro F
 kernel_rfl
theorem Aj3 (G:Nat→D→D):Vu.Valid Tryz.prog G:=Ad.val (okE _ []) (w0 G) Apg
def Zi:Orc:=T4.move 16384
theorem Adq (G:Nat→D→D):Zi.Valid Tryz.prog G:=Orc.Valid.move (mz G) (by kernel_rfl) 16384
def Yt:Orc:=Rf.move 12288
theorem Amh (G:Nat→D→D):Yt.Valid Tryz.prog G:=Orc.Valid.move (fe G) (by kernel_rfl) 12288
def Vp:Orc:=
 {f:=23,args:=[(.agg [(.str 7 32497592573780591),(.slice 20633 0 2 4),(.int .i64 (.ofNat 3)),(.int .i64 (.ofNat 1))]),(.agg [(.str 7 32497592573780591),(.slice 24708 0 2 4),(.int .i64 (.ofNat 3)),(.int .i64 (.ofNat 1))])],part:=(no (no (no (no (no tP oV) (no (no .nil (no (no (no (no (no (no (no .nil v8) .nil) .nil) .nil) .nil) .nil) .nil)) (no (no (no .nil (no (no (no (no (no .nil nF) .nil) .nil) .nil) .nil)) .nil) .nil))) (no .nil (no .nil (no (no (no (no (no (no (no (no .nil sn) .nil) .nil) .nil) .nil) .nil) .nil) .nil)))) (no (no .nil (no .nil (no (no (no .nil (no (no (no (no (no .nil (no (lf (.cells 8 (nd (.str 7 32199642035675501) (nd (.slice 20519 0 2 3) (nd (.slice 20574 0 4 9) (lf (.slice 20631 0 3 9)) .nil) (lf (.slice 20591 0 2 3))) (nd (.slice 20507 0 1 2) (lf (.str 5 500068345697)) (lf .slice0))))) .nil)) .nil) .nil) .nil) .nil)) .nil) .nil))) (no (no (no (no (no .nil (no rQ .nil)) .nil) .nil) .nil) (no (no (no (no .nil (no mt .nil)) .nil) .nil) .nil)))) (no (no (no .nil (no .nil (no .nil (no .nil (no xH .nil))))) (no (no (no (no (no .nil (no (no (no (no (no (no .nil (lf (.cells 8 (nd (.str 7 32199642035675501) (nd (.slice 24696 0 2 3) (nd (.slice 24714 0 4 9) (lf (.slice 24717 0 3 9)) .nil) (lf (.slice 24703 0 2 3))) (nd (.slice 24709 0 1 2) (lf (.str 5 500068345697)) (lf .slice0)))))) .nil) .nil) .nil) .nil) .nil)) .nil) .nil) .nil) .nil)) (no (no .nil (no (no (no (no .nil (no iK .nil)) .nil) .nil) .nil)) (no .nil (no .nil (no (no .nil (no (no (no (no (no (no .nil ge) .nil) .nil) .nil) .nil) .nil)) .nil)))))),nx:=24737,ok:=true,v:=(.bool true),out:=.nil,nx':=24743,wr:=[]}
theorem Add:∀[F:Facts],Ac (Env.ofS Tryz.prog [] []) 1000000 Vp=true:=by
 intro F
 kernel_rfl
theorem yX (G:Nat→D→D):Vp.Valid Tryz.prog G:=Ad.val (okE _ []) (w0 G) Add
end Go.Proofs.YtmjeljjkhblgeaaGreatDoor.familySessions

