/- What is proved: that certain calls which the law FamilySessions makes come to the results that are written here (part 16 of 19). Conditions: the memory that such a call reaches is as written here; the kernel runs the evaluator over each. -/
import Derived.Test.YtmjeljjkhblgeaaGreatDoorFamilySessionsKnownA
import Derived.Test.YtmjeljjkhblgeaaGreatDoorFamilySessionsKnownO
set_option linter.unusedVariables false
set_option linter.unusedSectionVars false
set_option linter.unusedSimpArgs false
namespace Go.Proofs.YtmjeljjkhblgeaaGreatDoor.familySessions
open Go.AE
def VE:Orc:=
 {f:=24,args:=[(.agg [(.str 7 32480064979559794),(.slice 8294 0 2 4),(.int .i64 (.ofNat 1)),(.int .i64 (.ofNat 1))])],part:=yO,nx:=8353,ok:=true,v:=(.tuple [(.str 250 Xs),(.int .i64 (.ofNat 0))]),out:=.nil,nx':=8739,wr:=[]}
theorem Ac9:∀[F:Facts],Ac (Env.ofS Tryz.prog [ug,pC,ir,kE,xM,wH,un,wN,uA,qj,rF,gZ,wo,tj] []) 1000000 VE=true:=by
 intro F
 kernel_rfl
theorem zK (G:Nat→D→D):VE.Valid Tryz.prog G:=Ad.val (okE _ []) (.cons (Ast G) (.cons (Al5 G) (.cons (zQ G) (.cons (zj G) (.cons (Asi G) (.cons (Ao9 G) (.cons (yU G) (.cons (Akr G) (.cons (Aaj G) (.cons (Ai0 G) (.cons (Ant G) (.cons (Adc G) (.cons (Arq G) (.cons (zZ G) (w0 G))))))))))))))) Ac9
def Yd:Orc:=RV.move 4096
theorem Aef (G:Nat→D→D):Yd.Valid Tryz.prog G:=Orc.Valid.move (d9 G) (by kernel_rfl) 4096
def Wb:Orc:=
 {f:=23,args:=[(.agg [(.str 7 32480064979559794),(.slice 4200 0 2 4),(.int .i64 (.ofNat 1)),(.int .i64 (.ofNat 1))]),(.agg [(.str 7 32480064979559794),(.slice 12390 0 2 4),(.int .i64 (.ofNat 1)),(.int .i64 (.ofNat 1))])],part:=(no (no cW (no (no (no (no .nil (no .nil (no (no (no (no (no (no .nil vS) .nil) .nil) .nil) .nil) .nil))) .nil) .nil) (no .nil (no .nil (no (no .nil (no (no (no (no (no (no .nil yn) .nil) .nil) .nil) .nil) .nil)) .nil))))) (no (no fW (no (no (no .nil (no .nil (no (no (no (no (no (no .nil kY) .nil) .nil) .nil) .nil) .nil))) .nil) .nil)) (no (no .nil (no .nil (no (no .nil (no (no (no (no (no (no .nil v7) .nil) .nil) .nil) .nil) .nil)) VH))) (no (no (no .nil (no .nil (no (no (no (no (no (nd tc .nil (lf (.cells 8 (nd (.str 4 1952867692) (nd (.slice 12378 0 2 3) (nd (.slice 12381 0 2 9) (lf (.slice 12388 0 2 9)) .nil) (lf (.slice 12385 0 2 3))) Tw)))) .nil) .nil) .nil) .nil) .nil))) .nil) .nil)))),nx:=12449,ok:=true,v:=(.bool true),out:=.nil,nx':=12455,wr:=[]}
theorem Afq:∀[F:Facts],Ac (Env.ofS Tryz.prog [] []) 1000000 Wb=true:=by
 intro F
 kernel_rfl
theorem zY (G:Nat→D→D):Wb.Valid Tryz.prog G:=Ad.val (okE _ []) (w0 G) Afq
def ZQ:Orc:=Sl.move 12288
theorem Ac6 (G:Nat→D→D):ZQ.Valid Tryz.prog G:=Orc.Valid.move (lF G) (by kernel_rfl) 12288
def d6:Orc:=RV.move 12288
theorem Abo (G:Nat→D→D):d6.Valid Tryz.prog G:=Orc.Valid.move (d9 G) (by kernel_rfl) 12288
def Vj:Orc:=
 {f:=23,args:=[(.agg [(.str 7 32480064979559794),(.slice 16488 0 2 4),(.int .i64 (.ofNat 1)),(.int .i64 (.ofNat 1))]),(.agg [(.str 7 32480064979559794),(.slice 20582 0 2 4),(.int .i64 (.ofNat 1)),(.int .i64 (.ofNat 1))])],part:=(no (no (no (no (no (no .nil (no (no wu .nil) .nil)) .nil) .nil) (no .nil (no (no (no .nil (no wv .nil)) .nil) .nil))) (no (no (no (no .nil (no .nil (no (no (no (no (no (no .nil yd) .nil) .nil) .nil) .nil) .nil))) .nil) .nil) (no .nil (no .nil (no (no .nil (no (no (no (no (no (no .nil xU) .nil) .nil) .nil) .nil) .nil)) .nil))))) (no (no (no .nil (no (no .nil (no .nil (no (no (no (no (no (no (no (lf (.cells 8 (nd (.str 4 1952867692) (nd (.slice 16415 0 2 3) (nd (.slice 16442 0 2 9) (lf (.slice 16486 0 2 9)) .nil) (lf (.slice 16459 0 2 3))) Tw))) .nil) .nil) .nil) .nil) .nil) .nil) .nil))) .nil)) (no (no (no .nil (no .nil (no (no (no (no (no (no .nil cr) .nil) .nil) .nil) .nil) .nil))) .nil) .nil)) (no (no .nil (no .nil (no (no .nil (no (no (no (no (no (no .nil fY) .nil) .nil) .nil) .nil) .nil)) (no (no VH .nil) .nil)))) (no (no (no .nil (no .nil (no (no (no (no (no (no cr (no (lf (.cells 8 (nd (.str 4 1952867692) (nd (.slice 20570 0 2 3) (nd (.slice 20573 0 2 9) (lf (.slice 20580 0 2 9)) .nil) (lf (.slice 20577 0 2 3))) Tw))) .nil)) .nil) .nil) .nil) .nil) .nil))) .nil) .nil)))),nx:=20641,ok:=true,v:=(.bool true),out:=.nil,nx':=20647,wr:=[]}
theorem Aj7:∀[F:Facts],Ac (Env.ofS Tryz.prog [] []) 1000000 Vj=true:=by
 intro F
 kernel_rfl
theorem Aa1 (G:Nat→D→D):Vj.Valid Tryz.prog G:=Ad.val (okE _ []) (w0 G) Aj7
def bi:Orc:=
 {f:=132,args:=[(.ptr 4110 0),(.ptr 4107 0)],part:=(no (no cX (no .nil (no .nil (no (no (no (no (no (no (no (no (lf (.cells 11 (nd eW (nd IT uT (nd Zg re .nil)) (nd Fq (nd TO Vs .nil) (nd IU ni .nil))))) .nil) .nil) .nil) .nil) .nil) .nil) .nil) .nil)))) (no .nil (no .nil (no .nil (no (no (no (no (no (no (no (no (lf (.cells 3 (nd (.slice 4109 0 11 1) (lf (.int .i64 (.ofNat 0))) (lf .slice0)))) .nil) .nil) .nil) .nil) .nil) .nil) .nil) .nil))))),nx:=4111,ok:=true,v:=(.tuple []),out:=(no (no (no Ys (no .nil (no (no (no (no (no (no (no (no (lf (.cells 4 (nd (.str 7 32495402123093352) (nd (.slice 4201 0 2 4) (lf (.int .i64 (.ofNat 4))) .nil) (lf (.int .i64 (.ofNat 1)))))) .nil) .nil) .nil) .nil) .nil) .nil) .nil) (no (no .nil (no (no lY .nil) .nil)) eI)))) px) (no VO (no .nil (no .nil (no (no (no (no (no (no (no (no (lf (.cells 3 (nd (.slice 4109 0 11 1) (lf (.int .i64 (.ofNat 11))) (lf (.slice 4187 6 0 1))))) .nil) .nil) .nil) .nil) .nil) .nil) .nil) .nil))))),nx':=4202,wr:=[4107,4110]}
theorem zy:∀[F:Facts],Ac (Env.ofS Tryz.prog [] []) 1000000 bi=true:=by
 intro F
 kernel_rfl
theorem Aiv (G:Nat→D→D):bi.Valid Tryz.prog G:=Ad.val (okE _ []) (w0 G) zy
def Yo:Orc:=
 {f:=49,args:=[(.str 250 YF)],part:=.nil,nx:=4107,ok:=true,v:=(.tuple [(.agg [(.str 7 32495402123093352),(.slice 4201 0 2 4),(.int .i64 (.ofNat 1)),(.int .i64 (.ofNat 4))]),(.int .i64 (.ofNat 0)),(.int .i64 (.ofNat 0))]),out:=rf,nx':=4330,wr:=[]}
theorem Aee:∀[F:Facts],Ac (Env.ofS Tryz.prog [bi] []) 1000000 Yo=true:=by
 intro F
 kernel_rfl
theorem Ahy (G:Nat→D→D):Yo.Valid Tryz.prog G:=Ad.val (okE _ []) (.cons (Aiv G) (w0 G)) Aee
def Uy:Orc:=
 {f:=21,args:=[(.str 7 32495402123093352)],part:=.nil,nx:=4096,ok:=true,v:=(.tuple [(.agg [(.str 7 32495402123093352),(.slice 4201 0 2 4),(.int .i64 (.ofNat 1)),(.int .i64 (.ofNat 4))]),(.int .i64 (.ofNat 0))]),out:=rf,nx':=4331,wr:=[]}
theorem Apx:∀[F:Facts],Ac (Env.ofS Tryz.prog [Yo] []) 1000000 Uy=true:=by
 intro F
 kernel_rfl
theorem vo (G:Nat→D→D):Uy.Valid Tryz.prog G:=Ad.val (okE _ []) (.cons (Ahy G) (w0 G)) Apx
def RS:Orc:=
 {f:=25,args:=[(.int .i64 (.ofNat 5))],part:=.nil,nx:=8192,ok:=true,v:=(.agg [(.str 7 32495402123093352),(.slice 8309 0 2 4),(.int .i64 (.ofNat 1)),(.int .i64 (.ofNat 4))]),out:=rj,nx':=8353,wr:=[]}
theorem Aox:∀[F:Facts],Ac (Env.ofS Tryz.prog [] []) 1000000 RS=true:=by
 intro F
 kernel_rfl
theorem cA (G:Nat→D→D):RS.Valid Tryz.prog G:=Ad.val (okE _ []) (w0 G) Aox
def ln:Orc:=
 {f:=40,args:=[(.slice 8491 0 4 1),(.str 1 32)],part:=(no (no (no .nil (no .nil (no (no .nil (no (no (no .nil (no (no (no (no (lf (.cells 4 (nd (.str 7 31084746137363827) (nd (.str 7 32495402123093352) (lf (.str 1 52)) .nil) (lf (.str 7 28259039672824431))))) .nil) .nil) .nil) .nil)) .nil) .nil)) .nil))) .nil) .nil),nx:=8492,ok:=true,v:=eW,out:=.nil,nx':=8492,wr:=[]}
theorem Aly (G:Nat→D→D):ln.Valid Tryz.prog G:=Orc.Valid.join An Aj (by kernel_rfl)
def qQ:Orc:=
 {f:=40,args:=[(.slice 8548 0 2 1),(.str 1 32)],part:=sF,nx:=8549,ok:=true,v:=IT,out:=.nil,nx':=8549,wr:=[]}
theorem Acs (G:Nat→D→D):qQ.Valid Tryz.prog G:=Orc.Valid.join An Aj (by kernel_rfl)
def jf:Orc:=
 {f:=40,args:=[(.slice 8559 0 3 1),(.str 1 32)],part:=vX,nx:=8560,ok:=true,v:=Fq,out:=.nil,nx':=8560,wr:=[]}
theorem za (G:Nat→D→D):jf.Valid Tryz.prog G:=Orc.Valid.join An Aj (by kernel_rfl)
def ik:Orc:=
 {f:=40,args:=[(.slice 8567 0 2 1),(.str 1 32)],part:=(no (no (no (no .nil (no .nil (no .nil (no .nil (no (no .nil (no pV .nil)) .nil))))) .nil) .nil) .nil),nx:=8568,ok:=true,v:=(.str 10 549738434251183116874867),out:=.nil,nx':=8568,wr:=[]}
theorem Am6 (G:Nat→D→D):ik.Valid Tryz.prog G:=Orc.Valid.join An Aj (by kernel_rfl)
def vU:Orc:=
 {f:=40,args:=[(.slice 8587 0 6 1),(.str 1 32)],part:=(no (no (no .nil (no .nil (no (no (no (no .nil (no .nil (no qh .nil))) .nil) .nil) .nil))) .nil) .nil),nx:=8588,ok:=true,v:=TO,out:=.nil,nx':=8588,wr:=[]}
theorem Acw (G:Nat→D→D):vU.Valid Tryz.prog G:=Orc.Valid.join An Aj (by kernel_rfl)
def x9:Orc:=
 {f:=40,args:=[(.slice 8607 0 6 1),(.str 1 32)],part:=(no (no (no (no (no (no .nil (no (no .nil (no .nil (no (no (no (no (lf (.cells 6 (nd (.str 4 1885697139) Vx (nd (.str 4 1701602377) (lf (.str 5 521510348114)) .nil)))) .nil) .nil) .nil) .nil))) .nil)) .nil) .nil) .nil) .nil) .nil),nx:=8608,ok:=true,v:=Zg,out:=.nil,nx':=8608,wr:=[]}
theorem Adl (G:Nat→D→D):x9.Valid Tryz.prog G:=Orc.Valid.join An Aj (by kernel_rfl)
def vp:Orc:=
 {f:=40,args:=[(.slice 8609 0 5 1),(.str 1 10)],part:=(no (no .nil (no (no (no (no .nil (no (no .nil (no .nil (no (no (no (no (lf (.cells 5 (nd IT (nd Fq yk .nil) (nd (.str 10 549738434251183116874867) (lf Zg) .nil)))) .nil) .nil) .nil) .nil))) .nil)) .nil) .nil) .nil)) .nil),nx:=8610,ok:=true,v:=rt,out:=.nil,nx':=8610,wr:=[]}
theorem Ai6 (G:Nat→D→D):vp.Valid Tryz.prog G:=Orc.Valid.join An Aj (by kernel_rfl)
def uk:Orc:=
 {f:=40,args:=[(.slice 8667 0 2 1),(.str 1 32)],part:=vM,nx:=8668,ok:=true,v:=IU,out:=.nil,nx':=8668,wr:=[]}
theorem zU (G:Nat→D→D):uk.Valid Tryz.prog G:=Orc.Valid.join An Aj (by kernel_rfl)
def gK:Orc:=
 {f:=40,args:=[(.slice 8678 0 3 1),(.str 1 32)],part:=lm,nx:=8679,ok:=true,v:=Ku,out:=.nil,nx':=8679,wr:=[]}
theorem zd (G:Nat→D→D):gK.Valid Tryz.prog G:=Orc.Valid.join An Aj (by kernel_rfl)
def ol:Orc:=
 {f:=40,args:=[(.slice 8686 0 2 1),(.str 1 32)],part:=rO,nx:=8687,ok:=true,v:=(.str 10 573536169347174686094451),out:=.nil,nx':=8687,wr:=[]}
theorem Aot (G:Nat→D→D):ol.Valid Tryz.prog G:=Orc.Valid.join An Aj (by kernel_rfl)
def ic:Orc:=
 {f:=40,args:=[(.slice 8706 0 6 1),(.str 1 32)],part:=(no .nil (no .nil (no (no (no (no (no (no (no (no .nil (no (no (no (lf (.cells 6 (nd (.str 4 1885697139) cH (nd (.str 4 2037609794) (lf (.str 7 32777976897693010)) .nil)))) .nil) .nil) .nil)) .nil) .nil) .nil) .nil) .nil) .nil) .nil))),nx:=8707,ok:=true,v:=ou,out:=.nil,nx':=8707,wr:=[]}
theorem Abt (G:Nat→D→D):ic.Valid Tryz.prog G:=Orc.Valid.join An Aj (by kernel_rfl)
def i9:Orc:=
 {f:=40,args:=[(.slice 8726 0 6 1),(.str 1 32)],part:=(no .nil (no .nil (no .nil (no (no .nil (no (no (no (no (no .nil lY) .nil) .nil) .nil) .nil)) .nil)))),nx:=8727,ok:=true,v:=wV,out:=.nil,nx':=8727,wr:=[]}
theorem Arn (G:Nat→D→D):i9.Valid Tryz.prog G:=Orc.Valid.join An Aj (by kernel_rfl)
def kM:Orc:=
 {f:=40,args:=[(.slice 8728 0 5 1),(.str 1 10)],part:=(no .nil (no (no (no .nil (no .nil (no (no (no (no (no .nil (no (no (no (lf (.cells 5 (nd IU (nd Ku re .nil) (nd (.str 10 573536169347174686094451) ni .nil)))) .nil) .nil) .nil)) .nil) .nil) .nil) .nil))) .nil) .nil)),nx:=8729,ok:=true,v:=vZ,out:=.nil,nx':=8729,wr:=[]}
theorem Ac5 (G:Nat→D→D):kM.Valid Tryz.prog G:=Orc.Valid.join An Aj (by kernel_rfl)
def sQ:Orc:=
 {f:=40,args:=[(.slice 8730 0 3 1),(.str 1 10)],part:=(no .nil (no .nil (no (no .nil (no .nil (no (no (no (no (no .nil (no (no (no (lf (.cells 3 (nd eW (lf rt) (lf vZ)))) .nil) .nil) .nil)) .nil) .nil) .nil) .nil))) .nil))),nx:=8731,ok:=true,v:=(.str 250 YF),out:=.nil,nx':=8731,wr:=[]}
theorem Apv (G:Nat→D→D):sQ.Valid Tryz.prog G:=Orc.Valid.join An Aj (by kernel_rfl)
end Go.Proofs.YtmjeljjkhblgeaaGreatDoor.familySessions

