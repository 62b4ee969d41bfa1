/- What is proved: that certain calls which the law FamilySessions makes come to the results that are written here (part 17 of 19). Conditions: the memory that such a call reaches is as written here; the kernel runs the evaluator over each. -/
import Derived.Test.YtmjeljjkhblgeaaGreatDoorFamilySessionsKnownA
import Derived.Test.YtmjeljjkhblgeaaGreatDoorFamilySessionsKnownP
set_option linter.unusedVariables false
set_option linter.unusedSectionVars false
set_option linter.unusedSimpArgs false
namespace Go.Proofs.YtmjeljjkhblgeaaGreatDoor.familySessions
open Go.AE
def VT:Orc:=
 {f:=24,args:=[(.agg [(.str 7 32495402123093352),(.slice 8309 0 2 4),(.int .i64 (.ofNat 1)),(.int .i64 (.ofNat 4))])],part:=rj,nx:=8353,ok:=true,v:=(.tuple [(.str 250 YF),(.int .i64 (.ofNat 0))]),out:=.nil,nx':=8731,wr:=[]}
theorem Ahj:∀[F:Facts],Ac (Env.ofS Tryz.prog [sQ,kM,i9,ic,ol,gK,uk,vp,x9,vU,ik,jf,qQ,ln] []) 1000000 VT=true:=by
 intro F
 kernel_rfl
theorem Aan (G:Nat→D→D):VT.Valid Tryz.prog G:=Ad.val (okE _ []) (.cons (Apv G) (.cons (Ac5 G) (.cons (Arn G) (.cons (Abt G) (.cons (Aot G) (.cons (zd G) (.cons (zU G) (.cons (Ai6 G) (.cons (Adl G) (.cons (Acw G) (.cons (Am6 G) (.cons (za G) (.cons (Acs G) (.cons (Aly G) (w0 G))))))))))))))) Ahj
def ff:Orc:=RS.move 4096
theorem Ag2 (G:Nat→D→D):ff.Valid Tryz.prog G:=Orc.Valid.move (cA G) (by kernel_rfl) 4096
def We:Orc:=
 {f:=23,args:=[(.agg [(.str 7 32495402123093352),(.slice 4201 0 2 4),(.int .i64 (.ofNat 1)),(.int .i64 (.ofNat 4))]),(.agg [(.str 7 32495402123093352),(.slice 12405 0 2 4),(.int .i64 (.ofNat 1)),(.int .i64 (.ofNat 4))])],part:=(no (no (no Ys (no (no .nil (no .nil (no .nil (no (no (no (no (no (no .nil rB) .nil) .nil) .nil) .nil) .nil)))) cn)) (no (no .nil (no (no .nil (no .nil (no (no (no (no (no (nd ig .nil Y3) .nil) .nil) .nil) .nil) .nil))) .nil)) (no (no .nil (no .nil (no .nil (no (no (no (no (no (no .nil (lf (.cells 8 (nd (.str 6 128017496632419) (nd (.slice 12393 0 2 3) (nd (.slice 12396 0 2 9) (lf (.slice 12403 0 2 9)) .nil) (lf (.slice 12400 0 2 3))) KU)))) .nil) .nil) .nil) .nil) .nil)))) .nil))) (no (no (no (no eJ (no .nil vO)) .nil) (no .nil (no (no SC (no .nil (no (no (no (no (no (no .nil pr) .nil) .nil) .nil) .nil) .nil))) .nil))) .nil)),nx:=12449,ok:=true,v:=(.bool true),out:=.nil,nx':=12455,wr:=[]}
theorem Agt:∀[F:Facts],Ac (Env.ofS Tryz.prog [] []) 1000000 We=true:=by
 intro F
 kernel_rfl
theorem Ag4 (G:Nat→D→D):We.Valid Tryz.prog G:=Ad.val (okE _ []) (w0 G) Agt
def eH:Orc:=Uy.move 12288
theorem Ad4 (G:Nat→D→D):eH.Valid Tryz.prog G:=Orc.Valid.move (vo G) (by kernel_rfl) 12288
def Yq:Orc:=RS.move 12288
theorem Ark (G:Nat→D→D):Yq.Valid Tryz.prog G:=Orc.Valid.move (cA G) (by kernel_rfl) 12288
def U1:Orc:=
 {f:=23,args:=[(.agg [(.str 7 32495402123093352),(.slice 16489 0 2 4),(.int .i64 (.ofNat 1)),(.int .i64 (.ofNat 4))]),(.agg [(.str 7 32495402123093352),(.slice 20597 0 2 4),(.int .i64 (.ofNat 1)),(.int .i64 (.ofNat 4))])],part:=(no (no (no (no .nil (no (no .nil (no .nil (no jh .nil))) .nil)) (no (no .nil (no .nil (no .nil (no (no (no (no (no (no .nil rT) .nil) .nil) .nil) .nil) .nil)))) (no .nil (no .nil (no (no eI .nil) .nil))))) (no (no .nil (no (no .nil (no .nil (no (no (no (no (no (no (no (lf (.cells 8 (nd (.str 6 128017496632419) (nd (.slice 16416 0 2 3) (nd (.slice 16443 0 2 9) (lf (.slice 16487 0 2 9)) .nil) (lf (.slice 16460 0 2 3))) KU))) .nil) YM) .nil) .nil) .nil) .nil) .nil))) .nil)) (no (no .nil (no .nil (no .nil (no (no (no (no (no (no .nil (no (lf (.cells 8 (nd (.str 6 128017496632419) (nd (.slice 20585 0 2 3) (nd (.slice 20588 0 2 9) (lf (.slice 20595 0 2 9)) .nil) (lf (.slice 20592 0 2 3))) KU))) .nil)) .nil) .nil) .nil) .nil) .nil)))) .nil))) (no (no (no (no (no .nil (no (no gX .nil) .nil)) oV) .nil) (no .nil (no (no YG (no .nil (no (no (no (no (no (no .nil kG) .nil) .nil) .nil) .nil) .nil))) .nil))) .nil)),nx:=20641,ok:=true,v:=(.bool true),out:=.nil,nx':=20647,wr:=[]}
theorem Anc:∀[F:Facts],Ac (Env.ofS Tryz.prog [] []) 1000000 U1=true:=by
 intro F
 kernel_rfl
theorem Acc (G:Nat→D→D):U1.Valid Tryz.prog G:=Ad.val (okE _ []) (w0 G) Anc
def WL:Orc:=
 {f:=140,args:=[(.ptr 4111 0)],part:=(no (no (no (no (no .nil (no (no (no (no (no (no (no (lf (.cells 3 (nd (.slice 4110 0 15 1) (lf (.int .i64 (.ofNat 1))) (lf (.slice 4112 4 0 1))))) .nil) .nil) .nil) .nil) .nil) .nil) .nil)) .nil) .nil) .nil) (no (no (no (no .nil (no (no (no (no (no (no (no lQ .nil) .nil) .nil) .nil) .nil) .nil) .nil)) .nil) .nil) rq)),nx:=4116,ok:=true,v:=(.agg [(.str 7 32199642035675501),(.slice 4135 0 2 3),(.slice 4123 0 1 2),(.slice 4190 0 4 9)]),out:=(no (no (no (no (no .nil (no (no (no (no (no (no (no (lf (.cells 3 (nd (.slice 4110 0 15 1) (lf (.int .i64 (.ofNat 9))) (lf (.slice 4178 6 0 1))))) .nil) .nil) .nil) .nil) .nil) .nil) .nil)) (no mY .nil)) cN) .nil) (no .nil (no (no (no .nil (no (no .nil (no (no (no (no (no lx .nil) .nil) .nil) .nil) .nil)) .nil)) .nil) br))),nx':=4192,wr:=[4111]}
theorem Ajz:∀[F:Facts],Ac (Env.ofS Tryz.prog [] []) 1000000 WL=true:=by
 intro F
 kernel_rfl
theorem Aq0 (G:Nat→D→D):WL.Valid Tryz.prog G:=Ad.val (okE _ []) (w0 G) Ajz
def dD:Orc:=
 {f:=132,args:=[(.ptr 4111 0),(.ptr 4108 0)],part:=(no (no (no (no (no .nil (no (no (no (no (no (no (no (lf (.cells 3 (nd (.slice 4110 0 15 1) (lf (.int .i64 (.ofNat 0))) (lf .slice0)))) .nil) .nil) .nil) .nil) .nil) .nil) .nil)) .nil) .nil) .nil) (no cX rq)),nx:=4112,ok:=true,v:=(.tuple []),out:=(no (no (no (no (no .nil (no (no (no (no (no (no (no (lf (.cells 3 (nd (.slice 4110 0 15 1) (lf (.int .i64 (.ofNat 15))) (lf (.slice 4235 6 0 1))))) .nil) .nil) .nil) .nil) .nil) .nil) SC)) bN) (no .nil (no (no (no (no .nil (no (no (no (no ta .nil) .nil) .nil) .nil)) .nil) .nil) xh))) sH) (no (no .nil (no .nil (no (no (no (no (no (no (no (no (lf (.cells 4 (nd (.str 7 32497592573780591) (nd (.slice 4249 0 2 4) (lf (.int .i64 (.ofNat 1))) .nil) (lf (.int .i64 (.ofNat 3)))))) .nil) .nil) .nil) .nil) .nil) .nil) .nil) .nil))) uh)),nx':=4250,wr:=[4108,4111]}
theorem Akt:∀[F:Facts],Ac (Env.ofS Tryz.prog [WL] []) 1000000 dD=true:=by
 intro F
 kernel_rfl
theorem Ar3 (G:Nat→D→D):dD.Valid Tryz.prog G:=Ad.val (okE _ []) (.cons (Aq0 G) (w0 G)) Akt
end Go.Proofs.YtmjeljjkhblgeaaGreatDoor.familySessions

