/- What is proved: that certain calls which the law FamilyDefines makes come to the results that are written here (part 2 of 16). Conditions: the memory that such a call reaches is as written here; the kernel runs the evaluator over each. -/
import Derived.Test.YtmjeljjkhblgeaaGreatDoorFamilyDefinesKnownA
set_option linter.unusedVariables false
set_option linter.unusedSectionVars false
set_option linter.unusedSimpArgs false
namespace Go.Proofs.YtmjeljjkhblgeaaGreatDoor.familyDefines
open Go.AE
noncomputable def o2:Cor:=
 {f:=252,nt:=72,td:=(Aj (Env.of Tryz.prog) 252 2),tmps:=(nd (pN 44) (no (nd y1 (nd y2 y4 (nd (pN 44) Aez y3)) (nd y6 (nd (pN 44) (nd (pN 44) (lf (.slice 545 0 91 5)) .nil) y9) (nd (iN 416) y10 (lf (.ptr 547 1))))) (nd (iN 331) (nd y11 (nd (pN 44) (lf (.agg [(iN 20),(iN 7)])) y3) (nd (pN 44) y3 (lf (iN 332)))) (nd y12 (nd (iN 331) (nd (pN 44) (lf (.slice 549 0 1 5)) .nil) y3) y16))) (nd Asm (nd (pN 547) y20 (nd (pN 44) (nd y19 (nd (pN 44) (lf (.agg [(iN 4),(.str 1 58),(iN 0),(iN 20),(iN 7)])) .nil) Aez) (nd y21 (lf (.func (.func 285) [] [(pN 547)])) (lf (pN 547))))) (nd (pN 44) (nd (pN 44) (nd (pN 44) (lf (.agg [(iN 0),(.str 0 0),(iN 0),(iN 20),(iN 7)])) y3) Aqs) (nd y1 (nd (pN 44) (nd y19 (lf Asm) .nil) y3) y26)))),part:=(no (no (no .nil (no Aha .nil)) (no .nil (no Aha y30))) (no (no .nil (no .nil (no (lf (.cells 4 (nd y8 (nd (iN 332) Fr .nil) y27))) .nil))) (no .nil (no (no (no .nil (no (no (no (lf (ceL 460 [y35,y39,y43,y46,y50,y53,y55,y56,y57,y59,y61,y63,y65,y67,y68,y71,y73,y74,y75,y77,y79,y83,y85,y86,y88,y89,y90,y91,y92,y93,y96,y98,y99,ln,mD,mB,l3,mf,zb,Wu,XS,xR,Ady,yR,zK,z7])) .nil) .nil) .nil)) .nil) .nil)))),nx:=551,ok:=true,v:=SQ,out:=Va,nx':=733,wr:=[44,550]}
theorem k2:∀[F:Facts],An (Env.ofS Tryz.prog [] []) o1.base 1144 o2=true:=by
 intro F
 kernel_rfl
theorem w2 (G:Nat→D→D):o2.Valid Tryz.prog G:=Cor.next (okE _ []) (w0 G) (w1 G) k2
noncomputable def o3:Cor:=
 {f:=252,nt:=72,td:=(Aj (Env.of Tryz.prog) 252 2),tmps:=(nd (pN 44) (no (nd y1 (nd y2 y4 (nd (pN 44) Ag7 y3)) (nd y6 (nd (pN 44) (nd (pN 44) (lf (.slice 461 0 76 5)) .nil) y9) (nd (iN 416) y10 (lf (.ptr 464 1))))) (nd (iN 281) (nd y11 (nd (pN 44) (lf (.agg [(iN 16),(iN 23)])) y3) (nd (pN 44) y3 (lf (iN 284)))) (nd y12 (nd (iN 281) (nd (pN 44) (lf (.slice 467 0 1 5)) .nil) y3) Agu))) (nd Aqk (nd (pN 464) y20 (nd (pN 44) (nd y19 (nd (pN 44) (lf (.agg [(iN 2),(.str 3 3158066),(iN 200),(iN 16),(iN 23)])) .nil) Ag7) (nd y21 (lf (.func (.func 285) [] [(pN 464)])) (lf (pN 464))))) (nd (pN 44) (nd (pN 44) (nd (pN 44) (lf (.agg [(iN 0),(.str 0 0),(iN 0),(iN 16),(iN 23)])) y3) (nd y8 y3 zD)) (nd y1 (nd (pN 44) (nd y19 (lf Aqk) .nil) y3) y26)))),part:=(no (no (no .nil Ar9) Af5) (no (no Ar9 (no (no .nil (no (no .nil (no .nil (lf (ceL 385 [y35,y39,y43,y46,y50,y53,y55,y56,y57,y59,y61,y63,y65,y67,y68,y71,y73,y74,y75,y77,y79,y83,y85,y86,y88,y89,y90,y91,y92,y93,y96,y98,y99,ln,mD,mB,l3,mf,[(iN 2),ce,(iN 200),(iN 16),(iN 23)]])))) .nil)) (no (lf (.cells 4 (nd y8 (nd (iN 284) yV .nil) EE))) .nil))) .nil)),nx:=469,ok:=true,v:=SQ,out:=Va,nx':=733,wr:=[44,468]}
theorem k3:∀[F:Facts],An (Env.ofS Tryz.prog [] []) o2.base 1089 o3=true:=by
 intro F
 kernel_rfl
theorem w3 (G:Nat→D→D):o3.Valid Tryz.prog G:=Cor.next (okE _ []) (w0 G) (w2 G) k3
noncomputable def o4:Cor:=
 {f:=252,nt:=72,td:=(Aj (Env.of Tryz.prog) 252 2),tmps:=(nd (pN 44) (no (nd y1 (nd y2 y4 (nd (pN 44) Aif y3)) (nd y6 (nd (pN 44) (nd (pN 44) (lf (.slice 378 0 61 5)) .nil) y9) (nd (iN 416) y10 (lf (.ptr 381 1))))) (nd (iN 229) (nd y11 (nd (pN 44) (lf (.agg [(iN 14),(iN 9)])) y3) (nd (pN 44) y3 Aav)) (nd y12 (nd (iN 229) (nd (pN 44) (lf (.slice 382 0 1 5)) .nil) y3) (nd (pN 44) y14 AQ)))) (nd Aoq (nd (pN 381) y20 (nd (pN 44) (nd y19 (nd (pN 44) (lf (.agg [(iN 1),(.str 5 y94),(iN 0),(iN 14),(iN 9)])) .nil) Aif) (nd y21 (lf (.func (.func 285) [] [(pN 381)])) (lf (pN 381))))) (nd (pN 44) (nd (pN 44) (nd (pN 44) (lf (.agg [(iN 0),(.str 0 0),(iN 0),(iN 14),(iN 9)])) y3) (nd y8 y3 zr)) (nd y1 (nd (pN 44) (nd y19 (lf Aoq) .nil) y3) y26)))),part:=(no (no (no (no (no (no (no (no .nil (lf (ceL 310 [y35,y39,y43,y46,y50,y53,y55,y56,y57,y59,y61,y63,y65,y67,y68,y71,y73,y74,y75,y77,y79,y83,y85,y86,y88,y89,y90,y91,y92,y93,y96]))) .nil) .nil) .nil) .nil) .nil) (no .nil (no .nil (no y29 Aek)))) (no (no .nil (no .nil (no (lf (.cells 4 (nd y8 (nd (iN 234) GF .nil) GF))) .nil))) (no .nil (no .nil (no .nil Aek))))),nx:=384,ok:=true,v:=SQ,out:=Va,nx':=733,wr:=[44,383]}
theorem k4:∀[F:Facts],An (Env.ofS Tryz.prog [] []) o3.base 1130 o4=true:=by
 intro F
 kernel_rfl
theorem w4 (G:Nat→D→D):o4.Valid Tryz.prog G:=Cor.next (okE _ []) (w0 G) (w3 G) k4
noncomputable def o5:Cor:=
 {f:=252,nt:=72,td:=(Aj (Env.of Tryz.prog) 252 2),tmps:=(nd (pN 44) (no (nd y1 (nd y2 y4 (nd (pN 44) l6 y3)) (nd y6 (nd (pN 44) (nd (pN 44) (lf (.slice 295 0 46 5)) .nil) y9) (nd (iN 416) y10 (lf (.ptr 297 1))))) (nd (iN 173) (nd y11 (nd (pN 44) (lf (.agg [(iN 9),(iN 21)])) y3) (nd (pN 44) y3 l4)) (nd y12 (nd (iN 173) (nd (pN 44) (lf (.slice 299 0 1 5)) .nil) y3) y16))) (nd Aoi (nd (pN 297) y20 (nd (pN 44) (nd y19 (nd (pN 44) (lf (.agg [(iN 4),(.str 1 59),(iN 0),(iN 9),(iN 21)])) .nil) l6) (nd y21 (lf (.func (.func 285) [] [(pN 297)])) (lf (pN 297))))) (nd (pN 44) (nd (pN 44) (nd (pN 44) (lf (.agg [(iN 0),(.str 0 0),(iN 0),(iN 9),(iN 21)])) y3) (nd y8 y3 bl)) (nd y1 (nd (pN 44) (nd y19 (lf Aoi) .nil) y3) y26)))),part:=(no (no (no .nil Aiq) (no Aiq y31)) (no (no .nil (no .nil (no (nd (.cells 4 (nd y8 (nd (iN 174) HQ .nil) ND)) .nil (no (no (lf (ceL 235 [y35,y39,y43,y46,y50,y53,y55,y56,y57,y59,y61,y63,y65,y67,y68,y71,y73,y74,y75,y77,y79,y83,y85,[(iN 4),y36,(iN 0),(iN 9),(iN 21)]])) .nil) .nil)) .nil))) .nil)),nx:=301,ok:=true,v:=SQ,out:=Va,nx':=733,wr:=[44,300]}
theorem k5:∀[F:Facts],An (Env.ofS Tryz.prog [] []) o4.base 1171 o5=true:=by
 intro F
 kernel_rfl
theorem w5 (G:Nat→D→D):o5.Valid Tryz.prog G:=Cor.next (okE _ []) (w0 G) (w4 G) k5
noncomputable def o6:Cor:=
 {f:=252,nt:=72,td:=(Aj (Env.of Tryz.prog) 252 2),tmps:=(nd (pN 44) (no (nd y1 (nd y2 y4 (nd (pN 44) mw y3)) (nd y6 (nd (pN 44) (nd (pN 44) (lf (.slice 197 0 28 5)) .nil) y9) (nd (iN 416) y10 (lf (.ptr 200 1))))) (nd (iN 119) (nd y11 (nd (pN 44) zV y3) (nd (pN 44) y3 Asc)) (nd y12 (nd (iN 119) (nd (pN 44) (lf (.slice 203 0 1 5)) .nil) y3) Agu))) (nd Agz (nd (pN 200) y20 (nd (pN 44) (nd y19 (nd (pN 44) (lf (.agg [(iN 2),(.str 1 48),(iN 0),(iN 7),(iN 19)])) .nil) mw) (nd y21 (lf (.func (.func 285) [] [(pN 200)])) (lf (pN 200))))) (nd (pN 44) (nd (pN 44) (nd (pN 44) Aaa y3) (nd y8 y3 aZ)) (nd y1 (nd (pN 44) (nd y19 (lf Agz) .nil) y3) y26)))),part:=(no (no (no .nil Ao4) Af5) (no (no Ao4 (no .nil (no (nd (.cells 4 (nd y8 (nd (iN 120) y27 .nil) Fg)) (no .nil (lf (ceL 145 [y35,y39,y43,y46,y50,y53,y55,y56,y57,y59,y61,y63,y65,y67,[(iN 2),y49,(iN 0),(iN 7),(iN 19)]]))) .nil) .nil))) .nil)),nx:=205,ok:=true,v:=SQ,out:=Va,nx':=733,wr:=[44,204]}
theorem k6:∀[F:Facts],An (Env.ofS Tryz.prog [] []) o5.base 1151 o6=true:=by
 intro F
 kernel_rfl
theorem w6 (G:Nat→D→D):o6.Valid Tryz.prog G:=Cor.next (okE _ []) (w0 G) (w5 G) k6
noncomputable def o7:Cor:=
 {f:=252,nt:=72,td:=(Aj (Env.of Tryz.prog) 252 2),tmps:=(nd (pN 44) (no (nd y1 (nd y2 y4 (nd (pN 44) Anu y3)) (nd y6 (nd (pN 44) (nd (pN 44) (lf (.slice 119 0 14 5)) .nil) y9) (nd (iN 416) y10 (lf (.ptr 121 1))))) (nd (iN 65) (nd y11 (nd (pN 44) Aid y3) (nd (pN 44) y3 (lf (iN 66)))) (nd y12 (nd (iN 65) (nd (pN 44) (lf (.slice 123 0 1 5)) .nil) y3) y16))) (nd Alb (nd (pN 121) y20 (nd (pN 44) (nd y19 (nd (pN 44) Ajf .nil) Anu) (nd y21 (lf (.func (.func 285) [] [(pN 121)])) (lf (pN 121))))) (nd (pN 44) (nd (pN 44) (nd (pN 44) Aot y3) Aqs) (nd y1 (nd (pN 44) (nd y19 (lf Alb) .nil) y3) y26)))),part:=(no (no (no .nil Af6) (no Af6 y31)) (no (no .nil (no .nil (no (lf (.cells 4 (nd y8 (nd (iN 66) Fr .nil) y15))) (no .nil (lf (ceL 75 [y35,y39,y43,y46,y50,y53,y55,[(iN 4),y45,(iN 0),(iN 4),(iN 7)]])))))) .nil)),nx:=125,ok:=true,v:=SQ,out:=Va,nx':=733,wr:=[44,124]}
theorem k7:∀[F:Facts],An (Env.ofS Tryz.prog [] []) o6.base 1164 o7=true:=by
 intro F
 kernel_rfl
theorem w7 (G:Nat→D→D):o7.Valid Tryz.prog G:=Cor.next (okE _ []) (w0 G) (w6 G) k7
noncomputable def o8:Orc:=
 {f:=252,args:=[(pN 44)],part:=(no .nil (no (no .nil (no .nil (no (lf (.cells 4 (nd y8 PJ AQ))) .nil))) .nil)),nx:=45,ok:=true,v:=SQ,out:=Va,nx':=733,wr:=[44]}
theorem k8:∀[F:Facts],BF (Env.ofS Tryz.prog [] []) o7.base 1152 o8=true:=by
 intro F
 kernel_rfl
theorem w8 (G:Nat→D→D):o8.Valid Tryz.prog G:=Orc.first (okE _ []) (w0 G) (w7 G) k8
noncomputable def o9:Cor:=
 {f:=168,nt:=83,td:=(Aj (Env.of Tryz.prog) 168 4),tmps:=(nd (pN 735) (nd (pN 736) (nd (pN 1234) (nd (pN 735) (nd (pN 735) (lf (.slice 1235 0 1 5)) .nil) (nd (iN 2) Abu .nil)) (nd (pN 735) (nd y13 (lf (.ptr 1234 2)) .nil) (nd (pN 735) Ajy .nil))) (no (nd y18 (nd y18 yp .nil) (nd (pN 735) Ai9 .nil)) (nd (pN 735) (nd Ajp yp .nil) (nd (.slice 1126 0 7 5) Ahn .nil)))) (nd (pN 737) (nd (pN 1327) (nd (.slice 738 0 1 1) (nd (.slice 755 0 1 1) (lf (.slice 1236 0 8 5)) .nil) (nd Ai7 Ajy .nil)) (nd (.agg [(iN 1),(iN 10),(.str 5 y33),(.int .i64 (.negSucc 0)),(.int .i64 (.negSucc 0))]) (nd (pN 735) Ad0 .nil) (nd Asn (lf (.slice 1328 0 1 2)) .nil))) (no (nd (pN 735) (nd (pN 735) (lf Asn) .nil) (nd (pN 735) (lf Akh) .nil)) (nd (.ptr 735 2) (nd Akh (lf (.func (.func 214) [] [(pN 736),(pN 1234)])) .nil) (nd Ai7 Ai9 .nil))))),part:=(no (no (no (no (no (no .nil (no .nil (no .nil (no (lf (.cells 12 (nd (pN 734) (nd (.slice 1260 0 9 5) EB EC) (nd (iN 1) (nd y34 CS .nil) Ub)))) .nil)))) Aqq) .nil) (no (no .nil (no (no Aet Anm) (no .nil Aiw))) .nil)) (no (no (no (no .nil (no .nil (no .nil (no (lf (.cells 3 (nd Ad Ahn NY))) .nil)))) (no .nil (no (no (no .nil (no (lf (.cells 6 (nd y41 (nd Amq (lf Ad3) Abu) (nd y62 Ad0 .nil)))) .nil)) .nil) .nil))) .nil) (no .nil (no Aqd .nil)))) (no (no (no (no (no .nil (no yJ (no .nil (no (lf (.cells 1 yp)) .nil)))) Aqq) .nil) (no .nil (no (no .nil (no .nil (no .nil (no (no (lf (ceL 45 [Ap2,Agy,Akq,Aqz,[(iN 12),(iN 3),y64,(iN 2),(iN 0)]])) .nil) .nil)))) .nil))) (no (no (no (no .nil (no .nil (no .nil As3))) (no (no .nil Anm) .nil)) Am8) (no .nil (no .nil (no (no mF (no .nil (no (lf (.cells 3 (nd (.slice 730 300 65 5) Hk AQ))) .nil))) .nil)))))),nx:=1330,ok:=true,v:=Api,out:=(no (no (no Apt (no .nil Agp)) (no .nil (no .nil (no .nil Ag2)))) (no .nil (no yr (no .nil (no .nil (no (no .nil Arn) .nil)))))),nx':=1887,wr:=[737,734,735,1329,1260]}
theorem k9:∀[F:Facts],An (Env.ofS Tryz.prog [] []) noB 1000000 o9=true:=by
 intro F
 kernel_rfl
theorem w9 (G:Nat→D→D):o9.Valid Tryz.prog G:=Cor.last (okE _ []) (w0 G) k9
noncomputable def o10:Orc:=
 {f:=168,args:=[(pN 735)],part:=(no (no (no (no (no (no .nil (no .nil (no .nil (no (lf (.cells 12 (nd (pN 734) d6 ig))) .nil)))) .nil) .nil) .nil) .nil) (no .nil (no Asg (no .nil (no .nil (no (no .nil (no .nil (no (lf (.cells 3 (nd SQ Hk AQ))) .nil))) .nil)))))),nx:=736,ok:=true,v:=Api,out:=(no (no (no Apt Ara) Ak2) (no Asd (no yr (no .nil (no .nil (no (no mF Arn) .nil)))))),nx':=1887,wr:=[734,735]}
theorem k10:∀[F:Facts],BF (Env.ofS Tryz.prog [] []) o9.base 1716 o10=true:=by
 intro F
 kernel_rfl
theorem w10 (G:Nat→D→D):o10.Valid Tryz.prog G:=Orc.first (okE _ []) (w0 G) (w9 G) k10
noncomputable def o11:Orc:=
 {f:=74,args:=[(.str 416 y7)],part:=.nil,nx:=36,ok:=true,v:=(.tuple [(.agg [(.str 5 y33),(.slice 1858 0 5 2),(.str 6 AY)]),(.slice 1627 0 15 5),(.agg [(iN 0),(iN 0)]),(iN 0)]),out:=(no (no (no (no (no .nil Arw) .nil) Ara) Ak2) (no Asd (no yr (no .nil (no .nil Ad8))))),nx':=2257,wr:=[]}
theorem k11:∀[F:Facts],Ap (Env.ofS Tryz.prog [o10,o8] []) 1000000 o11=true:=by
 intro F
 kernel_rfl
theorem w11 (G:Nat→D→D):o11.Valid Tryz.prog G:=Ai.val (okE _ []) (.cons (w10 G) (.cons (w8 G) (w0 G))) k11
end Go.Proofs.YtmjeljjkhblgeaaGreatDoor.familyDefines

