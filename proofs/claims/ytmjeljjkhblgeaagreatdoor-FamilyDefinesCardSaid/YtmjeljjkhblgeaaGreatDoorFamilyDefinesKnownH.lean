/- What is proved: that certain calls which the law FamilyDefines makes come to the results that are written here (part 8 of 16). Conditions: the memory that such a call reaches is as written here; the kernel runs the evaluator over each. -/
import Derived.Test.YtmjeljjkhblgeaaGreatDoorFamilyDefinesKnownA
import Derived.Test.YtmjeljjkhblgeaaGreatDoorFamilyDefinesKnownB
import Derived.Test.YtmjeljjkhblgeaaGreatDoorFamilyDefinesKnownC
set_option linter.unusedVariables false
set_option linter.unusedSectionVars false
set_option linter.unusedSimpArgs false
namespace Go.Proofs.YtmjeljjkhblgeaaGreatDoor.familyDefines
open Go.AE
noncomputable def Aqa:Orc:=o11.move 4070
theorem Au6 (G:Nat→D→D):Aqa.Valid Tryz.prog G:=Orc.Valid.move (w11 G) (by kernel_rfl) 4070
noncomputable def f6:Orc:=
 {f:=16,args:=[(.str 5 y33)],part:=.nil,nx:=4096,ok:=true,v:=(.tuple [(.agg [(.str 5 y33),(.slice 5928 0 5 2),(.str 6 AY)]),(iN 0)]),out:=(no (no (no .nil (no Af9 .nil)) (no (no .nil (no .nil (no .nil Aln))) (no Aod .nil))) (no Ahs (no .nil (no Ahy .nil)))),nx':=6331,wr:=[]}
theorem Aut:∀[F:Facts],Ap (Env.ofS Tryz.prog [Aqa] []) 1000000 f6=true:=by
 intro F
 kernel_rfl
theorem Aoa (G:Nat→D→D):f6.Valid Tryz.prog G:=Ai.val (okE _ []) (.cons (Au6 G) (w0 G)) Aut
noncomputable def aF:Orc:=
 {f:=20,args:=[(iN 2)],part:=.nil,nx:=8192,ok:=true,v:=(.agg [(.str 5 y33),(.slice 8285 0 5 2),(.str 6 AY)]),out:=Aq4,nx':=8426,wr:=[]}
theorem Avn:∀[F:Facts],Ap (Env.ofS Tryz.prog [] []) 1000000 aF=true:=by
 intro F
 kernel_rfl
theorem Adn (G:Nat→D→D):aF.Valid Tryz.prog G:=Ai.val (okE _ []) (w0 G) Avn
noncomputable def Apy:Orc:=
 {f:=40,args:=[(.slice 8810 0 4 1),(.str 1 32)],part:=(no .nil (no .nil (no (no .nil (no (no .nil (no .nil (no (no (no .nil (no (no (no (lf (.cells 4 (nd y48 (nd y49 (lf y52) .nil) OC))) .nil) .nil) .nil)) .nil) .nil))) .nil)) .nil))),nx:=8811,ok:=true,v:=(.str 15 291786636787147624871576788832382581),out:=.nil,nx':=8811,wr:=[]}
theorem Ax9 (G:Nat→D→D):Apy.Valid Tryz.prog G:=Orc.Valid.join Av Ak (by kernel_rfl)
noncomputable def Afz:Orc:=
 {f:=40,args:=[(.slice 8820 0 4 1),(.str 1 32)],part:=(no .nil (no (no .nil (no (no .nil (no .nil (no .nil (no (no (no .nil (no (no (no (lf (.cells 4 (nd y48 (nd y49 H9 .nil) OC))) .nil) .nil) .nil)) .nil) .nil)))) .nil)) .nil)),nx:=8821,ok:=true,v:=(.str 14 1099142347611884355564783401201269),out:=.nil,nx':=8821,wr:=[]}
theorem Aw3 (G:Nat→D→D):Afz.Valid Tryz.prog G:=Orc.Valid.join Av Ak (by kernel_rfl)
noncomputable def Ajj:Orc:=
 {f:=40,args:=[(.slice 8836 0 3 1),(.str 1 32)],part:=(no .nil (no (no .nil (no (no (no Aff .nil) .nil) .nil)) .nil)),nx:=8837,ok:=true,v:=Nq,out:=.nil,nx':=8837,wr:=[]}
theorem ABi (G:Nat→D→D):Ajj.Valid Tryz.prog G:=Orc.Valid.join Av Ak (by kernel_rfl)
noncomputable def Arc:Orc:=
 {f:=40,args:=[(.slice 8847 0 3 1),(.str 1 32)],part:=(no (no (no (no (no .nil (no (no (no .nil (no (no .nil (no Agx .nil)) .nil)) .nil) .nil)) .nil) .nil) .nil) .nil),nx:=8848,ok:=true,v:=Aqr,out:=.nil,nx':=8848,wr:=[]}
theorem ABu (G:Nat→D→D):Arc.Valid Tryz.prog G:=Orc.Valid.join Av Ak (by kernel_rfl)
noncomputable def Aju:Orc:=
 {f:=40,args:=[(.slice 8868 0 2 1),(.str 1 32)],part:=(no .nil (no Am6 .nil)),nx:=8869,ok:=true,v:=Nu,out:=.nil,nx':=8869,wr:=[]}
theorem Avq (G:Nat→D→D):Aju.Valid Tryz.prog G:=Orc.Valid.join Av Ak (by kernel_rfl)
noncomputable def Alx:Orc:=
 {f:=40,args:=[(.slice 8884 0 3 1),(.str 1 32)],part:=(no .nil (no (no .nil (no (no .nil (no .nil Aff)) .nil)) .nil)),nx:=8885,ok:=true,v:=Nq,out:=.nil,nx':=8885,wr:=[]}
theorem AAq (G:Nat→D→D):Alx.Valid Tryz.prog G:=Orc.Valid.join Av Ak (by kernel_rfl)
noncomputable def Ap5:Orc:=
 {f:=40,args:=[(.slice 8899 0 3 1),(.str 1 32)],part:=(no (no (no .nil (no (no (no (no .nil (no .nil (no (no .nil (no Ap8 .nil)) .nil))) .nil) .nil) .nil)) .nil) .nil),nx:=8900,ok:=true,v:=Ar1,out:=.nil,nx':=8900,wr:=[]}
theorem Aw7 (G:Nat→D→D):Ap5.Valid Tryz.prog G:=Orc.Valid.join Av Ak (by kernel_rfl)
noncomputable def Aim:Orc:=
 {f:=40,args:=[(.slice 8910 0 4 1),(.str 1 32)],part:=(no .nil (no .nil (no .nil (no .nil (no (no (no .nil (no .nil (no (no .nil (no (no (no (lf (.cells 4 (nd y48 (nd y49 zD .nil) OC))) .nil) .nil) .nil)) .nil))) .nil) .nil))))),nx:=8911,ok:=true,v:=(.str 15 250207776327824214766822517240000117),out:=.nil,nx':=8911,wr:=[]}
theorem At0 (G:Nat→D→D):Aim.Valid Tryz.prog G:=Orc.Valid.join Av Ak (by kernel_rfl)
noncomputable def Afq:Orc:=
 {f:=40,args:=[(.slice 8925 0 3 1),(.str 1 32)],part:=(no (no .nil (no .nil (no .nil (no .nil (no (no .nil (no .nil (no (no .nil (no (no (no (lf (.cells 3 (nd y66 H9 (lf (.str 4 892218929))))) .nil) .nil) .nil)) .nil))) .nil))))) .nil),nx:=8926,ok:=true,v:=(.str 12 16458534243303329873315916149),out:=.nil,nx':=8926,wr:=[]}
theorem Axj (G:Nat→D→D):Afq.Valid Tryz.prog G:=Orc.Valid.join Av Ak (by kernel_rfl)
noncomputable def Akz:Orc:=
 {f:=40,args:=[(.slice 8949 0 12 1),(.str 1 32)],part:=(no (no .nil (no .nil (no (no .nil (no .nil (no .nil (no .nil (no (no .nil (no (no (no (lf (.cells 12 (nd Ps (nd Je (nd (.str 5 249949990449) (lf Ajh) g6) (nd Aq5 Ahm .nil)) (nd y42 (nd (.str 8 4284176025135441234) (lf (.str 4 996893505)) .nil) (nd (.str 6 65332415786050) (lf (.str 6 65371221877062)) .nil))))) .nil) .nil) .nil)) .nil))))) .nil))) .nil),nx:=8950,ok:=true,v:=(.str 65 1677664130903959242923644301597633705890101219008209484934564504758859063321626346130742961227845118568304062160484595788712949337504213561065383686168340579),out:=.nil,nx':=8950,wr:=[]}
theorem Azw (G:Nat→D→D):Akz.Valid Tryz.prog G:=Orc.Valid.join Av Ak (by kernel_rfl)
noncomputable def Amj:Orc:=
 {f:=40,args:=[(.slice 8955 0 23 1),(.str 1 10)],part:=(no (no (no .nil (no .nil (no .nil (no .nil (no .nil (no .nil (no (no .nil (no (no (no (lf (ceL 23 [[(.str 15 308686027354189264135589922255893104),Ar6,(.str 24 1452058303990340039181614905790708184407926311641961340960),(.str 23 5671352904529937896865742801675699517577221526715703328),y60,(.str 15 639310058894207651736969948505007469),Aq8,Alh,aM,y60],[(.str 13 9755097333347149886062897358189),Aq8,y60,(.str 15 639310774740237051181466412712682861),(.str 21 86549329943510062745520247530400962892403791044640),(.str 26 95111827252351494957370214330806010629029488742104897502191648),y60,gH,(.str 19 1320376632256132104398628029819197747350151200),(.str 74 3766625824714198578041653520014422140664384939053603783354918304755418199628235752372362957133776416281814917270946363127421595132944113471232478460876354194546845409736954880032)],[y60,ej,Ad]])) .nil) .nil) .nil)) .nil))))))) .nil) .nil),nx:=8956,ok:=true,v:=y8,out:=.nil,nx':=8956,wr:=[]}
theorem Au0 (G:Nat→D→D):Amj.Valid Tryz.prog G:=Orc.Valid.join Av Ak (by kernel_rfl)
noncomputable def kE:Orc:=
 {f:=19,args:=[(.agg [(.str 5 y33),(.slice 8285 0 5 2),(.str 6 AY)])],part:=Aq4,nx:=8426,ok:=true,v:=(.tuple [(.str 416 y7),(iN 0)]),out:=.nil,nx':=8956,wr:=[]}
theorem Awn:∀[F:Facts],Ap (Env.ofS Tryz.prog [Amj,Akz,Afq,Aim,Ap5,Alx,Aju,Arc,Ajj,Afz,Apy] []) 1000000 kE=true:=by
 intro F
 kernel_rfl
theorem At2 (G:Nat→D→D):kE.Valid Tryz.prog G:=Ai.val (okE _ []) (.cons (Au0 G) (.cons (Azw G) (.cons (Axj G) (.cons (At0 G) (.cons (Aw7 G) (.cons (AAq G) (.cons (Avq G) (.cons (ABu G) (.cons (ABi G) (.cons (Aw3 G) (.cons (Ax9 G) (w0 G)))))))))))) Awn
noncomputable def xZ:Orc:=aF.move 4096
theorem Au7 (G:Nat→D→D):xZ.Valid Tryz.prog G:=Orc.Valid.move (Adn G) (by kernel_rfl) 4096
noncomputable def lS:Orc:=
 {f:=18,args:=[(.agg [(.str 5 y33),(.slice 5928 0 5 2),(.str 6 AY)]),(.agg [(.str 5 y33),(.slice 12381 0 5 2),(.str 6 AY)])],part:=(no (no (no .nil (no Af9 (no .nil (no (no .nil (no (no (no (no (no (no .nil (lf (ceL 30 [bY,Pj,[(iN 0),(iN 0),(iN 0),.slice0,Ad,Je,Ad,(.slice 12377 0 4 3),(iN 0),(iN 0)]]))) .nil) .nil) .nil) .nil) .nil)) .nil)))) (no (no .nil (no Abm (no (no .nil (no (no (no (no (no Alg .nil) .nil) .nil) .nil) .nil)) Aln))) (no Aod (no .nil (no (no .nil (no (no (no (no (no (no .nil (lf (.cells 10 (nd y41 (nd (.slice 12354 0 2 15) (nd (.slice 12362 0 3 15) (lf (.slice 12370 0 2 15)) .nil) (nd (.slice 12366 0 1 15) (lf (.slice 12379 0 2 15)) .nil)) cK)))) .nil) .nil) .nil) .nil) .nil)) .nil))))) (no Ahs (no (no (no (no (no .nil (no (no (no (no (no Aoo .nil) .nil) .nil) .nil) .nil)) .nil) (no (no .nil (no (no (no (no (no (no .nil Ahd) .nil) .nil) .nil) .nil) .nil)) .nil)) (no (no (no .nil (no (no (no (no (no (no .nil (lf (ceL 45 [Yd,EV,bS,[y78,(iN 4),(iN 0),y21,y21,(iN 0),(iN 0),(iN 0),(.slice 12361 0 1 2),Ad],Bz]))) .nil) .nil) .nil) .nil) .nil)) .nil) .nil)) (no Ahy (no (no (no .nil (no (no (no (no (no (no .nil Apc) .nil) .nil) .nil) .nil) .nil)) .nil) .nil))))),nx:=12522,ok:=true,v:=y13,out:=.nil,nx':=12574,wr:=[]}
theorem Axf:∀[F:Facts],Ap (Env.ofS Tryz.prog [] []) 1000000 lS=true:=by
 intro F
 kernel_rfl
theorem Ay2 (G:Nat→D→D):lS.Valid Tryz.prog G:=Ai.val (okE _ []) (w0 G) Axf
noncomputable def Aa0:Orc:=f6.move 12288
theorem Ay6 (G:Nat→D→D):Aa0.Valid Tryz.prog G:=Orc.Valid.move (Aoa G) (by kernel_rfl) 12288
noncomputable def Aad:Orc:=aF.move 12288
theorem Av9 (G:Nat→D→D):Aad.Valid Tryz.prog G:=Orc.Valid.move (Adn G) (by kernel_rfl) 12288
noncomputable def mP:Orc:=
 {f:=18,args:=[(.agg [(.str 5 y33),(.slice 18216 0 5 2),(.str 6 AY)]),(.agg [(.str 5 y33),(.slice 20573 0 5 2),(.str 6 AY)])],part:=(no (no (no .nil (no (no (no (no (no (no .nil (no .nil (no .nil Aky))) .nil) .nil) .nil) (no (no (no .nil (no (no (no .nil (no (no (no (lf (ceL 45 [Yd,EV,bS,[y78,(iN 4),(iN 0),y21,y21,(iN 0),(iN 0),(iN 0),(.slice 17542 0 1 2),Ad],Bz])) .nil) .nil) .nil)) .nil) .nil)) .nil) .nil)) (no .nil (no (no .nil (no (no (no (no (no (no .nil (no (lf (ceL 30 [bY,Pj,[(iN 0),(iN 0),(iN 0),.slice0,Ad,Je,Ad,(.slice 20569 0 4 3),(iN 0),(iN 0)]])) .nil)) .nil) .nil) .nil) .nil) .nil)) .nil)))) (no (no .nil (no (no Arl .nil) (no (no .nil (no (no (no (no (no Ain .nil) .nil) .nil) .nil) .nil)) (no .nil (no (no .nil (no .nil Af7)) .nil))))) (no (no .nil (no (no (no (no .nil (no .nil (no .nil (no (no (no (lf (ceL 30 [bY,Pj,[(iN 0),(iN 0),(iN 0),.slice0,Ad,Je,Ad,(.slice 18179 0 4 3),(iN 0),(iN 0)]])) .nil) .nil) .nil)))) .nil) .nil) .nil)) (no .nil (no (no .nil (no (no (no (no (no (no .nil (no (lf (.cells 10 (nd y41 (nd (.slice 20546 0 2 15) (nd (.slice 20554 0 3 15) (lf (.slice 20562 0 2 15)) .nil) (nd (.slice 20558 0 1 15) (lf (.slice 20571 0 2 15)) .nil)) cK))) .nil)) .nil) .nil) .nil) .nil) .nil)) .nil))))) (no (no (no .nil (no (no .nil (no (no (no .nil (no .nil (no .nil (no (no (no (lf (.cells 10 (nd y41 (nd (.slice 17273 0 2 15) (nd (.slice 17555 0 3 15) (lf (.slice 17848 0 2 15)) .nil) (nd (.slice 17668 0 1 15) (lf (.slice 18197 0 2 15)) .nil)) cK))) .nil) .nil) .nil)))) .nil) .nil)) (no .nil (no (no .nil (no .nil (no (no .nil Akm) .nil))) .nil)))) (no (no (no (no (no (no .nil (no (no .nil Ago) .nil)) .nil) .nil) .nil) .nil) .nil)) (no (no (no (no (no .nil (no (no (no (no (no (no .nil Ahc) .nil) .nil) .nil) .nil) .nil)) .nil) (no (no .nil (no (no (no (no Ap6 .nil) .nil) .nil) .nil)) .nil)) (no (no (no .nil (no (no (no (no (no (no .nil (no (lf (ceL 45 [Yd,EV,bS,[y78,(iN 4),(iN 0),y21,y21,(iN 0),(iN 0),(iN 0),(.slice 20553 0 1 2),Ad],Bz])) .nil)) .nil) .nil) .nil) .nil) .nil)) .nil) .nil)) (no (no (no (no Alw .nil) .nil) .nil) (no (no (no .nil (no (no Ad8 .nil) .nil)) .nil) .nil))))),nx:=20714,ok:=true,v:=y13,out:=.nil,nx':=20766,wr:=[]}
theorem Awd:∀[F:Facts],Ap (Env.ofS Tryz.prog [] []) 1000000 mP=true:=by
 intro F
 kernel_rfl
theorem Ayj (G:Nat→D→D):mP.Valid Tryz.prog G:=Ai.val (okE _ []) (w0 G) Awd
noncomputable def zA:Orc:=o16.move 102395
theorem ABv (G:Nat→D→D):zA.Valid Tryz.prog G:=Orc.Valid.move (w16 G) (by kernel_rfl) 102395
end Go.Proofs.YtmjeljjkhblgeaaGreatDoor.familyDefines

