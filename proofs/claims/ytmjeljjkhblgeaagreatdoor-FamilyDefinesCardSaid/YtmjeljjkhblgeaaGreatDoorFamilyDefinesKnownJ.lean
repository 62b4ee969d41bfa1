/- What is proved: that certain calls which the law FamilyDefines makes come to the results that are written here (part 10 of 16). Conditions: the memory that such a call reaches is as written here; the kernel runs the evaluator over each. -/
import Derived.Test.YtmjeljjkhblgeaaGreatDoorFamilyDefinesKnownA
import Derived.Test.YtmjeljjkhblgeaaGreatDoorFamilyDefinesKnownC
import Derived.Test.YtmjeljjkhblgeaaGreatDoorFamilyDefinesKnownI
set_option linter.unusedVariables false
set_option linter.unusedSectionVars false
set_option linter.unusedSimpArgs false
namespace Go.Proofs.YtmjeljjkhblgeaaGreatDoor.familyDefines
open Go.AE
noncomputable def yk:Cor:=
 {f:=168,nt:=83,td:=(Aj (Env.of Tryz.prog) 168 4),tmps:=(nd (pN 4962) (nd (pN 4963) (nd (pN 6050) (nd (pN 4962) (nd (pN 4962) (lf (.slice 6051 0 1 5)) .nil) (nd (iN 4) Zn .nil)) (nd (pN 4962) (nd y13 (lf (.ptr 6050 2)) .nil) (nd (pN 4962) tT .nil))) (no nr (nd (pN 4962) sj (nd (.slice 5968 0 15 5) tH .nil)))) (nd (pN 4964) (nd (pN 6453) (nd n5 (nd nB (lf (.slice 6052 0 16 5)) .nil) (nd up tT .nil)) (nd tS (nd (pN 4962) JL .nil) (nd dS (lf (.slice 6454 0 1 2)) .nil))) (no (nd (pN 4962) xl (nd (pN 4962) (lf pV) .nil)) (nd vZ (nd pV (lf (.func (.func 214) [] [(pN 4963),(pN 6050)])) .nil) (nd up jv .nil))))),part:=(no (no (no vQ (no (no (no fw (no sT oG)) .nil) .nil)) (no (no (no (no .nil (no .nil (no (no .nil (no .nil (no (no (lf (.cells 3 (nd (.slice 4957 760 3 5) HO AQ))) .nil) .nil))) .nil))) ag) .nil) (no (no oN (no .nil (no pa .nil))) (no .nil (no sP ph))))) (no (no fF (no (no (no ra (no ez (no (no .nil (no .nil (no (no (lf (.cells 3 (nd Ad tH NY))) .nil) .nil))) .nil))) .nil) UU)) (no (no (no (no .nil (no sT (no (no .nil (no .nil (no (no (lf (.cells 12 (nd (pN 4961) (nd rH EB EC) qW))) .nil) .nil))) .nil))) Z9) Z8) (no (no YV (no .nil (no pa ze))) .nil)))),nx:=6456,ok:=true,v:=iR,out:=(no (no .nil (no (no (no uq .nil) .nil) .nil)) (no .nil (no (no (no sw .nil) .nil) .nil))),nx':=6484,wr:=[4964,4961,4962]}
theorem Au2:∀[F:Facts],An (Env.ofS Tryz.prog [] []) noB 1000000 yk=true:=by
 intro F
 kernel_rfl
theorem Az7 (G:Nat→D→D):yk.Valid Tryz.prog G:=Cor.last (okE _ []) (w0 G) Au2
noncomputable def xP:Cor:=
 {f:=168,nt:=83,td:=(Aj (Env.of Tryz.prog) 168 4),tmps:=(nd (pN 4962) (nd (pN 4963) (nd (pN 5288) (nd (pN 4962) (nd (pN 4962) (lf (.slice 5289 0 1 5)) .nil) (nd (iN 1) iM .nil)) (nd (pN 4962) (nd y13 (lf (.ptr 5288 2)) .nil) (nd (pN 4962) wN .nil))) (no nr (nd (pN 4962) sj (nd (.slice 5201 0 4 5) oC .nil)))) (nd (pN 4964) (nd (pN 5640) (nd n5 (nd nB (lf (.slice 5290 0 5 5)) .nil) (nd wG wN .nil)) (nd tS (nd (pN 4962) nJ .nil) (nd dS (lf (.slice 5641 0 1 2)) .nil))) (no (nd (pN 4962) xl (nd (pN 4962) (lf qk) .nil)) (nd vZ (nd qk (lf (.func (.func 214) [] [(pN 4963),(pN 5288)])) .nil) (nd wG jv .nil))))),part:=(no (no (no (no .nil (no .nil (no .nil (no .nil wF)))) (no (no (no fw (no .nil oG)) .nil) .nil)) (no (no (no (no .nil (no .nil (no (no .nil (no .nil (no (no (lf (.cells 3 (nd (.slice 4957 315 92 5) HO AQ))) .nil) .nil))) .nil))) .nil) oe) (no (no oN .nil) og))) (no (no (no (no .nil (no .nil (no (no .nil (no .nil (no (no .nil (no (lf (ceL 45 [sr,xq,uC,vh,[(iN 11),(iN 3),mX,(iN 1),(iN 3)]])) .nil)) .nil))) .nil))) oe) (no (no (no .nil (no .nil (no (no .nil (no .nil (no (no (lf (.cells 3 (nd Ad oC NY))) .nil) .nil))) .nil))) .nil) UU)) (no (no (no (no .nil (no .nil (no (no .nil (no .nil (no (no (lf (.cells 12 (nd (pN 4961) (nd (.slice 5552 0 9 5) EB EC) qW))) .nil) .nil))) .nil))) .nil) (no (no (no (no (no (no .nil (no .nil (no (lf (.cells 4 (nd Mp (nd rC iM .nil) nJ))) .nil))) .nil) .nil) .nil) qG) .nil)) (no (no YV ql) .nil)))),nx:=5643,ok:=true,v:=iR,out:=(no (no (no (no .nil (no .nil (no .nil (no vB .nil)))) .nil) vP) (no (no fF (no uY .nil)) (no (no rn .nil) .nil))),nx':=6484,wr:=[4964,4961,4962,5642,5552]}
theorem Avh:∀[F:Facts],An (Env.ofS Tryz.prog [] []) yk.base 1242 xP=true:=by
 intro F
 kernel_rfl
theorem AA3 (G:Nat→D→D):xP.Valid Tryz.prog G:=Cor.next (okE _ []) (w0 G) (Az7 G) Avh
noncomputable def yU:Orc:=
 {f:=168,args:=[(pN 4962)],part:=(no (no .nil (no (no (no (no .nil (no .nil (no (no .nil (no .nil (no (no (lf (.cells 3 (nd HB HO AQ))) .nil) .nil))) .nil))) .nil) .nil) ve)) (no .nil (no (no (no (no .nil (no .nil (no (no .nil (no .nil (no (no (lf (.cells 12 (nd (pN 4961) d6 ig))) .nil) .nil))) .nil))) .nil) .nil) .nil))),nx:=4963,ok:=true,v:=iR,out:=(no (no dn vP) (no (no fF vD) (no (no rn Z8) xi))),nx':=6484,wr:=[4961,4962]}
theorem Ato:∀[F:Facts],BF (Env.ofS Tryz.prog [] []) xP.base 1302 yU=true:=by
 intro F
 kernel_rfl
theorem ABq (G:Nat→D→D):yU.Valid Tryz.prog G:=Orc.first (okE _ []) (w0 G) (AA3 G) Ato
noncomputable def yM:Orc:=
 {f:=170,args:=[(.agg [(.str 6 IB),(.slice 6455 0 5 2),(.str 6 AY)])],part:=ux,nx:=6486,ok:=true,v:=(.tuple [(pN 6491),(.agg [(iN 0),(iN 0),(iN 0)]),(.bool false)]),out:=(no (no (no .nil (no .nil (no .nil (no (no .nil (no (no .nil (no (no (no .nil (lf (.cells 9 (nd V1 (nd uI (nd (.map 6489) JL .nil) By) (nd Cu (nd (.map 6490) Zn .nil) By))))) .nil) .nil)) .nil)) .nil)))) (no (no .nil (no .nil (no (no .nil (no (no .nil (no (no (no .nil uf) .nil) .nil)) .nil)) .nil))) .nil)) (no .nil (no (no .nil (no .nil (no (no .nil (no (no .nil (no (no (no .nil pP) .nil) .nil)) .nil)) .nil))) .nil))),nx':=7180,wr:=[]}
theorem Azd:∀[F:Facts],Ap (Env.ofS Tryz.prog [] []) 1000000 yM=true:=by
 intro F
 kernel_rfl
theorem At7 (G:Nat→D→D):yM.Valid Tryz.prog G:=Ai.val (okE _ []) (w0 G) Azd
noncomputable def gI:Orc:=
 {f:=16,args:=[(.str 6 IB)],part:=.nil,nx:=4096,ok:=true,v:=(.tuple [(.agg [(.str 6 IB),(.slice 6455 0 5 2),(.str 6 AY)]),(iN 0)]),out:=ux,nx':=7186,wr:=[]}
theorem Axs:∀[F:Facts],Ap (Env.ofS Tryz.prog [yM,yU,Abs] []) 1000000 gI=true:=by
 intro F
 kernel_rfl
theorem An1 (G:Nat→D→D):gI.Valid Tryz.prog G:=Ai.val (okE _ []) (.cons (At7 G) (.cons (ABq G) (.cons (Auw G) (w0 G)))) Axs
noncomputable def cu:Orc:=
 {f:=20,args:=[(iN 3)],part:=.nil,nx:=8192,ok:=true,v:=(.agg [(.str 6 IB),(.slice 8324 0 5 2),(.str 6 AY)]),out:=ip,nx':=8426,wr:=[]}
theorem Atw:∀[F:Facts],Ap (Env.ofS Tryz.prog [] []) 1000000 cu=true:=by
 intro F
 kernel_rfl
theorem Ab4 (G:Nat→D→D):cu.Valid Tryz.prog G:=Ai.val (okE _ []) (w0 G) Atw
noncomputable def Acn:Orc:=
 {f:=170,args:=[(.agg [(.str 6 IB),(.slice 8324 0 5 2),(.str 6 AY)])],part:=ip,nx:=8430,ok:=true,v:=zM,out:=(no (no (no .nil (no (no .nil (no .nil (no .nil (no .nil (no (no (no (no (no (lf (.cells 9 (nd V1 (nd (.slice 8324 0 5 2) Aao By) (nd Cu (nd TD qM .nil) By)))) .nil) .nil) .nil) .nil) .nil))))) .nil)) (no (no (no .nil (no .nil (no .nil (no .nil (no (no (no (no (no uf .nil) .nil) .nil) .nil) .nil))))) .nil) .nil)) (no .nil (no (no (no .nil (no .nil (no .nil (no .nil (no (no (no (no (no pP .nil) .nil) .nil) .nil) .nil))))) .nil) .nil))),nx':=9124,wr:=[]}
theorem At1:∀[F:Facts],Ap (Env.ofS Tryz.prog [] []) 1000000 Acn=true:=by
 intro F
 kernel_rfl
theorem AAp (G:Nat→D→D):Acn.Valid Tryz.prog G:=Ai.val (okE _ []) (w0 G) At1
noncomputable def Amb:Orc:=
 {f:=40,args:=[(.slice 9137 0 3 1),(.str 1 32)],part:=(no (no .nil (no (no (no .nil (no .nil (no (no .nil (no .nil (no .nil (no (no (no (lf (.cells 3 (nd y66 H9 (lf (.str 5 219885219377))))) .nil) .nil) .nil)))) .nil))) .nil) .nil)) .nil),nx:=9138,ok:=true,v:=(.str 13 4056166367441320511937883040117),out:=.nil,nx':=9138,wr:=[]}
theorem Av5 (G:Nat→D→D):Amb.Valid Tryz.prog G:=Orc.Valid.join Av Ak (by kernel_rfl)
noncomputable def Asy:Orc:=
 {f:=40,args:=[(.slice 9158 0 2 1),(.str 1 32)],part:=(no .nil (no .nil (no .nil (no (no (no wb .nil) .nil) .nil)))),nx:=9159,ok:=true,v:=Nu,out:=.nil,nx':=9159,wr:=[]}
theorem Ayw (G:Nat→D→D):Asy.Valid Tryz.prog G:=Orc.Valid.join Av Ak (by kernel_rfl)
noncomputable def Ag4:Orc:=
 {f:=40,args:=[(.slice 9169 0 3 1),(.str 1 32)],part:=(no (no .nil (no (no (no .nil (no Ak5 .nil)) .nil) .nil)) .nil),nx:=9170,ok:=true,v:=Nq,out:=.nil,nx':=9170,wr:=[]}
theorem Axq (G:Nat→D→D):Ag4.Valid Tryz.prog G:=Orc.Valid.join Av Ak (by kernel_rfl)
noncomputable def Ai3:Orc:=
 {f:=40,args:=[(.slice 9184 0 3 1),(.str 1 32)],part:=(no .nil (no (no (no (no (no .nil (no .nil (no .nil (no .nil (no .nil (no vo .nil)))))) .nil) .nil) .nil) .nil)),nx:=9185,ok:=true,v:=pS,out:=.nil,nx':=9185,wr:=[]}
theorem Axi (G:Nat→D→D):Ai3.Valid Tryz.prog G:=Orc.Valid.join Av Ak (by kernel_rfl)
noncomputable def Ad7:Orc:=
 {f:=40,args:=[(.slice 9205 0 2 1),(.str 1 32)],part:=(no (no .nil (no .nil (no (no .nil (no .nil wb)) .nil))) .nil),nx:=9206,ok:=true,v:=Nu,out:=.nil,nx':=9206,wr:=[]}
theorem Aza (G:Nat→D→D):Ad7.Valid Tryz.prog G:=Orc.Valid.join Av Ak (by kernel_rfl)
noncomputable def Aq2:Orc:=
 {f:=40,args:=[(.slice 9216 0 2 1),(.str 1 32)],part:=(no .nil (no (no (no (no (no (no (no (no (no (no .nil (no (no (lf (.cells 2 (nd Po (lf (.str 7 13563782423785008)) .nil))) .nil) .nil)) .nil) .nil) .nil) .nil) .nil) .nil) .nil) .nil) .nil)),nx:=9217,ok:=true,v:=(.str 14 977373527511882330573211480252790),out:=.nil,nx':=9217,wr:=[]}
theorem Atz (G:Nat→D→D):Aq2.Valid Tryz.prog G:=Orc.Valid.join Av Ak (by kernel_rfl)
noncomputable def Aig:Orc:=
 {f:=40,args:=[(.slice 9237 0 2 1),(.str 1 32)],part:=(no (no .nil (no .nil (no (no .nil (no (no (no (no (no (no .nil (no (no (lf (.cells 2 (nd y81 (lf (.str 8 6730757630687800411)) .nil))) .nil) .nil)) .nil) .nil) .nil) .nil) .nil)) .nil))) .nil),nx:=9238,ok:=true,v:=(.str 14 1894539847342918779008764620339554),out:=.nil,nx':=9238,wr:=[]}
theorem Au9 (G:Nat→D→D):Aig.Valid Tryz.prog G:=Orc.Valid.join Av Ak (by kernel_rfl)
noncomputable def Ari:Orc:=
 {f:=40,args:=[(.slice 9253 0 3 1),(.str 1 32)],part:=(no (no .nil (no .nil (no (no (no .nil (no (no (no (no (no .nil (no (no (lf (.cells 3 (nd y66 H9 (lf (.str 8 3833466210480959025))))) .nil) .nil)) .nil) .nil) .nil) .nil)) .nil) .nil))) .nil),nx:=9254,ok:=true,v:=(.str 16 70714970099955443520623866111836711285),out:=.nil,nx':=9254,wr:=[]}
theorem Ayi (G:Nat→D→D):Ari.Valid Tryz.prog G:=Orc.Valid.join Av Ak (by kernel_rfl)
noncomputable def Aih:Orc:=
 {f:=40,args:=[(.slice 9263 0 3 1),(.str 1 32)],part:=(no (no (no (no (no .nil (no .nil (no (no (no (no (no .nil vo) .nil) .nil) .nil) .nil))) .nil) .nil) .nil) .nil),nx:=9264,ok:=true,v:=pS,out:=.nil,nx':=9264,wr:=[]}
theorem Axd (G:Nat→D→D):Aih.Valid Tryz.prog G:=Orc.Valid.join Av Ak (by kernel_rfl)
noncomputable def Aq6:Orc:=
 {f:=40,args:=[(.slice 9284 0 2 1),(.str 1 32)],part:=(no .nil (no (no .nil (no (no Apa .nil) .nil)) .nil)),nx:=9285,ok:=true,v:=Nu,out:=.nil,nx':=9285,wr:=[]}
theorem At5 (G:Nat→D→D):Aq6.Valid Tryz.prog G:=Orc.Valid.join Av Ak (by kernel_rfl)
noncomputable def Al6:Orc:=
 {f:=40,args:=[(.slice 9299 0 4 1),(.str 1 32)],part:=(no (no (no .nil (no (no .nil (no (no .nil (no (no (no (no .nil (no (no tM .nil) .nil)) .nil) .nil) .nil)) .nil)) .nil)) .nil) .nil),nx:=9300,ok:=true,v:=sy,out:=.nil,nx':=9300,wr:=[]}
theorem ABl (G:Nat→D→D):Al6.Valid Tryz.prog G:=Orc.Valid.join Av Ak (by kernel_rfl)
noncomputable def Ao6:Orc:=
 {f:=40,args:=[(.slice 9314 0 3 1),(.str 1 32)],part:=(no .nil (no .nil (no (no (no (no .nil (no .nil (no (no (no (no .nil (no (no (lf (.cells 3 (nd y66 eH (lf (.str 5 215573474865))))) .nil) .nil)) .nil) .nil) .nil))) .nil) .nil) .nil))),nx:=9315,ok:=true,v:=(.str 12 15533705937176696281229060469),out:=.nil,nx':=9315,wr:=[]}
theorem Ayn (G:Nat→D→D):Ao6.Valid Tryz.prog G:=Orc.Valid.join Av Ak (by kernel_rfl)
noncomputable def Afv:Orc:=
 {f:=40,args:=[(.slice 9324 0 3 1),(.str 1 32)],part:=(no .nil (no (no .nil (no .nil (no (no .nil (no .nil (no Ald .nil))) .nil))) .nil)),nx:=9325,ok:=true,v:=As0,out:=.nil,nx':=9325,wr:=[]}
theorem Axa (G:Nat→D→D):Afv.Valid Tryz.prog G:=Orc.Valid.join Av Ak (by kernel_rfl)
noncomputable def Aic:Orc:=
 {f:=40,args:=[(.slice 9348 0 12 1),(.str 1 32)],part:=(no .nil (no (no .nil (no (no (no (no (no .nil (no (no (no .nil (no (no (lf (.cells 12 (nd Ps (nd Cg (nd (.str 5 249933213233) (lf (.str 5 250050653752)) g6) (nd Aq5 (lf (.str 7 16380735458783793)) .nil)) (nd y42 (nd (.str 8 4284158432831762243) (lf (.str 10 280489834965613467039059)) .nil) (nd (.str 8 4280798342442808656) (lf (.str 5 255138359632)) .nil))))) .nil) .nil)) .nil) .nil)) .nil) .nil) .nil) .nil)) .nil)),nx:=9349,ok:=true,v:=(.str 76 519211896816321674591199158819788466394406979785848627360362507572348741904198930099098815480398844243253109799829734019510067769017844385626184620182437708891723808865157643993311331),out:=.nil,nx':=9349,wr:=[]}
theorem Au1 (G:Nat→D→D):Aic.Valid Tryz.prog G:=Orc.Valid.join Av Ak (by kernel_rfl)
noncomputable def Agh:Orc:=
 {f:=40,args:=[(.slice 9354 0 27 1),(.str 1 10)],part:=(no .nil (no .nil (no (no .nil (no (no (no (no .nil (no (no (no .nil (no (no (lf (ceL 27 [[(.str 16 79023582202346427450322309716368126576),(.str 17 41897870749570910387730429549224677041517),(.str 22 22149343793146535855278122021815606014342614431768608),(.str 23 5686021048438410931133883938603465847136988532415078432),(.str 26 95143286615917584968347971385413198051621408316179479836762144),y60,(.str 17 41897808766843440829727199821287472194925),pJ,pK,(.str 25 371530574480631108729625716637666764115327104405257379913760)],[(.str 26 95395676294542279062501265812787972256978326030221146953097248),y60,(.str 19 2745813751899996820147017671391281967514477933),(.str 23 5670981801504944859053795556506214040414573682271789088),pJ,pK,y60,(.str 14 2497303692884790231712652804187501),vN,y60],[gH,(.str 21 86515142900462633272647080961948792059242201423904),(.str 22 22152261087430086544185342842293576245831933324828704),(.str 85 1165714230295728792180551778811090476737339908892583113992989750894618175255709918599353370524037856117753693464825405293095825016159941400135644519029707200306075667916566745090710219158993719055653937184),y60,ej,Ad]])) .nil) .nil)) .nil) .nil)) .nil) .nil) .nil)) .nil))),nx:=9355,ok:=true,v:=Fv,out:=.nil,nx':=9355,wr:=[]}
theorem Axg (G:Nat→D→D):Agh.Valid Tryz.prog G:=Orc.Valid.join Av Ak (by kernel_rfl)
noncomputable def md:Orc:=
 {f:=19,args:=[(.agg [(.str 6 IB),(.slice 8324 0 5 2),(.str 6 AY)])],part:=ip,nx:=8426,ok:=true,v:=(.tuple [(.str 524 Alz),(iN 0)]),out:=.nil,nx':=9355,wr:=[]}
theorem Ay5:∀[F:Facts],Ap (Env.ofS Tryz.prog [Agh,Aic,Afv,Ao6,Al6,Aq6,Aih,Ari,Aig,Aq2,Ad7,Ai3,Ag4,Asy,Amb,Acn] []) 1000000 md=true:=by
 intro F
 kernel_rfl
theorem AAt (G:Nat→D→D):md.Valid Tryz.prog G:=Ai.val (okE _ []) (.cons (Axg G) (.cons (Au1 G) (.cons (Axa G) (.cons (Ayn G) (.cons (ABl G) (.cons (At5 G) (.cons (Axd G) (.cons (Ayi G) (.cons (Au9 G) (.cons (Atz G) (.cons (Aza G) (.cons (Axi G) (.cons (Axq G) (.cons (Ayw G) (.cons (Av5 G) (.cons (AAp G) (w0 G))))))))))))))))) Ay5
noncomputable def Aci:Orc:=cu.move 4096
theorem AAn (G:Nat→D→D):Aci.Valid Tryz.prog G:=Orc.Valid.move (Ab4 G) (by kernel_rfl) 4096
noncomputable def mQ:Orc:=
 {f:=18,args:=[(.agg [(.str 6 IB),(.slice 6455 0 5 2),(.str 6 AY)]),(.agg [(.str 6 IB),(.slice 12420 0 5 2),(.str 6 AY)])],part:=(no (no dn (no (no (no ge ag) ia) (no (no .nil (no .nil (no .nil (no (no (no (no (no (no .nil (lf (ceL 45 [Ty,EV,UM,[PF,(iN 4),(iN 0),y21,y21,(iN 0),(iN 0),(iN 0),(.slice 12404 0 1 2),Ad],Bz]))) .nil) .nil) .nil) .nil) .nil)))) (no (no .nil (no .nil (no (no (no (no (no (no .nil qY) .nil) .nil) .nil) .nil) .nil))) nj)))) (no (no (no (no (no (no (no .nil (no (no xz .nil) .nil)) .nil) .nil) .nil) (no .nil (no .nil (no .nil rO)))) (no (no (no (no (no gQ (no (no (no (no (no .nil (lf (.cells 10 (nd Mp (nd (.slice 12388 0 3 15) (nd (.slice 12398 0 4 15) (lf (.slice 12408 0 1 15)) .nil) (nd (.slice 12405 0 3 15) (lf (.slice 12418 0 3 15)) .nil)) Tw)))) .nil) .nil) .nil) .nil)) .nil) (no ez (no (no (no (no (no (no .nil (lf (ceL 45 [S7,V2,[(iN 0),(iN 0),(iN 0),(.slice 12385 0 1 2),Ad,Ad,Ad,.slice0,(iN 0),(iN 0)],TP,Bz]))) .nil) .nil) .nil) .nil) .nil))) ge) UU)) (no (no (no (no (no (no .nil (no (no (no (no (no .nil (lf (ceL 45 [Vb,V3,Te,HF,[Cg,Ad,(.slice 12416 0 4 3),(iN 0),(iN 0)]]))) .nil) .nil) .nil) .nil)) .nil) .nil) Z9) Z8) (no rR (no (no .nil (no .nil (no (no (no (no (no (no .nil (lf (ceL 60 [TJ,We,[(iN 0),(iN 0),(iN 0),(.slice 12393 0 1 2),Ad,Ad,Ad,.slice0,(iN 0),(iN 0)],T5,Uq,[(iN 0),(iN 0),(iN 0),(.slice 12397 0 1 2),Ad,Ad,Ad,.slice0,(iN 0),(iN 0)]]))) .nil) .nil) .nil) .nil) .nil))) .nil))))),nx:=12522,ok:=true,v:=y13,out:=.nil,nx':=12590,wr:=[]}
theorem ABo:∀[F:Facts],Ap (Env.ofS Tryz.prog [] []) 1000000 mQ=true:=by
 intro F
 kernel_rfl
theorem Ay9 (G:Nat→D→D):mQ.Valid Tryz.prog G:=Ai.val (okE _ []) (w0 G) ABo
noncomputable def Ac5:Orc:=gI.move 12288
theorem Au8 (G:Nat→D→D):Ac5.Valid Tryz.prog G:=Orc.Valid.move (An1 G) (by kernel_rfl) 12288
noncomputable def Aco:Orc:=cu.move 12288
theorem Ate (G:Nat→D→D):Aco.Valid Tryz.prog G:=Orc.Valid.move (Ab4 G) (by kernel_rfl) 12288
noncomputable def kx:Orc:=
 {f:=18,args:=[(.agg [(.str 6 IB),(.slice 18743 0 5 2),(.str 6 AY)]),(.agg [(.str 6 IB),(.slice 20612 0 5 2),(.str 6 AY)])],part:=(no (no (no (no .nil (no .nil (no .nil (no (no (no .nil (no (no (no .nil (no (no (lf (.cells 10 (nd Mp (nd (.slice 17539 0 3 15) (nd (.slice 17911 0 4 15) (lf (.slice 18301 0 1 15)) .nil) (nd (.slice 18193 0 3 15) (lf (.slice 18724 0 3 15)) .nil)) Tw))) .nil) .nil)) .nil) .nil)) .nil) (no .nil (no .nil (no (no .nil (no (no (no (lf (ceL 60 [TJ,We,[(iN 0),(iN 0),(iN 0),(.slice 17734 0 1 2),Ad,Ad,Ad,.slice0,(iN 0),(iN 0)],T5,Uq,[(iN 0),(iN 0),(iN 0),(.slice 17898 0 1 2),Ad,Ad,Ad,.slice0,(iN 0),(iN 0)]])) .nil) .nil) .nil)) .nil))))))) (no (no (no (no (no .nil (no (no (no .nil (no (no (no (lf (ceL 45 [S7,V2,[(iN 0),(iN 0),(iN 0),(.slice 17452 0 1 2),Ad,Ad,Ad,.slice0,(iN 0),(iN 0)],TP,Bz])) .nil) .nil) .nil)) .nil) .nil)) .nil) .nil) .nil) .nil)) (no (no (no dz (no (no (no (no .nil (no .nil (no .nil (no (no (no (lf (ceL 45 [Ty,EV,UM,[PF,(iN 4),(iN 0),y21,y21,(iN 0),(iN 0),(iN 0),(.slice 18180 0 1 2),Ad],Bz])) .nil) .nil) .nil)))) .nil) .nil) .nil)) (no dz .nil)) (no (no .nil (no .nil (no .nil (no (no (no (no (no (no .nil (no (lf (ceL 45 [Ty,EV,UM,[PF,(iN 4),(iN 0),y21,y21,(iN 0),(iN 0),(iN 0),(.slice 20596 0 1 2),Ad],Bz])) .nil)) .nil) .nil) .nil) .nil) .nil)))) (no (no .nil (no .nil (no (no (no (no qj .nil) .nil) .nil) .nil))) (no .nil (no .nil (no (no .nil (no .nil (no .nil xa))) .nil))))))) (no (no (no (no (no (no (no .nil (no (no (no (no (no .nil wl) .nil) .nil) .nil) .nil)) .nil) .nil) .nil) (no .nil (no .nil (no .nil (no (no (no (no tn .nil) .nil) .nil) .nil))))) (no (no (no (no (no (no .nil Aql) (no (no (no (no (no .nil (no (lf (.cells 10 (nd Mp (nd (.slice 20580 0 3 15) (nd (.slice 20590 0 4 15) (lf (.slice 20600 0 1 15)) .nil) (nd (.slice 20597 0 3 15) (lf (.slice 20610 0 3 15)) .nil)) Tw))) .nil)) .nil) .nil) .nil) .nil)) .nil) (no (no (no .nil (no (no (no .nil (no (no (lf (ceL 45 [Vb,V3,Te,HF,[Cg,Ad,(.slice 18706 0 4 3),(iN 0),(iN 0)]])) .nil) .nil)) .nil) .nil)) .nil) (no (no (no (no (no (no .nil (no (lf (ceL 45 [S7,V2,[(iN 0),(iN 0),(iN 0),(.slice 20577 0 1 2),Ad,Ad,Ad,.slice0,(iN 0),(iN 0)],TP,Bz])) .nil)) .nil) .nil) .nil) .nil) .nil))) dz) (no (no .nil (no (no Aj8 .nil) .nil)) .nil))) (no (no (no (no (no (no .nil (no (no (no (no (no .nil (no (lf (ceL 45 [Vb,V3,Te,HF,[Cg,Ad,(.slice 20608 0 4 3),(iN 0),(iN 0)]])) .nil)) .nil) .nil) .nil) .nil)) .nil) .nil) (no (no (no (no .nil (no (no (no .nil pb) .nil) .nil)) .nil) .nil) .nil)) (no (no .nil (no .nil (no .nil (no .nil (no (no .nil ny) .nil))))) .nil)) (no (no (no (no .nil (no (no .nil Ao7) .nil)) .nil) .nil) (no (no .nil (no .nil (no (no (no (no (no (no .nil (no (lf (ceL 60 [TJ,We,[(iN 0),(iN 0),(iN 0),(.slice 20585 0 1 2),Ad,Ad,Ad,.slice0,(iN 0),(iN 0)],T5,Uq,[(iN 0),(iN 0),(iN 0),(.slice 20589 0 1 2),Ad,Ad,Ad,.slice0,(iN 0),(iN 0)]])) .nil)) .nil) .nil) .nil) .nil) .nil))) .nil))))),nx:=20714,ok:=true,v:=y13,out:=.nil,nx':=20782,wr:=[]}
theorem Atf:∀[F:Facts],Ap (Env.ofS Tryz.prog [] []) 1000000 kx=true:=by
 intro F
 kernel_rfl
theorem Aua (G:Nat→D→D):kx.Valid Tryz.prog G:=Ai.val (okE _ []) (w0 G) Atf
noncomputable def Act:Orc:=o16.move 102395
theorem At8 (G:Nat→D→D):Act.Valid Tryz.prog G:=Orc.Valid.move (w16 G) (by kernel_rfl) 102395
end Go.Proofs.YtmjeljjkhblgeaaGreatDoor.familyDefines

