/- What is proved: that certain calls which the law FamilyDefines makes come to the results that are written here (part 7 of 16). Conditions: the memory that such a call reaches is as written here; the kernel runs the evaluator over each. -/
import Derived.Test.YtmjeljjkhblgeaaGreatDoorFamilyDefinesKnownA
import Derived.Test.YtmjeljjkhblgeaaGreatDoorFamilyDefinesKnownC
import Derived.Test.YtmjeljjkhblgeaaGreatDoorFamilyDefinesKnownF
set_option linter.unusedVariables false
set_option linter.unusedSectionVars false
set_option linter.unusedSimpArgs false
namespace Go.Proofs.YtmjeljjkhblgeaaGreatDoor.familyDefines
open Go.AE
noncomputable def o80:Cor:=
 {f:=168,nt:=83,td:=(Aj (Env.of Tryz.prog) 168 4),tmps:=(nd (pN 4887) (nd (pN 4888) (nd (pN 5321) (nd (pN 4887) (nd (pN 4887) Ao3 .nil) (nd (iN 2) mC .nil)) (nd (pN 4887) Amn (nd (pN 4887) Ape .nil))) (no (nd y18 (nd y18 Adi .nil) (nd (pN 4887) Ajc .nil)) (nd (pN 4887) (nd Apr Adi .nil) (nd (.slice 5234 0 6 5) Ako .nil)))) (nd (pN 4889) (nd (pN 5609) (nd (.slice 4890 0 1 1) (nd (.slice 4907 0 1 1) (lf (.slice 5323 0 7 5)) .nil) (nd Ams Ape .nil)) (nd (.agg [(iN 1),(iN 10),(.str 5 KN),(.int .i64 (.negSucc 0)),(.int .i64 (.negSucc 0))]) (nd (pN 4887) mW .nil) (nd Ajv (lf Am4) .nil))) (no (nd (pN 4887) (nd (pN 4887) (lf Ajv) .nil) (nd (pN 4887) Agl .nil)) (nd (.ptr 4887 2) (nd Abe (lf (.func (.func 214) [] [(pN 4888),(pN 5321)])) .nil) (nd Ams Ajc .nil))))),part:=(no (no (no (no .nil (no .nil (no (no (no (no .nil (no .nil (no (no (lf (.cells 12 (nd (pN 4886) (nd (.slice 5421 0 9 5) EB EC) (nd (iN 1) (nd gq CS .nil) Ub)))) .nil) .nil))) .nil) .nil) .nil))) (no .nil (no (no .nil (no ze (no .nil (no .nil (no (no .nil (no (lf (.cells 6 (nd KO (nd Ali Arj mC) (nd aR mW .nil)))) .nil)) .nil))))) .nil))) (no (no (no lU .nil) (no Aiv (no (no (no (no .nil (no .nil (no (no (lf (.cells 3 (nd Ad Ako NY))) .nil) .nil))) .nil) .nil) .nil))) (no .nil (no (no .nil (no (no (no .nil (no (no .nil (no (lf (ceL 45 [Aie,Afb,Arp,Ajw,[(iN 12),(iN 3),Fw,(iN 2),(iN 1)]])) .nil)) .nil)) .nil) .nil)) .nil)))) (no (no (no .nil (no .nil (no (no (no (no .nil (no .nil (no (no (lf (.cells 1 Adi)) .nil) .nil))) .nil) Aof) .nil))) Agm) (no (no Ae2 (no Aiv (no (no Amu .nil) .nil))) (no (no z6 (no (no (no (no .nil (no .nil (no (no (lf (.cells 3 (nd (.slice 4882 390 62 5) My AQ))) .nil) .nil))) .nil) .nil) .nil)) (no Apj .nil))))),nx:=5612,ok:=true,v:=Ae1,out:=(no (no Alu (no (no (no .nil Ar2) .nil) .nil)) (no .nil (no .nil (no (no .nil Am0) (no .nil Ao5))))),nx':=6222,wr:=[4889,4886,4887,5611,5421]}
theorem k80:∀[F:Facts],An (Env.ofS Tryz.prog [] []) noB 1000000 o80=true:=by
 intro F
 kernel_rfl
theorem w80 (G:Nat→D→D):o80.Valid Tryz.prog G:=Cor.last (okE _ []) (w0 G) k80
noncomputable def o81:Orc:=
 {f:=168,args:=[(pN 4887)],part:=(no (no (no (no .nil (no .nil (no (no (no (no .nil (no .nil (no (no (lf (.cells 12 (nd (pN 4886) d6 ig))) .nil) .nil))) .nil) .nil) .nil))) .nil) .nil) (no .nil (no Ary (no (no .nil (no (no (no (no .nil (no .nil (no (no (lf (.cells 3 (nd PH My AQ))) .nil) .nil))) .nil) .nil) .nil)) .nil)))),nx:=4888,ok:=true,v:=Ae1,out:=(no (no Alu (no (no (no lU Ar2) .nil) .nil)) (no Arr (no .nil (no (no z6 Am0) Aeg)))),nx':=6222,wr:=[4886,4887]}
theorem k81:∀[F:Facts],BF (Env.ofS Tryz.prog [] []) o80.base 1716 o81=true:=by
 intro F
 kernel_rfl
theorem w81 (G:Nat→D→D):o81.Valid Tryz.prog G:=Orc.first (okE _ []) (w0 G) (w80 G) k81
noncomputable def o82:Orc:=
 {f:=170,args:=[(.agg [(.str 5 KN),(.slice 6193 0 4 2),(.str 6 AY)])],part:=Amy,nx:=6224,ok:=true,v:=(.tuple [(pN 6229),(.agg [(iN 0),(iN 0),(iN 0)]),(.bool false)]),out:=(no (no (no .nil (no (no .nil (no (no .nil (no (no (no (no (no .nil Ars) .nil) .nil) .nil) .nil)) .nil)) .nil)) (no .nil (no (no .nil (no (no .nil (no (no (no (no (no .nil (lf (.cells 9 (nd gq (nd (.slice 6193 0 4 2) (nd (.map 6227) JL .nil) By) (nd Cu (nd (.map 6228) Aro .nil) By))))) .nil) .nil) .nil) .nil)) .nil)) .nil))) (no (no .nil (no (no .nil (no (no .nil (no (no (no (no (no .nil Aj3) .nil) .nil) .nil) .nil)) .nil)) .nil)) .nil)),nx':=6743,wr:=[]}
theorem k82:∀[F:Facts],Ap (Env.ofS Tryz.prog [] []) 1000000 o82=true:=by
 intro F
 kernel_rfl
theorem w82 (G:Nat→D→D):o82.Valid Tryz.prog G:=Ai.val (okE _ []) (w0 G) k82
noncomputable def o83:Orc:=
 {f:=16,args:=[(.str 5 KN)],part:=.nil,nx:=4096,ok:=true,v:=(.tuple [(.agg [(.str 5 KN),(.slice 6193 0 4 2),(.str 6 AY)]),(iN 0)]),out:=Amy,nx':=6749,wr:=[]}
theorem k83:∀[F:Facts],Ap (Env.ofS Tryz.prog [o82,o81,o79] []) 1000000 o83=true:=by
 intro F
 kernel_rfl
theorem w83 (G:Nat→D→D):o83.Valid Tryz.prog G:=Ai.val (okE _ []) (.cons (w82 G) (.cons (w81 G) (.cons (w79 G) (w0 G)))) k83
noncomputable def o84:Orc:=
 {f:=20,args:=[(iN 1)],part:=.nil,nx:=8192,ok:=true,v:=(.agg [(.str 5 KN),(.slice 8255 0 4 2),(.str 6 AY)]),out:=Ab9,nx':=8426,wr:=[]}
theorem k84:∀[F:Facts],Ap (Env.ofS Tryz.prog [] []) 1000000 o84=true:=by
 intro F
 kernel_rfl
theorem w84 (G:Nat→D→D):o84.Valid Tryz.prog G:=Ai.val (okE _ []) (w0 G) k84
noncomputable def o85:Orc:=
 {f:=170,args:=[(.agg [(.str 5 KN),(.slice 8255 0 4 2),(.str 6 AY)])],part:=Ab9,nx:=8430,ok:=true,v:=zM,out:=(no (no (no .nil (no (no .nil (no .nil (no .nil (no .nil (no (no (no (no (no (lf (.cells 9 (nd gq (nd (.slice 8255 0 4 2) Aao By) (nd Cu (nd TD Age .nil) By)))) .nil) .nil) .nil) .nil) .nil))))) .nil)) (no (no (no .nil (no .nil (no .nil (no .nil (no (no (no (no (no Ars .nil) .nil) .nil) .nil) .nil))))) .nil) .nil)) (no .nil (no (no (no .nil (no .nil (no .nil (no .nil (no (no (no (no (no Aj3 .nil) .nil) .nil) .nil) .nil))))) .nil) .nil))),nx':=8949,wr:=[]}
theorem k85:∀[F:Facts],Ap (Env.ofS Tryz.prog [] []) 1000000 o85=true:=by
 intro F
 kernel_rfl
theorem w85 (G:Nat→D→D):o85.Valid Tryz.prog G:=Ai.val (okE _ []) (w0 G) k85
noncomputable def o86:Orc:=
 {f:=40,args:=[(.slice 8962 0 3 1),(.str 1 32)],part:=(no .nil (no .nil (no (no (no (no (no (no (no .nil (no .nil (no (no (no (lf (.cells 3 (nd y66 FZ (lf (.str 5 224247295536))))) .nil) .nil) .nil))) .nil) .nil) .nil) .nil) .nil) .nil))),nx:=8963,ok:=true,v:=(.str 12 16158720585845406368560736629),out:=.nil,nx':=8963,wr:=[]}
theorem w86 (G:Nat→D→D):o86.Valid Tryz.prog G:=Orc.Valid.join Av Ak (by kernel_rfl)
noncomputable def o87:Orc:=
 {f:=40,args:=[(.slice 8983 0 2 1),(.str 1 32)],part:=(no (no (no (no .nil (no .nil (no (no (no Art .nil) .nil) .nil))) .nil) .nil) .nil),nx:=8984,ok:=true,v:=Nu,out:=.nil,nx':=8984,wr:=[]}
theorem w87 (G:Nat→D→D):o87.Valid Tryz.prog G:=Orc.Valid.join Av Ak (by kernel_rfl)
noncomputable def o88:Orc:=
 {f:=40,args:=[(.slice 8998 0 4 1),(.str 1 32)],part:=(no .nil (no .nil (no .nil (no (no (no .nil (no (no (no .nil (no .nil (no (no (no (lf (.cells 4 (nd IG (nd BS eH .nil) Wv))) .nil) .nil) .nil))) .nil) .nil)) .nil) .nil)))),nx:=8999,ok:=true,v:=(.str 11 63016385920442334448611171),out:=.nil,nx':=8999,wr:=[]}
theorem w88 (G:Nat→D→D):o88.Valid Tryz.prog G:=Orc.Valid.join Av Ak (by kernel_rfl)
noncomputable def o89:Orc:=
 {f:=40,args:=[(.slice 9009 0 3 1),(.str 1 32)],part:=(no (no .nil (no (no (no .nil (no .nil (no Aqu .nil))) .nil) .nil)) .nil),nx:=9010,ok:=true,v:=yX,out:=.nil,nx':=9010,wr:=[]}
theorem w89 (G:Nat→D→D):o89.Valid Tryz.prog G:=Orc.Valid.join Av Ak (by kernel_rfl)
noncomputable def o90:Orc:=
 {f:=40,args:=[(.slice 9025 0 3 1),(.str 1 32)],part:=(no (no .nil (no (no (no (no (no .nil (no (no .nil (no .nil (no (no (no (lf (.cells 3 (nd y66 FZ (lf (.str 6 57403079798321))))) .nil) .nil) .nil))) .nil)) .nil) .nil) .nil) .nil)) .nil),nx:=9026,ok:=true,v:=(.str 13 4136327820634205905378910038389),out:=.nil,nx':=9026,wr:=[]}
theorem w90 (G:Nat→D→D):o90.Valid Tryz.prog G:=Orc.Valid.join Av Ak (by kernel_rfl)
noncomputable def o91:Orc:=
 {f:=40,args:=[(.slice 9047 0 10 1),(.str 1 32)],part:=(no (no (no (no .nil (no .nil (no (no .nil (no (no .nil (no .nil (no (no (no (lf (.cells 10 (nd Ps (nd y97 (nd (.str 6 63978725060145) (lf (.str 8 4194035642628190773)) .nil) (nd (.str 7 16379653127024949) g6 .nil)) (nd y42 (nd Ai1 (lf Ai1) .nil) (lf (.str 5 255104739668)))))) .nil) .nil) .nil))) .nil)) .nil))) .nil) .nil) .nil),nx:=9048,ok:=true,v:=(.str 59 5960260289226030974481584699106348752538365898567909873990360005413866456896788636716723706737478937195329274329131020219682550453962871367779),out:=.nil,nx':=9048,wr:=[]}
theorem w91 (G:Nat→D→D):o91.Valid Tryz.prog G:=Orc.Valid.join Av Ak (by kernel_rfl)
noncomputable def o92:Orc:=
 {f:=40,args:=[(.slice 9062 0 3 1),(.str 1 32)],part:=(no .nil (no .nil (no .nil (no (no (no .nil (no .nil (no (no .nil (no .nil (no (no (no (lf (.cells 3 (nd y66 FZ (lf (.str 4 841887281))))) .nil) .nil) .nil))) .nil))) .nil) .nil)))),nx:=9063,ok:=true,v:=(.str 11 60664371929061872211224949),out:=.nil,nx':=9063,wr:=[]}
theorem w92 (G:Nat→D→D):o92.Valid Tryz.prog G:=Orc.Valid.join Av Ak (by kernel_rfl)
noncomputable def o93:Orc:=
 {f:=40,args:=[(.slice 9072 0 4 1),(.str 1 32)],part:=(no .nil (no (no (no (no .nil (no .nil (no .nil (no (no .nil (no .nil (no (no (no (lf (.cells 4 (nd IG (nd BS Ahp .nil) Wv))) .nil) .nil) .nil))) .nil)))) .nil) .nil) .nil)),nx:=9073,ok:=true,v:=(.str 11 59389608461598446924492643),out:=.nil,nx':=9073,wr:=[]}
theorem w93 (G:Nat→D→D):o93.Valid Tryz.prog G:=Orc.Valid.join Av Ak (by kernel_rfl)
noncomputable def o94:Orc:=
 {f:=40,args:=[(.slice 9083 0 3 1),(.str 1 32)],part:=(no (no (no .nil (no .nil (no .nil (no .nil (no .nil Aqu))))) .nil) .nil),nx:=9084,ok:=true,v:=yX,out:=.nil,nx':=9084,wr:=[]}
theorem w94 (G:Nat→D→D):o94.Valid Tryz.prog G:=Orc.Valid.join Av Ak (by kernel_rfl)
noncomputable def o95:Orc:=
 {f:=40,args:=[(.slice 9094 0 3 1),(.str 1 32)],part:=(no .nil (no .nil (no .nil (no (no (no (no Amz .nil) .nil) .nil) .nil)))),nx:=9095,ok:=true,v:=Nq,out:=.nil,nx':=9095,wr:=[]}
theorem w95 (G:Nat→D→D):o95.Valid Tryz.prog G:=Orc.Valid.join Av Ak (by kernel_rfl)
noncomputable def o96:Orc:=
 {f:=40,args:=[(.slice 9104 0 3 1),(.str 1 32)],part:=(no .nil (no (no (no (no .nil (no (no (no .nil (no .nil (no .nil (no (no (no (lf (.cells 3 (nd y66 FZ (lf (.str 5 207000317488))))) .nil) .nil) .nil)))) .nil) .nil)) .nil) .nil) .nil)),nx:=9105,ok:=true,v:=(.str 12 14915944843281567576962787701),out:=.nil,nx':=9105,wr:=[]}
theorem w96 (G:Nat→D→D):o96.Valid Tryz.prog G:=Orc.Valid.join Av Ak (by kernel_rfl)
noncomputable def o97:Orc:=
 {f:=40,args:=[(.slice 9125 0 4 1),(.str 1 32)],part:=(no (no .nil (no .nil (no (no (no .nil (no (no .nil (no .nil (no .nil (no (no (no (lf (.cells 4 (nd VZ (nd Ar3 mW .nil) cI))) .nil) .nil) .nil)))) .nil)) .nil) .nil))) .nil),nx:=9126,ok:=true,v:=(.str 22 41318714829682837331746660944937086978848361584748908),out:=.nil,nx':=9126,wr:=[]}
theorem w97 (G:Nat→D→D):o97.Valid Tryz.prog G:=Orc.Valid.join Av Ak (by kernel_rfl)
noncomputable def o98:Orc:=
 {f:=40,args:=[(.slice 9136 0 4 1),(.str 1 32)],part:=(no .nil (no (no (no (no .nil (no .nil (no (no .nil (no .nil (no .nil (no (no (no (lf (.cells 4 (nd IG (nd BS Ab1 .nil) Wv))) .nil) .nil) .nil)))) .nil))) .nil) .nil) .nil)),nx:=9137,ok:=true,v:=(.str 13 4215555917310822394176341962595),out:=.nil,nx':=9137,wr:=[]}
theorem w98 (G:Nat→D→D):o98.Valid Tryz.prog G:=Orc.Valid.join Av Ak (by kernel_rfl)
noncomputable def o99:Orc:=
 {f:=40,args:=[(.slice 9142 0 24 1),(.str 1 10)],part:=(no .nil (no .nil (no .nil (no (no .nil (no .nil (no (no .nil (no .nil (no .nil (no (no (no (lf (ceL 24 [[(.str 15 308403179404870863336023915553059440),(.str 15 639310298418680550237865364973380973),(.str 21 86526672385728944457945108427029529152020569858080),aM,y60,(.str 14 2497303072705918556384181018125677),(.str 20 337992902622131045590748020139971796328959385632),(.str 33 6855806902835085818812583114378358816590137693099749256163574698503831978975264),y60,(.str 16 163663436873036899409359129451831715181)],[(.str 22 22150822510958161659524002479861631888091699568910368),(.str 68 13381743090070475994246922142136743474098656327348390159928586942030757568266926740891557307946108996584278054171053837706194599340508951568022371666261138227732512),y60,gH,(.str 18 5156700372649753816231599073993378933710880),(.str 24 1451381120128253132477605556610337524475175693094822092832),(.str 28 6235320054506779177984374759378951072531106267979111413445296726048),(.str 28 6235310431660774848485652652714439347511060615389682293671379410976),(.str 22 22144959288234202874203036085413183143125442017566752),(.str 34 1761711238705293564727782789132982749862844379589035931207656918449907866138517536)],[(.str 22 22152284011381002322160450075566138367557764790362144),y60,ej,Ad]])) .nil) .nil) .nil)))) .nil))) .nil)))),nx:=9143,ok:=true,v:=Fz,out:=.nil,nx':=9143,wr:=[]}
theorem w99 (G:Nat→D→D):o99.Valid Tryz.prog G:=Orc.Valid.join Av Ak (by kernel_rfl)
noncomputable def m6:Orc:=
 {f:=19,args:=[(.agg [(.str 5 KN),(.slice 8255 0 4 2),(.str 6 AY)])],part:=Ab9,nx:=8426,ok:=true,v:=(.tuple [(.str 477 Aqw),(iN 0)]),out:=.nil,nx':=9143,wr:=[]}
theorem ABk:∀[F:Facts],Ap (Env.ofS Tryz.prog [o99,o98,o97,o96,o95,o94,o93,o92,o91,o90,o89,o88,o87,o86,o85] []) 1000000 m6=true:=by
 intro F
 kernel_rfl
theorem Avt (G:Nat→D→D):m6.Valid Tryz.prog G:=Ai.val (okE _ []) (.cons (w99 G) (.cons (w98 G) (.cons (w97 G) (.cons (w96 G) (.cons (w95 G) (.cons (w94 G) (.cons (w93 G) (.cons (w92 G) (.cons (w91 G) (.cons (w90 G) (.cons (w89 G) (.cons (w88 G) (.cons (w87 G) (.cons (w86 G) (.cons (w85 G) (w0 G)))))))))))))))) ABk
noncomputable def yQ:Orc:=o84.move 4096
theorem AA4 (G:Nat→D→D):yQ.Valid Tryz.prog G:=Orc.Valid.move (w84 G) (by kernel_rfl) 4096
noncomputable def lW:Orc:=
 {f:=18,args:=[(.agg [(.str 5 KN),(.slice 6193 0 4 2),(.str 6 AY)]),(.agg [(.str 5 KN),(.slice 12351 0 4 2),(.str 6 AY)])],part:=(no (no (no (no (no (no (no .nil (no (no (no (no (no (no .nil (lf (.cells 8 (nd KO (nd (.slice 12325 0 2 15) (nd (.slice 12329 0 2 15) (lf (.slice 12349 0 7 15)) .nil) (lf (.slice 12337 0 2 15))) fS)))) .nil) .nil) .nil) .nil) Ajr)) .nil) (no .nil (no (no (no (no (no (no (no .nil Aqo) .nil) .nil) .nil) .nil) .nil) .nil))) .nil) (no .nil (no .nil (no .nil (no Ah8 .nil))))) (no (no (no lU (no .nil (no (no (no (no (no (no (no .nil (lf (ceL 30 [g9,Pj,[(iN 0),(iN 0),(iN 0),.slice0,Ad,y97,Ad,(.slice 12335 0 3 3),(iN 0),(iN 0)]]))) Ak7) .nil) .nil) .nil) .nil) .nil))) (no (no .nil (no (no (no (no (no (no (no .nil Ah3) .nil) .nil) .nil) .nil) .nil) .nil)) .nil)) (no (no (no .nil (no (no (no (no (no (no (no .nil (lf (ceL 30 [eP,Ig,[(iN 0),(iN 0),(iN 0),(.slice 12324 0 1 2),Ad,Ad,Ad,.slice0,(iN 0),(iN 0)]]))) .nil) .nil) .nil) .nil) .nil) .nil)) .nil) (no .nil (no .nil (no (no (no (no (no (no (no .nil (lf (ceL 105 [dm,jo,iK,fh,gy,KI,hQ,iY,[(iN 0),(iN 0),(iN 0),(.slice 12347 0 1 2),Ph,Ad,Ad,.slice0,(iN 0),(iN 0)],jP,Bz]))) .nil) .nil) .nil) .nil) .nil) .nil)))))) (no (no Ah5 (no (no (no .nil (no (no Adv Aa1) .nil)) .nil) .nil)) Ano)),nx:=12522,ok:=true,v:=y13,out:=.nil,nx':=12584,wr:=[]}
theorem Awb:∀[F:Facts],Ap (Env.ofS Tryz.prog [] []) 1000000 lW=true:=by
 intro F
 kernel_rfl
theorem AA6 (G:Nat→D→D):lW.Valid Tryz.prog G:=Ai.val (okE _ []) (w0 G) Awb
noncomputable def zO:Orc:=o83.move 12288
theorem Atl (G:Nat→D→D):zO.Valid Tryz.prog G:=Orc.Valid.move (w83 G) (by kernel_rfl) 12288
noncomputable def yt:Orc:=o84.move 12288
theorem Avr (G:Nat→D→D):yt.Valid Tryz.prog G:=Orc.Valid.move (w84 G) (by kernel_rfl) 12288
noncomputable def kk:Orc:=
 {f:=18,args:=[(.agg [(.str 5 KN),(.slice 18481 0 4 2),(.str 6 AY)]),(.agg [(.str 5 KN),(.slice 20543 0 4 2),(.str 6 AY)])],part:=(no (no (no (no (no (no (no .nil (no (no (no (no (no (no .nil (no (lf (.cells 8 (nd KO (nd (.slice 20517 0 2 15) (nd (.slice 20521 0 2 15) (lf (.slice 20541 0 7 15)) .nil) (lf (.slice 20529 0 2 15))) fS))) .nil)) .nil) .nil) .nil) .nil) (no .nil (no .nil (no .nil An8))))) .nil) (no .nil (no (no (no (no (no Afc .nil) .nil) .nil) .nil) .nil))) .nil) (no .nil (no .nil (no .nil (no (no (no (no (no (no Ai4 .nil) .nil) .nil) .nil) .nil) .nil))))) (no (no (no (no .nil (no .nil (no .nil Aj7))) (no .nil (no (no (no (no (no (no (no .nil (no (lf (ceL 30 [g9,Pj,[(iN 0),(iN 0),(iN 0),.slice0,Ad,y97,Ad,(.slice 20527 0 3 3),(iN 0),(iN 0)]])) .nil)) (no (no (lf (.cells 8 (nd KO (nd (.slice 17390 0 2 15) (nd (.slice 17572 0 2 15) (lf (.slice 18462 0 7 15)) .nil) (lf (.slice 17880 0 2 15))) fS))) .nil) .nil)) .nil) .nil) .nil) .nil) .nil))) (no (no .nil (no (no (no (no Aa1 .nil) .nil) .nil) .nil)) .nil)) (no (no (no .nil (no (no (no (no (no (no (no .nil (no (lf (ceL 30 [eP,Ig,[(iN 0),(iN 0),(iN 0),(.slice 20516 0 1 2),Ad,Ad,Ad,.slice0,(iN 0),(iN 0)]])) .nil)) .nil) .nil) .nil) .nil) .nil) .nil)) .nil) (no .nil (no .nil (no (no (no (no (no (no (no .nil (no (lf (ceL 105 [dm,jo,iK,fh,gy,KI,hQ,iY,[(iN 0),(iN 0),(iN 0),(.slice 20539 0 1 2),Ph,Ad,Ad,.slice0,(iN 0),(iN 0)],jP,Bz])) .nil)) .nil) .nil) .nil) .nil) .nil) .nil)))))) (no (no (no .nil (no .nil (no (no .nil (no .nil (no .nil (no (no .nil (no (no (no (lf (ceL 30 [g9,Pj,[(iN 0),(iN 0),(iN 0),.slice0,Ad,y97,Ad,(.slice 17862 0 3 3),(iN 0),(iN 0)]])) .nil) .nil) .nil)) .nil)))) .nil))) (no (no (no .nil (no (no Adl (no (no (no .nil Anx) .nil) .nil)) .nil)) .nil) .nil)) (no .nil (no (no (no (no .nil (no .nil (no .nil (no (no .nil Anp) .nil)))) .nil) .nil) (no (no .nil (no .nil (no .nil (no .nil (no .nil (no (no (no (no (lf (ceL 30 [eP,Ig,[(iN 0),(iN 0),(iN 0),(.slice 17377 0 1 2),Ad,Ad,Ad,.slice0,(iN 0),(iN 0)]])) .nil) .nil) .nil) .nil)))))) (no (no (no (no (no (no (no .nil (no (no (lf (ceL 105 [dm,jo,iK,fh,gy,KI,hQ,iY,[(iN 0),(iN 0),(iN 0),(.slice 18367 0 1 2),Ph,Ad,Ad,.slice0,(iN 0),(iN 0)],jP,Bz])) .nil) .nil)) .nil) .nil) .nil) .nil) .nil) .nil)))))),nx:=20714,ok:=true,v:=y13,out:=.nil,nx':=20776,wr:=[]}
theorem Avl:∀[F:Facts],Ap (Env.ofS Tryz.prog [] []) 1000000 kk=true:=by
 intro F
 kernel_rfl
theorem Azt (G:Nat→D→D):kk.Valid Tryz.prog G:=Ai.val (okE _ []) (w0 G) Avl
noncomputable def Ac7:Orc:=o16.move 102395
theorem ABz (G:Nat→D→D):Ac7.Valid Tryz.prog G:=Orc.Valid.move (w16 G) (by kernel_rfl) 102395
end Go.Proofs.YtmjeljjkhblgeaaGreatDoor.familyDefines

