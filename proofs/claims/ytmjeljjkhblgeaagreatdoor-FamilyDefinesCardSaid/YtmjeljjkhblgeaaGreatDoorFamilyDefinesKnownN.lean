/- What is proved: that certain calls which the law FamilyDefines makes come to the results that are written here (part 14 of 16). Conditions: the memory that such a call reaches is as written here; the kernel runs the evaluator over each. -/
import Derived.Test.YtmjeljjkhblgeaaGreatDoorFamilyDefinesKnownA
import Derived.Test.YtmjeljjkhblgeaaGreatDoorFamilyDefinesKnownC
import Derived.Test.YtmjeljjkhblgeaaGreatDoorFamilyDefinesKnownM
set_option linter.unusedVariables false
set_option linter.unusedSectionVars false
set_option linter.unusedSimpArgs false
namespace Go.Proofs.YtmjeljjkhblgeaaGreatDoor.familyDefines
open Go.AE
noncomputable def Adu:Orc:=
 {f:=213,args:=[(pN 4966),(.func (.func 214) [] [(pN 4967),(pN 5906)])],part:=(no (no (no (no .nil (no sN .nil)) .nil) (no dj (no (no (no .nil (no .nil (no (no .nil (no .nil (no (no (lf (.cells 3 (nd (.slice 4961 485 59 5) NV AQ))) .nil) .nil))) .nil))) .nil) .nil))) (no (no .nil (no (no .nil (no (no (no (no .nil (no .nil (no .nil (no (lf (ceL 65 [gz,fj,jZ,rE,rq,wD,[(iN 18),(iN 9),Cu,(iN 4),BQ]])) .nil)))) .nil) .nil) .nil)) .nil)) (no (no (no .nil (no (no (no (no .nil (no .nil (no .nil (no (lf (.cells 5 (nd (iN 18) pw zP))) .nil)))) .nil) .nil) .nil)) .nil) (no (no (no .nil (no .nil (no (no .nil (no .nil (no (no (lf (.cells 12 (nd (pN 4965) (nd (.slice 5908 0 13 5) EB EC) fO))) .nil) .nil))) .nil))) .nil) .nil)))),nx:=5909,ok:=true,v:=tF,out:=(no (no (no .nil (no (no .nil (no .nil od)) .nil)) (no .nil (no (no (no .nil (no .nil (no (no .nil (no .nil (no (no (lf (.cells 3 (nd (.slice 4961 765 3 5) NV AQ))) .nil) .nil))) .nil))) YN) .nil))) (no nC (no .nil (no (no (no .nil (no .nil (no (no .nil (no .nil (no (no (lf (.cells 12 (nd (pN 4965) (nd qC EB EC) fO))) .nil) .nil))) .nil))) .nil) cW)))),nx':=6489,wr:=[4965,4966,5908]}
theorem AA8:∀[F:Facts],Ap (Env.ofS Tryz.prog [] []) 1000000 Adu=true:=by
 intro F
 kernel_rfl
theorem Ayr (G:Nat→D→D):Adu.Valid Tryz.prog G:=Ai.val (okE _ []) (w0 G) AA8
noncomputable def Adr:Cor:=
 {f:=168,nt:=83,td:=(Aj (Env.of Tryz.prog) 168 4),tmps:=(nd (pN 4966) (nd (pN 4967) (nd (pN 5321) (nd (pN 4966) (nd (pN 4966) Ao3 .nil) (nd (iN 2) kb .nil)) (nd (pN 4966) Amn (nd (pN 4966) v7 .nil))) (no (nd y18 (nd y18 eI .nil) (nd (pN 4966) wK .nil)) (nd (pN 4966) (nd oZ eI .nil) (nd (.slice 5213 0 5 5) wV .nil)))) (nd (pN 4968) (nd (pN 5409) (nd (.slice 4969 0 1 1) (nd (.slice 4986 0 1 1) (lf (.slice 5323 0 6 5)) .nil) (nd pU v7 .nil)) (nd (.agg [(iN 1),(iN 10),(.str 7 ET),(.int .i64 (.negSucc 0)),(.int .i64 (.negSucc 0))]) (nd (pN 4966) ac .nil) (nd tV (lf (.slice 5410 0 1 2)) .nil))) (no (nd (pN 4966) (nd (pN 4966) (lf tV) .nil) (nd (pN 4966) Agl .nil)) (nd (.ptr 4966 2) (nd Abe (lf (.func (.func 214) [] [(pN 4967),(pN 5321)])) .nil) (nd pU wK .nil))))),part:=(no (no (no (no .nil (no sN ly)) (no (no (no .nil (no (no (no .nil (no (no .nil (no (lf (.cells 6 (nd HA (nd vn Arj kb) (nd QB ac .nil)))) .nil)) .nil)) .nil) (no .nil (no (no (no .nil (no (lf (ceL 35 [gz,fj,jZ,[(iN 10),(iN 3),Qw,(iN 2),(iN 0)]])) .nil)) .nil) .nil)))) .nil) .nil)) (no (no (no (no .nil (no wO se)) .nil) (no (no uj nM) ff)) (no (no (no .nil (no .nil (no (no .nil (no .nil (no (no (lf (.cells 3 (nd (.slice 4961 215 113 5) NV AQ))) .nil) .nil))) .nil))) .nil) .nil))) (no (no (no nn (no (no .nil (no .nil (no (no .nil (no .nil (no (no (lf (.cells 3 (nd Ad wV NY))) .nil) .nil))) .nil))) .nil)) ir) (no (no (no (no .nil (no wO .nil)) .nil) (no (no uj .nil) ql)) (no (no (no .nil (no .nil (no (no .nil (no .nil (no (no (lf (.cells 12 (nd (pN 4965) (nd (.slice 5347 0 7 5) EB EC) fO))) .nil) .nil))) .nil))) .nil) .nil)))),nx:=5412,ok:=true,v:=rY,out:=(no (no (no .nil vj) (no .nil qd)) (no nC oP)),nx':=6520,wr:=[4968,4965,4966,5411,5347]}
theorem AAc:∀[F:Facts],An (Env.ofS Tryz.prog [Adu] []) noB 1000000 Adr=true:=by
 intro F
 kernel_rfl
theorem Azs (G:Nat→D→D):Adr.Valid Tryz.prog G:=Cor.last (okE _ []) (.cons (Ayr G) (w0 G)) AAc
noncomputable def Aam:Orc:=
 {f:=168,args:=[(pN 4966)],part:=(no (no .nil (no dj (no (no (no .nil (no .nil (no (no .nil (no .nil (no (no (lf (.cells 3 (nd Ht NV AQ))) .nil) .nil))) .nil))) .nil) .nil))) (no .nil (no .nil (no (no (no .nil (no .nil (no (no .nil (no .nil (no (no (lf (.cells 12 (nd (pN 4965) d6 ig))) .nil) .nil))) .nil))) .nil) .nil)))),nx:=4967,ok:=true,v:=rY,out:=(no (no (no uQ vj) (no sG qd)) (no tI oP)),nx':=6520,wr:=[4965,4966]}
theorem Au3:∀[F:Facts],BF (Env.ofS Tryz.prog [] []) Adr.base 1716 Aam=true:=by
 intro F
 kernel_rfl
theorem Azp (G:Nat→D→D):Aam.Valid Tryz.prog G:=Orc.first (okE _ []) (w0 G) (Azs G) Au3
noncomputable def yE:Orc:=
 {f:=170,args:=[(.agg [(.str 7 ET),(.slice 6491 0 5 2),(.str 6 AY)])],part:=wB,nx:=6522,ok:=true,v:=(.tuple [(pN 6527),(.agg [(iN 0),(iN 0),(iN 0)]),(.bool false)]),out:=(no (no (no (no (no (no (no (no .nil (no .nil (no (no (no .nil (lf (.cells 9 (nd UF (nd (.slice 6491 0 5 2) (nd (.map 6525) JL .nil) By) (nd Cu (nd (.map 6526) sF .nil) By))))) .nil) .nil))) .nil) .nil) .nil) .nil) .nil) (no .nil (no .nil (no .nil (no .nil (no .nil (no (no .nil vF) .nil))))))) (no .nil (no .nil (no .nil (no .nil (no .nil (no .nil (no (no .nil uF) .nil)))))))),nx':=7264,wr:=[]}
theorem Ax1:∀[F:Facts],Ap (Env.ofS Tryz.prog [] []) 1000000 yE=true:=by
 intro F
 kernel_rfl
theorem Axu (G:Nat→D→D):yE.Valid Tryz.prog G:=Ai.val (okE _ []) (w0 G) Ax1
noncomputable def jM:Orc:=
 {f:=16,args:=[(.str 7 ET)],part:=.nil,nx:=4096,ok:=true,v:=(.tuple [(.agg [(.str 7 ET),(.slice 6491 0 5 2),(.str 6 AY)]),(iN 0)]),out:=wB,nx':=7270,wr:=[]}
theorem Aw8:∀[F:Facts],Ap (Env.ofS Tryz.prog [yE,Aam,Ab6] []) 1000000 jM=true:=by
 intro F
 kernel_rfl
theorem Ah0 (G:Nat→D→D):jM.Valid Tryz.prog G:=Ai.val (okE _ []) (.cons (Axu G) (.cons (Azp G) (.cons (Ax0 G) (w0 G)))) Aw8
noncomputable def mh:Orc:=
 {f:=17,args:=[(.str 7 ET)],part:=.nil,nx:=8192,ok:=true,v:=wT,out:=.nil,nx':=8203,wr:=[]}
theorem Axn:∀[F:Facts],Ap (Env.ofS Tryz.prog [] []) 1000000 mh=true:=by
 intro F
 kernel_rfl
theorem Ays (G:Nat→D→D):mh.Valid Tryz.prog G:=Ai.val (okE _ []) (w0 G) Axn
noncomputable def aW:Orc:=
 {f:=20,args:=[(iN 6)],part:=.nil,nx:=12288,ok:=true,v:=(.agg [(.str 7 ET),(.slice 12489 0 5 2),(.str 6 AY)]),out:=dg,nx':=12522,wr:=[]}
theorem Ayc:∀[F:Facts],Ap (Env.ofS Tryz.prog [] []) 1000000 aW=true:=by
 intro F
 kernel_rfl
theorem x5 (G:Nat→D→D):aW.Valid Tryz.prog G:=Ai.val (okE _ []) (w0 G) Ayc
noncomputable def Acc:Orc:=
 {f:=170,args:=[(.agg [(.str 7 ET),(.slice 12489 0 5 2),(.str 6 AY)])],part:=dg,nx:=12526,ok:=true,v:=(.tuple [(pN 12531),(.agg [(iN 0),(iN 0),(iN 0)]),(.bool false)]),out:=(no (no (no .nil (no (no .nil (no .nil (no .nil (no .nil (no (no (no (no (no .nil (lf (.cells 9 (nd UF (nd (.slice 12489 0 5 2) (nd (.map 12529) JL .nil) By) (nd Cu (nd (.map 12530) nT .nil) By))))) .nil) .nil) .nil) .nil))))) .nil)) (no (no (no .nil (no .nil (no .nil (no .nil (no (no vF .nil) .nil))))) .nil) .nil)) (no .nil (no (no (no .nil (no .nil (no .nil (no .nil (no (no uF .nil) .nil))))) .nil) .nil))),nx':=13268,wr:=[]}
theorem Aug:∀[F:Facts],Ap (Env.ofS Tryz.prog [] []) 1000000 Acc=true:=by
 intro F
 kernel_rfl
theorem AA9 (G:Nat→D→D):Acc.Valid Tryz.prog G:=Ai.val (okE _ []) (w0 G) Aug
noncomputable def Ajk:Orc:=
 {f:=40,args:=[(.slice 13282 0 2 1),(.str 1 32)],part:=(no .nil (no .nil (no (no (no (no .nil (no .nil (no .nil (no .nil (no .nil (no (no (no .nil (lf (.cells 2 (nd Po (lf (.str 14 1119826700653818318372628090203696)) .nil)))) .nil) .nil)))))) .nil) .nil) .nil))),nx:=13283,ok:=true,v:=(.str 21 80692017788545090368546754971757975159688827920758),out:=.nil,nx':=13283,wr:=[]}
theorem Azk (G:Nat→D→D):Ajk.Valid Tryz.prog G:=Orc.Valid.join Av Ak (by kernel_rfl)
noncomputable def Asz:Orc:=
 {f:=40,args:=[(.slice 13298 0 2 1),(.str 1 32)],part:=(no .nil (no .nil (no (no (no .nil (no .nil (no .nil (no .nil (no .nil (no .nil (no (no (no .nil (lf (.cells 2 (nd Po (lf (.str 6 52983558450736)) .nil)))) .nil) .nil))))))) .nil) .nil))),nx:=13299,ok:=true,v:=(.str 13 3817867745527969838372593230198),out:=.nil,nx':=13299,wr:=[]}
theorem Azq (G:Nat→D→D):Asz.Valid Tryz.prog G:=Orc.Valid.join Av Ak (by kernel_rfl)
noncomputable def Alt:Orc:=
 {f:=40,args:=[(.slice 13319 0 2 1),(.str 1 32)],part:=(no (no (no (no .nil (no (no qU .nil) .nil)) .nil) .nil) .nil),nx:=13320,ok:=true,v:=Nu,out:=.nil,nx':=13320,wr:=[]}
theorem Av2 (G:Nat→D→D):Alt.Valid Tryz.prog G:=Orc.Valid.join Av Ak (by kernel_rfl)
noncomputable def Anq:Orc:=
 {f:=40,args:=[(.slice 13334 0 4 1),(.str 1 32)],part:=(no .nil (no .nil (no .nil (no (no .nil (no (no (no (no (no (no .nil (no (no .nil tM) .nil)) .nil) .nil) .nil) .nil) .nil)) .nil)))),nx:=13335,ok:=true,v:=sy,out:=.nil,nx':=13335,wr:=[]}
theorem Avo (G:Nat→D→D):Anq.Valid Tryz.prog G:=Orc.Valid.join Av Ak (by kernel_rfl)
noncomputable def Akv:Orc:=
 {f:=40,args:=[(.slice 13349 0 3 1),(.str 1 32)],part:=(no (no .nil (no .nil (no (no (no .nil (no (no (no (no (no .nil (no (no .nil (lf (.cells 3 (nd y66 FZ (lf (.str 5 215607029297)))))) .nil)) .nil) .nil) .nil) .nil)) .nil) .nil))) .nil),nx:=13350,ok:=true,v:=(.str 12 15536123788815929937624983925),out:=.nil,nx':=13350,wr:=[]}
theorem Awk (G:Nat→D→D):Akv.Valid Tryz.prog G:=Orc.Valid.join Av Ak (by kernel_rfl)
noncomputable def Amo:Orc:=
 {f:=40,args:=[(.slice 13370 0 2 1),(.str 1 32)],part:=(no .nil (no .nil (no (no .nil (no .nil (no .nil qU))) .nil))),nx:=13371,ok:=true,v:=Nu,out:=.nil,nx':=13371,wr:=[]}
theorem Av8 (G:Nat→D→D):Amo.Valid Tryz.prog G:=Orc.Valid.join Av Ak (by kernel_rfl)
noncomputable def Ajm:Orc:=
 {f:=40,args:=[(.slice 13380 0 3 1),(.str 1 32)],part:=(no .nil (no (no .nil (no (no (no (no .nil (no (no (no (no .nil (no (no .nil (lf (.cells 3 (nd y66 FZ (lf (.str 4 892218930)))))) .nil)) .nil) .nil) .nil)) .nil) .nil) .nil)) .nil)),nx:=13381,ok:=true,v:=(.str 11 64291149459963353773271413),out:=.nil,nx':=13381,wr:=[]}
theorem Atk (G:Nat→D→D):Ajm.Valid Tryz.prog G:=Orc.Valid.join Av Ak (by kernel_rfl)
noncomputable def Asu:Orc:=
 {f:=40,args:=[(.slice 13401 0 10 1),(.str 1 32)],part:=(no (no .nil (no (no .nil (no .nil (no (no .nil (no (no (no (no .nil (no (no .nil (lf (.cells 10 (nd Ps (nd Cg (nd (.str 5 249949990450) Ahm .nil) (nd Ajh g6 .nil)) (nd y42 (nd (.str 8 4283597690340929097) (lf (.str 5 255222117710)) .nil) (lf (.str 7 16733967381455695))))))) .nil)) .nil) .nil) .nil)) .nil))) .nil)) .nil),nx:=13402,ok:=true,v:=(.str 56 355259196971758414981220925651896381584390876398872401076005021336532784720318163603897969409340038240987000753235952432534466547640419),out:=.nil,nx':=13402,wr:=[]}
theorem Auh (G:Nat→D→D):Asu.Valid Tryz.prog G:=Orc.Valid.join Av Ak (by kernel_rfl)
noncomputable def Aei:Orc:=
 {f:=40,args:=[(.slice 13416 0 2 1),(.str 1 32)],part:=(no .nil (no (no (no .nil (no (no .nil (no .nil (no (no (no (no .nil (no (no .nil (lf (.cells 2 (nd Po (lf (.str 4 858664496)) .nil)))) .nil)) .nil) .nil) .nil))) .nil)) .nil) .nil)),nx:=13417,ok:=true,v:=(.str 11 61873297676685212868829558),out:=.nil,nx':=13417,wr:=[]}
theorem Aw9 (G:Nat→D→D):Aei.Valid Tryz.prog G:=Orc.Valid.join Av Ak (by kernel_rfl)
noncomputable def As4:Orc:=
 {f:=40,args:=[(.slice 13426 0 3 1),(.str 1 32)],part:=(no .nil (no .nil (no (no (no .nil (no .nil (no .nil (no (no (no (no .nil (no (no .nil (lf (.cells 3 (nd y66 FZ (lf (.str 5 215607029296)))))) .nil)) .nil) .nil) .nil)))) .nil) .nil))),nx:=13427,ok:=true,v:=(.str 12 15536123788743872343587055989),out:=.nil,nx':=13427,wr:=[]}
theorem Auz (G:Nat→D→D):As4.Valid Tryz.prog G:=Orc.Valid.join Av Ak (by kernel_rfl)
noncomputable def App:Orc:=
 {f:=40,args:=[(.slice 13447 0 2 1),(.str 1 32)],part:=(no (no (no (no .nil (no (no (no (no .nil oV) .nil) .nil) .nil)) .nil) .nil) .nil),nx:=13448,ok:=true,v:=Nu,out:=.nil,nx':=13448,wr:=[]}
theorem Azx (G:Nat→D→D):App.Valid Tryz.prog G:=Orc.Valid.join Av Ak (by kernel_rfl)
noncomputable def Aik:Orc:=
 {f:=40,args:=[(.slice 13457 0 3 1),(.str 1 32)],part:=(no (no .nil (no (no (no .nil (no (no (no .nil (no (no (no .nil (no (no .nil (lf (.cells 3 (nd y66 FZ Apo)))) .nil)) .nil) .nil)) .nil) .nil)) .nil) .nil)) .nil),nx:=13458,ok:=true,v:=(.str 11 63082223496233536522709365),out:=.nil,nx':=13458,wr:=[]}
theorem Awj (G:Nat→D→D):Aik.Valid Tryz.prog G:=Orc.Valid.join Av Ak (by kernel_rfl)
noncomputable def Am7:Orc:=
 {f:=40,args:=[(.slice 13468 0 2 1),(.str 1 32)],part:=(no .nil (no (no .nil (no .nil (no .nil (no (no (no .nil (no (no (no .nil (no (no .nil (lf (.cells 2 (nd Po Are .nil)))) .nil)) .nil) .nil)) .nil) .nil)))) .nil)),nx:=13469,ok:=true,v:=(.str 20 303852027731881840877535911371537121812600217974),out:=.nil,nx':=13469,wr:=[]}
theorem Az3 (G:Nat→D→D):Am7.Valid Tryz.prog G:=Orc.Valid.join Av Ak (by kernel_rfl)
noncomputable def Agc:Orc:=
 {f:=40,args:=[(.slice 13478 0 3 1),(.str 1 32)],part:=(no .nil (no .nil (no .nil (no (no (no .nil (no (no .nil (no (no (no .nil (no (no .nil (lf (.cells 3 (nd y66 FZ Anr)))) .nil)) .nil) .nil)) .nil)) .nil) .nil)))),nx:=13479,ok:=true,v:=(.str 11 67917926774692053221534069),out:=.nil,nx':=13479,wr:=[]}
theorem AAh (G:Nat→D→D):Agc.Valid Tryz.prog G:=Orc.Valid.join Av Ak (by kernel_rfl)
noncomputable def Ans:Orc:=
 {f:=40,args:=[(.slice 13499 0 4 1),(.str 1 32)],part:=(no (no (no .nil (no .nil (no .nil (no .nil (no (no .nil (no (no (no .nil (no (no .nil (lf (.cells 4 (nd VZ (nd Ar3 vK .nil) cI)))) .nil)) .nil) .nil)) .nil))))) .nil) .nil),nx:=13500,ok:=true,v:=(.str 23 9906749961464645842613422772174571069034156286733937004),out:=.nil,nx':=13500,wr:=[]}
theorem Ath (G:Nat→D→D):Ans.Valid Tryz.prog G:=Orc.Valid.join Av Ak (by kernel_rfl)
noncomputable def Afh:Orc:=
 {f:=40,args:=[(.slice 13505 0 28 1),(.str 1 10)],part:=(no (no .nil (no (no (no (no (no .nil (no .nil (no (no (no .nil (no (no .nil (lf (ceL 28 [[(.str 17 20230125190279744295736193048748699382384),(.str 17 41897860405697690734261881575042746377581),(.str 31 104625034102164421970769919495015175626456234848936912305393842132434165792),y60,(.str 16 163663538679987728808983279575520994669),(.str 22 22144947959454982600648691763253552464616391072489504),aM,y60,(.str 14 2497305237948619203515026402141549),vN],[y60,(.str 17 41897803473132072846745831574587508483437),(.str 21 86515187501953030415023002447992019052905270288416),(.str 23 5686021048438410931133883938603465847133892311799242784),(.str 20 338016417858899085965763599940951820747269677088),(.str 66 204189195098363603891742812134509859501295081240190756229336749005364040182006383870894160547779860245265642425457887479115851769942669891123181617027621462048),y60,gH,(.str 23 5670226165082113095323767146439476240806272960577282080),(.str 21 86515187501951701187027217532119115245844989943840)],[(.str 26 95395603310197682888394295756881084872113275644630003234316320),(.str 20 337994117111042099351052232476871558265203007520),(.str 27 24356718962917106164001463903824027647572315825786020058685317152),(.str 21 86549329943510072791966304089590315341725332348960),(.str 36 115402358237253118108976938415666091375900982939305693232190134700889986116789943279648),y60,ej,Ad]]))) .nil)) .nil) .nil))) .nil) .nil) .nil) .nil)) .nil),nx:=13506,ok:=true,v:=CV,out:=.nil,nx':=13506,wr:=[]}
theorem Ax7 (G:Nat→D→D):Afh.Valid Tryz.prog G:=Orc.Valid.join Av Ak (by kernel_rfl)
noncomputable def lJ:Orc:=
 {f:=19,args:=[(.agg [(.str 7 ET),(.slice 12489 0 5 2),(.str 6 AY)])],part:=dg,nx:=12522,ok:=true,v:=wT,out:=.nil,nx':=13506,wr:=[]}
theorem AA1:∀[F:Facts],Ap (Env.ofS Tryz.prog [Afh,Ans,Agc,Am7,Aik,App,As4,Aei,Asu,Ajm,Amo,Akv,Anq,Alt,Asz,Ajk,Acc] []) 1000000 lJ=true:=by
 intro F
 kernel_rfl
theorem AAm (G:Nat→D→D):lJ.Valid Tryz.prog G:=Ai.val (okE _ []) (.cons (Ax7 G) (.cons (Ath G) (.cons (AAh G) (.cons (Az3 G) (.cons (Awj G) (.cons (Azx G) (.cons (Auz G) (.cons (Aw9 G) (.cons (Auh G) (.cons (Atk G) (.cons (Av8 G) (.cons (Awk G) (.cons (Avo G) (.cons (Av2 G) (.cons (Azq G) (.cons (Azk G) (.cons (AA9 G) (w0 G)))))))))))))))))) AA1
noncomputable def yx:Orc:=aW.move 4096
theorem Avj (G:Nat→D→D):yx.Valid Tryz.prog G:=Orc.Valid.move (x5 G) (by kernel_rfl) 4096
noncomputable def m9:Orc:=
 {f:=18,args:=[(.agg [(.str 7 ET),(.slice 6491 0 5 2),(.str 6 AY)]),(.agg [(.str 7 ET),(.slice 16585 0 5 2),(.str 6 AY)])],part:=(no (no (no (no .nil (no (no (no .nil (no .nil (no (no (no (no (no (no (lf (ceL 105 [Wq,Hq,U9,[M8,(iN 4),(iN 0),y21,y21,(iN 0),(iN 0),(iN 0),(.slice 16576 0 1 2),Ad],Vy,N4,Ui,S8,Vt,[Ol,(iN 7),(iN 0),y21,y21,(iN 0),(iN 0),(iN 0),(.slice 16582 0 1 2),I4],Bz])) .nil) .nil) .nil) .nil) .nil) .nil))) .nil) ly)) (no (no .nil (no ZN yZ)) (no (no .nil (no (no .nil (no (no (no (no (no (no (lf (ceL 30 [Vl,Ig,[(iN 0),(iN 0),(iN 0),(.slice 16554 0 1 2),Ad,Ad,Ad,.slice0,(iN 0),(iN 0)]])) .nil) .nil) .nil) .nil) .nil) .nil)) .nil)) pR))) (no (no .nil (no (no (no .nil (no .nil (no (no (no (no (no (no (lf (.cells 10 (nd HA (nd (.slice 16549 0 1 15) (nd (.slice 16555 0 2 15) (lf (.slice 16570 0 4 15)) .nil) (nd (.slice 16558 0 1 15) (lf (.slice 16583 0 7 15)) .nil)) T7))) .nil) .nil) .nil) .nil) .nil) .nil))) .nil) ff)) (no (no (no .nil (no (no .nil (no (no (no (no xu .nil) .nil) .nil) .nil)) .nil)) YN) iT))) (no (no (no (no Zx uX) (no tC (no .nil (no (no .nil (no (no (no (no (no nm .nil) .nil) .nil) .nil) .nil)) .nil)))) ir) (no (no .nil (no (no .nil yZ) (no .nil (no (no .nil (no (no (no (no (no (no (lf (ceL 60 [Ve,VG,[(iN 0),(iN 0),(iN 0),(.slice 16563 0 1 2),Ad,Ad,Ad,.slice0,(iN 0),(iN 0)],VF,Vw,[(iN 0),(iN 0),(iN 0),.slice0,Ad,Cg,Ad,(.slice 16568 0 3 3),(iN 0),(iN 0)]])) .nil) .nil) .nil) .nil) .nil) .nil)) .nil)))) (no (no (no (no .nil (no .nil Agn)) .nil) .nil) (no (no .nil (no (no vG uZ) .nil)) .nil))))),nx:=16618,ok:=true,v:=y13,out:=.nil,nx':=16690,wr:=[]}
theorem Ayz:∀[F:Facts],Ap (Env.ofS Tryz.prog [] []) 1000000 m9=true:=by
 intro F
 kernel_rfl
theorem AA7 (G:Nat→D→D):m9.Valid Tryz.prog G:=Ai.val (okE _ []) (w0 G) Ayz
noncomputable def zI:Orc:=jM.move 16384
theorem Av7 (G:Nat→D→D):zI.Valid Tryz.prog G:=Orc.Valid.move (Ah0 G) (by kernel_rfl) 16384
noncomputable def yL:Orc:=aW.move 12288
theorem Axe (G:Nat→D→D):yL.Valid Tryz.prog G:=Orc.Valid.move (x5 G) (by kernel_rfl) 12288
noncomputable def nf:Orc:=
 {f:=18,args:=[(.agg [(.str 7 ET),(.slice 22875 0 5 2),(.str 6 AY)]),(.agg [(.str 7 ET),(.slice 24777 0 5 2),(.str 6 AY)])],part:=(no (no (no (no .nil (no (no (no .nil (no .nil (no (no (no (no (no (no .nil (lf (ceL 105 [Wq,Hq,U9,[M8,(iN 4),(iN 0),y21,y21,(iN 0),(iN 0),(iN 0),(.slice 24768 0 1 2),Ad],Vy,N4,Ui,S8,Vt,[Ol,(iN 7),(iN 0),y21,y21,(iN 0),(iN 0),(iN 0),(.slice 24774 0 1 2),I4],Bz]))) .nil) .nil) .nil) .nil) .nil))) .nil) (no (no (no .nil (no pM .nil)) .nil) .nil))) (no (no .nil (no (no .nil (no .nil j8)) Abm)) (no (no .nil (no (no .nil (no (no (no (no (no (no .nil (lf (ceL 30 [Vl,Ig,[(iN 0),(iN 0),(iN 0),(.slice 24746 0 1 2),Ad,Ad,Ad,.slice0,(iN 0),(iN 0)]]))) .nil) .nil) .nil) .nil) .nil)) .nil)) (no (no .nil (no (no .nil (no (no (no .nil (no .nil (no (lf (.cells 10 (nd HA (nd (.slice 21465 0 1 15) (nd (.slice 21668 0 2 15) (lf (.slice 22253 0 4 15)) .nil) (nd (.slice 21776 0 1 15) (lf (.slice 22856 0 7 15)) .nil)) T7))) .nil))) .nil) .nil)) (no (no .nil (no .nil (no pu .nil))) .nil))) .nil)))) (no (no .nil (no (no (no .nil (no .nil (no (no (no (no (no (no .nil (lf (.cells 10 (nd HA (nd (.slice 24741 0 1 15) (nd (.slice 24747 0 2 15) (lf (.slice 24762 0 4 15)) .nil) (nd (.slice 24750 0 1 15) (lf (.slice 24775 0 7 15)) .nil)) T7)))) .nil) .nil) .nil) .nil) .nil))) .nil) (no (no .nil (no .nil (no .nil (no .nil (no (no (no .nil sx) .nil) .nil))))) .nil))) (no (no (no .nil (no (no .nil (no n8 .nil)) .nil)) (no .nil (no .nil (no .nil ZN)))) (no (no .nil (no .nil (no .nil (no (no .nil (no .nil (no (no .nil (no (lf (ceL 60 [Ve,VG,[(iN 0),(iN 0),(iN 0),(.slice 21971 0 1 2),Ad,Ad,Ad,.slice0,(iN 0),(iN 0)],VF,Vw,[(iN 0),(iN 0),(iN 0),.slice0,Ad,Cg,Ad,(.slice 22235 0 3 3),(iN 0),(iN 0)]])) .nil)) .nil))) .nil)))) .nil)))) (no (no (no (no ia (no (no (no (no .nil nU) .nil) .nil) .nil)) (no (no (no .nil (no (no .nil (no (no (no .nil (no .nil (no (lf (ceL 105 [Wq,Hq,U9,[M8,(iN 4),(iN 0),y21,y21,(iN 0),(iN 0),(iN 0),(.slice 22517 0 1 2),Ad],Vy,N4,Ui,S8,Vt,[Ol,(iN 7),(iN 0),y21,y21,(iN 0),(iN 0),(iN 0),(.slice 22830 0 1 2),I4],Bz])) .nil))) .nil) .nil)) .nil)) .nil) (no .nil (no (no .nil (no oY .nil)) .nil)))) (no (no (no .nil (no (no .nil (no (no (no .nil (no (no .nil (no (lf (ceL 30 [Vl,Ig,[(iN 0),(iN 0),(iN 0),(.slice 21655 0 1 2),Ad,Ad,Ad,.slice0,(iN 0),(iN 0)]])) .nil)) .nil)) .nil) .nil)) .nil)) .nil) .nil)) (no (no .nil (no (no .nil Abm) (no .nil (no (no .nil (no (no (no (no (no (no .nil (lf (ceL 60 [Ve,VG,[(iN 0),(iN 0),(iN 0),(.slice 24755 0 1 2),Ad,Ad,Ad,.slice0,(iN 0),(iN 0)],VF,Vw,[(iN 0),(iN 0),(iN 0),.slice0,Ad,Cg,Ad,(.slice 24760 0 3 3),(iN 0),(iN 0)]]))) .nil) .nil) .nil) .nil) .nil)) .nil)))) (no (no (no (no .nil (no .nil Ah8)) .nil) .nil) (no (no .nil (no (no (no .nil (no (no Ae7 .nil) .nil)) rO) .nil)) .nil))))),nx:=24810,ok:=true,v:=y13,out:=.nil,nx':=24882,wr:=[]}
theorem Aw0:∀[F:Facts],Ap (Env.ofS Tryz.prog [] []) 1000000 nf=true:=by
 intro F
 kernel_rfl
theorem Aur (G:Nat→D→D):nf.Valid Tryz.prog G:=Ai.val (okE _ []) (w0 G) Aw0
noncomputable def Aaj:Orc:=o16.move 102395
theorem Ayf (G:Nat→D→D):Aaj.Valid Tryz.prog G:=Orc.Valid.move (w16 G) (by kernel_rfl) 102395
end Go.Proofs.YtmjeljjkhblgeaaGreatDoor.familyDefines

