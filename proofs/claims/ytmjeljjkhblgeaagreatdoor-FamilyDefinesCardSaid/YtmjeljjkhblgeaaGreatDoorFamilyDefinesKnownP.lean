/- What is proved: that certain calls which the law FamilyDefines makes come to the results that are written here (part 16 of 16). Conditions: the memory that such a call reaches is as written here; the kernel runs the evaluator over each. -/
import Derived.Test.YtmjeljjkhblgeaaGreatDoorFamilyDefinesKnownA
import Derived.Test.YtmjeljjkhblgeaaGreatDoorFamilyDefinesKnownC
import Derived.Test.YtmjeljjkhblgeaaGreatDoorFamilyDefinesKnownO
set_option linter.unusedVariables false
set_option linter.unusedSectionVars false
set_option linter.unusedSimpArgs false
namespace Go.Proofs.YtmjeljjkhblgeaaGreatDoor.familyDefines
open Go.AE
noncomputable def xY:Orc:=
 {f:=168,args:=[(pN 4810)],part:=(no (no .nil (no (no .nil (no (no (no .nil (no .nil (no (no .nil (no (no (lf (.cells 3 (nd Jq HQ AQ))) .nil) .nil)) .nil))) .nil) .nil)) vU)) (no .nil (no (no .nil (no (no (no .nil (no .nil (no (no .nil (no (no (lf (.cells 12 (nd (pN 4809) d6 ig))) .nil) .nil)) .nil))) .nil) .nil)) .nil))),nx:=4811,ok:=true,v:=sB,out:=(no (no oQ (no (no f4 nw) jR)) (no kg wz)),nx':=5970,wr:=[4809,4810]}
theorem AAi:∀[F:Facts],BF (Env.ofS Tryz.prog [] []) Acw.base 1716 xY=true:=by
 intro F
 kernel_rfl
theorem AAd (G:Nat→D→D):xY.Valid Tryz.prog G:=Orc.first (okE _ []) (w0 G) (Aze G) AAi
noncomputable def xO:Orc:=
 {f:=74,args:=[(.str 430 fH)],part:=.nil,nx:=4111,ok:=true,v:=(.tuple [(.agg [(.str 9 Fj),(.slice 5941 0 4 2),(.str 5 Nj)]),(.slice 5879 0 15 5),(.agg [(iN 0),(iN 0)]),(iN 0)]),out:=(no (no oQ rK) u7),nx':=6356,wr:=[]}
theorem Av0:∀[F:Facts],Ap (Env.ofS Tryz.prog [xY,Aax] []) 1000000 xO=true:=by
 intro F
 kernel_rfl
theorem Ayg (G:Nat→D→D):xO.Valid Tryz.prog G:=Ai.val (okE _ []) (.cons (AAd G) (.cons (Ax4 G) (w0 G))) Av0
noncomputable def cY:Orc:=
 {f:=16,args:=[(.str 9 Fj)],part:=.nil,nx:=4096,ok:=true,v:=(.tuple [(.agg [(.str 9 Fj),(.slice 5941 0 4 2),(.str 5 Nj)]),(iN 0)]),out:=(no (no (no rU .nil) rK) u7),nx':=6360,wr:=[]}
theorem Avf:∀[F:Facts],Ap (Env.ofS Tryz.prog [xO] []) 1000000 cY=true:=by
 intro F
 kernel_rfl
theorem Ajo (G:Nat→D→D):cY.Valid Tryz.prog G:=Ai.val (okE _ []) (.cons (Ayg G) (w0 G)) Avf
noncomputable def ku:Orc:=
 {f:=17,args:=[(.str 9 Fj)],part:=.nil,nx:=8192,ok:=true,v:=ua,out:=.nil,nx':=8204,wr:=[]}
theorem Aup:∀[F:Facts],Ap (Env.ofS Tryz.prog [] []) 1000000 ku=true:=by
 intro F
 kernel_rfl
theorem Avu (G:Nat→D→D):ku.Valid Tryz.prog G:=Ai.val (okE _ []) (w0 G) Aup
noncomputable def bI:Orc:=
 {f:=20,args:=[(iN 7)],part:=.nil,nx:=12288,ok:=true,v:=(.agg [(.str 9 Fj),(.slice 12519 0 4 2),(.str 5 Nj)]),out:=nR,nx':=12522,wr:=[]}
theorem Auy:∀[F:Facts],Ap (Env.ofS Tryz.prog [] []) 1000000 bI=true:=by
 intro F
 kernel_rfl
theorem Adj (G:Nat→D→D):bI.Valid Tryz.prog G:=Ai.val (okE _ []) (w0 G) Auy
noncomputable def Agv:Orc:=
 {f:=40,args:=[(.slice 12922 0 3 1),(.str 1 32)],part:=(no .nil (no .nil (no (no .nil (no .nil (no .nil (no .nil (no we .nil))))) .nil))),nx:=12923,ok:=true,v:=Nq,out:=.nil,nx':=12923,wr:=[]}
theorem Avc (G:Nat→D→D):Agv.Valid Tryz.prog G:=Orc.Valid.join Av Ak (by kernel_rfl)
noncomputable def Ap4:Orc:=
 {f:=40,args:=[(.slice 12933 0 3 1),(.str 1 32)],part:=(no (no .nil (no .nil (no (no (no (no (no .nil (no (no .nil (no (no (no .nil (lf (.cells 3 (nd y66 H9 (lf (.str 6 58489689746993)))))) .nil) .nil)) .nil)) .nil) .nil) .nil) .nil))) .nil),nx:=12934,ok:=true,v:=(.str 14 1078944337713455767298479932467573),out:=.nil,nx':=12934,wr:=[]}
theorem Aty (G:Nat→D→D):Ap4.Valid Tryz.prog G:=Orc.Valid.join Av Ak (by kernel_rfl)
noncomputable def Agi:Orc:=
 {f:=40,args:=[(.slice 12949 0 3 1),(.str 1 32)],part:=(no (no .nil (no .nil (no (no .nil (no qy .nil)) .nil))) .nil),nx:=12950,ok:=true,v:=Nq,out:=.nil,nx':=12950,wr:=[]}
theorem Atq (G:Nat→D→D):Agi.Valid Tryz.prog G:=Orc.Valid.join Av Ak (by kernel_rfl)
noncomputable def Anz:Orc:=
 {f:=40,args:=[(.slice 12960 0 3 1),(.str 1 32)],part:=(no .nil (no (no (no (no qh .nil) .nil) .nil) .nil)),nx:=12961,ok:=true,v:=Nq,out:=.nil,nx':=12961,wr:=[]}
theorem Avd (G:Nat→D→D):Anz.Valid Tryz.prog G:=Orc.Valid.join Av Ak (by kernel_rfl)
noncomputable def Ah2:Orc:=
 {f:=40,args:=[(.slice 12976 0 3 1),(.str 1 32)],part:=(no .nil (no (no (no (no .nil qh) .nil) .nil) .nil)),nx:=12977,ok:=true,v:=Nq,out:=.nil,nx':=12977,wr:=[]}
theorem As9 (G:Nat→D→D):Ah2.Valid Tryz.prog G:=Orc.Valid.join Av Ak (by kernel_rfl)
noncomputable def Ahg:Orc:=
 {f:=40,args:=[(.slice 12987 0 3 1),(.str 1 32)],part:=(no (no (no .nil (no .nil (no .nil (no .nil (no (no .nil (no (no .nil (no (no (no .nil (lf (.cells 3 (nd y66 FZ (lf (.str 6 59597808086577)))))) .nil) .nil)) .nil)) .nil))))) .nil) .nil),nx:=12988,ok:=true,v:=(.str 13 4294474660652913235497273158005),out:=.nil,nx':=12988,wr:=[]}
theorem Awr (G:Nat→D→D):Ahg.Valid Tryz.prog G:=Orc.Valid.join Av Ak (by kernel_rfl)
noncomputable def Aeb:Orc:=
 {f:=40,args:=[(.slice 13008 0 2 1),(.str 1 32)],part:=(no .nil (no (no (no (no .nil (no (no .nil (no .nil (no (no .nil (no qT .nil)) .nil))) .nil)) .nil) .nil) .nil)),nx:=13009,ok:=true,v:=Nu,out:=.nil,nx':=13009,wr:=[]}
theorem Ay0 (G:Nat→D→D):Aeb.Valid Tryz.prog G:=Orc.Valid.join Av Ak (by kernel_rfl)
noncomputable def Al4:Orc:=
 {f:=40,args:=[(.slice 13024 0 3 1),(.str 1 32)],part:=(no .nil (no (no (no (no (no .nil (no .nil (no .nil (no (no .nil (no (no (no .nil (lf (.cells 3 (nd y66 FZ (lf (.str 6 60697319714353)))))) .nil) .nil)) .nil)))) .nil) .nil) .nil) .nil)),nx:=13025,ok:=true,v:=(.str 13 4373702823167177573090817108341),out:=.nil,nx':=13025,wr:=[]}
theorem Azj (G:Nat→D→D):Al4.Valid Tryz.prog G:=Orc.Valid.join Av Ak (by kernel_rfl)
noncomputable def Aka:Orc:=
 {f:=40,args:=[(.slice 13034 0 3 1),(.str 1 32)],part:=(no .nil (no .nil (no (no .nil (no (no .nil (no .nil (no .nil (no (no .nil (no (no (no .nil (lf (.cells 3 (nd y66 FZ (lf (.str 5 232753344049)))))) .nil) .nil)) .nil)))) .nil)) .nil))),nx:=13035,ok:=true,v:=(.str 12 16771645976462080954174695797),out:=.nil,nx':=13035,wr:=[]}
theorem Axx (G:Nat→D→D):Aka.Valid Tryz.prog G:=Orc.Valid.join Av Ak (by kernel_rfl)
noncomputable def Aqb:Orc:=
 {f:=40,args:=[(.slice 13055 0 10 1),(.str 1 32)],part:=(no (no (no (no (no (no (no (no (no .nil (no .nil (no (no (no .nil (lf (.cells 10 (nd Ps (nd NL (nd (.str 5 249983544881) (lf (.str 7 16385133505295665)) .nil) (nd (.str 5 250017099317) g6 .nil)) (nd y42 (nd (.str 5 255087174994) (lf (.str 5 255440347469)) .nil) (lf (.str 6 65306930803287))))))) .nil) .nil))) .nil) .nil) .nil) .nil) .nil) .nil) .nil) .nil),nx:=13056,ok:=true,v:=(.str 58 23282266877003244238816807746619020518189367559831355077493937801693801578580214221717908726112273925626482117621266894807018241877030692963),out:=.nil,nx':=13056,wr:=[]}
theorem ABg (G:Nat→D→D):Aqb.Valid Tryz.prog G:=Orc.Valid.join Av Ak (by kernel_rfl)
noncomputable def Aj6:Orc:=
 {f:=40,args:=[(.slice 13065 0 4 1),(.str 1 32)],part:=(no (no .nil (no (no .nil (no (no (no (no (no .nil (no .nil (no (no (no .nil (lf (.cells 4 (nd Z7 (nd RW (lf Yo) .nil) sY)))) .nil) .nil))) .nil) .nil) .nil) .nil)) .nil)) .nil),nx:=13066,ok:=true,v:=(.str 17 39612897030651810184217561694223542347875),out:=.nil,nx':=13066,wr:=[]}
theorem At3 (G:Nat→D→D):Aj6.Valid Tryz.prog G:=Orc.Valid.join Av Ak (by kernel_rfl)
noncomputable def Ad1:Orc:=
 {f:=40,args:=[(.slice 13071 0 22 1),(.str 1 10)],part:=(no (no (no (no (no .nil (no (no (no (no .nil (no .nil (no (no (no .nil (lf (ceL 22 [[(.str 19 1325800806641963018627427526550594057506091632),(.str 14 2497302748694872540243936196912493),gC,(.str 24 1451770961154699093105296434385293290447172570872358838304),y60,(.str 15 639309588779252899776645546286212461),gC,(.str 26 95143286615917584968347971385413198051621408316181640205705248),y60,(.str 14 2497309263577132743828711559882093)],[gC,(.str 22 22153739805242052641520885616383186656150560292675616),aM,y60,(.str 15 639309586603186110875663778752718189),(.str 22 22155201306879383544439089301215902939186635969208352),(.str 25 371677789080869010411444742018212888742639061152711919935520),(.str 67 52272433947842248353294201104682301635216325335953198397048404111288753533447006440526380488933317492991397960804896968045831003607185712204481013016303543394336),(.str 25 373203412440715114183284142132435782599798525891432580063264),y60],[(.str 12 18382233622755549195763020915),Ad]]))) .nil) .nil))) .nil) .nil) .nil)) .nil) .nil) .nil) .nil),nx:=13072,ok:=true,v:=Dw,out:=.nil,nx':=13072,wr:=[]}
theorem Av6 (G:Nat→D→D):Ad1.Valid Tryz.prog G:=Orc.Valid.join Av Ak (by kernel_rfl)
noncomputable def kn:Orc:=
 {f:=19,args:=[(.agg [(.str 9 Fj),(.slice 12519 0 4 2),(.str 5 Nj)])],part:=nR,nx:=12522,ok:=true,v:=ua,out:=.nil,nx':=13072,wr:=[]}
theorem Ava:∀[F:Facts],Ap (Env.ofS Tryz.prog [Ad1,Aj6,Aqb,Aka,Al4,Aeb,Ahg,Ah2,Anz,Agi,Ap4,Agv] []) 1000000 kn=true:=by
 intro F
 kernel_rfl
theorem Avp (G:Nat→D→D):kn.Valid Tryz.prog G:=Ai.val (okE _ []) (.cons (Av6 G) (.cons (At3 G) (.cons (ABg G) (.cons (Axx G) (.cons (Azj G) (.cons (Ay0 G) (.cons (Awr G) (.cons (As9 G) (.cons (Avd G) (.cons (Atq G) (.cons (Aty G) (.cons (Avc G) (w0 G))))))))))))) Ava
noncomputable def yn:Orc:=bI.move 4096
theorem Auu (G:Nat→D→D):yn.Valid Tryz.prog G:=Orc.Valid.move (Adj G) (by kernel_rfl) 4096
noncomputable def mg:Orc:=
 {f:=18,args:=[(.agg [(.str 9 Fj),(.slice 5941 0 4 2),(.str 5 Nj)]),(.agg [(.str 9 Fj),(.slice 16615 0 4 2),(.str 5 Nj)])],part:=(no (no (no (no .nil (no (no oA (no .nil (no .nil (no (no (no (no (no (no (lf (.cells 8 (nd Og (nd (.slice 16589 0 2 15) (nd (.slice 16595 0 2 15) (lf (.slice 16613 0 4 15)) .nil) (lf (.slice 16603 0 3 15))) S3))) .nil) .nil) .nil) .nil) .nil) .nil)))) .nil)) (no (no .nil (no (no .nil (no .nil (no (no (no (no (no rz .nil) .nil) .nil) .nil) .nil))) .nil)) (no .nil (no (no .nil (no .nil (no (no (no (no (no (no (lf (ceL 45 [NA,Hq,Uw,[y78,(iN 4),(iN 0),y21,y21,(iN 0),(iN 0),(iN 0),(.slice 16602 0 1 2),Ad],Bz])) .nil) .nil) .nil) .nil) .nil) .nil))) .nil)))) (no tj (no (no (no .nil (no .nil (no .nil (no (no (no (no (no (no (lf (ceL 60 [SZ,U2,Wo,HF,[NL,Ad,(.slice 16610 0 3 3),(iN 0),(iN 0),E9,(iN 11),(iN 0),y21,y21],VV])) .nil) .nil) .nil) .nil) .nil) .nil)))) nH) (no (no (no .nil (no .nil (no (no (no (no xk .nil) .nil) dK) .nil))) .nil) .nil)))) (no kg (no (no (no (no .nil (no rg (no .nil (no (no (no (no (no oT .nil) .nil) .nil) .nil) .nil)))) .nil) (no .nil Zx)) .nil))),nx:=16618,ok:=true,v:=y13,out:=.nil,nx':=16672,wr:=[]}
theorem Auj:∀[F:Facts],Ap (Env.ofS Tryz.prog [] []) 1000000 mg=true:=by
 intro F
 kernel_rfl
theorem Aw6 (G:Nat→D→D):mg.Valid Tryz.prog G:=Ai.val (okE _ []) (w0 G) Auj
noncomputable def Ac3:Orc:=cY.move 16384
theorem Azl (G:Nat→D→D):Ac3.Valid Tryz.prog G:=Orc.Valid.move (Ajo G) (by kernel_rfl) 16384
noncomputable def Ads:Orc:=bI.move 12288
theorem Atp (G:Nat→D→D):Ads.Valid Tryz.prog G:=Orc.Valid.move (Adj G) (by kernel_rfl) 12288
noncomputable def lV:Orc:=
 {f:=18,args:=[(.agg [(.str 9 Fj),(.slice 22325 0 4 2),(.str 5 Nj)]),(.agg [(.str 9 Fj),(.slice 24807 0 4 2),(.str 5 Nj)])],part:=(no (no (no (no .nil (no (no (no .nil (no (no (no (no .nil tR) .nil) .nil) .nil)) (no .nil (no .nil (no (no (no (no (no (no .nil (lf (.cells 8 (nd Og (nd (.slice 24781 0 2 15) (nd (.slice 24787 0 2 15) (lf (.slice 24805 0 4 15)) .nil) (lf (.slice 24795 0 3 15))) S3)))) .nil) .nil) .nil) .nil) .nil)))) .nil)) (no (no .nil (no (no .nil (no .nil (no rk .nil))) .nil)) (no .nil (no (no .nil (no .nil (no (no (no (no (no (no .nil (lf (ceL 45 [NA,Hq,Uw,[y78,(iN 4),(iN 0),y21,y21,(iN 0),(iN 0),(iN 0),(.slice 24794 0 1 2),Ad],Bz]))) .nil) .nil) .nil) .nil) .nil))) .nil)))) (no (no (no (no .nil (no .nil (no (no .nil (no (no .nil (no (no .nil (no (lf (ceL 45 [NA,Hq,Uw,[y78,(iN 4),(iN 0),y21,y21,(iN 0),(iN 0),(iN 0),(.slice 21844 0 1 2),Ad],Bz])) .nil)) .nil)) .nil)) .nil))) .nil) .nil) (no (no (no .nil (no .nil (no .nil (no (no (no (no (no (no .nil (lf (ceL 60 [SZ,U2,Wo,HF,[NL,Ad,(.slice 24802 0 3 3),(iN 0),(iN 0),E9,(iN 11),(iN 0),y21,y21],VV]))) .nil) .nil) .nil) .nil) .nil)))) (no .nil (no (no (no .nil (no .nil (no .nil (no (no .nil (no (lf (.cells 8 (nd Og (nd (.slice 21388 0 2 15) (nd (.slice 21575 0 2 15) (lf (.slice 22306 0 4 15)) .nil) (lf (.slice 21857 0 3 15))) S3))) .nil)) .nil)))) .nil) .nil))) (no (no (no .nil (no .nil (no (no nu (no .nil (no dK .nil))) .nil))) .nil) .nil)))) (no (no .nil (no (no .nil (no un .nil)) (no (no (no (no .nil (no .nil (no .nil (no (no (no .nil vd) .nil) .nil)))) .nil) .nil) .nil))) (no (no (no (no .nil (no (no (no .nil (no .nil (no .nil (no (no .nil (no (lf (ceL 60 [SZ,U2,Wo,HF,[NL,Ad,(.slice 22221 0 3 3),(iN 0),(iN 0),E9,(iN 11),(iN 0),y21,y21],VV])) .nil)) .nil)))) .nil) (no .nil (no oS .nil)))) .nil) (no .nil ia)) .nil))),nx:=24810,ok:=true,v:=y13,out:=.nil,nx':=24864,wr:=[]}
theorem Awu:∀[F:Facts],Ap (Env.ofS Tryz.prog [] []) 1000000 lV=true:=by
 intro F
 kernel_rfl
theorem Atb (G:Nat→D→D):lV.Valid Tryz.prog G:=Ai.val (okE _ []) (w0 G) Awu
noncomputable def Adz:Orc:=o16.move 102395
theorem Axv (G:Nat→D→D):Adz.Valid Tryz.prog G:=Orc.Valid.move (w16 G) (by kernel_rfl) 102395
noncomputable def kT:Orc:=
 {f:=16,args:=[(.str 2 31354)],part:=.nil,nx:=4096,ok:=true,v:=(.tuple [(.agg [(.str 0 0),.slice0,(.str 0 0)]),(iN 9)]),out:=.nil,nx':=4109,wr:=[]}
theorem AAv:∀[F:Facts],Ap (Env.ofS Tryz.prog [] []) 1000000 kT=true:=by
 intro F
 kernel_rfl
theorem AAy (G:Nat→D→D):kT.Valid Tryz.prog G:=Ai.val (okE _ []) (w0 G) AAv
noncomputable def ko:Orc:=
 {f:=17,args:=[(.str 2 31354)],part:=.nil,nx:=8192,ok:=true,v:=(.tuple [(.str 0 0),(iN 9)]),out:=.nil,nx':=8204,wr:=[]}
theorem Aw5:∀[F:Facts],Ap (Env.ofS Tryz.prog [] []) 1000000 ko=true:=by
 intro F
 kernel_rfl
theorem Atc (G:Nat→D→D):ko.Valid Tryz.prog G:=Ai.val (okE _ []) (w0 G) Aw5
end Go.Proofs.YtmjeljjkhblgeaaGreatDoor.familyDefines

