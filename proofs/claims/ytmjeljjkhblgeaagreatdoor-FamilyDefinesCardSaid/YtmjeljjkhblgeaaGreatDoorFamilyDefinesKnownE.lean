/- What is proved: that certain calls which the law FamilyDefines makes come to the results that are written here (part 5 of 16). Conditions: the memory that such a call reaches is as written here; the kernel runs the evaluator over each. -/
import Derived.Test.YtmjeljjkhblgeaaGreatDoorFamilyDefinesKnownA
import Derived.Test.YtmjeljjkhblgeaaGreatDoorFamilyDefinesKnownC
import Derived.Test.YtmjeljjkhblgeaaGreatDoorFamilyDefinesKnownD
set_option linter.unusedVariables false
set_option linter.unusedSectionVars false
set_option linter.unusedSimpArgs false
namespace Go.Proofs.YtmjeljjkhblgeaaGreatDoor.familyDefines
open Go.AE
noncomputable def o33:Orc:=
 {f:=252,args:=[(pN 4112)],part:=(no .nil (no (no (no (no .nil (no (no (no (no (no (no (no (lf (.cells 4 (nd Cs PJ AQ))) .nil) .nil) .nil) .nil) .nil) .nil) .nil)) .nil) .nil) .nil)),nx:=4113,ok:=true,v:=Gt,out:=Gd,nx':=4999,wr:=[4112]}
theorem k33:∀[F:Facts],BF (Env.ofS Tryz.prog [] []) o32.base 700 o33=true:=by
 intro F
 kernel_rfl
theorem w33 (G:Nat→D→D):o33.Valid Tryz.prog G:=Orc.first (okE _ []) (w0 G) (w32 G) k33
noncomputable def o34:Cor:=
 {f:=213,nt:=25,td:=(Aj (Env.of Tryz.prog) 213 2),tmps:=(nd (pN 5001) (nd Ah9 (no (nd y18 (lf (.agg [(.str 3 7107700),(iN 1),(iN 32),(.bool false),(.bool false),(iN 0),(iN 4294967295),(iN 0),.slice0,(.str 0 0),(.str 0 0),(.str 0 0),.slice0,(iN 0),(iN 0)])) .nil) (nd Aol (lf (.slice 5591 0 1 1)) .nil)) (nd (pN 5001) (nd y21 (lf Af1) .nil) (lf Aol))) (no (nd Af1 (nd (pN 5001) (lf (.slice 5589 0 1 15)) .nil) (nd Ah9 y24 .nil)) (nd (.slice 5302 0 1 1) Af2 PN))),part:=(no (no (no (no .nil (no .nil (no (no .nil (no .nil (no .nil (no Aiw .nil)))) .nil))) Akr) (no (no .nil (no (no (no (no .nil (no .nil (no .nil (no (no (lf (.cells 12 (nd (pN 5000) (nd (.slice 5540 0 9 5) EB EC) bD))) .nil) .nil)))) .nil) .nil) .nil)) (no (no .nil (no (no .nil (no .nil (no .nil (no (no .nil (no (lf (ceL 15 [[fI,(iN 1),(iN 32),y21,y21,(iN 0),Vm,(iN 0),.slice0,Ad],Bz])) .nil)) .nil)))) .nil)) .nil))) (no (no (no .nil (no (no (no (no .nil (no .nil (no .nil (no (no (lf (.cells 3 (nd (.slice 4996 320 97 5) HO AQ))) .nil) .nil)))) .nil) .nil) .nil)) (no (no (no yd (no (no .nil (no .nil (no (no .nil (no (lf (ceL 45 [cO,aH,iH,dY,[(iN 11),(iN 3),fI,(iN 1),(iN 3)]])) .nil)) .nil))) .nil)) .nil) .nil)) (no Adw (no (no .nil (no (no .nil (no .nil (no .nil (no (no .nil (no (lf (ceL 60 [X9,Wx,KI,WW,bE,Xw])) .nil)) .nil)))) (no (no .nil (no (no Aee .nil) .nil)) .nil))) .nil)))),nx:=5598,ok:=true,v:=zl,out:=Agr,nx':=5776,wr:=[5000,5001,5590,5540]}
theorem k34:∀[F:Facts],An (Env.ofS Tryz.prog [] []) noB 1000000 o34=true:=by
 intro F
 kernel_rfl
theorem w34 (G:Nat→D→D):o34.Valid Tryz.prog G:=Cor.last (okE _ []) (w0 G) k34
noncomputable def o35:Orc:=
 {f:=213,args:=[(pN 5001),(.func (.func 214) [] [(pN 5002),(pN 5299)])],part:=(no (no (no .nil Akr) (no (no .nil (no (no (no (no .nil (no .nil (no .nil (no (no (lf (.cells 12 (nd (pN 5000) (nd (.slice 5301 0 5 5) EB EC) bD))) .nil) .nil)))) .nil) .nil) .nil)) (no (no .nil (no .nil (no (no .nil (no (no (no .nil (no (lf (ceL 25 [cO,aH,[(iN 7),(iN 9),Mv,(iN 1),BQ]])) .nil)) .nil) .nil)) .nil))) .nil))) (no (no (no .nil (no (no (no (no .nil (no .nil (no .nil (no (no (lf (.cells 3 (nd (.slice 4996 160 129 5) HO AQ))) .nil) .nil)))) .nil) .nil) .nil)) Af0) (no Adw .nil))),nx:=5302,ok:=true,v:=zl,out:=Agr,nx':=5776,wr:=[5000,5001,5301]}
theorem k35:∀[F:Facts],BF (Env.ofS Tryz.prog [] []) o34.base 7815 o35=true:=by
 intro F
 kernel_rfl
theorem w35 (G:Nat→D→D):o35.Valid Tryz.prog G:=Orc.first (okE _ []) (w0 G) (w34 G) k35
noncomputable def o36:Cor:=
 {f:=213,nt:=25,td:=(Aj (Env.of Tryz.prog) 213 2),tmps:=(nd (pN 5001) (nd Al5 (no (nd y18 (lf (.agg [(.str 5 Aag),(iN 1),(iN 16),(.bool false),(.bool false),(iN 0),(iN 4),(iN 0),.slice0,(.str 0 0),(.str 0 0),(.str 0 0),.slice0,(iN 0),(iN 0)])) .nil) (nd Aed (lf (.slice 6243 0 1 1)) .nil)) (nd (pN 5001) (nd y21 (lf Ahe) .nil) (lf Aed))) (no (nd Ahe (nd (pN 5001) (lf (.slice 6241 0 1 15)) .nil) (nd Al5 y24 .nil)) (nd (.slice 5799 0 1 1) Af2 Su))),part:=(no (no (no (no .nil (no (no .nil (no (no .nil (no (no .nil Aee) .nil)) .nil)) .nil)) (no (no (no .nil (no .nil (no (no (no (no (no .nil Ae9) .nil) .nil) .nil) .nil))) .nil) .nil)) (no (no (no (no .nil (no .nil (no (no (no (no (no .nil (lf (ceL 15 [[VE,(iN 1),(iN 16),y21,y21,(iN 0),(iN 4),(iN 0),.slice0,Ad],Bz]))) .nil) .nil) .nil) .nil))) .nil) (no (no (no (no .nil (no .nil (no .nil (no (no (lf (.cells 12 (nd (pN 5000) (nd (.slice 6192 0 18 5) EB EC) bD))) .nil) .nil)))) .nil) .nil) .nil)) .nil)) (no (no (no (no .nil (no .nil (no (no (no (no (no (no .nil (lf (ceL 90 [cO,aH,iH,dY,kB,yD,Aft,Asv,Aq9]))) .nil) .nil) .nil) .nil) .nil))) (no (no (no (no .nil (no .nil (no .nil (no (no (lf (.cells 3 (nd (.slice 4996 655 30 5) HO AQ))) .nil) .nil)))) .nil) .nil) .nil)) Aj0) (no (no (no (no .nil (no .nil (no (no (no (no (no .nil (lf (ceL 90 [aj,bp,bG,ah,ct,bf,cn,bh,N4]))) .nil) .nil) .nil) .nil))) .nil) Aph) .nil))),nx:=6250,ok:=true,v:=zy,out:=Apb,nx':=6551,wr:=[5000,5001,6242,6192]}
theorem k36:∀[F:Facts],An (Env.ofS Tryz.prog [] []) noB 1000000 o36=true:=by
 intro F
 kernel_rfl
theorem w36 (G:Nat→D→D):o36.Valid Tryz.prog G:=Cor.last (okE _ []) (w0 G) k36
noncomputable def o37:Orc:=
 {f:=213,args:=[(pN 5001),(.func (.func 214) [] [(pN 5002),(pN 5796)])],part:=(no (no .nil (no (no .nil (no (no (no (no .nil (no .nil (no .nil (no (no (lf (.cells 12 (nd (pN 5000) (nd (.slice 5798 0 12 5) EB EC) bD))) .nil) .nil)))) .nil) .nil) .nil)) .nil)) (no (no (no .nil (no (no (no (no .nil (no .nil (no .nil (no (no (lf (.cells 3 (nd (.slice 4996 410 79 5) HO AQ))) .nil) .nil)))) .nil) .nil) .nil)) Aj0) (no Adw (no (no (no .nil (no (no .nil (no (no .nil (no .nil (no (lf (ceL 60 [cO,aH,iH,dY,kB,yD])) .nil))) .nil)) .nil)) .nil) .nil)))),nx:=5799,ok:=true,v:=zy,out:=Apb,nx':=6551,wr:=[5000,5001,5798]}
theorem k37:∀[F:Facts],BF (Env.ofS Tryz.prog [] []) o36.base 12117 o37=true:=by
 intro F
 kernel_rfl
theorem w37 (G:Nat→D→D):o37.Valid Tryz.prog G:=Orc.first (okE _ []) (w0 G) (w36 G) k37
noncomputable def o38:Cor:=
 {f:=221,nt:=117,td:=(Aj (Env.of Tryz.prog) 221 8),tmps:=(nd (pN 6589) (nd Ap7 (nd (pN 6901) (nd (iN 7) (nd (.ptr 6589 7) (nd (iN 0) y24 .nil) y14) (nd Asj aq (lf (.ptr 6534 105)))) (nd (pN 6589) (nd (pN 6901) (nd y13 y25 .nil) ND) (nd Abk Ajz kJ))) (nd y21 (no (nd Ap0 Ahq Ajz) (nd (pN 6589) y14 kJ)) (nd Ap7 (nd y13 Ahq y14) (nd Cu ND kJ)))) (nd (pN 6900) (nd (iN 0) (nd (pN 7052) (nd (pN 6589) (nd y21 y14 .nil) y24) (nd (pN 6589) ND Ah1)) (nd (pN 6589) (nd Cu (nd y18 y14 .nil) Fr) (nd (pN 6901) aq (lf Ap0)))) (nd (pN 6904) (no (nd (pN 6589) (nd y21 (lf (.ptr 7052 4)) .nil) aq) (nd (.ptr 6589 3) y14 Fg)) (nd (pN 6589) (nd y18 (nd Ais Fr .nil) Fg) (nd Asj y14 Ah1))))),part:=(no (no Agq (no mr (no (no .nil (no .nil (no .nil (no .nil (no (no .nil (no (no .nil (lf (.cells 2 (nd Cu aq .nil)))) .nil)) .nil))))) (no .nil (no .nil (no (no .nil (no .nil (no (no (no .nil (lf (.cells 9 (nd WX Aji (nd Cu Asx Fg))))) .nil) .nil))) .nil)))))) (no (no (no .nil (no .nil (no .nil (no .nil (no .nil (no (no .nil (no (no .nil (lf (.cells 1 y14))) .nil)) .nil)))))) (no (no .nil (no .nil (no .nil (no .nil (no (no .nil (no (no .nil (lf (.cells 1 kJ))) .nil)) .nil))))) (no (no (no (no .nil (no .nil (no .nil (no (no .nil (lf (ceL 15 [[m7,(iN 7),(iN 0),y21,y21,(iN 0),(iN 0),(iN 0),Aex,Ic],Bz]))) .nil)))) .nil) Amk) Ael))) Ada)),nx:=7184,ok:=true,v:=y18,out:=Aq7,nx':=7340,wr:=[6588,6587,6904,6589]}
theorem k38:∀[F:Facts],An (Env.ofS Tryz.prog [] []) noB 1000000 o38=true:=by
 intro F
 kernel_rfl
theorem w38 (G:Nat→D→D):o38.Valid Tryz.prog G:=Cor.last (okE _ []) (w0 G) k38
noncomputable def o39:Orc:=
 {f:=221,args:=[(pN 6589),(.agg [(.str 6 AY),(.slice 6534 0 9 15)])],part:=(no (no Agq (no mr (no .nil (no .nil (no .nil (no (no .nil (no .nil (no (no (no .nil (lf (.cells 9 (nd WX (nd xV (nd Abk Amf .nil) JC) (nd Cu (nd Anc Aqm .nil) By))))) .nil) .nil))) .nil)))))) (no (no .nil (no .nil (no Anl Ael))) Ada)),nx:=6900,ok:=true,v:=y18,out:=Aq7,nx':=7340,wr:=[6588,6587,6589]}
theorem k39:∀[F:Facts],BF (Env.ofS Tryz.prog [] []) o38.base 8557 o39=true:=by
 intro F
 kernel_rfl
theorem w39 (G:Nat→D→D):o39.Valid Tryz.prog G:=Orc.first (okE _ []) (w0 G) (w38 G) k39
noncomputable def o40:Orc:=
 {f:=170,args:=[(.agg [(.str 5 Mw),(.slice 6553 0 3 2),(.str 6 AY)])],part:=Asw,nx:=6584,ok:=true,v:=(.tuple [(pN 6589),(.agg [(iN 0),(iN 0),(iN 0)]),(.bool false)]),out:=(no (no Aog (no .nil (no .nil (no .nil (no .nil (no (no .nil (no .nil (no (no (no .nil (lf (.cells 9 (nd WX (nd xV Arb By) Aok)))) .nil) .nil))) .nil)))))) Aqg),nx':=7340,wr:=[]}
theorem k40:∀[F:Facts],Ap (Env.ofS Tryz.prog [o39] []) 1000000 o40=true:=by
 intro F
 kernel_rfl
theorem w40 (G:Nat→D→D):o40.Valid Tryz.prog G:=Ai.val (okE _ []) (.cons (w39 G) (w0 G)) k40
noncomputable def o41:Orc:=
 {f:=74,args:=[(.str 555 Abc)],part:=.nil,nx:=4104,ok:=true,v:=(.tuple [(.agg [(.str 5 Mw),(.slice 6553 0 3 2),(.str 6 AY)]),(.slice 6449 0 21 5),(.agg [(iN 0),(iN 0)]),(iN 0)]),out:=(no (no Aqx (no (no Aov Akl) .nil)) Ai5),nx':=7342,wr:=[]}
theorem k41:∀[F:Facts],Ap (Env.ofS Tryz.prog [o40,o37,o35,o33] []) 1000000 o41=true:=by
 intro F
 kernel_rfl
theorem w41 (G:Nat→D→D):o41.Valid Tryz.prog G:=Ai.val (okE _ []) (.cons (w40 G) (.cons (w37 G) (.cons (w35 G) (.cons (w33 G) (w0 G))))) k41
noncomputable def o42:Orc:=
 {f:=16,args:=[(.str 5 Mw)],part:=.nil,nx:=4096,ok:=true,v:=(.tuple [(.agg [(.str 5 Mw),(.slice 6553 0 3 2),(.str 6 AY)]),(iN 0)]),out:=Asw,nx':=7346,wr:=[]}
theorem k42:∀[F:Facts],Ap (Env.ofS Tryz.prog [o41] []) 1000000 o42=true:=by
 intro F
 kernel_rfl
theorem w42 (G:Nat→D→D):o42.Valid Tryz.prog G:=Ai.val (okE _ []) (.cons (w41 G) (w0 G)) k42
noncomputable def o43:Orc:=
 {f:=20,args:=[(iN 0)],part:=.nil,nx:=8192,ok:=true,v:=(.agg [(.str 5 Mw),(.slice 8224 0 3 2),(.str 6 AY)]),out:=Adm,nx':=8426,wr:=[]}
theorem k43:∀[F:Facts],Ap (Env.ofS Tryz.prog [] []) 1000000 o43=true:=by
 intro F
 kernel_rfl
theorem w43 (G:Nat→D→D):o43.Valid Tryz.prog G:=Ai.val (okE _ []) (w0 G) k43
noncomputable def o44:Orc:=
 {f:=170,args:=[(.agg [(.str 5 Mw),(.slice 8224 0 3 2),(.str 6 AY)])],part:=Adm,nx:=8430,ok:=true,v:=zM,out:=(no (no (no .nil (no (no .nil (no .nil (no .nil (no .nil (no (no (no (no (no (lf (.cells 9 (nd WX (nd (.slice 8224 0 3 2) Aao By) (nd Cu (nd TD Air .nil) By)))) .nil) .nil) .nil) .nil) .nil))))) .nil)) (no (no (no .nil (no .nil (no .nil (no .nil (no (no (no (no (no Ahh .nil) .nil) .nil) .nil) .nil))))) .nil) .nil)) (no .nil (no (no (no .nil (no .nil (no .nil (no .nil (no (no (no (no (no Arz .nil) .nil) .nil) .nil) .nil))))) .nil) .nil))),nx':=9186,wr:=[]}
theorem k44:∀[F:Facts],Ap (Env.ofS Tryz.prog [] []) 1000000 o44=true:=by
 intro F
 kernel_rfl
theorem w44 (G:Nat→D→D):o44.Valid Tryz.prog G:=Ai.val (okE _ []) (w0 G) k44
noncomputable def o45:Orc:=
 {f:=40,args:=[(.slice 9200 0 4 1),(.str 1 32)],part:=(no .nil (no (no (no (no .nil (no .nil (no .nil (no .nil (no .nil (no .nil (no Aqh .nil))))))) .nil) .nil) .nil)),nx:=9201,ok:=true,v:=Aly,out:=.nil,nx':=9201,wr:=[]}
theorem w45 (G:Nat→D→D):o45.Valid Tryz.prog G:=Orc.Valid.join Av Ak (by kernel_rfl)
noncomputable def o46:Orc:=
 {f:=40,args:=[(.slice 9211 0 3 1),(.str 1 32)],part:=(no (no (no .nil (no .nil (no .nil (no .nil Ak5)))) .nil) .nil),nx:=9212,ok:=true,v:=Nq,out:=.nil,nx':=9212,wr:=[]}
theorem w46 (G:Nat→D→D):o46.Valid Tryz.prog G:=Orc.Valid.join Av Ak (by kernel_rfl)
noncomputable def o47:Orc:=
 {f:=40,args:=[(.slice 9222 0 3 1),(.str 1 32)],part:=(no .nil (no .nil (no .nil (no (no (no Akd .nil) .nil) .nil)))),nx:=9223,ok:=true,v:=Ah6,out:=.nil,nx':=9223,wr:=[]}
theorem w47 (G:Nat→D→D):o47.Valid Tryz.prog G:=Orc.Valid.join Av Ak (by kernel_rfl)
noncomputable def o48:Orc:=
 {f:=40,args:=[(.slice 9238 0 4 1),(.str 1 32)],part:=(no .nil (no .nil (no .nil (no (no .nil (no (no (no (no (no (no .nil Aqh) .nil) .nil) .nil) .nil) .nil)) .nil)))),nx:=9239,ok:=true,v:=Aly,out:=.nil,nx':=9239,wr:=[]}
theorem w48 (G:Nat→D→D):o48.Valid Tryz.prog G:=Orc.Valid.join Av Ak (by kernel_rfl)
noncomputable def o49:Orc:=
 {f:=40,args:=[(.slice 9249 0 3 1),(.str 1 32)],part:=(no (no .nil (no (no (no (no .nil (no Ahk .nil)) .nil) .nil) .nil)) .nil),nx:=9250,ok:=true,v:=Nq,out:=.nil,nx':=9250,wr:=[]}
theorem w49 (G:Nat→D→D):o49.Valid Tryz.prog G:=Orc.Valid.join Av Ak (by kernel_rfl)
noncomputable def o50:Orc:=
 {f:=40,args:=[(.slice 9260 0 3 1),(.str 1 32)],part:=(no .nil (no (no .nil (no .nil (no (no .nil Akd) .nil))) .nil)),nx:=9261,ok:=true,v:=Ah6,out:=.nil,nx':=9261,wr:=[]}
theorem w50 (G:Nat→D→D):o50.Valid Tryz.prog G:=Orc.Valid.join Av Ak (by kernel_rfl)
noncomputable def o51:Orc:=
 {f:=40,args:=[(.slice 9271 0 3 1),(.str 1 32)],part:=(no (no (no (no .nil (no .nil (no .nil (no (no (no (no (no .nil Aja) .nil) .nil) .nil) .nil)))) .nil) .nil) .nil),nx:=9272,ok:=true,v:=yX,out:=.nil,nx':=9272,wr:=[]}
theorem w51 (G:Nat→D→D):o51.Valid Tryz.prog G:=Orc.Valid.join Av Ak (by kernel_rfl)
noncomputable def o52:Orc:=
 {f:=40,args:=[(.slice 9282 0 3 1),(.str 1 32)],part:=(no .nil (no .nil (no (no (no (no (no .nil (no (no (no (no .nil Agx) .nil) .nil) .nil)) .nil) .nil) .nil) .nil))),nx:=9283,ok:=true,v:=Aqr,out:=.nil,nx':=9283,wr:=[]}
theorem w52 (G:Nat→D→D):o52.Valid Tryz.prog G:=Orc.Valid.join Av Ak (by kernel_rfl)
noncomputable def o53:Orc:=
 {f:=40,args:=[(.slice 9303 0 2 1),(.str 1 32)],part:=(no (no (no (no .nil (no .nil Apa)) .nil) .nil) .nil),nx:=9304,ok:=true,v:=Nu,out:=.nil,nx':=9304,wr:=[]}
theorem w53 (G:Nat→D→D):o53.Valid Tryz.prog G:=Orc.Valid.join Av Ak (by kernel_rfl)
noncomputable def o54:Orc:=
 {f:=40,args:=[(.slice 9319 0 3 1),(.str 1 32)],part:=(no (no (no (no .nil (no (no .nil (no .nil Ahk)) .nil)) .nil) .nil) .nil),nx:=9320,ok:=true,v:=Nq,out:=.nil,nx':=9320,wr:=[]}
theorem w54 (G:Nat→D→D):o54.Valid Tryz.prog G:=Orc.Valid.join Av Ak (by kernel_rfl)
noncomputable def o55:Orc:=
 {f:=40,args:=[(.slice 9329 0 3 1),(.str 1 32)],part:=(no (no .nil (no (no (no .nil (no .nil (no .nil (no (no (no (no .nil (no (no (lf (.cells 3 (nd y66 Ahp (lf (.str 4 825110064))))) .nil) .nil)) .nil) .nil) .nil)))) .nil) .nil)) .nil),nx:=9330,ok:=true,v:=(.str 11 59455446037381952417196405),out:=.nil,nx':=9330,wr:=[]}
theorem w55 (G:Nat→D→D):o55.Valid Tryz.prog G:=Orc.Valid.join Av Ak (by kernel_rfl)
noncomputable def o56:Orc:=
 {f:=40,args:=[(.slice 9339 0 3 1),(.str 1 32)],part:=(no (no (no .nil (no .nil (no .nil (no .nil (no .nil (no (no (no (no .nil (no (no (lf (.cells 3 (nd y66 eH (lf (.str 4 892218928))))) .nil) .nil)) .nil) .nil) .nil)))))) .nil) .nil),nx:=9340,ok:=true,v:=(.str 11 64291149315843767650904437),out:=.nil,nx':=9340,wr:=[]}
theorem w56 (G:Nat→D→D):o56.Valid Tryz.prog G:=Orc.Valid.join Av Ak (by kernel_rfl)
noncomputable def o57:Orc:=
 {f:=40,args:=[(.slice 9350 0 3 1),(.str 1 32)],part:=(no .nil (no .nil (no .nil (no (no (no (no (no .nil (no (no (no .nil (no (no (lf (.cells 3 (nd y66 Ad4 (lf (.str 6 60688713002544))))) .nil) .nil)) .nil) .nil)) .nil) .nil) .nil) .nil)))),nx:=9351,ok:=true,v:=(.str 13 4373082644221643209630643284341),out:=.nil,nx':=9351,wr:=[]}
theorem w57 (G:Nat→D→D):o57.Valid Tryz.prog G:=Orc.Valid.join Av Ak (by kernel_rfl)
noncomputable def o58:Orc:=
 {f:=40,args:=[(.slice 9360 0 3 1),(.str 1 32)],part:=(no .nil (no (no (no (no .nil (no (no (no .nil Ald) .nil) .nil)) .nil) .nil) .nil)),nx:=9361,ok:=true,v:=As0,out:=.nil,nx':=9361,wr:=[]}
theorem w58 (G:Nat→D→D):o58.Valid Tryz.prog G:=Orc.Valid.join Av Ak (by kernel_rfl)
noncomputable def o59:Orc:=
 {f:=40,args:=[(.slice 9370 0 3 1),(.str 1 32)],part:=(no .nil (no .nil (no (no .nil (no .nil (no (no (no .nil (no (no (no .nil (no (no (lf (.cells 3 (nd y66 H9 Apo))) .nil) .nil)) .nil) .nil)) .nil) .nil))) .nil))),nx:=9371,ok:=true,v:=(.str 12 16149049215035240730881583477),out:=.nil,nx':=9371,wr:=[]}
theorem w59 (G:Nat→D→D):o59.Valid Tryz.prog G:=Orc.Valid.join Av Ak (by kernel_rfl)
noncomputable def o60:Orc:=
 {f:=40,args:=[(.slice 9380 0 3 1),(.str 1 32)],part:=(no .nil (no (no .nil (no (no (no .nil (no (no .nil (no (no (no .nil Ap8) .nil) .nil)) .nil)) .nil) .nil)) .nil)),nx:=9381,ok:=true,v:=Ar1,out:=.nil,nx':=9381,wr:=[]}
theorem w60 (G:Nat→D→D):o60.Valid Tryz.prog G:=Orc.Valid.join Av Ak (by kernel_rfl)
noncomputable def o61:Orc:=
 {f:=40,args:=[(.slice 9401 0 4 1),(.str 1 32)],part:=(no (no .nil (no (no .nil (no .nil (no .nil (no (no .nil (no (no (no .nil (no (no (lf (.cells 4 (nd VZ (nd (.str 7 26287559591289179) (lf Ic) .nil) cI))) .nil) .nil)) .nil) .nil)) .nil)))) .nil)) .nil),nx:=9402,ok:=true,v:=(.str 24 2707863295095719413373917665786481834508009499105948821868),out:=.nil,nx':=9402,wr:=[]}
theorem w61 (G:Nat→D→D):o61.Valid Tryz.prog G:=Orc.Valid.join Av Ak (by kernel_rfl)
noncomputable def o62:Orc:=
 {f:=40,args:=[(.slice 9422 0 4 1),(.str 1 32)],part:=(no .nil (no .nil (no .nil (no .nil (no (no (no .nil (no .nil (no (no (no .nil (no (no (lf (.cells 4 (nd VZ (nd (.str 7 26298554891462491) Amf .nil) cI))) .nil) .nil)) .nil) .nil))) .nil) .nil))))),nx:=9423,ok:=true,v:=(.str 22 42800757393327430701027499848712195615840450565597548),out:=.nil,nx':=9423,wr:=[]}
theorem w62 (G:Nat→D→D):o62.Valid Tryz.prog G:=Orc.Valid.join Av Ak (by kernel_rfl)
noncomputable def o63:Orc:=
 {f:=40,args:=[(.slice 9428 0 27 1),(.str 1 10)],part:=(no .nil (no (no .nil (no (no .nil (no (no .nil (no .nil (no (no (no .nil (no (no (lf (ceL 27 [[(.str 15 308686027654040646331880914744734320),(.str 18 10725846998911347195144184504498188956427629),Ai2,Afd,Af8,y60,(.str 16 163663517214725260382089282867145434477),Ai2,Afd,Af8],[(.str 29 1596241933953735469563999938401011474567963204602652521842030511661088),Alh,aM,y60,gH,(.str 23 5670981801504944859048603259647679212786043185942568992),(.str 24 1451386336318406853245008449286635214617342086212601651232),(.str 20 338016417856240548844555353588462511894365937696),(.str 23 5671728605848856414459171711711463551064337292642885664),(.str 23 5670978838382102155311447767627155519006461920363552800)],[(.str 22 22150782458989252451180368628451781368096354404999200),(.str 22 22156628465538576062853183367782646502989774979538976),(.str 38 7566492155235242719770408378588098688887665400151385636868828846658807578964250975303442464),(.str 34 1762169908662658763130765729127684734824736030421604333649565702569031842431836192),y60,ej,Ad]])) .nil) .nil)) .nil) .nil))) .nil)) .nil)) .nil)),nx:=9429,ok:=true,v:=Cs,out:=.nil,nx':=9429,wr:=[]}
theorem w63 (G:Nat→D→D):o63.Valid Tryz.prog G:=Orc.Valid.join Av Ak (by kernel_rfl)
noncomputable def o64:Orc:=
 {f:=19,args:=[(.agg [(.str 5 Mw),(.slice 8224 0 3 2),(.str 6 AY)])],part:=Adm,nx:=8426,ok:=true,v:=(.tuple [(.str 555 Abc),(iN 0)]),out:=.nil,nx':=9429,wr:=[]}
theorem k64:∀[F:Facts],Ap (Env.ofS Tryz.prog [o63,o62,o61,o60,o59,o58,o57,o56,o55,o54,o53,o52,o51,o50,o49,o48,o47,o46,o45,o44] []) 1000000 o64=true:=by
 intro F
 kernel_rfl
theorem w64 (G:Nat→D→D):o64.Valid Tryz.prog G:=Ai.val (okE _ []) (.cons (w63 G) (.cons (w62 G) (.cons (w61 G) (.cons (w60 G) (.cons (w59 G) (.cons (w58 G) (.cons (w57 G) (.cons (w56 G) (.cons (w55 G) (.cons (w54 G) (.cons (w53 G) (.cons (w52 G) (.cons (w51 G) (.cons (w50 G) (.cons (w49 G) (.cons (w48 G) (.cons (w47 G) (.cons (w46 G) (.cons (w45 G) (.cons (w44 G) (w0 G))))))))))))))))))))) k64
noncomputable def o65:Orc:=o43.move 4096
theorem w65 (G:Nat→D→D):o65.Valid Tryz.prog G:=Orc.Valid.move (w43 G) (by kernel_rfl) 4096
noncomputable def o66:Orc:=
 {f:=18,args:=[(.agg [(.str 5 Mw),(.slice 6553 0 3 2),(.str 6 AY)]),(.agg [(.str 5 Mw),(.slice 12320 0 3 2),(.str 6 AY)])],part:=(no (no (no zC (no .nil (no (no (no Ar8 .nil) .nil) .nil))) (no mr (no (no (no (no (no (no (no (no (no (no .nil Ahl) .nil) .nil) .nil) .nil) .nil) .nil) .nil) .nil) (no (no (no (no (no (no (no (no (no .nil (lf (ceL 90 [X9,Wx,KI,WW,bE,Xw,eZ,Ig,[(iN 0),(iN 0),(iN 0),(.slice 12299 0 1 2),Ad,Ad,Ad,.slice0,(iN 0),(iN 0)]]))) .nil) .nil) .nil) .nil) .nil) .nil) .nil) (no (no (no (no (no Amr .nil) .nil) .nil) .nil) .nil))))) (no (no (no (no (no .nil (no (no (no (no (no (no (no .nil (lf (.cells 6 (nd Ic (nd (.slice 12293 0 3 15) (lf (.slice 12301 0 6 15)) (lf (.slice 12318 0 9 15))) jz)))) .nil) .nil) .nil) .nil) .nil) .nil)) .nil) .nil) Aae) (no (no Ag0 (no .nil (no (no (no (no (no Afy .nil) .nil) .nil) .nil) .nil))) (no zL (no Aip (no (no (no (no (no (no (no (no .nil (lf (ceL 135 [aj,bp,bG,ah,ct,bf,cn,bh,N4,kf,dC,[(iN 0),(iN 0),(iN 0),(.slice 12314 0 1 2),Ic,Ad,Ad,.slice0,(iN 0),(iN 0)],[Yk,(iN 7),(iN 0),y21,y21,(iN 0),(iN 0),(iN 0),(.slice 12317 0 1 2),Mv],Bz]))) .nil) .nil) .nil) .nil) .nil) .nil) .nil)))))),nx:=12522,ok:=true,v:=y13,out:=.nil,nx':=12602,wr:=[]}
theorem k66:∀[F:Facts],Ap (Env.ofS Tryz.prog [] []) 1000000 o66=true:=by
 intro F
 kernel_rfl
theorem w66 (G:Nat→D→D):o66.Valid Tryz.prog G:=Ai.val (okE _ []) (w0 G) k66
noncomputable def o67:Orc:=o42.move 12288
theorem w67 (G:Nat→D→D):o67.Valid Tryz.prog G:=Orc.Valid.move (w42 G) (by kernel_rfl) 12288
noncomputable def o68:Orc:=o43.move 12288
theorem w68 (G:Nat→D→D):o68.Valid Tryz.prog G:=Orc.Valid.move (w43 G) (by kernel_rfl) 12288
noncomputable def o69:Orc:=
 {f:=18,args:=[(.agg [(.str 5 Mw),(.slice 18841 0 3 2),(.str 6 AY)]),(.agg [(.str 5 Mw),(.slice 20512 0 3 2),(.str 6 AY)])],part:=(no (no (no (no (no (no (no (no (no .nil (no (no (no .nil Asf) .nil) .nil)) (no (no .nil (no .nil (no (no (no (lf (ceL 90 [X9,Wx,KI,WW,bE,Xw,eZ,Ig,[(iN 0),(iN 0),(iN 0),(.slice 18034 0 1 2),Ad,Ad,Ad,.slice0,(iN 0),(iN 0)]])) .nil) .nil) .nil))) .nil)) .nil) .nil) .nil) .nil) (no .nil (no (no (no An7 .nil) .nil) .nil))) (no (no .nil (no .nil (no (no (no .nil (no .nil (no (no (no .nil (no (no (lf (.cells 6 (nd Ic (nd (.slice 17550 0 3 15) (lf (.slice 18047 0 6 15)) (lf (.slice 18822 0 9 15))) jz))) .nil) .nil)) .nil) .nil))) .nil) .nil))) (no (no (no (no (no (no (no An2 .nil) .nil) .nil) .nil) .nil) .nil) (no (no (no (no (no (no (no (no (no .nil (no (lf (ceL 90 [X9,Wx,KI,WW,bE,Xw,eZ,Ig,[(iN 0),(iN 0),(iN 0),(.slice 20491 0 1 2),Ad,Ad,Ad,.slice0,(iN 0),(iN 0)]])) .nil)) .nil) .nil) .nil) .nil) .nil) .nil) .nil) (no (no (no (no (no (no (no (no .nil Ae5) .nil) .nil) .nil) .nil) .nil) .nil) .nil))))) (no (no (no (no (no .nil (no (no (no (no (no (no (no .nil (no (lf (.cells 6 (nd Ic (nd (.slice 20485 0 3 15) (lf (.slice 20493 0 6 15)) (lf (.slice 20510 0 9 15))) jz))) .nil)) .nil) .nil) .nil) .nil) .nil) .nil)) .nil) .nil) (no .nil (no (no .nil (no .nil (no (no .nil (no (no (no .nil Amg) .nil) .nil)) .nil))) .nil))) (no (no (no .nil (no .nil (no .nil (no (no Aql .nil) .nil)))) (no .nil (no (no (no (no (no (no (no (no .nil Aec) .nil) .nil) .nil) .nil) .nil) .nil) .nil))) (no (no (no (no (no .nil (no .nil (no (no (no .nil (no (no (lf (ceL 135 [aj,bp,bG,ah,ct,bf,cn,bh,N4,kf,dC,[(iN 0),(iN 0),(iN 0),(.slice 18687 0 1 2),Ic,Ad,Ad,.slice0,(iN 0),(iN 0)],[Yk,(iN 7),(iN 0),y21,y21,(iN 0),(iN 0),(iN 0),(.slice 18796 0 1 2),Mv],Bz])) .nil) .nil)) .nil) .nil))) .nil) .nil) .nil) (no (no (no (no .nil (no (no (no .nil Aqi) .nil) .nil)) .nil) .nil) (no (no (no (no (no (no (no (no .nil (no (lf (ceL 135 [aj,bp,bG,ah,ct,bf,cn,bh,N4,kf,dC,[(iN 0),(iN 0),(iN 0),(.slice 20506 0 1 2),Ic,Ad,Ad,.slice0,(iN 0),(iN 0)],[Yk,(iN 7),(iN 0),y21,y21,(iN 0),(iN 0),(iN 0),(.slice 20509 0 1 2),Mv],Bz])) .nil)) .nil) .nil) .nil) .nil) .nil) .nil) .nil)))))),nx:=20714,ok:=true,v:=y13,out:=.nil,nx':=20794,wr:=[]}
theorem k69:∀[F:Facts],Ap (Env.ofS Tryz.prog [] []) 1000000 o69=true:=by
 intro F
 kernel_rfl
theorem w69 (G:Nat→D→D):o69.Valid Tryz.prog G:=Ai.val (okE _ []) (w0 G) k69
noncomputable def o70:Orc:=o16.move 102395
theorem w70 (G:Nat→D→D):o70.Valid Tryz.prog G:=Orc.Valid.move (w16 G) (by kernel_rfl) 102395
end Go.Proofs.YtmjeljjkhblgeaaGreatDoor.familyDefines

