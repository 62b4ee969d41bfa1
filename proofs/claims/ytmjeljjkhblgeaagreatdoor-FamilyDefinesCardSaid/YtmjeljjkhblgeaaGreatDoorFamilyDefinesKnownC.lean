/- What is proved: that certain calls which the law FamilyDefines makes come to the results that are written here (part 3 of 16). Conditions: the memory that such a call reaches is as written here; the kernel runs the evaluator over each. -/
import Derived.Test.YtmjeljjkhblgeaaGreatDoorFamilyDefinesKnownA
import Derived.Test.YtmjeljjkhblgeaaGreatDoorFamilyDefinesKnownB
set_option linter.unusedVariables false
set_option linter.unusedSectionVars false
set_option linter.unusedSimpArgs false
namespace Go.Proofs.YtmjeljjkhblgeaaGreatDoor.familyDefines
open Go.AE
noncomputable def o12:Cor:=
 {f:=132,nt:=52,td:=(Aj (Env.of Tryz.prog) 132 8),tmps:=(nd (pN 2274) (nd (pN 2271) (nd (pN 2274) (no (nd (pN 2274) JC cA) (nd (iN 1) cA .nil)) (no (nd (.slice 2277 1 3 1) cA Aqe) (nd (iN 1) GF .nil))) (nd y21 (no (nd (pN 2271) cA (lf (.slice 2343 0 1 4))) Anf) (no (nd Ajd (lf (.ptr 2274 1)) .nil) (nd y18 Aqe .nil)))) (no (nd y13 (no (nd V1 (lf (.ptr 2271 3)) (lf (.agg [(.str 6 Akc),(.slice 2297 0 2 3),(.slice 2286 0 1 2),(.slice 2341 0 3 9)]))) (nd Ad6 cA .nil)) (no Anf (nd y13 y14 .nil))) (no (no (nd (.slice 2277 0 4 1) y24 (lf Ann)) (nd Ad6 (lf kw) .nil)) (no PJ (nd (pN 2274) Rq .nil))))),part:=(no (no (no (no (no (no .nil (no .nil (no .nil (no (no (no (lf (.cells 4 (nd V1 (nd Ann JC .nil) AQ))) .nil) .nil) .nil)))) .nil) Apq) .nil) (no (no Aep (no .nil (no (no (no (no .nil (no (no (lf (.cells 6 (nd Ak6 (nd aX (lf (.str 4 1684956531)) Aib) (nd lg mn .nil)))) .nil) .nil)) .nil) .nil) Arx))) (no (no (no .nil (no Aoz (no .nil (no (no (no (lf (.cells 4 (nd Ad (nd Ajd (lf (.str 5 521627987820)) .nil) (lf (.str 5 431199119725))))) .nil) .nil) .nil)))) .nil) .nil))) (no (no (no .nil Apq) .nil) (no (no (no (no .nil (no .nil (no .nil (no (no (no (lf (.cells 3 (nd kw Fr (lf (.slice 2329 6 0 1))))) .nil) .nil) .nil)))) .nil) .nil) (no .nil (no Ast .nil))))),nx:=2345,ok:=true,v:=y18,out:=(no (no Ag1 .nil) (no Acz (no Ar7 (no Alo (no .nil Ak3))))),nx':=2401,wr:=[2271,2344,2274]}
theorem k12:∀[F:Facts],An (Env.ofS Tryz.prog [] []) noB 1000000 o12=true:=by
 intro F
 kernel_rfl
theorem w12 (G:Nat→D→D):o12.Valid Tryz.prog G:=Cor.last (okE _ []) (w0 G) k12
noncomputable def o13:Orc:=
 {f:=132,args:=[(pN 2274),(pN 2271)],part:=(no (no (no (no (no (no .nil (no .nil (no .nil (no (no (no (lf (.cells 4 (nd Ad (nd .slice0 CS .nil) CS))) .nil) .nil) .nil)))) .nil) .nil) .nil) (no (no Aep .nil) .nil)) (no .nil (no (no (no (no .nil (no .nil (no .nil (no (no (no (lf (.cells 3 (nd kw CS Rq))) .nil) .nil) .nil)))) .nil) .nil) .nil))),nx:=2275,ok:=true,v:=y18,out:=(no (no Ag1 Ajl) (no Acz (no Ar7 Aj5))),nx':=2401,wr:=[2271,2274]}
theorem k13:∀[F:Facts],BF (Env.ofS Tryz.prog [] []) o12.base 969 o13=true:=by
 intro F
 kernel_rfl
theorem w13 (G:Nat→D→D):o13.Valid Tryz.prog G:=Orc.first (okE _ []) (w0 G) (w12 G) k13
noncomputable def o14:Orc:=
 {f:=49,args:=[(.str 347 18072405351915242575537206438913264756448831390041777093898274722310640851346270769333521218372403149761281510936386174467852110680933234234085993823718323560652822543570877490088761099931584717826863729117152066266371517531957400306596667223504234893650533170425777683371297160832975066199582394611001160217393548239683486286869475049047067400491477121826294914287733547941722230656195376586309455806156173428911625633453933374936441171233334602327367929837644301614986133878539375800703715817203882657514473502980609534530501990985872740594590628712034320949764365782888654899765270703839834306907951189267359459912943453439559114633484829547234676470163742046339299388897043988111520008843395924718852096755862598407477057057195665991223899350641677883573157298342971295232069904463102646551075823085316609942894186988712943598921075)],part:=.nil,nx:=2271,ok:=true,v:=(.tuple [(.agg [(.str 6 IB),(.slice 2400 0 2 4),(iN 1),(iN 2)]),(iN 0),(iN 0)]),out:=(no (no .nil Ajl) (no Acz (no .nil Aj5))),nx':=2584,wr:=[]}
theorem k14:∀[F:Facts],Ap (Env.ofS Tryz.prog [o13] []) 1000000 o14=true:=by
 intro F
 kernel_rfl
theorem w14 (G:Nat→D→D):o14.Valid Tryz.prog G:=Ai.val (okE _ []) (.cons (w13 G) (w0 G)) k14
noncomputable def o15:Orc:=
 {f:=14,args:=[(.str 56 116864267180698698643752648497306376112859592516620202478445608736732946888651393269049958926881539486141964259179214259175678625804870)],part:=.nil,nx:=2599,ok:=true,v:=(.tuple [(.agg [(.str 5 Nj),(iN 0),.slice0,.slice0,(.slice 2756 0 3 5)]),(iN 0)]),out:=(no .nil (no (no (no (no (no (no .nil (no .nil (no (no .nil (no (lf (.cells 10 (nd TL (nd (iN 107) Afe (nd KR Rq .nil)) (nd .slice0 Afe PN)))) .nil)) .nil))) .nil) .nil) .nil) (no (no (no (no .nil (no .nil (no (no .nil (no (lf (ceL 15 [[Yo,(iN 1),.slice0,.slice0,.slice0,NL,(iN 3),.slice0,.slice0,.slice0],[Fw,(iN 0),.slice0,.slice0,(.slice 2754 0 1 5)]])) .nil)) .nil))) .nil) .nil) .nil)) (no (no (no (no (no .nil (no .nil (no (no .nil (no (lf (.cells 5 (nd Og (nd (iN 0) Rq .nil) (nd .slice0 (lf (.slice 2752 0 2 5)) .nil)))) .nil)) .nil))) .nil) .nil) .nil) .nil))),nx':=2892,wr:=[]}
theorem k15:∀[F:Facts],Ap (Env.ofS Tryz.prog [] []) 1000000 o15=true:=by
 intro F
 kernel_rfl
theorem w15 (G:Nat→D→D):o15.Valid Tryz.prog G:=Ai.val (okE _ []) (w0 G) k15
noncomputable def o16:Orc:=
 {f:=9,args:=[],part:=.nil,nx:=5,ok:=true,v:=y13,out:=.nil,nx':=3054,wr:=[]}
theorem k16:∀[F:Facts],Ap (Env.ofS Tryz.prog [o15,o14,o11] []) 1000000 o16=true:=by
 intro F
 kernel_rfl
theorem w16 (G:Nat→D→D):o16.Valid Tryz.prog G:=Ai.val (okE _ []) (.cons (w15 G) (.cons (w14 G) (.cons (w11 G) (w0 G)))) k16
end Go.Proofs.YtmjeljjkhblgeaaGreatDoor.familyDefines

