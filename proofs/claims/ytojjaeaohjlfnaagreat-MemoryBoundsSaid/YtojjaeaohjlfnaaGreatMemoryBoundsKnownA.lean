/- What is proved: that certain calls which the law MemoryBounds makes come to the results that are written here (part 1 of 13). Conditions: the memory that such a call reaches is as written here; the kernel runs the evaluator over each. -/
import Derived.Test.YtojjaeaohjlfnaaGreatBeG
import Derived.Test.YtojjaeaohjlfnaaGreatChecked
import Derived.KernelRfl
set_option linter.unusedVariables false
set_option linter.unusedSectionVars false
set_option linter.unusedSimpArgs false
namespace Go.Proofs.YtojjaeaohjlfnaaGreat.memoryBounds
open Go.AE
theorem okE(l:List Orc)(m:List Sm):∀[U:Unk],U.K=(Env.of Tryz.prog).kinds→OK (Env.ofS Tryz.prog l m):=fun{U} h=>OK.of (U:=U) (P:=Tryz.prog) (Checked.mixed Tryz.checked) (by kernel_rfl) h
theorem w0(G:Nat→D→D):Ac (Env.ofS Tryz.prog [] []) G:=Ac.none (U:=HD)
def y1:AV:=.func (.func 30) [] [(pN 1597),(pN 1596),(pN 13)]
def y2:T AV:=nd (iN 2) (lf (iN 1)) .nil
def y3:T AV:=lf (.agg [(.str 1 108),(iN 7),(iN 0),(.bool false),(.bool false),(iN 0),(iN 0),(iN 0),(.slice 8 0 1 2),(.str 1 97),(.str 0 0),(.str 0 0),.slice0,(iN 0),(iN 0)])
def y4:T AV:=nd (iN 4) (lf (iN 2)) .nil
def y5:T AV:=nd (.bool true) (lf (iN 0)) .nil
def y6:T An:=lf (.cells 2 (nd (.str 1 110) (lf (iN 2)) .nil))
def y7:An:=.cells 3 (nd (.str 1 100) (lf (.slice 12 0 2 2)) (lf (.str 1 115)))
def y8:List AV:=[(.str 1 108),(iN 7),(iN 0),(.bool false),(.bool false),(iN 0),(iN 0),(iN 0),(.slice 8 0 1 2),(.str 1 97),(.str 0 0),(.str 0 0),.slice0,(iN 0),(iN 0)]
def y9:T AV:=lf (.slice 10 0 4 15)
def y10:T An:=no .nil (no .nil (no (no (no (no .nil (lf (.cells 2 (nd (.str 1 115) y9 .nil)))) .nil) .nil) .nil))
def y11:T An:=lf (.cells 2 (nd (.str 1 110) (lf (iN 1)) .nil))
def y12:An:=.cells 4 (nd (.str 1 97) (nd (.slice 6 0 1 15) y9 .nil) (lf (.str 1 115)))
def y13:T An:=lf (.cells 1 (lf (iN 1)))
def y14:T An:=no .nil (no (no (no (no .nil y13) .nil) .nil) .nil)
def y15:An:=ceL 15 [[(.str 1 120),(iN 5),(iN 0),(.bool false),(.bool false),(iN 0),(iN 5),(iN 0),.slice0,(.str 0 0),(.str 0 0),(.str 0 0),.slice0,(iN 0),(iN 0)]]
def y16:List AV:=[(.str 1 110),(iN 1),(iN 4),(.bool false),(.bool false),(iN 0),(iN 15),(iN 0),.slice0,(.str 0 0),(.str 0 0),(.str 0 0),.slice0,(iN 0),(iN 0)]
def y17:List AV:=[(.str 1 109),(iN 1),(iN 12),(.bool false),(.bool false),(iN 0),(iN 4095),(iN 0),.slice0,(.str 0 0),(.str 0 0),(.str 0 0),.slice0,(iN 0),(iN 0)]
def y18:T An:=nd y15 (lf (ceL 60 [y16,y17,y8,[(.str 1 98),(iN 4),(iN 0),(.bool false),(.bool false),(iN 0),(iN 0),(iN 0),(.slice 9 0 1 2),(.str 0 0),(.str 0 0),(.str 0 0),.slice0,(iN 0),(iN 0)]])) .nil
def y19:T An:=no (no y11 (nd y12 .nil (no .nil y14))) y18
def y20:T An:=no y6 .nil
def y21:T An:=no .nil y20
def y22:AV:=.tuple [(.agg [(iN 29),(iN 2),(iN 1)]),(iN 0)]
def y23:T An:=no y11 .nil
def y24:T An:=no .nil y23
def y25:T An:=lf y15
def y26:T An:=no y25 .nil
def y27:T An:=no .nil y26
def y28:T An:=no .nil y6
def y29:T An:=no .nil (no .nil y28)
def y30:T An:=no .nil y11
def y31:T An:=no .nil (no .nil y30)
def y32:T An:=no .nil y25
def y33:T An:=no .nil (no .nil y32)
def y34:AV:=.tuple [(iN 0),(iN 0)]
def y35:T An:=no (no .nil (no y21 .nil)) .nil
def y36:T An:=no (no .nil (no y24 .nil)) .nil
def y37:T An:=no (no .nil (no y27 .nil)) .nil
def y38:T An:=no y30 .nil
def y39:T An:=no y32 .nil
def y40:T An:=no y28 .nil
def y41:AV:=.slice 8036 0 4 15
def y42:AV:=.func (.func 30) [] [(pN 9624),(pN 9623),(pN 8040)]
def y43:T AV:=lf (.agg [(.str 1 108),(iN 7),(iN 0),(.bool false),(.bool false),(iN 0),(iN 0),(iN 0),(.slice 8034 0 1 2),(.str 1 97),(.str 0 0),(.str 0 0),.slice0,(iN 0),(iN 0)])
def y44:T An:=no (no (no .nil (no .nil (no (no .nil y29) .nil))) .nil) .nil
def y45:T An:=no (no (no .nil (no .nil (no (no (no .nil (no .nil (no (no .nil (no (no y13 .nil) .nil)) .nil))) .nil) .nil))) y44) .nil
def y46:List AV:=[(.str 1 108),(iN 7),(iN 0),(.bool false),(.bool false),(iN 0),(iN 0),(iN 0),(.slice 8034 0 1 2),(.str 1 97),(.str 0 0),(.str 0 0),.slice0,(iN 0),(iN 0)]
def y47:T An:=no (no .nil y33) .nil
def y48:T AV:=lf y41
def y49:T An:=no (no .nil (no .nil (no (no .nil (no .nil (no .nil (no .nil (lf (.cells 3 (nd (.str 1 100) (lf (.slice 8038 0 2 2)) (lf (.str 1 115))))))))) .nil))) (no (no (no .nil (no .nil (no (no .nil (no (no (lf (.cells 2 (nd (.str 1 115) y48 .nil))) .nil) .nil)) .nil))) .nil) .nil)
def y50:T An:=no (no (no .nil (no .nil (no (no .nil (no .nil (no .nil (no .nil (lf (ceL 60 [y16,y17,y46,[(.str 1 98),(iN 4),(iN 0),(.bool false),(.bool false),(iN 0),(iN 0),(iN 0),(.slice 8035 0 1 2),(.str 0 0),(.str 0 0),(.str 0 0),.slice0,(iN 0),(iN 0)]])))))) .nil))) .nil) .nil
def y51:T An:=no (no (no (no .nil (no .nil (no (no .nil y31) .nil))) .nil) .nil) (no (no (no .nil (no .nil (no (no .nil (no .nil (no .nil (no .nil (lf (.cells 4 (nd (.str 1 97) (nd (.slice 8032 0 1 15) y48 .nil) (lf (.str 1 115))))))))) .nil))) .nil) .nil)
def y52:T An:=no (no .nil (no .nil y47)) .nil
def y53:AV:=.slice 11004 0 4 15
def y54:AV:=.func (.func 30) [] [(pN 12592),(pN 12591),(pN 11008)]
def y55:T AV:=lf (.agg [(.str 1 108),(iN 7),(iN 0),(.bool false),(.bool false),(iN 0),(iN 0),(iN 0),(.slice 11002 0 1 2),(.str 1 97),(.str 0 0),(.str 0 0),.slice0,(iN 0),(iN 0)])
def y56:T An:=no .nil (no .nil (no .nil (no .nil (no .nil y35))))
def y57:T An:=no (no (no (no .nil (no .nil (no (no y14 .nil) .nil))) .nil) y56) .nil
def y58:T AV:=lf y53
def y59:T An:=no (no (no (no (no .nil (no .nil (no (no .nil (no (lf (.cells 3 (nd (.str 1 100) (lf (.slice 11006 0 2 2)) (lf (.str 1 115))))) .nil)) .nil))) .nil) .nil) .nil) (no .nil (no (no (no .nil (no (no (no (no .nil (lf (.cells 2 (nd (.str 1 115) y58 .nil)))) .nil) .nil) .nil)) .nil) .nil))
def y60:List AV:=[(.str 1 108),(iN 7),(iN 0),(.bool false),(.bool false),(iN 0),(iN 0),(iN 0),(.slice 11002 0 1 2),(.str 1 97),(.str 0 0),(.str 0 0),.slice0,(iN 0),(iN 0)]
def y61:T An:=no .nil y37
def y62:T An:=no .nil (no .nil (no .nil (no .nil (no .nil (no (no .nil (no (no .nil (no (lf (ceL 60 [y16,y17,y60,[(.str 1 98),(iN 4),(iN 0),(.bool false),(.bool false),(iN 0),(iN 0),(iN 0),(.slice 11003 0 1 2),(.str 0 0),(.str 0 0),(.str 0 0),.slice0,(iN 0),(iN 0)]])) .nil)) .nil)) .nil)))))
def y63:T An:=no (no .nil (no .nil (no .nil (no .nil (no .nil y36))))) (no .nil (no .nil (no .nil (no .nil (no .nil (no (no .nil (no (no .nil (no (lf (.cells 4 (nd (.str 1 97) (nd (.slice 11000 0 1 15) y58 .nil) (lf (.str 1 115))))) .nil)) .nil)) .nil))))))
def y64:T An:=no .nil (no .nil (no .nil y61))
noncomputable def o1:Cor:=
 {f:=29,nt:=22,td:=(IQ (Env.of Tryz.prog) 29 2),tmps:=(nd (.slice 10 0 4 15) (nd y1 (no (nd (.slice 10 0 4 15) (lf y1) .nil) y2) (nd (iN 2) (nd (iN 3) y3 .nil) y3)) (no (nd (iN 1) y4 (nd (.ptr 10 30) (lf (iN 3)) .nil)) (nd (pN 2245) y5 (lf (iN 1))))),part:=(no (no .nil (no y6 (nd y7 (no (no (no .nil (no .nil (no (no (no (lf (ceL 15 [y8])) .nil) .nil) .nil))) .nil) .nil) y10))) y19),nx:=2573,ok:=true,v:=(iN 29),out:=.nil,nx':=2971,wr:=[]}
theorem k1:∀[F:Facts],Ir (Env.ofS Tryz.prog [] []) noB 1000000 o1=true:=by
 intro F
 kernel_rfl
theorem w1(G:Nat→D→D):o1.Valid Tryz.prog G:=Cor.last (okE _ []) (w0 G) k1
end Go.Proofs.YtojjaeaohjlfnaaGreat.memoryBounds

