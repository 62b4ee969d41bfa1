/- What is proved: that certain calls which the law MemoryBounds makes come to the results that are written here (part 7 of 13). Conditions: the memory that such a call reaches is as written here; the kernel runs the evaluator over each. -/
import Derived.Test.YtojjaeaohjlfnaaGreatMemoryBoundsKnownA
set_option linter.unusedVariables false
set_option linter.unusedSectionVars false
set_option linter.unusedSimpArgs false
namespace Go.Proofs.YtojjaeaohjlfnaaGreat.memoryBounds
open Go.AE
noncomputable def o9:Orc:=
 {f:=14,args:=[(.agg [(.str 1 100),(.slice 6906 0 2 2),(.str 1 115)]),(.str 1 115),(.str 1 108)],part:=(no (no (no (no .nil (no .nil (no .nil (no .nil (no .nil (no (no .nil y40) .nil)))))) .nil) .nil) (no (no (no .nil (no .nil (no .nil (no .nil (no .nil (no (no .nil (no (no .nil (lf (ceL 60 [y16,y17,[(.str 1 108),(iN 7),(iN 0),(.bool false),(.bool false),(iN 0),(iN 0),(iN 0),(.slice 6902 0 1 2),(.str 1 97),(.str 0 0),(.str 0 0),.slice0,(iN 0),(iN 0)],[(.str 1 98),(iN 4),(iN 0),(.bool false),(.bool false),(iN 0),(iN 0),(iN 0),(.slice 6903 0 1 2),(.str 0 0),(.str 0 0),(.str 0 0),.slice0,(iN 0),(iN 0)]]))) .nil)) .nil)))))) (no (no .nil (no .nil (no .nil (no .nil (no (no .nil y39) .nil))))) .nil)) (no (no .nil (no .nil (no .nil (no .nil (no .nil (no (no .nil (no (no .nil (lf (.cells 4 (nd (.str 1 97) (nd (.slice 6900 0 1 15) (lf (.slice 6904 0 4 15)) .nil) (lf (.str 1 115)))))) .nil)) .nil)))))) (no (no .nil (no .nil (no .nil (no .nil (no (no .nil y38) .nil))))) .nil)))),nx:=6907,ok:=true,v:=y34,out:=.nil,nx':=7627,wr:=[]}
theorem k9:∀[F:Facts],Dn (Env.ofS Tryz.prog [] []) 1000000 o9=true:=by
 intro F
 kernel_rfl
theorem w9(G:Nat→D→D):o9.Valid Tryz.prog G:=Ac.val (okE _ []) (w0 G) k9
noncomputable def o10:Orc:=
 {f:=24,args:=[(.str 1 115),(.str 1 122),(iN 0),(iN 9)],part:=.nil,nx:=7627,ok:=true,v:=(.bool true),out:=.nil,nx':=8030,wr:=[]}
theorem k10:∀[F:Facts],Dn (Env.ofS Tryz.prog [] []) 1000000 o10=true:=by
 intro F
 kernel_rfl
theorem w10(G:Nat→D→D):o10.Valid Tryz.prog G:=Ac.val (okE _ []) (w0 G) k10
noncomputable def o11:Cor:=
 {f:=29,nt:=22,td:=(IQ (Env.of Tryz.prog) 29 2),tmps:=(nd y41 (nd y42 (no (nd y41 (lf y42) .nil) y2) (nd (iN 2) (nd (iN 3) y43 .nil) y43)) (no (nd (iN 1) y4 (nd (.ptr 8036 30) (lf (iN 3)) .nil)) (nd (pN 10272) y5 (lf (iN 1))))),part:=(no y45 (no (no (no (no (no .nil (no (no (no (no (no (no .nil (no (lf (ceL 15 [y46])) .nil)) .nil) .nil) .nil) .nil) y47)) .nil) y49) y50) y51)),nx:=10600,ok:=true,v:=(iN 29),out:=.nil,nx':=10998,wr:=[]}
theorem k11:∀[F:Facts],Ir (Env.ofS Tryz.prog [] []) noB 1000000 o11=true:=by
 intro F
 kernel_rfl
theorem w11(G:Nat→D→D):o11.Valid Tryz.prog G:=Cor.last (okE _ []) (w0 G) k11
end Go.Proofs.YtojjaeaohjlfnaaGreat.memoryBounds

