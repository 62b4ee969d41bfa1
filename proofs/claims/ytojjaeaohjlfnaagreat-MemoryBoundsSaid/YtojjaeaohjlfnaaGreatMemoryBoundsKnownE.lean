/- What is proved: that certain calls which the law MemoryBounds makes come to the results that are written here (part 5 of 13). Conditions: the memory that such a call reaches is as written here; the kernel runs the evaluator over each. -/
import Derived.Test.YtojjaeaohjlfnaaGreatMemoryBoundsKnownA
set_option linter.unusedVariables false
set_option linter.unusedSectionVars false
set_option linter.unusedSimpArgs false
namespace Go.Proofs.YtojjaeaohjlfnaaGreat.memoryBounds
open Go.AE
noncomputable def o5:Orc:=
 {f:=14,args:=[(.agg [(.str 1 100),(.slice 3944 0 2 2),(.str 1 115)]),(.str 1 115),(.str 1 109)],part:=(no (no .nil (no .nil (no (no (no .nil (no .nil (no y29 .nil))) .nil) .nil))) (no (no (no .nil (no (no .nil (no .nil (no (no .nil (no .nil (no .nil (lf (.cells 4 (nd (.str 1 97) (nd (.slice 3938 0 1 15) (lf (.slice 3942 0 4 15)) .nil) (lf (.str 1 115)))))))) .nil))) .nil)) (no (no (no .nil (no .nil (no y31 .nil))) .nil) .nil)) (no (no (no (no .nil (no .nil (no y33 .nil))) .nil) .nil) (no (no (no .nil (no .nil (no (no .nil (no .nil (no .nil (lf (ceL 60 [y16,y17,[(.str 1 108),(iN 7),(iN 0),(.bool false),(.bool false),(iN 0),(iN 0),(iN 0),(.slice 3940 0 1 2),(.str 1 97),(.str 0 0),(.str 0 0),.slice0,(iN 0),(iN 0)],[(.str 1 98),(iN 4),(iN 0),(.bool false),(.bool false),(iN 0),(iN 0),(iN 0),(.slice 3941 0 1 2),(.str 0 0),(.str 0 0),(.str 0 0),.slice0,(iN 0),(iN 0)]]))))) .nil))) .nil) .nil)))),nx:=3945,ok:=true,v:=(.tuple [(iN 1),(iN 0)]),out:=.nil,nx':=4661,wr:=[]}
theorem k5:∀[F:Facts],Dn (Env.ofS Tryz.prog [] []) 1000000 o5=true:=by
 intro F
 kernel_rfl
theorem w5(G:Nat→D→D):o5.Valid Tryz.prog G:=Ac.val (okE _ []) (w0 G) k5
noncomputable def o6:Orc:=
 {f:=14,args:=[(.agg [(.str 1 100),(.slice 4668 0 2 2),(.str 1 115)]),(.str 1 115),(.str 1 110)],part:=(no (no .nil (no (no .nil (no .nil (no .nil (no (no (no (no .nil (no y20 .nil)) .nil) .nil) .nil)))) .nil)) (no (no (no .nil (no .nil (no .nil (no (no (no (no .nil (no y23 .nil)) .nil) .nil) .nil)))) (no .nil (no .nil (no .nil (no (no (no (no .nil (no (no (lf (.cells 4 (nd (.str 1 97) (nd (.slice 4662 0 1 15) (lf (.slice 4666 0 4 15)) .nil) (lf (.str 1 115))))) .nil) .nil)) .nil) .nil) .nil))))) (no (no .nil (no .nil (no .nil (no (no (no (no .nil (no (no (lf (ceL 60 [y16,y17,[(.str 1 108),(iN 7),(iN 0),(.bool false),(.bool false),(iN 0),(iN 0),(iN 0),(.slice 4664 0 1 2),(.str 1 97),(.str 0 0),(.str 0 0),.slice0,(iN 0),(iN 0)],[(.str 1 98),(iN 4),(iN 0),(.bool false),(.bool false),(iN 0),(iN 0),(iN 0),(.slice 4665 0 1 2),(.str 0 0),(.str 0 0),(.str 0 0),.slice0,(iN 0),(iN 0)]])) .nil) .nil)) .nil) .nil) .nil)))) (no (no .nil (no .nil (no (no (no (no .nil (no y26 .nil)) .nil) .nil) .nil))) .nil)))),nx:=4669,ok:=true,v:=y34,out:=.nil,nx':=5381,wr:=[]}
theorem k6:∀[F:Facts],Dn (Env.ofS Tryz.prog [] []) 1000000 o6=true:=by
 intro F
 kernel_rfl
theorem w6(G:Nat→D→D):o6.Valid Tryz.prog G:=Ac.val (okE _ []) (w0 G) k6
end Go.Proofs.YtojjaeaohjlfnaaGreat.memoryBounds

