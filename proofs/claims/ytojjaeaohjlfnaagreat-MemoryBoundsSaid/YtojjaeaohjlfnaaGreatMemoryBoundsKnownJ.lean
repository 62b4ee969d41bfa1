/- What is proved: that certain calls which the law MemoryBounds makes come to the results that are written here (part 10 of 13). Conditions: the memory that such a call reaches is as written here; the kernel runs the evaluator over each. -/
import Derived.Test.YtojjaeaohjlfnaaGreatMemoryBoundsKnownA
set_option linter.unusedVariables false
set_option linter.unusedSectionVars false
set_option linter.unusedSimpArgs false
namespace Go.Proofs.YtojjaeaohjlfnaaGreat.memoryBounds
open Go.AE
noncomputable def o14:Cor:=
 {f:=29,nt:=22,td:=(IQ (Env.of Tryz.prog) 29 2),tmps:=(nd y53 (nd y54 (no (nd y53 (lf y54) .nil) y2) (nd (iN 2) (nd (iN 3) y55 .nil) y55)) (no (nd (iN 1) y4 (nd (.ptr 11004 30) (lf (iN 3)) .nil)) (nd (pN 13240) y5 (lf (iN 1))))),part:=(no y57 (no (no (no y59 (no .nil (no .nil (no (no .nil (no .nil (no .nil (no (no (no .nil (lf (ceL 15 [y60]))) .nil) .nil)))) y61)))) y62) y63)),nx:=13568,ok:=true,v:=(iN 29),out:=.nil,nx':=13966,wr:=[]}
theorem k14:∀[F:Facts],Ir (Env.ofS Tryz.prog [] []) noB 1000000 o14=true:=by
 intro F
 kernel_rfl
theorem w14(G:Nat→D→D):o14.Valid Tryz.prog G:=Cor.last (okE _ []) (w0 G) k14
end Go.Proofs.YtojjaeaohjlfnaaGreat.memoryBounds

