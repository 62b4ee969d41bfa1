/- What is proved: that certain calls which the law UpgradeGoesOn makes come to the results that are written here (part 4 of 4). Conditions: the memory that such a call reaches is as written here; the kernel runs the evaluator over each. -/
import Derived.Test.YtmgppdghdeokbaaGreatUpgradeGoesOnKnownC
set_option linter.unusedVariables false
set_option linter.unusedSectionVars false
set_option linter.unusedSimpArgs false
namespace Go.Proofs.YtmgppdghdeokbaaGreat.upgradeGoesOn
open Go.AE
def mQ:T Aj:=(no (no (no (no .nil (no .nil (lf (.cells 1 (lf (.ptr 215 0)))))) (no (no .nil y50) .nil)) (no .nil (no (no .nil (lf (.cells 11 (nd (.ptr 207 0) y78 (nd (.slice 211 0 2 3) (nd (.slice 213 0 2 9) (lf (.ptr 214 0)) .nil) y53))))) .nil))) (no (no .nil y11) .nil))
def yy:T Aj:=(no (no (no (no .nil (no .nil (lf (.cells 3 (nd (.ptr 223 0) (lf .ptr0) (lf .slice0)))))) .nil) .nil) .nil)
def rv:T Aj:=(no (no .nil (no (no .nil y79) .nil)) .nil)
def o40:Orc:=
 {f:=25,args:=[(.ptr 224 0),(.int .i64 (.ofNat 1)),rT,y76],part:=(nd y43 (no mQ (no (no .nil (no (no nU .nil) .nil)) (no (no .nil y15) bp))) (no yy (no .nil rv))),nx:=3598,ok:=true,v:=(.int .i64 (.ofNat 9)),out:=.nil,nx':=4545,wr:=[]}
def l40:List Orc:=o40::l39
theorem k40:∀[F:Facts],AH (Env.ofS Tryz.prog l39 []) 100000 o40=true:=by
 intro F
 kernel_rfl
theorem w40 (G:Nat→D→D):Ad (Env.ofS Tryz.prog l40 []) G:=Ad.add (U:=Bm) (okE l39 []) (w39 G) k40
def o41:Orc:=
 {f:=25,args:=[(.ptr 224 0),(.int .i64 (.ofNat 1)),(.agg [(.str 1 111),(.slice 4546 0 2 3),.slice0,(.slice 4549 0 2 9)]),(.agg [(.slice 0 0 1 2),.slice0])],part:=(nd y43 (no mQ (no .nil (no (no (no (no .nil (no .nil (no .nil y46))) .nil) y15) .nil))) (no yy (no (no (no (no (no .nil (no .nil (no .nil y45))) .nil) .nil) .nil) rv))),nx:=4550,ok:=true,v:=(.int .i64 (.ofNat 490)),out:=.nil,nx':=4673,wr:=[]}
def l41:List Orc:=o41::l40
theorem k41:∀[F:Facts],AH (Env.ofS Tryz.prog l40 []) 100000 o41=true:=by
 intro F
 kernel_rfl
theorem w41 (G:Nat→D→D):Ad (Env.ofS Tryz.prog l41 []) G:=Ad.add (U:=Bm) (okE l40 []) (w40 G) k41
end Go.Proofs.YtmgppdghdeokbaaGreat.upgradeGoesOn

