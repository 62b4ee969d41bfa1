/- What is proved: that certain calls which the law FamilyLists makes come to the results that are written here (part 10 of 10). Conditions: the memory that such a call reaches is as written here; the kernel runs the evaluator over each. -/
import Derived.Test.YtmjeljjkhblgeaaGreatDoorFamilyListsKnownI
set_option linter.unusedVariables false
set_option linter.unusedSectionVars false
set_option linter.unusedSimpArgs false
namespace Go.Proofs.YtmjeljjkhblgeaaGreatDoor.familyLists
open Go.AE
def Xm:Orc:=
 {f:=9,args:=[],part:=.nil,nx:=5,ok:=true,v:=(.bool true),out:=.nil,nx':=3054,wr:=[]}
theorem uH:∀[F:Facts],Ab (Env.ofS Tryz.prog [Yc,aw,YI,aS,XU,WU,Ye,WC] []) 1000000 Xm=true:=by
 intro F
 kernel_rfl
theorem uI (G:Nat→D→D):Xm.Valid Tryz.prog G:=Af.val (okE _ []) (.cons (sO G) (.cons (rT G) (.cons (nI G) (.cons (l7 G) (.cons (lS G) (.cons (tJ G) (.cons (kI G) (.cons (mA G) (w0 G))))))))) uH
end Go.Proofs.YtmjeljjkhblgeaaGreatDoor.familyLists

