/- What is proved: that certain calls which the law FamilyExamples makes come to the results that are written here (part 2 of 16). Conditions: the memory that such a call reaches is as written here; the kernel runs the evaluator over each. -/
import Derived.Test.YtmjeljjkhblgeaaGreatDoorFamilyExamplesKnownA
set_option linter.unusedVariables false
set_option linter.unusedSectionVars false
set_option linter.unusedSimpArgs false
namespace Go.Proofs.YtmjeljjkhblgeaaGreatDoor.familyExamples
open Go.AE
def o57:Orc:=
 {f:=284,args:=[(.slice 45 0 4 1),(.func (.func 285) [] [(.ptr 200 0)])],part:=(no y6 (no (no (no .nil (no (no (no .nil (lf (.cells 5 (nd (.int .i64 (.ofNat 0)) y77 y94)))) .nil) .nil)) y92) .nil)),nx:=201,ok:=true,v:=(.bool true),out:=(no .nil (no (no (no .nil (no (no (no .nil (lf (.cells 5 (nd (.int .i64 (.ofNat 2)) y77 y94)))) .nil) .nil)) y95) .nil)),nx':=203,wr:=[44,200]}
theorem k57:∀[F:Facts],Ab (Env.ofS Tryz.prog [] []) 1000000 o57=true:=by
 intro F
 kernel_rfl
theorem w57 (G:Nat→D→D):o57.Valid Tryz.prog G:=Ad.val (okE _ []) (w0 G) k57
def o58:Orc:=
 {f:=282,args:=[(.ptr 44 0)],part:=(no .nil (no y96 .nil)),nx:=205,ok:=true,v:=(.tuple []),out:=.nil,nx':=206,wr:=[]}
theorem k58:∀[F:Facts],Ab (Env.ofS Tryz.prog [] []) 1000000 o58=true:=by
 intro F
 kernel_rfl
theorem w58 (G:Nat→D→D):o58.Valid Tryz.prog G:=Ad.val (okE _ []) (w0 G) k58
def o59:Orc:=
 {f:=284,args:=[(.slice 45 0 4 1),(.func (.func 285) [] [(.ptr 206 0)])],part:=(no y6 (no y96 (no .nil (no .nil (no (no (no .nil (lf (.cells 5 (nd (.int .i64 (.ofNat 0)) y77 y97)))) .nil) .nil))))),nx:=207,ok:=true,v:=(.bool true),out:=(no .nil (no y98 (no .nil (no .nil (no (no (no .nil (lf (.cells 5 (nd (.int .i64 (.ofNat 4)) y77 y97)))) .nil) .nil))))),nx':=208,wr:=[44,206]}
theorem k59:∀[F:Facts],Ab (Env.ofS Tryz.prog [] []) 1000000 o59=true:=by
 intro F
 kernel_rfl
theorem w59 (G:Nat→D→D):o59.Valid Tryz.prog G:=Ad.val (okE _ []) (w0 G) k59
def o60:Orc:=
 {f:=282,args:=[(.ptr 44 0)],part:=(no .nil y99),nx:=210,ok:=true,v:=(.tuple []),out:=.nil,nx':=211,wr:=[]}
theorem k60:∀[F:Facts],Ab (Env.ofS Tryz.prog [] []) 1000000 o60=true:=by
 intro F
 kernel_rfl
theorem w60 (G:Nat→D→D):o60.Valid Tryz.prog G:=Ad.val (okE _ []) (w0 G) k60
def o61:Orc:=
 {f:=284,args:=[(.slice 45 0 4 1),(.func (.func 285) [] [(.ptr 211 0)])],part:=(no (no (no .nil (no (no .nil (no (no .nil (lf (.cells 5 (nd (.int .i64 (.ofNat 0)) y77 OJ)))) .nil)) .nil)) y5) y99),nx:=212,ok:=true,v:=(.bool true),out:=(no (no (no .nil (no (no .nil (no (no .nil (lf (.cells 5 (nd (.int .i64 (.ofNat 2)) y77 eE)))) .nil)) .nil)) .nil) br),nx':=214,wr:=[44,211]}
theorem k61:∀[F:Facts],Ab (Env.ofS Tryz.prog [] []) 1000000 o61=true:=by
 intro F
 kernel_rfl
theorem w61 (G:Nat→D→D):o61.Valid Tryz.prog G:=Ad.val (okE _ []) (w0 G) k61
def o62:Orc:=
 {f:=282,args:=[(.ptr 44 0)],part:=(no .nil br),nx:=216,ok:=true,v:=(.tuple []),out:=.nil,nx':=217,wr:=[]}
theorem k62:∀[F:Facts],Ab (Env.ofS Tryz.prog [] []) 1000000 o62=true:=by
 intro F
 kernel_rfl
theorem w62 (G:Nat→D→D):o62.Valid Tryz.prog G:=Ad.val (okE _ []) (w0 G) k62
def o63:Orc:=
 {f:=284,args:=[(.slice 45 0 4 1),(.func (.func 285) [] [(.ptr 217 0)])],part:=(no (no .nil (no (no .nil (no .nil (no (no .nil (lf (.cells 5 (nd (.int .i64 (.ofNat 0)) y77 QN)))) .nil))) y4)) br),nx:=218,ok:=true,v:=(.bool true),out:=(no (no .nil (no (no .nil (no .nil (no (no .nil (lf (.cells 5 (nd (.int .i64 (.ofNat 4)) y77 QN)))) .nil))) .nil)) ni),nx':=219,wr:=[44,217]}
theorem k63:∀[F:Facts],Ab (Env.ofS Tryz.prog [] []) 1000000 o63=true:=by
 intro F
 kernel_rfl
theorem w63 (G:Nat→D→D):o63.Valid Tryz.prog G:=Ad.val (okE _ []) (w0 G) k63
def o64:Orc:=
 {f:=308,args:=[(.ptr 44 0),(.int .i64 (.ofNat 416)),(.func (.func 319) [] [])],part:=kw,nx:=221,ok:=true,v:=(.int .i64 (.ofNat 3)),out:=mR,nx':=221,wr:=[44]}
theorem k64:∀[F:Facts],Ab (Env.ofS Tryz.prog [] []) 1000000 o64=true:=by
 intro F
 kernel_rfl
theorem w64 (G:Nat→D→D):o64.Valid Tryz.prog G:=Ad.val (okE _ []) (w0 G) k64
def o65:Orc:=
 {f:=282,args:=[(.ptr 44 0)],part:=kw,nx:=221,ok:=true,v:=(.tuple []),out:=mR,nx':=223,wr:=[44]}
theorem k65:∀[F:Facts],Ab (Env.ofS Tryz.prog [o64] []) 1000000 o65=true:=by
 intro F
 kernel_rfl
theorem w65 (G:Nat→D→D):o65.Valid Tryz.prog G:=Ad.val (okE _ []) (.cons (w64 G) (w0 G)) k65
def o66:Orc:=
 {f:=284,args:=[(.slice 45 0 4 1),(.func (.func 285) [] [(.ptr 223 0)])],part:=(no (no (no (no (no (no .nil (no .nil (lf (.cells 5 (nd (.int .i64 (.ofNat 0)) FU y32))))) .nil) .nil) .nil) y5) lF),nx:=224,ok:=true,v:=(.bool true),out:=(no (no (no (no (no (no .nil (no .nil (lf (.cells 5 (nd (.int .i64 (.ofNat 1)) FU y32))))) .nil) .nil) .nil) .nil) Wf),nx':=224,wr:=[44,223]}
theorem k66:∀[F:Facts],Ab (Env.ofS Tryz.prog [] []) 1000000 o66=true:=by
 intro F
 kernel_rfl
theorem w66 (G:Nat→D→D):o66.Valid Tryz.prog G:=Ad.val (okE _ []) (w0 G) k66
def o67:Orc:=
 {f:=282,args:=[(.ptr 44 0)],part:=(no .nil Wf),nx:=226,ok:=true,v:=(.tuple []),out:=.nil,nx':=227,wr:=[]}
theorem k67:∀[F:Facts],Ab (Env.ofS Tryz.prog [] []) 1000000 o67=true:=by
 intro F
 kernel_rfl
theorem w67 (G:Nat→D→D):o67.Valid Tryz.prog G:=Ad.val (okE _ []) (w0 G) k67
def o68:Orc:=
 {f:=284,args:=[(.slice 45 0 4 1),(.func (.func 285) [] [(.ptr 227 0)])],part:=(no (no (no .nil (no (no (no .nil (no .nil (lf (.cells 5 (nd (.int .i64 (.ofNat 0)) FU y34))))) .nil) .nil)) y5) Wf),nx:=228,ok:=true,v:=(.bool true),out:=(no (no (no .nil (no (no (no .nil (no .nil (lf (.cells 5 (nd (.int .i64 (.ofNat 4)) FU y34))))) .nil) .nil)) .nil) ly),nx':=229,wr:=[44,227]}
theorem k68:∀[F:Facts],Ab (Env.ofS Tryz.prog [] []) 1000000 o68=true:=by
 intro F
 kernel_rfl
theorem w68 (G:Nat→D→D):o68.Valid Tryz.prog G:=Ad.val (okE _ []) (w0 G) k68
def o69:Orc:=
 {f:=308,args:=[(.ptr 44 0),(.int .i64 (.ofNat 416)),(.func (.func 319) [] [])],part:=iB,nx:=231,ok:=true,v:=(.int .i64 (.ofNat 1)),out:=jm,nx':=231,wr:=[44]}
theorem k69:∀[F:Facts],Ab (Env.ofS Tryz.prog [] []) 1000000 o69=true:=by
 intro F
 kernel_rfl
theorem w69 (G:Nat→D→D):o69.Valid Tryz.prog G:=Ad.val (okE _ []) (w0 G) k69
def o70:Orc:=
 {f:=282,args:=[(.ptr 44 0)],part:=iB,nx:=231,ok:=true,v:=(.tuple []),out:=jm,nx':=233,wr:=[44]}
theorem k70:∀[F:Facts],Ab (Env.ofS Tryz.prog [o69] []) 1000000 o70=true:=by
 intro F
 kernel_rfl
theorem w70 (G:Nat→D→D):o70.Valid Tryz.prog G:=Ad.val (okE _ []) (.cons (w69 G) (w0 G)) k70
def o71:Orc:=
 {f:=284,args:=[(.slice 45 0 4 1),(.func (.func 285) [] [(.ptr 233 0)])],part:=(no (no .nil (no (no .nil (no (no .nil (no .nil (lf (.cells 5 (nd (.int .i64 (.ofNat 0)) FU y8))))) .nil)) y4)) mP),nx:=234,ok:=true,v:=(.bool true),out:=(no (no .nil (no (no .nil (no (no .nil (no .nil (lf (.cells 5 (nd (.int .i64 (.ofNat 1)) FU y8))))) .nil)) .nil)) dC),nx':=234,wr:=[44,233]}
theorem k71:∀[F:Facts],Ab (Env.ofS Tryz.prog [] []) 1000000 o71=true:=by
 intro F
 kernel_rfl
theorem w71 (G:Nat→D→D):o71.Valid Tryz.prog G:=Ad.val (okE _ []) (w0 G) k71
def o72:Orc:=
 {f:=308,args:=[(.ptr 44 0),(.int .i64 (.ofNat 416)),(.func (.func 319) [] [])],part:=pQ,nx:=236,ok:=true,v:=(.int .i64 (.ofNat 1)),out:=gr,nx':=236,wr:=[44]}
theorem k72:∀[F:Facts],Ab (Env.ofS Tryz.prog [] []) 1000000 o72=true:=by
 intro F
 kernel_rfl
theorem w72 (G:Nat→D→D):o72.Valid Tryz.prog G:=Ad.val (okE _ []) (w0 G) k72
def o73:Orc:=
 {f:=282,args:=[(.ptr 44 0)],part:=pQ,nx:=236,ok:=true,v:=(.tuple []),out:=gr,nx':=238,wr:=[44]}
theorem k73:∀[F:Facts],Ab (Env.ofS Tryz.prog [o72] []) 1000000 o73=true:=by
 intro F
 kernel_rfl
theorem w73 (G:Nat→D→D):o73.Valid Tryz.prog G:=Ad.val (okE _ []) (.cons (w72 G) (w0 G)) k73
def o74:Orc:=
 {f:=284,args:=[(.slice 45 0 4 1),(.func (.func 285) [] [(.ptr 238 0)])],part:=(no y6 (no iQ (no .nil (no .nil (no (no .nil (no .nil (lf (.cells 5 (nd (.int .i64 (.ofNat 0)) FU dE))))) .nil))))),nx:=239,ok:=true,v:=(.bool true),out:=(no .nil (no iT (no .nil (no .nil (no (no .nil (no .nil (lf (.cells 5 (nd (.int .i64 (.ofNat 2)) FU fN))))) .nil))))),nx':=241,wr:=[44,238]}
theorem k74:∀[F:Facts],Ab (Env.ofS Tryz.prog [] []) 1000000 o74=true:=by
 intro F
 kernel_rfl
theorem w74 (G:Nat→D→D):o74.Valid Tryz.prog G:=Ad.val (okE _ []) (w0 G) k74
def o75:Orc:=
 {f:=308,args:=[(.ptr 44 0),(.int .i64 (.ofNat 416)),(.func (.func 319) [] [])],part:=jR,nx:=243,ok:=true,v:=(.int .i64 (.ofNat 1)),out:=hP,nx':=243,wr:=[44]}
theorem k75:∀[F:Facts],Ab (Env.ofS Tryz.prog [] []) 1000000 o75=true:=by
 intro F
 kernel_rfl
theorem w75 (G:Nat→D→D):o75.Valid Tryz.prog G:=Ad.val (okE _ []) (w0 G) k75
def o76:Orc:=
 {f:=282,args:=[(.ptr 44 0)],part:=jR,nx:=243,ok:=true,v:=(.tuple []),out:=hP,nx':=245,wr:=[44]}
theorem k76:∀[F:Facts],Ab (Env.ofS Tryz.prog [o75] []) 1000000 o76=true:=by
 intro F
 kernel_rfl
theorem w76 (G:Nat→D→D):o76.Valid Tryz.prog G:=Ad.val (okE _ []) (.cons (w75 G) (w0 G)) k76
def o77:Orc:=
 {f:=284,args:=[(.slice 45 0 4 1),(.func (.func 285) [] [(.ptr 245 0)])],part:=(no (no .nil (no .nil (no (no .nil (no .nil (no .nil (lf (.cells 5 (nd (.int .i64 (.ofNat 0)) FU y19)))))) y3))) iJ),nx:=246,ok:=true,v:=(.bool true),out:=(no (no .nil (no .nil (no (no .nil (no .nil (no .nil (lf (.cells 5 (nd (.int .i64 (.ofNat 2)) FU y19)))))) .nil))) Z0),nx':=248,wr:=[44,245]}
theorem k77:∀[F:Facts],Ab (Env.ofS Tryz.prog [] []) 1000000 o77=true:=by
 intro F
 kernel_rfl
theorem w77 (G:Nat→D→D):o77.Valid Tryz.prog G:=Ad.val (okE _ []) (w0 G) k77
def o78:Orc:=
 {f:=282,args:=[(.ptr 44 0)],part:=(no .nil Z0),nx:=250,ok:=true,v:=(.tuple []),out:=.nil,nx':=251,wr:=[]}
theorem k78:∀[F:Facts],Ab (Env.ofS Tryz.prog [] []) 1000000 o78=true:=by
 intro F
 kernel_rfl
theorem w78 (G:Nat→D→D):o78.Valid Tryz.prog G:=Ad.val (okE _ []) (w0 G) k78
def o79:Orc:=
 {f:=284,args:=[(.slice 45 0 4 1),(.func (.func 285) [] [(.ptr 251 0)])],part:=(no (no (no .nil (no .nil (no .nil (no .nil (no .nil (lf (.cells 5 (nd (.int .i64 (.ofNat 0)) FU SV)))))))) y5) Z0),nx:=252,ok:=true,v:=(.bool true),out:=(no (no (no .nil (no .nil (no .nil (no .nil (no .nil (lf (.cells 5 (nd (.int .i64 (.ofNat 4)) FU SV)))))))) .nil) eF),nx':=253,wr:=[44,251]}
theorem k79:∀[F:Facts],Ab (Env.ofS Tryz.prog [] []) 1000000 o79=true:=by
 intro F
 kernel_rfl
theorem w79 (G:Nat→D→D):o79.Valid Tryz.prog G:=Ad.val (okE _ []) (w0 G) k79
def o80:Orc:=
 {f:=282,args:=[(.ptr 44 0)],part:=(no .nil eF),nx:=255,ok:=true,v:=(.tuple []),out:=.nil,nx':=256,wr:=[]}
theorem k80:∀[F:Facts],Ab (Env.ofS Tryz.prog [] []) 1000000 o80=true:=by
 intro F
 kernel_rfl
theorem w80 (G:Nat→D→D):o80.Valid Tryz.prog G:=Ad.val (okE _ []) (w0 G) k80
def o81:Orc:=
 {f:=284,args:=[(.slice 45 0 4 1),(.func (.func 285) [] [(.ptr 256 0)])],part:=(no y6 (no (no (no (no (no (no (no (lf (.cells 5 (nd (.int .i64 (.ofNat 0)) FU y97))) .nil) .nil) .nil) .nil) .nil) ml) .nil)),nx:=257,ok:=true,v:=(.bool true),out:=(no .nil (no (no (no (no (no (no (no (lf (.cells 5 (nd (.int .i64 (.ofNat 2)) FU (nd (.int .i64 (.ofNat 512)) (lf (.int .i64 (.ofNat 20))) .nil)))) .nil) .nil) .nil) .nil) .nil) nf) .nil)),nx':=259,wr:=[44,256]}
theorem k81:∀[F:Facts],Ab (Env.ofS Tryz.prog [] []) 1000000 o81=true:=by
 intro F
 kernel_rfl
theorem w81 (G:Nat→D→D):o81.Valid Tryz.prog G:=Ad.val (okE _ []) (w0 G) k81
def o82:Orc:=
 {f:=282,args:=[(.ptr 44 0)],part:=(no .nil (no hZ .nil)),nx:=261,ok:=true,v:=(.tuple []),out:=.nil,nx':=262,wr:=[]}
theorem k82:∀[F:Facts],Ab (Env.ofS Tryz.prog [] []) 1000000 o82=true:=by
 intro F
 kernel_rfl
theorem w82 (G:Nat→D→D):o82.Valid Tryz.prog G:=Ad.val (okE _ []) (w0 G) k82
def o83:Orc:=
 {f:=284,args:=[(.slice 45 0 4 1),(.func (.func 285) [] [(.ptr 262 0)])],part:=(no y6 (no hZ (no .nil (no (no (no (no (no (lf (.cells 5 (nd (.int .i64 (.ofNat 0)) FU y53))) .nil) .nil) .nil) .nil) .nil)))),nx:=263,ok:=true,v:=(.bool true),out:=(no .nil (no fy (no .nil (no (no (no (no (no (lf (.cells 5 (nd (.int .i64 (.ofNat 4)) FU y53))) .nil) .nil) .nil) .nil) .nil)))),nx':=264,wr:=[44,262]}
theorem k83:∀[F:Facts],Ab (Env.ofS Tryz.prog [] []) 1000000 o83=true:=by
 intro F
 kernel_rfl
theorem w83 (G:Nat→D→D):o83.Valid Tryz.prog G:=Ad.val (okE _ []) (w0 G) k83
def o84:Orc:=
 {f:=308,args:=[(.ptr 44 0),(.int .i64 (.ofNat 416)),(.func (.func 319) [] [])],part:=lu,nx:=266,ok:=true,v:=(.int .i64 (.ofNat 3)),out:=na,nx':=266,wr:=[44]}
theorem k84:∀[F:Facts],Ab (Env.ofS Tryz.prog [] []) 1000000 o84=true:=by
 intro F
 kernel_rfl
theorem w84 (G:Nat→D→D):o84.Valid Tryz.prog G:=Ad.val (okE _ []) (w0 G) k84
def o85:Orc:=
 {f:=282,args:=[(.ptr 44 0)],part:=lu,nx:=266,ok:=true,v:=(.tuple []),out:=na,nx':=268,wr:=[44]}
theorem k85:∀[F:Facts],Ab (Env.ofS Tryz.prog [o84] []) 1000000 o85=true:=by
 intro F
 kernel_rfl
theorem w85 (G:Nat→D→D):o85.Valid Tryz.prog G:=Ad.val (okE _ []) (.cons (w84 G) (w0 G)) k85
def o86:Orc:=
 {f:=284,args:=[(.slice 45 0 4 1),(.func (.func 285) [] [(.ptr 268 0)])],part:=(no y6 (no (no .nil (no .nil (no (nd mX (no (no (lf (.cells 5 (nd (.int .i64 (.ofNat 0)) GP y32))) .nil) .nil) .nil) .nil))) .nil)),nx:=269,ok:=true,v:=(.bool true),out:=(no .nil (no (no .nil (no .nil (no (nd ow (no (no (lf (.cells 5 (nd (.int .i64 (.ofNat 1)) GP y32))) .nil) .nil) .nil) .nil))) .nil)),nx':=269,wr:=[44,268]}
theorem k86:∀[F:Facts],Ab (Env.ofS Tryz.prog [] []) 1000000 o86=true:=by
 intro F
 kernel_rfl
theorem w86 (G:Nat→D→D):o86.Valid Tryz.prog G:=Ad.val (okE _ []) (w0 G) k86
def o87:Orc:=
 {f:=282,args:=[(.ptr 44 0)],part:=(no .nil (no (no .nil fH) .nil)),nx:=271,ok:=true,v:=(.tuple []),out:=.nil,nx':=272,wr:=[]}
theorem k87:∀[F:Facts],Ab (Env.ofS Tryz.prog [] []) 1000000 o87=true:=by
 intro F
 kernel_rfl
theorem w87 (G:Nat→D→D):o87.Valid Tryz.prog G:=Ad.val (okE _ []) (w0 G) k87
def o88:Orc:=
 {f:=284,args:=[(.slice 45 0 4 1),(.func (.func 285) [] [(.ptr 272 0)])],part:=(no y6 (no (no (no (no .nil (no (no (no (lf (.cells 5 (nd (.int .i64 (.ofNat 0)) GP y34))) .nil) .nil) .nil)) .nil) fH) .nil)),nx:=273,ok:=true,v:=(.bool true),out:=(no .nil (no (no (no (no .nil (no (no (no (lf (.cells 5 (nd (.int .i64 (.ofNat 4)) GP y34))) .nil) .nil) .nil)) .nil) m5) .nil)),nx':=274,wr:=[44,272]}
theorem k88:∀[F:Facts],Ab (Env.ofS Tryz.prog [] []) 1000000 o88=true:=by
 intro F
 kernel_rfl
theorem w88 (G:Nat→D→D):o88.Valid Tryz.prog G:=Ad.val (okE _ []) (w0 G) k88
def o89:Orc:=
 {f:=308,args:=[(.ptr 44 0),(.int .i64 (.ofNat 416)),(.func (.func 319) [] [])],part:=fZ,nx:=276,ok:=true,v:=(.int .i64 (.ofNat 1)),out:=pf,nx':=276,wr:=[44]}
theorem k89:∀[F:Facts],Ab (Env.ofS Tryz.prog [] []) 1000000 o89=true:=by
 intro F
 kernel_rfl
theorem w89 (G:Nat→D→D):o89.Valid Tryz.prog G:=Ad.val (okE _ []) (w0 G) k89
def o90:Orc:=
 {f:=282,args:=[(.ptr 44 0)],part:=fZ,nx:=276,ok:=true,v:=(.tuple []),out:=pf,nx':=278,wr:=[44]}
theorem k90:∀[F:Facts],Ab (Env.ofS Tryz.prog [o89] []) 1000000 o90=true:=by
 intro F
 kernel_rfl
theorem w90 (G:Nat→D→D):o90.Valid Tryz.prog G:=Ad.val (okE _ []) (.cons (w89 G) (w0 G)) k90
def o91:Orc:=
 {f:=284,args:=[(.slice 45 0 4 1),(.func (.func 285) [] [(.ptr 278 0)])],part:=(no y6 (no ld (no .nil (no (no .nil (no (no (no (lf (.cells 5 (nd (.int .i64 (.ofNat 0)) GP y8))) .nil) .nil) .nil)) .nil)))),nx:=279,ok:=true,v:=(.bool true),out:=(no .nil (no lG (no .nil (no (no .nil (no (no (no (lf (.cells 5 (nd (.int .i64 (.ofNat 1)) GP y8))) .nil) .nil) .nil)) .nil)))),nx':=279,wr:=[44,278]}
theorem k91:∀[F:Facts],Ab (Env.ofS Tryz.prog [] []) 1000000 o91=true:=by
 intro F
 kernel_rfl
theorem w91 (G:Nat→D→D):o91.Valid Tryz.prog G:=Ad.val (okE _ []) (w0 G) k91
def o92:Orc:=
 {f:=308,args:=[(.ptr 44 0),(.int .i64 (.ofNat 416)),(.func (.func 319) [] [])],part:=dP,nx:=281,ok:=true,v:=(.int .i64 (.ofNat 1)),out:=gu,nx':=281,wr:=[44]}
theorem k92:∀[F:Facts],Ab (Env.ofS Tryz.prog [] []) 1000000 o92=true:=by
 intro F
 kernel_rfl
theorem w92 (G:Nat→D→D):o92.Valid Tryz.prog G:=Ad.val (okE _ []) (w0 G) k92
def o93:Orc:=
 {f:=282,args:=[(.ptr 44 0)],part:=dP,nx:=281,ok:=true,v:=(.tuple []),out:=gu,nx':=283,wr:=[44]}
theorem k93:∀[F:Facts],Ab (Env.ofS Tryz.prog [o92] []) 1000000 o93=true:=by
 intro F
 kernel_rfl
theorem w93 (G:Nat→D→D):o93.Valid Tryz.prog G:=Ad.val (okE _ []) (.cons (w92 G) (w0 G)) k93
def o94:Orc:=
 {f:=284,args:=[(.slice 45 0 4 1),(.func (.func 285) [] [(.ptr 283 0)])],part:=(no (no (no .nil (no .nil (no .nil (no (no (no (lf (.cells 5 (nd (.int .i64 (.ofNat 0)) GP y14))) .nil) .nil) .nil)))) y5) pq),nx:=284,ok:=true,v:=(.bool true),out:=(no (no (no .nil (no .nil (no .nil (no (no (no (lf (.cells 5 (nd (.int .i64 (.ofNat 4)) GP y14))) .nil) .nil) .nil)))) .nil) jq),nx':=285,wr:=[44,283]}
theorem k94:∀[F:Facts],Ab (Env.ofS Tryz.prog [] []) 1000000 o94=true:=by
 intro F
 kernel_rfl
theorem w94 (G:Nat→D→D):o94.Valid Tryz.prog G:=Ad.val (okE _ []) (w0 G) k94
def o95:Orc:=
 {f:=282,args:=[(.ptr 44 0)],part:=(no .nil jq),nx:=287,ok:=true,v:=(.tuple []),out:=.nil,nx':=288,wr:=[]}
theorem k95:∀[F:Facts],Ab (Env.ofS Tryz.prog [] []) 1000000 o95=true:=by
 intro F
 kernel_rfl
theorem w95 (G:Nat→D→D):o95.Valid Tryz.prog G:=Ad.val (okE _ []) (w0 G) k95
def o96:Orc:=
 {f:=284,args:=[(.slice 45 0 4 1),(.func (.func 285) [] [(.ptr 288 0)])],part:=(no y6 (no (no (no (no (no .nil (no (no (lf (.cells 5 (nd (.int .i64 (.ofNat 0)) GP y88))) .nil) .nil)) .nil) .nil) nU) .nil)),nx:=289,ok:=true,v:=(.bool true),out:=(no .nil (no (no (no (no (no .nil (no (no (lf (.cells 5 (nd (.int .i64 (.ofNat 1)) GP y88))) .nil) .nil)) .nil) .nil) fT) .nil)),nx':=289,wr:=[44,288]}
theorem k96:∀[F:Facts],Ab (Env.ofS Tryz.prog [] []) 1000000 o96=true:=by
 intro F
 kernel_rfl
theorem w96 (G:Nat→D→D):o96.Valid Tryz.prog G:=Ad.val (okE _ []) (w0 G) k96
def o97:Orc:=
 {f:=282,args:=[(.ptr 44 0)],part:=(no .nil (no (no .nil fT) .nil)),nx:=291,ok:=true,v:=(.tuple []),out:=.nil,nx':=292,wr:=[]}
theorem k97:∀[F:Facts],Ab (Env.ofS Tryz.prog [] []) 1000000 o97=true:=by
 intro F
 kernel_rfl
theorem w97 (G:Nat→D→D):o97.Valid Tryz.prog G:=Ad.val (okE _ []) (w0 G) k97
def o98:Orc:=
 {f:=284,args:=[(.slice 45 0 4 1),(.func (.func 285) [] [(.ptr 292 0)])],part:=(no y6 (no (no .nil (no (no (no .nil (no (no (lf (.cells 5 (nd (.int .i64 (.ofNat 0)) GP y97))) .nil) .nil)) .nil) lX)) .nil)),nx:=293,ok:=true,v:=(.bool true),out:=(no .nil (no (no .nil (no (no (no .nil (no (no (lf (.cells 5 (nd (.int .i64 (.ofNat 4)) GP y97))) .nil) .nil)) .nil) m8)) .nil)),nx':=294,wr:=[44,292]}
theorem k98:∀[F:Facts],Ab (Env.ofS Tryz.prog [] []) 1000000 o98=true:=by
 intro F
 kernel_rfl
theorem w98 (G:Nat→D→D):o98.Valid Tryz.prog G:=Ad.val (okE _ []) (w0 G) k98
def o99:Orc:=
 {f:=282,args:=[(.ptr 44 0)],part:=(no .nil fM),nx:=296,ok:=true,v:=(.tuple []),out:=.nil,nx':=297,wr:=[]}
theorem k99:∀[F:Facts],Ab (Env.ofS Tryz.prog [] []) 1000000 o99=true:=by
 intro F
 kernel_rfl
theorem w99 (G:Nat→D→D):o99.Valid Tryz.prog G:=Ad.val (okE _ []) (w0 G) k99
def cw:Orc:=
 {f:=284,args:=[(.slice 45 0 4 1),(.func (.func 285) [] [(.ptr 297 0)])],part:=(no (no .nil (no (no .nil (no (no .nil (no (no (lf (.cells 5 (nd (.int .i64 (.ofNat 0)) GP y24))) .nil) .nil)) .nil)) y4)) fM),nx:=298,ok:=true,v:=(.bool true),out:=(no (no .nil (no (no .nil (no (no .nil (no (no (lf (.cells 5 (nd (.int .i64 (.ofNat 4)) GP y24))) .nil) .nil)) .nil)) .nil)) lS),nx':=299,wr:=[44,297]}
theorem Aa1:∀[F:Facts],Ab (Env.ofS Tryz.prog [] []) 1000000 cw=true:=by
 intro F
 kernel_rfl
theorem tV (G:Nat→D→D):cw.Valid Tryz.prog G:=Ad.val (okE _ []) (w0 G) Aa1
def XM:Orc:=
 {f:=308,args:=[(.ptr 44 0),(.int .i64 (.ofNat 416)),(.func (.func 319) [] [])],part:=ft,nx:=301,ok:=true,v:=(.int .i64 (.ofNat 1)),out:=iO,nx':=301,wr:=[44]}
theorem Aaa:∀[F:Facts],Ab (Env.ofS Tryz.prog [] []) 1000000 XM=true:=by
 intro F
 kernel_rfl
theorem Aab (G:Nat→D→D):XM.Valid Tryz.prog G:=Ad.val (okE _ []) (w0 G) Aaa
def Ze:Orc:=
 {f:=282,args:=[(.ptr 44 0)],part:=ft,nx:=301,ok:=true,v:=(.tuple []),out:=iO,nx':=303,wr:=[44]}
theorem uF:∀[F:Facts],Ab (Env.ofS Tryz.prog [XM] []) 1000000 Ze=true:=by
 intro F
 kernel_rfl
theorem Aag (G:Nat→D→D):Ze.Valid Tryz.prog G:=Ad.val (okE _ []) (.cons (Aab G) (w0 G)) uF
def YI:Orc:=
 {f:=284,args:=[(.slice 45 0 4 1),(.func (.func 285) [] [(.ptr 303 0)])],part:=(no (no (no (no (no .nil (no .nil (no (no (lf (.cells 5 (nd (.int .i64 (.ofNat 0)) oA y59))) .nil) .nil))) .nil) .nil) y5) nL),nx:=304,ok:=true,v:=(.bool true),out:=(no (no (no (no (no .nil (no .nil (no (no (lf (.cells 5 (nd (.int .i64 (.ofNat 4)) oA y59))) .nil) .nil))) .nil) .nil) .nil) oW),nx':=305,wr:=[44,303]}
theorem sP:∀[F:Facts],Ab (Env.ofS Tryz.prog [] []) 1000000 YI=true:=by
 intro F
 kernel_rfl
theorem qu (G:Nat→D→D):YI.Valid Tryz.prog G:=Ad.val (okE _ []) (w0 G) sP
def Xj:Orc:=
 {f:=308,args:=[(.ptr 44 0),(.int .i64 (.ofNat 416)),(.func (.func 319) [] [])],part:=eS,nx:=307,ok:=true,v:=(.int .i64 (.ofNat 1)),out:=gP,nx':=307,wr:=[44]}
theorem zp:∀[F:Facts],Ab (Env.ofS Tryz.prog [] []) 1000000 Xj=true:=by
 intro F
 kernel_rfl
theorem tL (G:Nat→D→D):Xj.Valid Tryz.prog G:=Ad.val (okE _ []) (w0 G) zp
def Wj:Orc:=
 {f:=282,args:=[(.ptr 44 0)],part:=eS,nx:=307,ok:=true,v:=(.tuple []),out:=gP,nx':=309,wr:=[44]}
theorem tu:∀[F:Facts],Ab (Env.ofS Tryz.prog [Xj] []) 1000000 Wj=true:=by
 intro F
 kernel_rfl
theorem yJ (G:Nat→D→D):Wj.Valid Tryz.prog G:=Ad.val (okE _ []) (.cons (tL G) (w0 G)) tu
def bQ:Orc:=
 {f:=284,args:=[(.slice 45 0 4 1),(.func (.func 285) [] [(.ptr 309 0)])],part:=(no (no .nil (no .nil (no (no .nil (no .nil (no (no (lf (.cells 5 (nd (.int .i64 (.ofNat 0)) Rp y59))) .nil) .nil))) y3))) gH),nx:=310,ok:=true,v:=(.bool true),out:=(no (no .nil (no .nil (no (no .nil (no .nil (no (no (lf (.cells 5 (nd (.int .i64 (.ofNat 1)) Rp y59))) .nil) .nil))) .nil))) mr),nx':=310,wr:=[44,309]}
theorem Aa2:∀[F:Facts],Ab (Env.ofS Tryz.prog [] []) 1000000 bQ=true:=by
 intro F
 kernel_rfl
theorem Abq (G:Nat→D→D):bQ.Valid Tryz.prog G:=Ad.val (okE _ []) (w0 G) Aa2
def bw:Orc:=
 {f:=308,args:=[(.ptr 44 0),(.int .i64 (.ofNat 416)),(.func (.func 319) [] [])],part:=ir,nx:=312,ok:=true,v:=(.int .i64 (.ofNat 1)),out:=fP,nx':=312,wr:=[44]}
theorem zr:∀[F:Facts],Ab (Env.ofS Tryz.prog [] []) 1000000 bw=true:=by
 intro F
 kernel_rfl
theorem sE (G:Nat→D→D):bw.Valid Tryz.prog G:=Ad.val (okE _ []) (w0 G) zr
def Y1:Orc:=
 {f:=282,args:=[(.ptr 44 0)],part:=ir,nx:=312,ok:=true,v:=(.tuple []),out:=fP,nx':=314,wr:=[44]}
theorem sj:∀[F:Facts],Ab (Env.ofS Tryz.prog [bw] []) 1000000 Y1=true:=by
 intro F
 kernel_rfl
theorem x6 (G:Nat→D→D):Y1.Valid Tryz.prog G:=Ad.val (okE _ []) (.cons (sE G) (w0 G)) sj
def WZ:Orc:=
 {f:=284,args:=[(.slice 45 0 4 1),(.func (.func 285) [] [(.ptr 314 0)])],part:=(no y6 (no mQ (no (no .nil (no .nil (no .nil (no (no (lf (.cells 5 (nd (.int .i64 (.ofNat 0)) Rp y8))) .nil) .nil)))) .nil))),nx:=315,ok:=true,v:=(.bool true),out:=(no .nil (no g7 (no (no .nil (no .nil (no .nil (no (no (lf (.cells 5 (nd (.int .i64 (.ofNat 1)) Rp y8))) .nil) .nil)))) .nil))),nx':=315,wr:=[44,314]}
theorem tA:∀[F:Facts],Ab (Env.ofS Tryz.prog [] []) 1000000 WZ=true:=by
 intro F
 kernel_rfl
theorem Aba (G:Nat→D→D):WZ.Valid Tryz.prog G:=Ad.val (okE _ []) (w0 G) tA
def bi:Orc:=
 {f:=308,args:=[(.ptr 44 0),(.int .i64 (.ofNat 416)),(.func (.func 319) [] [])],part:=dz,nx:=317,ok:=true,v:=(.int .i64 (.ofNat 1)),out:=kD,nx':=317,wr:=[44]}
theorem Aav:∀[F:Facts],Ab (Env.ofS Tryz.prog [] []) 1000000 bi=true:=by
 intro F
 kernel_rfl
theorem wT (G:Nat→D→D):bi.Valid Tryz.prog G:=Ad.val (okE _ []) (w0 G) Aav
def W0:Orc:=
 {f:=282,args:=[(.ptr 44 0)],part:=dz,nx:=317,ok:=true,v:=(.tuple []),out:=kD,nx':=319,wr:=[44]}
theorem qk:∀[F:Facts],Ab (Env.ofS Tryz.prog [bi] []) 1000000 W0=true:=by
 intro F
 kernel_rfl
theorem vE (G:Nat→D→D):W0.Valid Tryz.prog G:=Ad.val (okE _ []) (.cons (wT G) (w0 G)) qk
def Yp:Orc:=
 {f:=284,args:=[(.slice 45 0 4 1),(.func (.func 285) [] [(.ptr 319 0)])],part:=(no (no (no (no (no (no (no .nil (no (lf (.cells 5 (nd (.int .i64 (.ofNat 0)) Rp Vm))) .nil)) .nil) .nil) .nil) .nil) y5) kR),nx:=320,ok:=true,v:=(.bool true),out:=(no (no (no (no (no (no (no .nil (no (lf (.cells 5 (nd (.int .i64 (.ofNat 4)) Rp Vm))) .nil)) .nil) .nil) .nil) .nil) .nil) iU),nx':=321,wr:=[44,319]}
theorem qp:∀[F:Facts],Ab (Env.ofS Tryz.prog [] []) 1000000 Yp=true:=by
 intro F
 kernel_rfl
theorem Aau (G:Nat→D→D):Yp.Valid Tryz.prog G:=Ad.val (okE _ []) (w0 G) qp
def bZ:Orc:=
 {f:=308,args:=[(.ptr 44 0),(.int .i64 (.ofNat 416)),(.func (.func 319) [] [])],part:=ny,nx:=323,ok:=true,v:=(.int .i64 (.ofNat 3)),out:=gW,nx':=323,wr:=[44]}
theorem Aak:∀[F:Facts],Ab (Env.ofS Tryz.prog [] []) 1000000 bZ=true:=by
 intro F
 kernel_rfl
theorem Abf (G:Nat→D→D):bZ.Valid Tryz.prog G:=Ad.val (okE _ []) (w0 G) Aak
def Yx:Orc:=
 {f:=282,args:=[(.ptr 44 0)],part:=ny,nx:=323,ok:=true,v:=(.tuple []),out:=gW,nx':=325,wr:=[44]}
theorem wa:∀[F:Facts],Ab (Env.ofS Tryz.prog [bZ] []) 1000000 Yx=true:=by
 intro F
 kernel_rfl
theorem tI (G:Nat→D→D):Yx.Valid Tryz.prog G:=Ad.val (okE _ []) (.cons (Abf G) (w0 G)) wa
def Zg:Orc:=
 {f:=284,args:=[(.slice 45 0 4 1),(.func (.func 285) [] [(.ptr 325 0)])],part:=(no (no .nil (no .nil (no (no (no (no .nil (no (lf (.cells 5 (nd (.int .i64 (.ofNat 0)) FT y32))) .nil)) .nil) .nil) y3))) pb),nx:=326,ok:=true,v:=(.bool true),out:=(no (no .nil (no .nil (no (no (no (no .nil (no (lf (.cells 5 (nd (.int .i64 (.ofNat 1)) FT y32))) .nil)) .nil) .nil) .nil))) aN),nx':=326,wr:=[44,325]}
theorem tC:∀[F:Facts],Ab (Env.ofS Tryz.prog [] []) 1000000 Zg=true:=by
 intro F
 kernel_rfl
theorem zP (G:Nat→D→D):Zg.Valid Tryz.prog G:=Ad.val (okE _ []) (w0 G) tC
end Go.Proofs.YtmjeljjkhblgeaaGreatDoor.familyExamples

