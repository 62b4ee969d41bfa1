/- What is proved: that certain calls which the law FamilySessions makes come to the results that are written here (part 2 of 19). Conditions: the memory that such a call reaches is as written here; the kernel runs the evaluator over each. -/
import Derived.Test.YtmjeljjkhblgeaaGreatDoorFamilySessionsKnownA
set_option linter.unusedVariables false
set_option linter.unusedSectionVars false
set_option linter.unusedSimpArgs false
namespace Go.Proofs.YtmjeljjkhblgeaaGreatDoor.familySessions
open Go.AE
def o57:Orc:=
 {f:=284,args:=[(.slice 45 0 4 1),(.func (.func 285) [] [(.ptr 200 0)])],part:=(no y6 (no (no (no .nil (no (no (no .nil (lf (.cells 5 (nd (.int .i64 (.ofNat 0)) y77 y94)))) .nil) .nil)) y92) .nil)),nx:=201,ok:=true,v:=(.bool true),out:=(no .nil (no (no (no .nil (no (no (no .nil (lf (.cells 5 (nd (.int .i64 (.ofNat 2)) y77 y94)))) .nil) .nil)) y95) .nil)),nx':=203,wr:=[44,200]}
theorem k57:∀[F:Facts],Ac (Env.ofS Tryz.prog [] []) 1000000 o57=true:=by
 intro F
 kernel_rfl
theorem w57 (G:Nat→D→D):o57.Valid Tryz.prog G:=Ad.val (okE _ []) (w0 G) k57
def o58:Orc:=
 {f:=282,args:=[(.ptr 44 0)],part:=(no .nil (no y96 .nil)),nx:=205,ok:=true,v:=(.tuple []),out:=.nil,nx':=206,wr:=[]}
theorem k58:∀[F:Facts],Ac (Env.ofS Tryz.prog [] []) 1000000 o58=true:=by
 intro F
 kernel_rfl
theorem w58 (G:Nat→D→D):o58.Valid Tryz.prog G:=Ad.val (okE _ []) (w0 G) k58
def o59:Orc:=
 {f:=284,args:=[(.slice 45 0 4 1),(.func (.func 285) [] [(.ptr 206 0)])],part:=(no y6 (no y96 (no .nil (no .nil (no (no (no .nil (lf (.cells 5 (nd (.int .i64 (.ofNat 0)) y77 y97)))) .nil) .nil))))),nx:=207,ok:=true,v:=(.bool true),out:=(no .nil (no y98 (no .nil (no .nil (no (no (no .nil (lf (.cells 5 (nd (.int .i64 (.ofNat 4)) y77 y97)))) .nil) .nil))))),nx':=208,wr:=[44,206]}
theorem k59:∀[F:Facts],Ac (Env.ofS Tryz.prog [] []) 1000000 o59=true:=by
 intro F
 kernel_rfl
theorem w59 (G:Nat→D→D):o59.Valid Tryz.prog G:=Ad.val (okE _ []) (w0 G) k59
def o60:Orc:=
 {f:=282,args:=[(.ptr 44 0)],part:=(no .nil y99),nx:=210,ok:=true,v:=(.tuple []),out:=.nil,nx':=211,wr:=[]}
theorem k60:∀[F:Facts],Ac (Env.ofS Tryz.prog [] []) 1000000 o60=true:=by
 intro F
 kernel_rfl
theorem w60 (G:Nat→D→D):o60.Valid Tryz.prog G:=Ad.val (okE _ []) (w0 G) k60
def o61:Orc:=
 {f:=284,args:=[(.slice 45 0 4 1),(.func (.func 285) [] [(.ptr 211 0)])],part:=(no (no (no .nil (no (no .nil (no (no .nil (lf (.cells 5 (nd (.int .i64 (.ofNat 0)) y77 OU)))) .nil)) .nil)) y5) y99),nx:=212,ok:=true,v:=(.bool true),out:=(no (no (no .nil (no (no .nil (no (no .nil (lf (.cells 5 (nd (.int .i64 (.ofNat 2)) y77 iz)))) .nil)) .nil)) .nil) dF),nx':=214,wr:=[44,211]}
theorem k61:∀[F:Facts],Ac (Env.ofS Tryz.prog [] []) 1000000 o61=true:=by
 intro F
 kernel_rfl
theorem w61 (G:Nat→D→D):o61.Valid Tryz.prog G:=Ad.val (okE _ []) (w0 G) k61
def o62:Orc:=
 {f:=282,args:=[(.ptr 44 0)],part:=(no .nil dF),nx:=216,ok:=true,v:=(.tuple []),out:=.nil,nx':=217,wr:=[]}
theorem k62:∀[F:Facts],Ac (Env.ofS Tryz.prog [] []) 1000000 o62=true:=by
 intro F
 kernel_rfl
theorem w62 (G:Nat→D→D):o62.Valid Tryz.prog G:=Ad.val (okE _ []) (w0 G) k62
def o63:Orc:=
 {f:=284,args:=[(.slice 45 0 4 1),(.func (.func 285) [] [(.ptr 217 0)])],part:=(no (no .nil (no (no .nil (no .nil (no (no .nil (lf (.cells 5 (nd (.int .i64 (.ofNat 0)) y77 QW)))) .nil))) y4)) dF),nx:=218,ok:=true,v:=(.bool true),out:=(no (no .nil (no (no .nil (no .nil (no (no .nil (lf (.cells 5 (nd (.int .i64 (.ofNat 4)) y77 QW)))) .nil))) .nil)) ve),nx':=219,wr:=[44,217]}
theorem k63:∀[F:Facts],Ac (Env.ofS Tryz.prog [] []) 1000000 o63=true:=by
 intro F
 kernel_rfl
theorem w63 (G:Nat→D→D):o63.Valid Tryz.prog G:=Ad.val (okE _ []) (w0 G) k63
def o64:Orc:=
 {f:=308,args:=[(.ptr 44 0),(.int .i64 (.ofNat 416)),(.func (.func 319) [] [])],part:=qD,nx:=221,ok:=true,v:=(.int .i64 (.ofNat 3)),out:=uw,nx':=221,wr:=[44]}
theorem k64:∀[F:Facts],Ac (Env.ofS Tryz.prog [] []) 1000000 o64=true:=by
 intro F
 kernel_rfl
theorem w64 (G:Nat→D→D):o64.Valid Tryz.prog G:=Ad.val (okE _ []) (w0 G) k64
def o65:Orc:=
 {f:=282,args:=[(.ptr 44 0)],part:=qD,nx:=221,ok:=true,v:=(.tuple []),out:=uw,nx':=223,wr:=[44]}
theorem k65:∀[F:Facts],Ac (Env.ofS Tryz.prog [o64] []) 1000000 o65=true:=by
 intro F
 kernel_rfl
theorem w65 (G:Nat→D→D):o65.Valid Tryz.prog G:=Ad.val (okE _ []) (.cons (w64 G) (w0 G)) k65
def o66:Orc:=
 {f:=284,args:=[(.slice 45 0 4 1),(.func (.func 285) [] [(.ptr 223 0)])],part:=(no (no (no (no (no (no .nil (no .nil (lf (.cells 5 (nd (.int .i64 (.ofNat 0)) FX y32))))) .nil) .nil) .nil) y5) sl),nx:=224,ok:=true,v:=(.bool true),out:=(no (no (no (no (no (no .nil (no .nil (lf (.cells 5 (nd (.int .i64 (.ofNat 1)) FX y32))))) .nil) .nil) .nil) .nil) WO),nx':=224,wr:=[44,223]}
theorem k66:∀[F:Facts],Ac (Env.ofS Tryz.prog [] []) 1000000 o66=true:=by
 intro F
 kernel_rfl
theorem w66 (G:Nat→D→D):o66.Valid Tryz.prog G:=Ad.val (okE _ []) (w0 G) k66
def o67:Orc:=
 {f:=282,args:=[(.ptr 44 0)],part:=(no .nil WO),nx:=226,ok:=true,v:=(.tuple []),out:=.nil,nx':=227,wr:=[]}
theorem k67:∀[F:Facts],Ac (Env.ofS Tryz.prog [] []) 1000000 o67=true:=by
 intro F
 kernel_rfl
theorem w67 (G:Nat→D→D):o67.Valid Tryz.prog G:=Ad.val (okE _ []) (w0 G) k67
def o68:Orc:=
 {f:=284,args:=[(.slice 45 0 4 1),(.func (.func 285) [] [(.ptr 227 0)])],part:=(no (no (no .nil (no (no (no .nil (no .nil (lf (.cells 5 (nd (.int .i64 (.ofNat 0)) FX y34))))) .nil) .nil)) y5) WO),nx:=228,ok:=true,v:=(.bool true),out:=(no (no (no .nil (no (no (no .nil (no .nil (lf (.cells 5 (nd (.int .i64 (.ofNat 4)) FX y34))))) .nil) .nil)) .nil) sa),nx':=229,wr:=[44,227]}
theorem k68:∀[F:Facts],Ac (Env.ofS Tryz.prog [] []) 1000000 o68=true:=by
 intro F
 kernel_rfl
theorem w68 (G:Nat→D→D):o68.Valid Tryz.prog G:=Ad.val (okE _ []) (w0 G) k68
def o69:Orc:=
 {f:=308,args:=[(.ptr 44 0),(.int .i64 (.ofNat 416)),(.func (.func 319) [] [])],part:=mV,nx:=231,ok:=true,v:=(.int .i64 (.ofNat 1)),out:=oh,nx':=231,wr:=[44]}
theorem k69:∀[F:Facts],Ac (Env.ofS Tryz.prog [] []) 1000000 o69=true:=by
 intro F
 kernel_rfl
theorem w69 (G:Nat→D→D):o69.Valid Tryz.prog G:=Ad.val (okE _ []) (w0 G) k69
def o70:Orc:=
 {f:=282,args:=[(.ptr 44 0)],part:=mV,nx:=231,ok:=true,v:=(.tuple []),out:=oh,nx':=233,wr:=[44]}
theorem k70:∀[F:Facts],Ac (Env.ofS Tryz.prog [o69] []) 1000000 o70=true:=by
 intro F
 kernel_rfl
theorem w70 (G:Nat→D→D):o70.Valid Tryz.prog G:=Ad.val (okE _ []) (.cons (w69 G) (w0 G)) k70
def o71:Orc:=
 {f:=284,args:=[(.slice 45 0 4 1),(.func (.func 285) [] [(.ptr 233 0)])],part:=(no (no .nil (no (no .nil (no (no .nil (no .nil (lf (.cells 5 (nd (.int .i64 (.ofNat 0)) FX y8))))) .nil)) y4)) ut),nx:=234,ok:=true,v:=(.bool true),out:=(no (no .nil (no (no .nil (no (no .nil (no .nil (lf (.cells 5 (nd (.int .i64 (.ofNat 1)) FX y8))))) .nil)) .nil)) gt),nx':=234,wr:=[44,233]}
theorem k71:∀[F:Facts],Ac (Env.ofS Tryz.prog [] []) 1000000 o71=true:=by
 intro F
 kernel_rfl
theorem w71 (G:Nat→D→D):o71.Valid Tryz.prog G:=Ad.val (okE _ []) (w0 G) k71
def o72:Orc:=
 {f:=308,args:=[(.ptr 44 0),(.int .i64 (.ofNat 416)),(.func (.func 319) [] [])],part:=yR,nx:=236,ok:=true,v:=(.int .i64 (.ofNat 1)),out:=kZ,nx':=236,wr:=[44]}
theorem k72:∀[F:Facts],Ac (Env.ofS Tryz.prog [] []) 1000000 o72=true:=by
 intro F
 kernel_rfl
theorem w72 (G:Nat→D→D):o72.Valid Tryz.prog G:=Ad.val (okE _ []) (w0 G) k72
def o73:Orc:=
 {f:=282,args:=[(.ptr 44 0)],part:=yR,nx:=236,ok:=true,v:=(.tuple []),out:=kZ,nx':=238,wr:=[44]}
theorem k73:∀[F:Facts],Ac (Env.ofS Tryz.prog [o72] []) 1000000 o73=true:=by
 intro F
 kernel_rfl
theorem w73 (G:Nat→D→D):o73.Valid Tryz.prog G:=Ad.val (okE _ []) (.cons (w72 G) (w0 G)) k73
def o74:Orc:=
 {f:=284,args:=[(.slice 45 0 4 1),(.func (.func 285) [] [(.ptr 238 0)])],part:=(no y6 (no nC (no .nil (no .nil (no (no .nil (no .nil (lf (.cells 5 (nd (.int .i64 (.ofNat 0)) FX gv))))) .nil))))),nx:=239,ok:=true,v:=(.bool true),out:=(no .nil (no nK (no .nil (no .nil (no (no .nil (no .nil (lf (.cells 5 (nd (.int .i64 (.ofNat 2)) FX j6))))) .nil))))),nx':=241,wr:=[44,238]}
theorem k74:∀[F:Facts],Ac (Env.ofS Tryz.prog [] []) 1000000 o74=true:=by
 intro F
 kernel_rfl
theorem w74 (G:Nat→D→D):o74.Valid Tryz.prog G:=Ad.val (okE _ []) (w0 G) k74
def o75:Orc:=
 {f:=308,args:=[(.ptr 44 0),(.int .i64 (.ofNat 416)),(.func (.func 319) [] [])],part:=po,nx:=243,ok:=true,v:=(.int .i64 (.ofNat 1)),out:=mg,nx':=243,wr:=[44]}
theorem k75:∀[F:Facts],Ac (Env.ofS Tryz.prog [] []) 1000000 o75=true:=by
 intro F
 kernel_rfl
theorem w75 (G:Nat→D→D):o75.Valid Tryz.prog G:=Ad.val (okE _ []) (w0 G) k75
def o76:Orc:=
 {f:=282,args:=[(.ptr 44 0)],part:=po,nx:=243,ok:=true,v:=(.tuple []),out:=mg,nx':=245,wr:=[44]}
theorem k76:∀[F:Facts],Ac (Env.ofS Tryz.prog [o75] []) 1000000 o76=true:=by
 intro F
 kernel_rfl
theorem w76 (G:Nat→D→D):o76.Valid Tryz.prog G:=Ad.val (okE _ []) (.cons (w75 G) (w0 G)) k76
def o77:Orc:=
 {f:=284,args:=[(.slice 45 0 4 1),(.func (.func 285) [] [(.ptr 245 0)])],part:=(no (no .nil (no .nil (no (no .nil (no .nil (no .nil (lf (.cells 5 (nd (.int .i64 (.ofNat 0)) FX y19)))))) y3))) nf),nx:=246,ok:=true,v:=(.bool true),out:=(no (no .nil (no .nil (no (no .nil (no .nil (no .nil (lf (.cells 5 (nd (.int .i64 (.ofNat 2)) FX y19)))))) .nil))) bE),nx':=248,wr:=[44,245]}
theorem k77:∀[F:Facts],Ac (Env.ofS Tryz.prog [] []) 1000000 o77=true:=by
 intro F
 kernel_rfl
theorem w77 (G:Nat→D→D):o77.Valid Tryz.prog G:=Ad.val (okE _ []) (w0 G) k77
def o78:Orc:=
 {f:=282,args:=[(.ptr 44 0)],part:=(no .nil bE),nx:=250,ok:=true,v:=(.tuple []),out:=.nil,nx':=251,wr:=[]}
theorem k78:∀[F:Facts],Ac (Env.ofS Tryz.prog [] []) 1000000 o78=true:=by
 intro F
 kernel_rfl
theorem w78 (G:Nat→D→D):o78.Valid Tryz.prog G:=Ad.val (okE _ []) (w0 G) k78
def o79:Orc:=
 {f:=284,args:=[(.slice 45 0 4 1),(.func (.func 285) [] [(.ptr 251 0)])],part:=(no (no (no .nil (no .nil (no .nil (no .nil (no .nil (lf (.cells 5 (nd (.int .i64 (.ofNat 0)) FX Tg)))))))) y5) bE),nx:=252,ok:=true,v:=(.bool true),out:=(no (no (no .nil (no .nil (no .nil (no .nil (no .nil (lf (.cells 5 (nd (.int .i64 (.ofNat 4)) FX Tg)))))))) .nil) iA),nx':=253,wr:=[44,251]}
theorem k79:∀[F:Facts],Ac (Env.ofS Tryz.prog [] []) 1000000 o79=true:=by
 intro F
 kernel_rfl
theorem w79 (G:Nat→D→D):o79.Valid Tryz.prog G:=Ad.val (okE _ []) (w0 G) k79
def o80:Orc:=
 {f:=282,args:=[(.ptr 44 0)],part:=(no .nil iA),nx:=255,ok:=true,v:=(.tuple []),out:=.nil,nx':=256,wr:=[]}
theorem k80:∀[F:Facts],Ac (Env.ofS Tryz.prog [] []) 1000000 o80=true:=by
 intro F
 kernel_rfl
theorem w80 (G:Nat→D→D):o80.Valid Tryz.prog G:=Ad.val (okE _ []) (w0 G) k80
def o81:Orc:=
 {f:=284,args:=[(.slice 45 0 4 1),(.func (.func 285) [] [(.ptr 256 0)])],part:=(no y6 (no (no (no (no (no (no (no (lf (.cells 5 (nd (.int .i64 (.ofNat 0)) FX y97))) .nil) .nil) .nil) .nil) .nil) tG) .nil)),nx:=257,ok:=true,v:=(.bool true),out:=(no .nil (no (no (no (no (no (no (no (lf (.cells 5 (nd (.int .i64 (.ofNat 2)) FX (nd (.int .i64 (.ofNat 512)) (lf (.int .i64 (.ofNat 20))) .nil)))) .nil) .nil) .nil) .nil) .nil) va) .nil)),nx':=259,wr:=[44,256]}
theorem k81:∀[F:Facts],Ac (Env.ofS Tryz.prog [] []) 1000000 o81=true:=by
 intro F
 kernel_rfl
theorem w81 (G:Nat→D→D):o81.Valid Tryz.prog G:=Ad.val (okE _ []) (w0 G) k81
def o82:Orc:=
 {f:=282,args:=[(.ptr 44 0)],part:=(no .nil (no mn .nil)),nx:=261,ok:=true,v:=(.tuple []),out:=.nil,nx':=262,wr:=[]}
theorem k82:∀[F:Facts],Ac (Env.ofS Tryz.prog [] []) 1000000 o82=true:=by
 intro F
 kernel_rfl
theorem w82 (G:Nat→D→D):o82.Valid Tryz.prog G:=Ad.val (okE _ []) (w0 G) k82
def o83:Orc:=
 {f:=284,args:=[(.slice 45 0 4 1),(.func (.func 285) [] [(.ptr 262 0)])],part:=(no y6 (no mn (no .nil (no (no (no (no (no (lf (.cells 5 (nd (.int .i64 (.ofNat 0)) FX y53))) .nil) .nil) .nil) .nil) .nil)))),nx:=263,ok:=true,v:=(.bool true),out:=(no .nil (no jK (no .nil (no (no (no (no (no (lf (.cells 5 (nd (.int .i64 (.ofNat 4)) FX y53))) .nil) .nil) .nil) .nil) .nil)))),nx':=264,wr:=[44,262]}
theorem k83:∀[F:Facts],Ac (Env.ofS Tryz.prog [] []) 1000000 o83=true:=by
 intro F
 kernel_rfl
theorem w83 (G:Nat→D→D):o83.Valid Tryz.prog G:=Ad.val (okE _ []) (w0 G) k83
def o84:Orc:=
 {f:=308,args:=[(.ptr 44 0),(.int .i64 (.ofNat 416)),(.func (.func 319) [] [])],part:=rU,nx:=266,ok:=true,v:=(.int .i64 (.ofNat 3)),out:=uY,nx':=266,wr:=[44]}
theorem k84:∀[F:Facts],Ac (Env.ofS Tryz.prog [] []) 1000000 o84=true:=by
 intro F
 kernel_rfl
theorem w84 (G:Nat→D→D):o84.Valid Tryz.prog G:=Ad.val (okE _ []) (w0 G) k84
def o85:Orc:=
 {f:=282,args:=[(.ptr 44 0)],part:=rU,nx:=266,ok:=true,v:=(.tuple []),out:=uY,nx':=268,wr:=[44]}
theorem k85:∀[F:Facts],Ac (Env.ofS Tryz.prog [o84] []) 1000000 o85=true:=by
 intro F
 kernel_rfl
theorem w85 (G:Nat→D→D):o85.Valid Tryz.prog G:=Ad.val (okE _ []) (.cons (w84 G) (w0 G)) k85
def o86:Orc:=
 {f:=284,args:=[(.slice 45 0 4 1),(.func (.func 285) [] [(.ptr 268 0)])],part:=(no y6 (no (no .nil (no .nil (no (nd uH (no (no (lf (.cells 5 (nd (.int .i64 (.ofNat 0)) GS y32))) .nil) .nil) .nil) .nil))) .nil)),nx:=269,ok:=true,v:=(.bool true),out:=(no .nil (no (no .nil (no .nil (no (nd wW (no (no (lf (.cells 5 (nd (.int .i64 (.ofNat 1)) GS y32))) .nil) .nil) .nil) .nil))) .nil)),nx':=269,wr:=[44,268]}
theorem k86:∀[F:Facts],Ac (Env.ofS Tryz.prog [] []) 1000000 o86=true:=by
 intro F
 kernel_rfl
theorem w86 (G:Nat→D→D):o86.Valid Tryz.prog G:=Ad.val (okE _ []) (w0 G) k86
def o87:Orc:=
 {f:=282,args:=[(.ptr 44 0)],part:=(no .nil (no (no .nil jT) .nil)),nx:=271,ok:=true,v:=(.tuple []),out:=.nil,nx':=272,wr:=[]}
theorem k87:∀[F:Facts],Ac (Env.ofS Tryz.prog [] []) 1000000 o87=true:=by
 intro F
 kernel_rfl
theorem w87 (G:Nat→D→D):o87.Valid Tryz.prog G:=Ad.val (okE _ []) (w0 G) k87
def o88:Orc:=
 {f:=284,args:=[(.slice 45 0 4 1),(.func (.func 285) [] [(.ptr 272 0)])],part:=(no y6 (no (no (no (no .nil (no (no (no (lf (.cells 5 (nd (.int .i64 (.ofNat 0)) GS y34))) .nil) .nil) .nil)) .nil) jT) .nil)),nx:=273,ok:=true,v:=(.bool true),out:=(no .nil (no (no (no (no .nil (no (no (no (lf (.cells 5 (nd (.int .i64 (.ofNat 4)) GS y34))) .nil) .nil) .nil)) .nil) uO) .nil)),nx':=274,wr:=[44,272]}
theorem k88:∀[F:Facts],Ac (Env.ofS Tryz.prog [] []) 1000000 o88=true:=by
 intro F
 kernel_rfl
theorem w88 (G:Nat→D→D):o88.Valid Tryz.prog G:=Ad.val (okE _ []) (w0 G) k88
def o89:Orc:=
 {f:=308,args:=[(.ptr 44 0),(.int .i64 (.ofNat 416)),(.func (.func 319) [] [])],part:=ko,nx:=276,ok:=true,v:=(.int .i64 (.ofNat 1)),out:=x8,nx':=276,wr:=[44]}
theorem k89:∀[F:Facts],Ac (Env.ofS Tryz.prog [] []) 1000000 o89=true:=by
 intro F
 kernel_rfl
theorem w89 (G:Nat→D→D):o89.Valid Tryz.prog G:=Ad.val (okE _ []) (w0 G) k89
def o90:Orc:=
 {f:=282,args:=[(.ptr 44 0)],part:=ko,nx:=276,ok:=true,v:=(.tuple []),out:=x8,nx':=278,wr:=[44]}
theorem k90:∀[F:Facts],Ac (Env.ofS Tryz.prog [o89] []) 1000000 o90=true:=by
 intro F
 kernel_rfl
theorem w90 (G:Nat→D→D):o90.Valid Tryz.prog G:=Ad.val (okE _ []) (.cons (w89 G) (w0 G)) k90
def o91:Orc:=
 {f:=284,args:=[(.slice 45 0 4 1),(.func (.func 285) [] [(.ptr 278 0)])],part:=(no y6 (no rI (no .nil (no (no .nil (no (no (no (lf (.cells 5 (nd (.int .i64 (.ofNat 0)) GS y8))) .nil) .nil) .nil)) .nil)))),nx:=279,ok:=true,v:=(.bool true),out:=(no .nil (no sr (no .nil (no (no .nil (no (no (no (lf (.cells 5 (nd (.int .i64 (.ofNat 1)) GS y8))) .nil) .nil) .nil)) .nil)))),nx':=279,wr:=[44,278]}
theorem k91:∀[F:Facts],Ac (Env.ofS Tryz.prog [] []) 1000000 o91=true:=by
 intro F
 kernel_rfl
theorem w91 (G:Nat→D→D):o91.Valid Tryz.prog G:=Ad.val (okE _ []) (w0 G) k91
def o92:Orc:=
 {f:=308,args:=[(.ptr 44 0),(.int .i64 (.ofNat 416)),(.func (.func 319) [] [])],part:=gJ,nx:=281,ok:=true,v:=(.int .i64 (.ofNat 1)),out:=lc,nx':=281,wr:=[44]}
theorem k92:∀[F:Facts],Ac (Env.ofS Tryz.prog [] []) 1000000 o92=true:=by
 intro F
 kernel_rfl
theorem w92 (G:Nat→D→D):o92.Valid Tryz.prog G:=Ad.val (okE _ []) (w0 G) k92
def o93:Orc:=
 {f:=282,args:=[(.ptr 44 0)],part:=gJ,nx:=281,ok:=true,v:=(.tuple []),out:=lc,nx':=283,wr:=[44]}
theorem k93:∀[F:Facts],Ac (Env.ofS Tryz.prog [o92] []) 1000000 o93=true:=by
 intro F
 kernel_rfl
theorem w93 (G:Nat→D→D):o93.Valid Tryz.prog G:=Ad.val (okE _ []) (.cons (w92 G) (w0 G)) k93
def o94:Orc:=
 {f:=284,args:=[(.slice 45 0 4 1),(.func (.func 285) [] [(.ptr 283 0)])],part:=(no (no (no .nil (no .nil (no .nil (no (no (no (lf (.cells 5 (nd (.int .i64 (.ofNat 0)) GS y14))) .nil) .nil) .nil)))) y5) yj),nx:=284,ok:=true,v:=(.bool true),out:=(no (no (no .nil (no .nil (no .nil (no (no (no (lf (.cells 5 (nd (.int .i64 (.ofNat 4)) GS y14))) .nil) .nil) .nil)))) .nil) oo),nx':=285,wr:=[44,283]}
theorem k94:∀[F:Facts],Ac (Env.ofS Tryz.prog [] []) 1000000 o94=true:=by
 intro F
 kernel_rfl
theorem w94 (G:Nat→D→D):o94.Valid Tryz.prog G:=Ad.val (okE _ []) (w0 G) k94
def o95:Orc:=
 {f:=282,args:=[(.ptr 44 0)],part:=(no .nil oo),nx:=287,ok:=true,v:=(.tuple []),out:=.nil,nx':=288,wr:=[]}
theorem k95:∀[F:Facts],Ac (Env.ofS Tryz.prog [] []) 1000000 o95=true:=by
 intro F
 kernel_rfl
theorem w95 (G:Nat→D→D):o95.Valid Tryz.prog G:=Ad.val (okE _ []) (w0 G) k95
def o96:Orc:=
 {f:=284,args:=[(.slice 45 0 4 1),(.func (.func 285) [] [(.ptr 288 0)])],part:=(no y6 (no (no (no (no (no .nil (no (no (lf (.cells 5 (nd (.int .i64 (.ofNat 0)) GS y88))) .nil) .nil)) .nil) .nil) we) .nil)),nx:=289,ok:=true,v:=(.bool true),out:=(no .nil (no (no (no (no (no .nil (no (no (lf (.cells 5 (nd (.int .i64 (.ofNat 1)) GS y88))) .nil) .nil)) .nil) .nil) kg) .nil)),nx':=289,wr:=[44,288]}
theorem k96:∀[F:Facts],Ac (Env.ofS Tryz.prog [] []) 1000000 o96=true:=by
 intro F
 kernel_rfl
theorem w96 (G:Nat→D→D):o96.Valid Tryz.prog G:=Ad.val (okE _ []) (w0 G) k96
def o97:Orc:=
 {f:=282,args:=[(.ptr 44 0)],part:=(no .nil (no (no .nil kg) .nil)),nx:=291,ok:=true,v:=(.tuple []),out:=.nil,nx':=292,wr:=[]}
theorem k97:∀[F:Facts],Ac (Env.ofS Tryz.prog [] []) 1000000 o97=true:=by
 intro F
 kernel_rfl
theorem w97 (G:Nat→D→D):o97.Valid Tryz.prog G:=Ad.val (okE _ []) (w0 G) k97
def o98:Orc:=
 {f:=284,args:=[(.slice 45 0 4 1),(.func (.func 285) [] [(.ptr 292 0)])],part:=(no y6 (no (no .nil (no (no (no .nil (no (no (lf (.cells 5 (nd (.int .i64 (.ofNat 0)) GS y97))) .nil) .nil)) .nil) sU)) .nil)),nx:=293,ok:=true,v:=(.bool true),out:=(no .nil (no (no .nil (no (no (no .nil (no (no (lf (.cells 5 (nd (.int .i64 (.ofNat 4)) GS y97))) .nil) .nil)) .nil) uS)) .nil)),nx':=294,wr:=[44,292]}
theorem k98:∀[F:Facts],Ac (Env.ofS Tryz.prog [] []) 1000000 o98=true:=by
 intro F
 kernel_rfl
theorem w98 (G:Nat→D→D):o98.Valid Tryz.prog G:=Ad.val (okE _ []) (w0 G) k98
def o99:Orc:=
 {f:=282,args:=[(.ptr 44 0)],part:=(no .nil j5),nx:=296,ok:=true,v:=(.tuple []),out:=.nil,nx':=297,wr:=[]}
theorem k99:∀[F:Facts],Ac (Env.ofS Tryz.prog [] []) 1000000 o99=true:=by
 intro F
 kernel_rfl
theorem w99 (G:Nat→D→D):o99.Valid Tryz.prog G:=Ad.val (okE _ []) (w0 G) k99
def e9:Orc:=
 {f:=284,args:=[(.slice 45 0 4 1),(.func (.func 285) [] [(.ptr 297 0)])],part:=(no (no .nil (no (no .nil (no (no .nil (no (no (lf (.cells 5 (nd (.int .i64 (.ofNat 0)) GS y24))) .nil) .nil)) .nil)) y4)) j5),nx:=298,ok:=true,v:=(.bool true),out:=(no (no .nil (no (no .nil (no (no .nil (no (no (lf (.cells 5 (nd (.int .i64 (.ofNat 4)) GS y24))) .nil) .nil)) .nil)) .nil)) sL),nx':=299,wr:=[44,297]}
theorem Aru:∀[F:Facts],Ac (Env.ofS Tryz.prog [] []) 1000000 e9=true:=by
 intro F
 kernel_rfl
theorem Afa (G:Nat→D→D):e9.Valid Tryz.prog G:=Ad.val (okE _ []) (w0 G) Aru
def Yx:Orc:=
 {f:=308,args:=[(.ptr 44 0),(.int .i64 (.ofNat 416)),(.func (.func 319) [] [])],part:=jA,nx:=301,ok:=true,v:=(.int .i64 (.ofNat 1)),out:=ny,nx':=301,wr:=[44]}
theorem Aqo:∀[F:Facts],Ac (Env.ofS Tryz.prog [] []) 1000000 Yx=true:=by
 intro F
 kernel_rfl
theorem Aqp (G:Nat→D→D):Yx.Valid Tryz.prog G:=Ad.val (okE _ []) (w0 G) Aqo
def aq:Orc:=
 {f:=282,args:=[(.ptr 44 0)],part:=jA,nx:=301,ok:=true,v:=(.tuple []),out:=ny,nx':=303,wr:=[44]}
theorem Agd:∀[F:Facts],Ac (Env.ofS Tryz.prog [Yx] []) 1000000 aq=true:=by
 intro F
 kernel_rfl
theorem Aqv (G:Nat→D→D):aq.Valid Tryz.prog G:=Ad.val (okE _ []) (.cons (Aqp G) (w0 G)) Agd
def ZH:Orc:=
 {f:=284,args:=[(.slice 45 0 4 1),(.func (.func 285) [] [(.ptr 303 0)])],part:=(no (no (no (no (no .nil (no .nil (no (no (lf (.cells 5 (nd (.int .i64 (.ofNat 0)) wY y59))) .nil) .nil))) .nil) .nil) y5) vV),nx:=304,ok:=true,v:=(.bool true),out:=(no (no (no (no (no .nil (no .nil (no (no (lf (.cells 5 (nd (.int .i64 (.ofNat 4)) wY y59))) .nil) .nil))) .nil) .nil) .nil) xR),nx':=305,wr:=[44,303]}
theorem Adn:∀[F:Facts],Ac (Env.ofS Tryz.prog [] []) 1000000 ZH=true:=by
 intro F
 kernel_rfl
theorem zF (G:Nat→D→D):ZH.Valid Tryz.prog G:=Ad.val (okE _ []) (w0 G) Adn
def X0:Orc:=
 {f:=308,args:=[(.ptr 44 0),(.int .i64 (.ofNat 416)),(.func (.func 319) [] [])],part:=iR,nx:=307,ok:=true,v:=(.int .i64 (.ofNat 1)),out:=lM,nx':=307,wr:=[44]}
theorem Aow:∀[F:Facts],Ac (Env.ofS Tryz.prog [] []) 1000000 X0=true:=by
 intro F
 kernel_rfl
theorem Aez (G:Nat→D→D):X0.Valid Tryz.prog G:=Ad.val (okE _ []) (w0 G) Aow
def WS:Orc:=
 {f:=282,args:=[(.ptr 44 0)],part:=iR,nx:=307,ok:=true,v:=(.tuple []),out:=lM,nx':=309,wr:=[44]}
theorem Aei:∀[F:Facts],Ac (Env.ofS Tryz.prog [X0] []) 1000000 WS=true:=by
 intro F
 kernel_rfl
theorem Ans (G:Nat→D→D):WS.Valid Tryz.prog G:=Ad.val (okE _ []) (.cons (Aez G) (w0 G)) Aei
def eh:Orc:=
 {f:=284,args:=[(.slice 45 0 4 1),(.func (.func 285) [] [(.ptr 309 0)])],part:=(no (no .nil (no .nil (no (no .nil (no .nil (no (no (lf (.cells 5 (nd (.int .i64 (.ofNat 0)) RC y59))) .nil) .nil))) y3))) lD),nx:=310,ok:=true,v:=(.bool true),out:=(no (no .nil (no .nil (no (no .nil (no .nil (no (no (lf (.cells 5 (nd (.int .i64 (.ofNat 1)) RC y59))) .nil) .nil))) .nil))) tK),nx':=310,wr:=[44,309]}
theorem Arv:∀[F:Facts],Ac (Env.ofS Tryz.prog [] []) 1000000 eh=true:=by
 intro F
 kernel_rfl
theorem Asv (G:Nat→D→D):eh.Valid Tryz.prog G:=Ad.val (okE _ []) (w0 G) Arv
def dI:Orc:=
 {f:=308,args:=[(.ptr 44 0),(.int .i64 (.ofNat 416)),(.func (.func 319) [] [])],part:=mO,nx:=312,ok:=true,v:=(.int .i64 (.ofNat 1)),out:=j9,nx':=312,wr:=[44]}
theorem Ao3:∀[F:Facts],Ac (Env.ofS Tryz.prog [] []) 1000000 dI=true:=by
 intro F
 kernel_rfl
theorem Ac8 (G:Nat→D→D):dI.Valid Tryz.prog G:=Ad.val (okE _ []) (w0 G) Ao3
def Z3:Orc:=
 {f:=282,args:=[(.ptr 44 0)],part:=mO,nx:=312,ok:=true,v:=(.tuple []),out:=j9,nx':=314,wr:=[44]}
theorem Acl:∀[F:Facts],Ac (Env.ofS Tryz.prog [dI] []) 1000000 Z3=true:=by
 intro F
 kernel_rfl
theorem Amk (G:Nat→D→D):Z3.Valid Tryz.prog G:=Ad.val (okE _ []) (.cons (Ac8 G) (w0 G)) Acl
def XH:Orc:=
 {f:=284,args:=[(.slice 45 0 4 1),(.func (.func 285) [] [(.ptr 314 0)])],part:=(no y6 (no uv (no (no .nil (no .nil (no .nil (no (no (lf (.cells 5 (nd (.int .i64 (.ofNat 0)) RC y8))) .nil) .nil)))) .nil))),nx:=315,ok:=true,v:=(.bool true),out:=(no .nil (no ma (no (no .nil (no .nil (no .nil (no (no (lf (.cells 5 (nd (.int .i64 (.ofNat 1)) RC y8))) .nil) .nil)))) .nil))),nx':=315,wr:=[44,314]}
theorem Aen:∀[F:Facts],Ac (Env.ofS Tryz.prog [] []) 1000000 XH=true:=by
 intro F
 kernel_rfl
theorem Ar5 (G:Nat→D→D):XH.Valid Tryz.prog G:=Ad.val (okE _ []) (w0 G) Aen
def dx:Orc:=
 {f:=308,args:=[(.ptr 44 0),(.int .i64 (.ofNat 416)),(.func (.func 319) [] [])],part:=gk,nx:=317,ok:=true,v:=(.int .i64 (.ofNat 1)),out:=qP,nx':=317,wr:=[44]}
theorem Ari:∀[F:Facts],Ac (Env.ofS Tryz.prog [] []) 1000000 dx=true:=by
 intro F
 kernel_rfl
theorem Akl (G:Nat→D→D):dx.Valid Tryz.prog G:=Ad.val (okE _ []) (w0 G) Ari
def XI:Orc:=
 {f:=282,args:=[(.ptr 44 0)],part:=gk,nx:=317,ok:=true,v:=(.tuple []),out:=qP,nx':=319,wr:=[44]}
theorem zx:∀[F:Facts],Ac (Env.ofS Tryz.prog [dx] []) 1000000 XI=true:=by
 intro F
 kernel_rfl
theorem Ah0 (G:Nat→D→D):XI.Valid Tryz.prog G:=Ad.val (okE _ []) (.cons (Akl G) (w0 G)) zx
def Zl:Orc:=
 {f:=284,args:=[(.slice 45 0 4 1),(.func (.func 285) [] [(.ptr 319 0)])],part:=(no (no (no (no (no (no (no .nil (no (lf (.cells 5 (nd (.int .i64 (.ofNat 0)) RC VP))) .nil)) .nil) .nil) .nil) .nil) y5) rh),nx:=320,ok:=true,v:=(.bool true),out:=(no (no (no (no (no (no (no .nil (no (lf (.cells 5 (nd (.int .i64 (.ofNat 4)) RC VP))) .nil)) .nil) .nil) .nil) .nil) .nil) nL),nx':=321,wr:=[44,319]}
theorem zC:∀[F:Facts],Ac (Env.ofS Tryz.prog [] []) 1000000 Zl=true:=by
 intro F
 kernel_rfl
theorem Arh (G:Nat→D→D):Zl.Valid Tryz.prog G:=Ad.val (okE _ []) (w0 G) zC
def ez:Orc:=
 {f:=308,args:=[(.ptr 44 0),(.int .i64 (.ofNat 416)),(.func (.func 319) [] [])],part:=vA,nx:=323,ok:=true,v:=(.int .i64 (.ofNat 3)),out:=l6,nx':=323,wr:=[44]}
theorem Aq1:∀[F:Facts],Ac (Env.ofS Tryz.prog [] []) 1000000 ez=true:=by
 intro F
 kernel_rfl
theorem Asb (G:Nat→D→D):ez.Valid Tryz.prog G:=Ad.val (okE _ []) (w0 G) Aq1
def Zu:Orc:=
 {f:=282,args:=[(.ptr 44 0)],part:=vA,nx:=323,ok:=true,v:=(.tuple []),out:=l6,nx':=325,wr:=[44]}
theorem Ai3:∀[F:Facts],Ac (Env.ofS Tryz.prog [ez] []) 1000000 Zu=true:=by
 intro F
 kernel_rfl
theorem Aew (G:Nat→D→D):Zu.Valid Tryz.prog G:=Ad.val (okE _ []) (.cons (Asb G) (w0 G)) Ai3
def aw:Orc:=
 {f:=284,args:=[(.slice 45 0 4 1),(.func (.func 285) [] [(.ptr 325 0)])],part:=(no (no .nil (no .nil (no (no (no (no .nil (no (lf (.cells 5 (nd (.int .i64 (.ofNat 0)) FW y32))) .nil)) .nil) .nil) y3))) x6),nx:=326,ok:=true,v:=(.bool true),out:=(no (no .nil (no .nil (no (no (no (no .nil (no (lf (.cells 5 (nd (.int .i64 (.ofNat 1)) FW y32))) .nil)) .nil) .nil) .nil))) cS),nx':=326,wr:=[44,325]}
theorem Aeq:∀[F:Facts],Ac (Env.ofS Tryz.prog [] []) 1000000 aw=true:=by
 intro F
 kernel_rfl
theorem Ap3 (G:Nat→D→D):aw.Valid Tryz.prog G:=Ad.val (okE _ []) (w0 G) Aeq
end Go.Proofs.YtmjeljjkhblgeaaGreatDoor.familySessions

