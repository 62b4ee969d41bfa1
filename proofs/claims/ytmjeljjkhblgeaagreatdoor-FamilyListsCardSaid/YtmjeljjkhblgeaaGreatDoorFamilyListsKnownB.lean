/- What is proved: that certain calls which the law FamilyLists makes come to the results that are written here (part 2 of 10). Conditions: the memory that such a call reaches is as written here; the kernel runs the evaluator over each. -/
import Derived.Test.YtmjeljjkhblgeaaGreatDoorFamilyListsKnownA
set_option linter.unusedVariables false
set_option linter.unusedSectionVars false
set_option linter.unusedSimpArgs false
namespace Go.Proofs.YtmjeljjkhblgeaaGreatDoor.familyLists
open Go.AE
def o57:Orc:=
 {f:=284,args:=[(.slice 45 0 4 1),(.func (.func 285) [] [(.ptr 200 0)])],part:=(no y6 (no (no (no .nil (no (no (no .nil (lf (.cells 5 (nd (.int .i64 (.ofNat 0)) y77 y94)))) .nil) .nil)) y92) .nil)),nx:=201,ok:=true,v:=(.bool true),out:=(no .nil (no (no (no .nil (no (no (no .nil (lf (.cells 5 (nd (.int .i64 (.ofNat 2)) y77 y94)))) .nil) .nil)) y95) .nil)),nx':=203,wr:=[44,200]}
theorem k57:∀[F:Facts],Ab (Env.ofS Tryz.prog [] []) 1000000 o57=true:=by
 intro F
 kernel_rfl
theorem w57 (G:Nat→D→D):o57.Valid Tryz.prog G:=Af.val (okE _ []) (w0 G) k57
def o58:Orc:=
 {f:=282,args:=[(.ptr 44 0)],part:=(no .nil (no y96 .nil)),nx:=205,ok:=true,v:=(.tuple []),out:=.nil,nx':=206,wr:=[]}
theorem k58:∀[F:Facts],Ab (Env.ofS Tryz.prog [] []) 1000000 o58=true:=by
 intro F
 kernel_rfl
theorem w58 (G:Nat→D→D):o58.Valid Tryz.prog G:=Af.val (okE _ []) (w0 G) k58
def o59:Orc:=
 {f:=284,args:=[(.slice 45 0 4 1),(.func (.func 285) [] [(.ptr 206 0)])],part:=(no y6 (no y96 (no .nil (no .nil (no (no (no .nil (lf (.cells 5 (nd (.int .i64 (.ofNat 0)) y77 y97)))) .nil) .nil))))),nx:=207,ok:=true,v:=(.bool true),out:=(no .nil (no y98 (no .nil (no .nil (no (no (no .nil (lf (.cells 5 (nd (.int .i64 (.ofNat 4)) y77 y97)))) .nil) .nil))))),nx':=208,wr:=[44,206]}
theorem k59:∀[F:Facts],Ab (Env.ofS Tryz.prog [] []) 1000000 o59=true:=by
 intro F
 kernel_rfl
theorem w59 (G:Nat→D→D):o59.Valid Tryz.prog G:=Af.val (okE _ []) (w0 G) k59
def o60:Orc:=
 {f:=282,args:=[(.ptr 44 0)],part:=(no .nil y99),nx:=210,ok:=true,v:=(.tuple []),out:=.nil,nx':=211,wr:=[]}
theorem k60:∀[F:Facts],Ab (Env.ofS Tryz.prog [] []) 1000000 o60=true:=by
 intro F
 kernel_rfl
theorem w60 (G:Nat→D→D):o60.Valid Tryz.prog G:=Af.val (okE _ []) (w0 G) k60
def o61:Orc:=
 {f:=284,args:=[(.slice 45 0 4 1),(.func (.func 285) [] [(.ptr 211 0)])],part:=(no (no (no .nil (no (no .nil (no (no .nil (lf (.cells 5 (nd (.int .i64 (.ofNat 0)) y77 OX)))) .nil)) .nil)) y5) y99),nx:=212,ok:=true,v:=(.bool true),out:=(no (no (no .nil (no (no .nil (no (no .nil (lf (.cells 5 (nd (.int .i64 (.ofNat 2)) y77 bW)))) .nil)) .nil)) .nil) ZQ),nx':=214,wr:=[44,211]}
theorem k61:∀[F:Facts],Ab (Env.ofS Tryz.prog [] []) 1000000 o61=true:=by
 intro F
 kernel_rfl
theorem w61 (G:Nat→D→D):o61.Valid Tryz.prog G:=Af.val (okE _ []) (w0 G) k61
def o62:Orc:=
 {f:=282,args:=[(.ptr 44 0)],part:=(no .nil ZQ),nx:=216,ok:=true,v:=(.tuple []),out:=.nil,nx':=217,wr:=[]}
theorem k62:∀[F:Facts],Ab (Env.ofS Tryz.prog [] []) 1000000 o62=true:=by
 intro F
 kernel_rfl
theorem w62 (G:Nat→D→D):o62.Valid Tryz.prog G:=Af.val (okE _ []) (w0 G) k62
def o63:Orc:=
 {f:=284,args:=[(.slice 45 0 4 1),(.func (.func 285) [] [(.ptr 217 0)])],part:=(no (no .nil (no (no .nil (no .nil (no (no .nil (lf (.cells 5 (nd (.int .i64 (.ofNat 0)) y77 QY)))) .nil))) y4)) ZQ),nx:=218,ok:=true,v:=(.bool true),out:=(no (no .nil (no (no .nil (no .nil (no (no .nil (lf (.cells 5 (nd (.int .i64 (.ofNat 4)) y77 QY)))) .nil))) .nil)) iY),nx':=219,wr:=[44,217]}
theorem k63:∀[F:Facts],Ab (Env.ofS Tryz.prog [] []) 1000000 o63=true:=by
 intro F
 kernel_rfl
theorem w63 (G:Nat→D→D):o63.Valid Tryz.prog G:=Af.val (okE _ []) (w0 G) k63
def o64:Orc:=
 {f:=308,args:=[(.ptr 44 0),(.int .i64 (.ofNat 416)),(.func (.func 319) [] [])],part:=f9,nx:=221,ok:=true,v:=(.int .i64 (.ofNat 3)),out:=iF,nx':=221,wr:=[44]}
theorem k64:∀[F:Facts],Ab (Env.ofS Tryz.prog [] []) 1000000 o64=true:=by
 intro F
 kernel_rfl
theorem w64 (G:Nat→D→D):o64.Valid Tryz.prog G:=Af.val (okE _ []) (w0 G) k64
def o65:Orc:=
 {f:=282,args:=[(.ptr 44 0)],part:=f9,nx:=221,ok:=true,v:=(.tuple []),out:=iF,nx':=223,wr:=[44]}
theorem k65:∀[F:Facts],Ab (Env.ofS Tryz.prog [o64] []) 1000000 o65=true:=by
 intro F
 kernel_rfl
theorem w65 (G:Nat→D→D):o65.Valid Tryz.prog G:=Af.val (okE _ []) (.cons (w64 G) (w0 G)) k65
def o66:Orc:=
 {f:=284,args:=[(.slice 45 0 4 1),(.func (.func 285) [] [(.ptr 223 0)])],part:=(no (no (no (no (no (no .nil (no .nil (lf (.cells 5 (nd (.int .i64 (.ofNat 0)) F5 y32))))) .nil) .nil) .nil) y5) gO),nx:=224,ok:=true,v:=(.bool true),out:=(no (no (no (no (no (no .nil (no .nil (lf (.cells 5 (nd (.int .i64 (.ofNat 1)) F5 y32))))) .nil) .nil) .nil) .nil) VI),nx':=224,wr:=[44,223]}
theorem k66:∀[F:Facts],Ab (Env.ofS Tryz.prog [] []) 1000000 o66=true:=by
 intro F
 kernel_rfl
theorem w66 (G:Nat→D→D):o66.Valid Tryz.prog G:=Af.val (okE _ []) (w0 G) k66
def o67:Orc:=
 {f:=282,args:=[(.ptr 44 0)],part:=(no .nil VI),nx:=226,ok:=true,v:=(.tuple []),out:=.nil,nx':=227,wr:=[]}
theorem k67:∀[F:Facts],Ab (Env.ofS Tryz.prog [] []) 1000000 o67=true:=by
 intro F
 kernel_rfl
theorem w67 (G:Nat→D→D):o67.Valid Tryz.prog G:=Af.val (okE _ []) (w0 G) k67
def o68:Orc:=
 {f:=284,args:=[(.slice 45 0 4 1),(.func (.func 285) [] [(.ptr 227 0)])],part:=(no (no (no .nil (no (no (no .nil (no .nil (lf (.cells 5 (nd (.int .i64 (.ofNat 0)) F5 y34))))) .nil) .nil)) y5) VI),nx:=228,ok:=true,v:=(.bool true),out:=(no (no (no .nil (no (no (no .nil (no .nil (lf (.cells 5 (nd (.int .i64 (.ofNat 4)) F5 y34))))) .nil) .nil)) .nil) gJ),nx':=229,wr:=[44,227]}
theorem k68:∀[F:Facts],Ab (Env.ofS Tryz.prog [] []) 1000000 o68=true:=by
 intro F
 kernel_rfl
theorem w68 (G:Nat→D→D):o68.Valid Tryz.prog G:=Af.val (okE _ []) (w0 G) k68
def o69:Orc:=
 {f:=308,args:=[(.ptr 44 0),(.int .i64 (.ofNat 416)),(.func (.func 319) [] [])],part:=eD,nx:=231,ok:=true,v:=(.int .i64 (.ofNat 1)),out:=fh,nx':=231,wr:=[44]}
theorem k69:∀[F:Facts],Ab (Env.ofS Tryz.prog [] []) 1000000 o69=true:=by
 intro F
 kernel_rfl
theorem w69 (G:Nat→D→D):o69.Valid Tryz.prog G:=Af.val (okE _ []) (w0 G) k69
def o70:Orc:=
 {f:=282,args:=[(.ptr 44 0)],part:=eD,nx:=231,ok:=true,v:=(.tuple []),out:=fh,nx':=233,wr:=[44]}
theorem k70:∀[F:Facts],Ab (Env.ofS Tryz.prog [o69] []) 1000000 o70=true:=by
 intro F
 kernel_rfl
theorem w70 (G:Nat→D→D):o70.Valid Tryz.prog G:=Af.val (okE _ []) (.cons (w69 G) (w0 G)) k70
def o71:Orc:=
 {f:=284,args:=[(.slice 45 0 4 1),(.func (.func 285) [] [(.ptr 233 0)])],part:=(no (no .nil (no (no .nil (no (no .nil (no .nil (lf (.cells 5 (nd (.int .i64 (.ofNat 0)) F5 y8))))) .nil)) y4)) iD),nx:=234,ok:=true,v:=(.bool true),out:=(no (no .nil (no (no .nil (no (no .nil (no .nil (lf (.cells 5 (nd (.int .i64 (.ofNat 1)) F5 y8))))) .nil)) .nil)) bk),nx':=234,wr:=[44,233]}
theorem k71:∀[F:Facts],Ab (Env.ofS Tryz.prog [] []) 1000000 o71=true:=by
 intro F
 kernel_rfl
theorem w71 (G:Nat→D→D):o71.Valid Tryz.prog G:=Af.val (okE _ []) (w0 G) k71
def o72:Orc:=
 {f:=308,args:=[(.ptr 44 0),(.int .i64 (.ofNat 416)),(.func (.func 319) [] [])],part:=kx,nx:=236,ok:=true,v:=(.int .i64 (.ofNat 1)),out:=dy,nx':=236,wr:=[44]}
theorem k72:∀[F:Facts],Ab (Env.ofS Tryz.prog [] []) 1000000 o72=true:=by
 intro F
 kernel_rfl
theorem w72 (G:Nat→D→D):o72.Valid Tryz.prog G:=Af.val (okE _ []) (w0 G) k72
def o73:Orc:=
 {f:=282,args:=[(.ptr 44 0)],part:=kx,nx:=236,ok:=true,v:=(.tuple []),out:=dy,nx':=238,wr:=[44]}
theorem k73:∀[F:Facts],Ab (Env.ofS Tryz.prog [o72] []) 1000000 o73=true:=by
 intro F
 kernel_rfl
theorem w73 (G:Nat→D→D):o73.Valid Tryz.prog G:=Af.val (okE _ []) (.cons (w72 G) (w0 G)) k73
def o74:Orc:=
 {f:=284,args:=[(.slice 45 0 4 1),(.func (.func 285) [] [(.ptr 238 0)])],part:=(no y6 (no eL (no .nil (no .nil (no (no .nil (no .nil (lf (.cells 5 (nd (.int .i64 (.ofNat 0)) F5 bo))))) .nil))))),nx:=239,ok:=true,v:=(.bool true),out:=(no .nil (no eO (no .nil (no .nil (no (no .nil (no .nil (lf (.cells 5 (nd (.int .i64 (.ofNat 2)) F5 cU))))) .nil))))),nx':=241,wr:=[44,238]}
theorem k74:∀[F:Facts],Ab (Env.ofS Tryz.prog [] []) 1000000 o74=true:=by
 intro F
 kernel_rfl
theorem w74 (G:Nat→D→D):o74.Valid Tryz.prog G:=Af.val (okE _ []) (w0 G) k74
def o75:Orc:=
 {f:=308,args:=[(.ptr 44 0),(.int .i64 (.ofNat 416)),(.func (.func 319) [] [])],part:=fN,nx:=243,ok:=true,v:=(.int .i64 (.ofNat 1)),out:=d6,nx':=243,wr:=[44]}
theorem k75:∀[F:Facts],Ab (Env.ofS Tryz.prog [] []) 1000000 o75=true:=by
 intro F
 kernel_rfl
theorem w75 (G:Nat→D→D):o75.Valid Tryz.prog G:=Af.val (okE _ []) (w0 G) k75
def o76:Orc:=
 {f:=282,args:=[(.ptr 44 0)],part:=fN,nx:=243,ok:=true,v:=(.tuple []),out:=d6,nx':=245,wr:=[44]}
theorem k76:∀[F:Facts],Ab (Env.ofS Tryz.prog [o75] []) 1000000 o76=true:=by
 intro F
 kernel_rfl
theorem w76 (G:Nat→D→D):o76.Valid Tryz.prog G:=Af.val (okE _ []) (.cons (w75 G) (w0 G)) k76
def o77:Orc:=
 {f:=284,args:=[(.slice 45 0 4 1),(.func (.func 285) [] [(.ptr 245 0)])],part:=(no (no .nil (no .nil (no (no .nil (no .nil (no .nil (lf (.cells 5 (nd (.int .i64 (.ofNat 0)) F5 y19)))))) y3))) eH),nx:=246,ok:=true,v:=(.bool true),out:=(no (no .nil (no .nil (no (no .nil (no .nil (no .nil (lf (.cells 5 (nd (.int .i64 (.ofNat 2)) F5 y19)))))) .nil))) YU),nx':=248,wr:=[44,245]}
theorem k77:∀[F:Facts],Ab (Env.ofS Tryz.prog [] []) 1000000 o77=true:=by
 intro F
 kernel_rfl
theorem w77 (G:Nat→D→D):o77.Valid Tryz.prog G:=Af.val (okE _ []) (w0 G) k77
def o78:Orc:=
 {f:=282,args:=[(.ptr 44 0)],part:=(no .nil YU),nx:=250,ok:=true,v:=(.tuple []),out:=.nil,nx':=251,wr:=[]}
theorem k78:∀[F:Facts],Ab (Env.ofS Tryz.prog [] []) 1000000 o78=true:=by
 intro F
 kernel_rfl
theorem w78 (G:Nat→D→D):o78.Valid Tryz.prog G:=Af.val (okE _ []) (w0 G) k78
def o79:Orc:=
 {f:=284,args:=[(.slice 45 0 4 1),(.func (.func 285) [] [(.ptr 251 0)])],part:=(no (no (no .nil (no .nil (no .nil (no .nil (no .nil (lf (.cells 5 (nd (.int .i64 (.ofNat 0)) F5 S2)))))))) y5) YU),nx:=252,ok:=true,v:=(.bool true),out:=(no (no (no .nil (no .nil (no .nil (no .nil (no .nil (lf (.cells 5 (nd (.int .i64 (.ofNat 4)) F5 S2)))))))) .nil) bX),nx':=253,wr:=[44,251]}
theorem k79:∀[F:Facts],Ab (Env.ofS Tryz.prog [] []) 1000000 o79=true:=by
 intro F
 kernel_rfl
theorem w79 (G:Nat→D→D):o79.Valid Tryz.prog G:=Af.val (okE _ []) (w0 G) k79
def o80:Orc:=
 {f:=282,args:=[(.ptr 44 0)],part:=(no .nil bX),nx:=255,ok:=true,v:=(.tuple []),out:=.nil,nx':=256,wr:=[]}
theorem k80:∀[F:Facts],Ab (Env.ofS Tryz.prog [] []) 1000000 o80=true:=by
 intro F
 kernel_rfl
theorem w80 (G:Nat→D→D):o80.Valid Tryz.prog G:=Af.val (okE _ []) (w0 G) k80
def o81:Orc:=
 {f:=284,args:=[(.slice 45 0 4 1),(.func (.func 285) [] [(.ptr 256 0)])],part:=(no y6 (no (no (no (no (no (no (no (lf (.cells 5 (nd (.int .i64 (.ofNat 0)) F5 y97))) .nil) .nil) .nil) .nil) .nil) ij) .nil)),nx:=257,ok:=true,v:=(.bool true),out:=(no .nil (no (no (no (no (no (no (no (lf (.cells 5 (nd (.int .i64 (.ofNat 2)) F5 (nd (.int .i64 (.ofNat 512)) (lf (.int .i64 (.ofNat 20))) .nil)))) .nil) .nil) .nil) .nil) .nil) iU) .nil)),nx':=259,wr:=[44,256]}
theorem k81:∀[F:Facts],Ab (Env.ofS Tryz.prog [] []) 1000000 o81=true:=by
 intro F
 kernel_rfl
theorem w81 (G:Nat→D→D):o81.Valid Tryz.prog G:=Af.val (okE _ []) (w0 G) k81
def o82:Orc:=
 {f:=282,args:=[(.ptr 44 0)],part:=(no .nil (no d9 .nil)),nx:=261,ok:=true,v:=(.tuple []),out:=.nil,nx':=262,wr:=[]}
theorem k82:∀[F:Facts],Ab (Env.ofS Tryz.prog [] []) 1000000 o82=true:=by
 intro F
 kernel_rfl
theorem w82 (G:Nat→D→D):o82.Valid Tryz.prog G:=Af.val (okE _ []) (w0 G) k82
def o83:Orc:=
 {f:=284,args:=[(.slice 45 0 4 1),(.func (.func 285) [] [(.ptr 262 0)])],part:=(no y6 (no d9 (no .nil (no (no (no (no (no (lf (.cells 5 (nd (.int .i64 (.ofNat 0)) F5 y53))) .nil) .nil) .nil) .nil) .nil)))),nx:=263,ok:=true,v:=(.bool true),out:=(no .nil (no cG (no .nil (no (no (no (no (no (lf (.cells 5 (nd (.int .i64 (.ofNat 4)) F5 y53))) .nil) .nil) .nil) .nil) .nil)))),nx':=264,wr:=[44,262]}
theorem k83:∀[F:Facts],Ab (Env.ofS Tryz.prog [] []) 1000000 o83=true:=by
 intro F
 kernel_rfl
theorem w83 (G:Nat→D→D):o83.Valid Tryz.prog G:=Af.val (okE _ []) (w0 G) k83
def o84:Orc:=
 {f:=308,args:=[(.ptr 44 0),(.int .i64 (.ofNat 416)),(.func (.func 319) [] [])],part:=gH,nx:=266,ok:=true,v:=(.int .i64 (.ofNat 3)),out:=iS,nx':=266,wr:=[44]}
theorem k84:∀[F:Facts],Ab (Env.ofS Tryz.prog [] []) 1000000 o84=true:=by
 intro F
 kernel_rfl
theorem w84 (G:Nat→D→D):o84.Valid Tryz.prog G:=Af.val (okE _ []) (w0 G) k84
def o85:Orc:=
 {f:=282,args:=[(.ptr 44 0)],part:=gH,nx:=266,ok:=true,v:=(.tuple []),out:=iS,nx':=268,wr:=[44]}
theorem k85:∀[F:Facts],Ab (Env.ofS Tryz.prog [o84] []) 1000000 o85=true:=by
 intro F
 kernel_rfl
theorem w85 (G:Nat→D→D):o85.Valid Tryz.prog G:=Af.val (okE _ []) (.cons (w84 G) (w0 G)) k85
def o86:Orc:=
 {f:=284,args:=[(.slice 45 0 4 1),(.func (.func 285) [] [(.ptr 268 0)])],part:=(no y6 (no (no .nil (no .nil (no (nd iL (no (no (lf (.cells 5 (nd (.int .i64 (.ofNat 0)) GY y32))) .nil) .nil) .nil) .nil))) .nil)),nx:=269,ok:=true,v:=(.bool true),out:=(no .nil (no (no .nil (no .nil (no (nd jD (no (no (lf (.cells 5 (nd (.int .i64 (.ofNat 1)) GY y32))) .nil) .nil) .nil) .nil))) .nil)),nx':=269,wr:=[44,268]}
theorem k86:∀[F:Facts],Ab (Env.ofS Tryz.prog [] []) 1000000 o86=true:=by
 intro F
 kernel_rfl
theorem w86 (G:Nat→D→D):o86.Valid Tryz.prog G:=Af.val (okE _ []) (w0 G) k86
def o87:Orc:=
 {f:=282,args:=[(.ptr 44 0)],part:=(no .nil (no (no .nil cO) .nil)),nx:=271,ok:=true,v:=(.tuple []),out:=.nil,nx':=272,wr:=[]}
theorem k87:∀[F:Facts],Ab (Env.ofS Tryz.prog [] []) 1000000 o87=true:=by
 intro F
 kernel_rfl
theorem w87 (G:Nat→D→D):o87.Valid Tryz.prog G:=Af.val (okE _ []) (w0 G) k87
def o88:Orc:=
 {f:=284,args:=[(.slice 45 0 4 1),(.func (.func 285) [] [(.ptr 272 0)])],part:=(no y6 (no (no (no (no .nil (no (no (no (lf (.cells 5 (nd (.int .i64 (.ofNat 0)) GY y34))) .nil) .nil) .nil)) .nil) cO) .nil)),nx:=273,ok:=true,v:=(.bool true),out:=(no .nil (no (no (no (no .nil (no (no (no (lf (.cells 5 (nd (.int .i64 (.ofNat 4)) GY y34))) .nil) .nil) .nil)) .nil) iO) .nil)),nx':=274,wr:=[44,272]}
theorem k88:∀[F:Facts],Ab (Env.ofS Tryz.prog [] []) 1000000 o88=true:=by
 intro F
 kernel_rfl
theorem w88 (G:Nat→D→D):o88.Valid Tryz.prog G:=Af.val (okE _ []) (w0 G) k88
def o89:Orc:=
 {f:=308,args:=[(.ptr 44 0),(.int .i64 (.ofNat 416)),(.func (.func 319) [] [])],part:=dh,nx:=276,ok:=true,v:=(.int .i64 (.ofNat 1)),out:=j7,nx':=276,wr:=[44]}
theorem k89:∀[F:Facts],Ab (Env.ofS Tryz.prog [] []) 1000000 o89=true:=by
 intro F
 kernel_rfl
theorem w89 (G:Nat→D→D):o89.Valid Tryz.prog G:=Af.val (okE _ []) (w0 G) k89
def o90:Orc:=
 {f:=282,args:=[(.ptr 44 0)],part:=dh,nx:=276,ok:=true,v:=(.tuple []),out:=j7,nx':=278,wr:=[44]}
theorem k90:∀[F:Facts],Ab (Env.ofS Tryz.prog [o89] []) 1000000 o90=true:=by
 intro F
 kernel_rfl
theorem w90 (G:Nat→D→D):o90.Valid Tryz.prog G:=Af.val (okE _ []) (.cons (w89 G) (w0 G)) k90
def o91:Orc:=
 {f:=284,args:=[(.slice 45 0 4 1),(.func (.func 285) [] [(.ptr 278 0)])],part:=(no y6 (no gC (no .nil (no (no .nil (no (no (no (lf (.cells 5 (nd (.int .i64 (.ofNat 0)) GY y8))) .nil) .nil) .nil)) .nil)))),nx:=279,ok:=true,v:=(.bool true),out:=(no .nil (no gP (no .nil (no (no .nil (no (no (no (lf (.cells 5 (nd (.int .i64 (.ofNat 1)) GY y8))) .nil) .nil) .nil)) .nil)))),nx':=279,wr:=[44,278]}
theorem k91:∀[F:Facts],Ab (Env.ofS Tryz.prog [] []) 1000000 o91=true:=by
 intro F
 kernel_rfl
theorem w91 (G:Nat→D→D):o91.Valid Tryz.prog G:=Af.val (okE _ []) (w0 G) k91
def o92:Orc:=
 {f:=308,args:=[(.ptr 44 0),(.int .i64 (.ofNat 416)),(.func (.func 319) [] [])],part:=bA,nx:=281,ok:=true,v:=(.int .i64 (.ofNat 1)),out:=dz,nx':=281,wr:=[44]}
theorem k92:∀[F:Facts],Ab (Env.ofS Tryz.prog [] []) 1000000 o92=true:=by
 intro F
 kernel_rfl
theorem w92 (G:Nat→D→D):o92.Valid Tryz.prog G:=Af.val (okE _ []) (w0 G) k92
def o93:Orc:=
 {f:=282,args:=[(.ptr 44 0)],part:=bA,nx:=281,ok:=true,v:=(.tuple []),out:=dz,nx':=283,wr:=[44]}
theorem k93:∀[F:Facts],Ab (Env.ofS Tryz.prog [o92] []) 1000000 o93=true:=by
 intro F
 kernel_rfl
theorem w93 (G:Nat→D→D):o93.Valid Tryz.prog G:=Af.val (okE _ []) (.cons (w92 G) (w0 G)) k93
def o94:Orc:=
 {f:=284,args:=[(.slice 45 0 4 1),(.func (.func 285) [] [(.ptr 283 0)])],part:=(no (no (no .nil (no .nil (no .nil (no (no (no (lf (.cells 5 (nd (.int .i64 (.ofNat 0)) GY y14))) .nil) .nil) .nil)))) y5) kb),nx:=284,ok:=true,v:=(.bool true),out:=(no (no (no .nil (no .nil (no .nil (no (no (no (lf (.cells 5 (nd (.int .i64 (.ofNat 4)) GY y14))) .nil) .nil) .nil)))) .nil) fj),nx':=285,wr:=[44,283]}
theorem k94:∀[F:Facts],Ab (Env.ofS Tryz.prog [] []) 1000000 o94=true:=by
 intro F
 kernel_rfl
theorem w94 (G:Nat→D→D):o94.Valid Tryz.prog G:=Af.val (okE _ []) (w0 G) k94
def o95:Orc:=
 {f:=282,args:=[(.ptr 44 0)],part:=(no .nil fj),nx:=287,ok:=true,v:=(.tuple []),out:=.nil,nx':=288,wr:=[]}
theorem k95:∀[F:Facts],Ab (Env.ofS Tryz.prog [] []) 1000000 o95=true:=by
 intro F
 kernel_rfl
theorem w95 (G:Nat→D→D):o95.Valid Tryz.prog G:=Af.val (okE _ []) (w0 G) k95
def o96:Orc:=
 {f:=284,args:=[(.slice 45 0 4 1),(.func (.func 285) [] [(.ptr 288 0)])],part:=(no y6 (no (no (no (no (no .nil (no (no (lf (.cells 5 (nd (.int .i64 (.ofNat 0)) GY y88))) .nil) .nil)) .nil) .nil) jn) .nil)),nx:=289,ok:=true,v:=(.bool true),out:=(no .nil (no (no (no (no (no .nil (no (no (lf (.cells 5 (nd (.int .i64 (.ofNat 1)) GY y88))) .nil) .nil)) .nil) .nil) cZ) .nil)),nx':=289,wr:=[44,288]}
theorem k96:∀[F:Facts],Ab (Env.ofS Tryz.prog [] []) 1000000 o96=true:=by
 intro F
 kernel_rfl
theorem w96 (G:Nat→D→D):o96.Valid Tryz.prog G:=Af.val (okE _ []) (w0 G) k96
def o97:Orc:=
 {f:=282,args:=[(.ptr 44 0)],part:=(no .nil (no (no .nil cZ) .nil)),nx:=291,ok:=true,v:=(.tuple []),out:=.nil,nx':=292,wr:=[]}
theorem k97:∀[F:Facts],Ab (Env.ofS Tryz.prog [] []) 1000000 o97=true:=by
 intro F
 kernel_rfl
theorem w97 (G:Nat→D→D):o97.Valid Tryz.prog G:=Af.val (okE _ []) (w0 G) k97
def o98:Orc:=
 {f:=284,args:=[(.slice 45 0 4 1),(.func (.func 285) [] [(.ptr 292 0)])],part:=(no y6 (no (no .nil (no (no (no .nil (no (no (lf (.cells 5 (nd (.int .i64 (.ofNat 0)) GY y97))) .nil) .nil)) .nil) g8)) .nil)),nx:=293,ok:=true,v:=(.bool true),out:=(no .nil (no (no .nil (no (no (no .nil (no (no (lf (.cells 5 (nd (.int .i64 (.ofNat 4)) GY y97))) .nil) .nil)) .nil) iQ)) .nil)),nx':=294,wr:=[44,292]}
theorem k98:∀[F:Facts],Ab (Env.ofS Tryz.prog [] []) 1000000 o98=true:=by
 intro F
 kernel_rfl
theorem w98 (G:Nat→D→D):o98.Valid Tryz.prog G:=Af.val (okE _ []) (w0 G) k98
def o99:Orc:=
 {f:=282,args:=[(.ptr 44 0)],part:=(no .nil cT),nx:=296,ok:=true,v:=(.tuple []),out:=.nil,nx':=297,wr:=[]}
theorem k99:∀[F:Facts],Ab (Env.ofS Tryz.prog [] []) 1000000 o99=true:=by
 intro F
 kernel_rfl
theorem w99 (G:Nat→D→D):o99.Valid Tryz.prog G:=Af.val (okE _ []) (w0 G) k99
def aC:Orc:=
 {f:=284,args:=[(.slice 45 0 4 1),(.func (.func 285) [] [(.ptr 297 0)])],part:=(no (no .nil (no (no .nil (no (no .nil (no (no (lf (.cells 5 (nd (.int .i64 (.ofNat 0)) GY y24))) .nil) .nil)) .nil)) y4)) cT),nx:=298,ok:=true,v:=(.bool true),out:=(no (no .nil (no (no .nil (no (no .nil (no (no (lf (.cells 5 (nd (.int .i64 (.ofNat 4)) GY y24))) .nil) .nil)) .nil)) .nil)) gY),nx':=299,wr:=[44,297]}
theorem uo:∀[F:Facts],Ab (Env.ofS Tryz.prog [] []) 1000000 aC=true:=by
 intro F
 kernel_rfl
theorem nL (G:Nat→D→D):aC.Valid Tryz.prog G:=Af.val (okE _ []) (w0 G) uo
def W5:Orc:=
 {f:=308,args:=[(.ptr 44 0),(.int .i64 (.ofNat 416)),(.func (.func 319) [] [])],part:=cD,nx:=301,ok:=true,v:=(.int .i64 (.ofNat 1)),out:=eK,nx':=301,wr:=[44]}
theorem tR:∀[F:Facts],Ab (Env.ofS Tryz.prog [] []) 1000000 W5=true:=by
 intro F
 kernel_rfl
theorem tS (G:Nat→D→D):W5.Valid Tryz.prog G:=Af.val (okE _ []) (w0 G) tR
def Yf:Orc:=
 {f:=282,args:=[(.ptr 44 0)],part:=cD,nx:=301,ok:=true,v:=(.tuple []),out:=eK,nx':=303,wr:=[44]}
theorem ol:∀[F:Facts],Ab (Env.ofS Tryz.prog [W5] []) 1000000 Yf=true:=by
 intro F
 kernel_rfl
theorem tW (G:Nat→D→D):Yf.Valid Tryz.prog G:=Af.val (okE _ []) (.cons (tS G) (w0 G)) ol
def XR:Orc:=
 {f:=284,args:=[(.slice 45 0 4 1),(.func (.func 285) [] [(.ptr 303 0)])],part:=(no (no (no (no (no .nil (no .nil (no (no (lf (.cells 5 (nd (.int .i64 (.ofNat 0)) jF y59))) .nil) .nil))) .nil) .nil) y5) jh),nx:=304,ok:=true,v:=(.bool true),out:=(no (no (no (no (no .nil (no .nil (no (no (lf (.cells 5 (nd (.int .i64 (.ofNat 4)) jF y59))) .nil) .nil))) .nil) .nil) .nil) jY),nx':=305,wr:=[44,303]}
theorem mZ:∀[F:Facts],Ab (Env.ofS Tryz.prog [] []) 1000000 XR=true:=by
 intro F
 kernel_rfl
theorem kX (G:Nat→D→D):XR.Valid Tryz.prog G:=Af.val (okE _ []) (w0 G) mZ
def WI:Orc:=
 {f:=308,args:=[(.ptr 44 0),(.int .i64 (.ofNat 416)),(.func (.func 319) [] [])],part:=ce,nx:=307,ok:=true,v:=(.int .i64 (.ofNat 1)),out:=dP,nx':=307,wr:=[44]}
theorem sY:∀[F:Facts],Ab (Env.ofS Tryz.prog [] []) 1000000 WI=true:=by
 intro F
 kernel_rfl
theorem nH (G:Nat→D→D):WI.Valid Tryz.prog G:=Af.val (okE _ []) (w0 G) sY
def VN:Orc:=
 {f:=282,args:=[(.ptr 44 0)],part:=ce,nx:=307,ok:=true,v:=(.tuple []),out:=dP,nx':=309,wr:=[44]}
theorem np:∀[F:Facts],Ab (Env.ofS Tryz.prog [WI] []) 1000000 VN=true:=by
 intro F
 kernel_rfl
theorem sx (G:Nat→D→D):VN.Valid Tryz.prog G:=Af.val (okE _ []) (.cons (nH G) (w0 G)) np
def Z8:Orc:=
 {f:=284,args:=[(.slice 45 0 4 1),(.func (.func 285) [] [(.ptr 309 0)])],part:=(no (no .nil (no .nil (no (no .nil (no .nil (no (no (lf (.cells 5 (nd (.int .i64 (.ofNat 0)) Ry y59))) .nil) .nil))) y3))) dI),nx:=310,ok:=true,v:=(.bool true),out:=(no (no .nil (no .nil (no (no .nil (no .nil (no (no (lf (.cells 5 (nd (.int .i64 (.ofNat 1)) Ry y59))) .nil) .nil))) .nil))) ip),nx':=310,wr:=[44,309]}
theorem up:∀[F:Facts],Ab (Env.ofS Tryz.prog [] []) 1000000 Z8=true:=by
 intro F
 kernel_rfl
theorem uN (G:Nat→D→D):Z8.Valid Tryz.prog G:=Af.val (okE _ []) (w0 G) up
def ZT:Orc:=
 {f:=308,args:=[(.ptr 44 0),(.int .i64 (.ofNat 416)),(.func (.func 319) [] [])],part:=ew,nx:=312,ok:=true,v:=(.int .i64 (.ofNat 1)),out:=cW,nx':=312,wr:=[44]}
theorem s9:∀[F:Facts],Ab (Env.ofS Tryz.prog [] []) 1000000 ZT=true:=by
 intro F
 kernel_rfl
theorem mO (G:Nat→D→D):ZT.Valid Tryz.prog G:=Af.val (okE _ []) (w0 G) s9
def X6:Orc:=
 {f:=282,args:=[(.ptr 44 0)],part:=ew,nx:=312,ok:=true,v:=(.tuple []),out:=cW,nx':=314,wr:=[44]}
theorem mz:∀[F:Facts],Ab (Env.ofS Tryz.prog [ZT] []) 1000000 X6=true:=by
 intro F
 kernel_rfl
theorem rG (G:Nat→D→D):X6.Valid Tryz.prog G:=Af.val (okE _ []) (.cons (mO G) (w0 G)) mz
def Wq:Orc:=
 {f:=284,args:=[(.slice 45 0 4 1),(.func (.func 285) [] [(.ptr 314 0)])],part:=(no y6 (no iE (no (no .nil (no .nil (no .nil (no (no (lf (.cells 5 (nd (.int .i64 (.ofNat 0)) Ry y8))) .nil) .nil)))) .nil))),nx:=315,ok:=true,v:=(.bool true),out:=(no .nil (no dX (no (no .nil (no .nil (no .nil (no (no (lf (.cells 5 (nd (.int .i64 (.ofNat 1)) Ry y8))) .nil) .nil)))) .nil))),nx':=315,wr:=[44,314]}
theorem nw:∀[F:Facts],Ab (Env.ofS Tryz.prog [] []) 1000000 Wq=true:=by
 intro F
 kernel_rfl
theorem uw (G:Nat→D→D):Wq.Valid Tryz.prog G:=Af.val (okE _ []) (w0 G) nw
def ZK:Orc:=
 {f:=308,args:=[(.ptr 44 0),(.int .i64 (.ofNat 416)),(.func (.func 319) [] [])],part:=bi,nx:=317,ok:=true,v:=(.int .i64 (.ofNat 1)),out:=gi,nx':=317,wr:=[44]}
theorem ul:∀[F:Facts],Ab (Env.ofS Tryz.prog [] []) 1000000 ZK=true:=by
 intro F
 kernel_rfl
theorem qD (G:Nat→D→D):ZK.Valid Tryz.prog G:=Af.val (okE _ []) (w0 G) ul
def Wr:Orc:=
 {f:=282,args:=[(.ptr 44 0)],part:=bi,nx:=317,ok:=true,v:=(.tuple []),out:=gi,nx':=319,wr:=[44]}
theorem kQ:∀[F:Facts],Ab (Env.ofS Tryz.prog [ZK] []) 1000000 Wr=true:=by
 intro F
 kernel_rfl
theorem pm (G:Nat→D→D):Wr.Valid Tryz.prog G:=Af.val (okE _ []) (.cons (qD G) (w0 G)) kQ
def XA:Orc:=
 {f:=284,args:=[(.slice 45 0 4 1),(.func (.func 285) [] [(.ptr 319 0)])],part:=(no (no (no (no (no (no (no .nil (no (lf (.cells 5 (nd (.int .i64 (.ofNat 0)) Ry UX))) .nil)) .nil) .nil) .nil) .nil) y5) gv),nx:=320,ok:=true,v:=(.bool true),out:=(no (no (no (no (no (no (no .nil (no (lf (.cells 5 (nd (.int .i64 (.ofNat 4)) Ry UX))) .nil)) .nil) .nil) .nil) .nil) .nil) eP),nx':=321,wr:=[44,319]}
theorem kU:∀[F:Facts],Ab (Env.ofS Tryz.prog [] []) 1000000 XA=true:=by
 intro F
 kernel_rfl
theorem uk (G:Nat→D→D):XA.Valid Tryz.prog G:=Af.val (okE _ []) (w0 G) kU
def ah:Orc:=
 {f:=308,args:=[(.ptr 44 0),(.int .i64 (.ofNat 416)),(.func (.func 319) [] [])],part:=i8,nx:=323,ok:=true,v:=(.int .i64 (.ofNat 3)),out:=dU,nx':=323,wr:=[44]}
theorem t8:∀[F:Facts],Ab (Env.ofS Tryz.prog [] []) 1000000 ah=true:=by
 intro F
 kernel_rfl
theorem uD (G:Nat→D→D):ah.Valid Tryz.prog G:=Af.val (okE _ []) (w0 G) t8
def XG:Orc:=
 {f:=282,args:=[(.ptr 44 0)],part:=i8,nx:=323,ok:=true,v:=(.tuple []),out:=dU,nx':=325,wr:=[44]}
theorem pN:∀[F:Facts],Ab (Env.ofS Tryz.prog [ah] []) 1000000 XG=true:=by
 intro F
 kernel_rfl
theorem nE (G:Nat→D→D):XG.Valid Tryz.prog G:=Af.val (okE _ []) (.cons (uD G) (w0 G)) pN
def Yh:Orc:=
 {f:=284,args:=[(.slice 45 0 4 1),(.func (.func 285) [] [(.ptr 325 0)])],part:=(no (no .nil (no .nil (no (no (no (no .nil (no (lf (.cells 5 (nd (.int .i64 (.ofNat 0)) F4 y32))) .nil)) .nil) .nil) y3))) j6),nx:=326,ok:=true,v:=(.bool true),out:=(no (no .nil (no .nil (no (no (no (no .nil (no (lf (.cells 5 (nd (.int .i64 (.ofNat 1)) F4 y32))) .nil)) .nil) .nil) .nil))) Zr),nx':=326,wr:=[44,325]}
theorem nA:∀[F:Facts],Ab (Env.ofS Tryz.prog [] []) 1000000 Yh=true:=by
 intro F
 kernel_rfl
theorem tz (G:Nat→D→D):Yh.Valid Tryz.prog G:=Af.val (okE _ []) (w0 G) nA
end Go.Proofs.YtmjeljjkhblgeaaGreatDoor.familyLists

