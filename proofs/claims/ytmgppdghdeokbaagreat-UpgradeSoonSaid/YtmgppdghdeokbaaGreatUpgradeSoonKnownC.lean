/- What is proved: that certain calls which the law UpgradeSoon makes come to the results that are written here (part 3 of 4). Conditions: the memory that such a call reaches is as written here; the kernel runs the evaluator over each. -/
import Derived.Test.YtmgppdghdeokbaaGreatUpgradeSoonKnownB
set_option linter.unusedVariables false
set_option linter.unusedSectionVars false
set_option linter.unusedSimpArgs false
namespace Go.Proofs.YtmgppdghdeokbaaGreat.upgradeSoon
open Go.AE
def y96:AV:=(.agg [(.str 1 110),(.slice 2744 0 3 3),.slice0,(.slice 2748 0 3 9)])
def y97:T Am:=(no .nil (no (no .nil y54) .nil))
def y98:T Am:=(no .nil (no .nil (no (no .nil y56) .nil)))
def o27:Orc:=
 {f:=24,args:=[y89,y96,y76,y92],part:=(nd y43 y91 (no (no (no .nil (no y94 y97)) (no .nil y98)) .nil)),nx:=3247,ok:=true,v:=(.tuple [(.agg [(.str 1 89),(.slice 3414 0 0 1)]),(.int .i64 (.ofNat 0))]),out:=(no .nil (no .nil (no .nil (no (no .nil (no (no .nil (no (no .nil (no y93 .nil)) .nil)) .nil)) .nil)))),nx':=3415,wr:=[]}
def l27:List Orc:=o27 :: l26
theorem k27:∀[F:Facts],AM (Env.ofS Tryz.prog l26 []) 20000 o27=true:=by
 intro F
 kernel_rfl
theorem w27 (G:Nat→D→D):Ac (Env.ofS Tryz.prog l27 []) G:=Ac.add (U:=Bh) (okE l26 []) (w26 G) k27
def o28:Orc:=
 {f:=61,args:=[y89,y92],part:=(no y91 y95),nx:=3416,ok:=true,v:=(.tuple [(.slice 3486 0 1 1),(.int .i64 (.ofNat 0))]),out:=(no .nil (no .nil (no .nil (no .nil (no .nil (no (no y35 .nil) .nil)))))),nx':=3487,wr:=[]}
def l28:List Orc:=o28 :: l27
theorem k28:∀[F:Facts],AM (Env.ofS Tryz.prog l27 []) 20000 o28=true:=by
 intro F
 kernel_rfl
theorem w28 (G:Nat→D→D):Ac (Env.ofS Tryz.prog l28 []) G:=Ac.add (U:=Bh) (okE l27 []) (w27 G) k28
def o29:Orc:=
 {f:=23,args:=[y89,y92,(.int .i64 (.ofNat 1))],part:=(no y91 y95),nx:=3487,ok:=true,v:=(.tuple [(.agg [(.str 1 65),(.slice 3589 0 0 1)]),(.int .i64 (.ofNat 0))]),out:=(no (no .nil (no .nil (no (no (no (no (no (no (no .nil y93) .nil) .nil) .nil) .nil) .nil) .nil))) .nil),nx':=3590,wr:=[]}
def l29:List Orc:=o29 :: l28
theorem k29:∀[F:Facts],AM (Env.ofS Tryz.prog l28 []) 20000 o29=true:=by
 intro F
 kernel_rfl
theorem w29 (G:Nat→D→D):Ac (Env.ofS Tryz.prog l29 []) G:=Ac.add (U:=Bh) (okE l28 []) (w28 G) k29
def o30:Orc:=
 {f:=15,args:=[(.ptr 2742 0),y96,y76],part:=(nd y43 (no (no .nil (no (no .nil (no (no .nil (lf y10)) (no (no .nil (no (no .nil (no (lf (.cells 11 (nd (.ptr 2740 0) y78 (nd (.slice 211 0 2 3) (nd (.slice 213 0 2 9) (lf (.ptr 2741 0)) .nil) y53)))) .nil)) .nil)) .nil))) .nil)) (no .nil (no (no .nil (no (no .nil (lf y14)) (no (no .nil (no (no .nil (no y79 .nil)) .nil)) .nil))) .nil))) (no (no (no .nil (no .nil y97)) (no (no .nil (no .nil (no (no .nil y51) .nil))) y98)) (no .nil (no (no .nil (no .nil (no (no .nil (no (no .nil (no (lf (.cells 1 (lf (.ptr 2739 0)))) .nil)) .nil)) .nil))) .nil)))),nx:=2749,ok:=true,v:=(.tuple [(.slice 3244 0 1 1),(.int .i64 (.ofNat 0))]),out:=(no .nil (no (no .nil (no .nil (no (no .nil (no y19 .nil)) .nil))) .nil)),nx':=3592,wr:=[]}
def l30:List Orc:=o30 :: l29
theorem k30:∀[F:Facts],AM (Env.ofS Tryz.prog l29 []) 20000 o30=true:=by
 intro F
 kernel_rfl
theorem w30 (G:Nat→D→D):Ac (Env.ofS Tryz.prog l30 []) G:=Ac.add (U:=Bh) (okE l29 []) (w29 G) k30
def y99:T Am:=(no (no .nil (no .nil (no .nil y37))) .nil)
def fy:T Am:=(no .nil (no (no .nil (no (no .nil (no .nil (lf y14))) .nil)) .nil))
def j5:T Am:=(no (no (no (no .nil (no .nil y3)) .nil) .nil) .nil)
def mE:T Am:=(no j5 (no (no .nil (no (no .nil (no .nil (lf y10))) .nil)) .nil))
def eY:T Am:=(no mE (no (no (no .nil (no .nil (no .nil (no .nil (lf (.cells 14 (nd (.str 1 111) (nd (.slice 3753 0 2 3) (nd (.slice 3755 0 2 9) (lf (.slice 3597 0 3 9)) (lf .slice0)) (nd (.slice 3593 0 3 3) (lf .slice0) y2)) y7))))))) .nil) .nil))
def WQ:T Am:=(no (no (no (no (no (no .nil (no .nil y6)) .nil) .nil) .nil) .nil) .nil)
def lL:T Am:=(lf (.cells 1 (lf (.ptr 3993 0))))
def rE:T Am:=(lf (.cells 1 (lf (.func (.func 207) [(.ptr 3995 0)] []))))
def sK:T Am:=(no .nil (no .nil (no .nil (no .nil (lf (.cells 2 (nd (.slice 4149 0 2 10) (lf (.map 3994)) .nil)))))))
def fU:T Am:=(no .nil (no .nil (no (no (no (no (no (no y66 .nil) .nil) .nil) .nil) .nil) .nil)))
def o31:Orc:=
 {f:=209,args:=[(.int .i64 (.ofNat 1)),(.int .i64 (.ofNat 1)),(.ptr 4000 0),(.ptr 4002 0),(.ptr 4001 0)],part:=(no (no (no (no (no (no .nil y99) .nil) .nil) (no .nil (no fy (no (no (no .nil (no .nil (no .nil (no .nil (lf (.cells 2 (nd (.slice 3999 0 1 10) (lf (.map 3994)) .nil))))))) .nil) .nil)))) (no (no (no (no .nil y99) .nil) eY) (no .nil WQ))) (no (no (no (no (no .nil (no (no .nil (no .nil (no .nil (no .nil lL)))) .nil)) .nil) .nil) .nil) (no (no (no (no .nil (no (no .nil (no .nil (no .nil (no .nil rE)))) .nil)) .nil) (no .nil (no (no (no .nil (no .nil y64)) .nil) .nil))) .nil))),nx:=4109,ok:=true,v:=(.tuple []),out:=(no (no (no .nil (no .nil (no .nil (no (no sK .nil) .nil)))) (no .nil (no fU .nil))) (no .nil (no (no .nil (no .nil (no (no (no .nil (no .nil y69)) .nil) .nil))) .nil))),nx':=4150,wr:=[3995,3999,3994]}
def l31:List Orc:=o31 :: l30
theorem k31:∀[F:Facts],AM (Env.ofS Tryz.prog l30 []) 20000 o31=true:=by
 intro F
 kernel_rfl
theorem w31 (G:Nat→D→D):Ac (Env.ofS Tryz.prog l31 []) G:=Ac.add (U:=Bh) (okE l30 []) (w30 G) k31
def nE:T Am:=(no .nil (no .nil (no fy .nil)))
def U2:T Am:=(no nE (no (no .nil eY) (no .nil WQ)))
def o32:Orc:=
 {f:=211,args:=[(.ptr 3993 0),y31,(.bool false)],part:=(no U2 .nil),nx:=4154,ok:=true,v:=(.tuple [(.slice 4168 0 0 1),(.slice 4185 0 0 1)]),out:=(no (no .nil (no y38 .nil)) (no (no (no .nil (no (no (no .nil (no y39 .nil)) .nil) .nil)) .nil) .nil)),nx':=4186,wr:=[]}
def l32:List Orc:=o32 :: l31
theorem k32:∀[F:Facts],AM (Env.ofS Tryz.prog l31 []) 20000 o32=true:=by
 intro F
 kernel_rfl
theorem w32 (G:Nat→D→D):Ac (Env.ofS Tryz.prog l32 []) G:=Ac.add (U:=Bh) (okE l31 []) (w31 G) k32
def o33:Orc:=
 {f:=211,args:=[(.ptr 3993 0),y0,(.bool true)],part:=(no U2 .nil),nx:=4190,ok:=true,v:=(.tuple [(.slice 4202 0 0 1),(.slice 4215 0 0 1)]),out:=(no (no (no (no .nil (no .nil y73)) .nil) .nil) (no .nil (no (no .nil (no y73 .nil)) .nil))),nx':=4220,wr:=[]}
def l33:List Orc:=o33 :: l32
theorem k33:∀[F:Facts],AM (Env.ofS Tryz.prog l32 []) 20000 o33=true:=by
 intro F
 kernel_rfl
theorem w33 (G:Nat→D→D):Ac (Env.ofS Tryz.prog l33 []) G:=Ac.add (U:=Bh) (okE l32 []) (w32 G) k33
def jz:T Am:=(no (no (no .nil y39) .nil) .nil)
def o34:Orc:=
 {f:=211,args:=[(.ptr 3993 0),y0,(.bool false)],part:=(no U2 .nil),nx:=4222,ok:=true,v:=(.tuple [(.slice 4234 0 1 1),(.slice 4247 0 1 1)]),out:=(no (no (no (no .nil (no .nil jz)) .nil) .nil) (no .nil (no (no .nil (no jz .nil)) .nil))),nx':=4252,wr:=[]}
def l34:List Orc:=o34 :: l33
theorem k34:∀[F:Facts],AM (Env.ofS Tryz.prog l33 []) 20000 o34=true:=by
 intro F
 kernel_rfl
theorem w34 (G:Nat→D→D):Ac (Env.ofS Tryz.prog l34 []) G:=Ac.add (U:=Bh) (okE l33 []) (w33 G) k34
def o35:Orc:=
 {f:=211,args:=[(.ptr 3993 0),y0,(.bool true)],part:=(no U2 .nil),nx:=4259,ok:=true,v:=(.tuple [(.slice 4271 0 0 1),(.slice 4284 0 0 1)]),out:=(no (no (no (no (no .nil y74) .nil) .nil) .nil) (no (no .nil (no .nil (no .nil y74))) .nil)),nx':=4289,wr:=[]}
def l35:List Orc:=o35 :: l34
theorem k35:∀[F:Facts],AM (Env.ofS Tryz.prog l34 []) 20000 o35=true:=by
 intro F
 kernel_rfl
theorem w35 (G:Nat→D→D):Ac (Env.ofS Tryz.prog l35 []) G:=Ac.add (U:=Bh) (okE l34 []) (w34 G) k35
def rB:T Am:=(no (no .nil (no .nil y39)) .nil)
def o36:Orc:=
 {f:=211,args:=[(.ptr 3993 0),y0,(.bool false)],part:=(no U2 .nil),nx:=4289,ok:=true,v:=(.tuple [(.slice 4301 0 1 1),(.slice 4314 0 1 1)]),out:=(no (no .nil (no .nil (no .nil (no rB .nil)))) (no .nil (no (no .nil (no .nil rB)) .nil))),nx':=4319,wr:=[]}
def l36:List Orc:=o36 :: l35
theorem k36:∀[F:Facts],AM (Env.ofS Tryz.prog l35 []) 20000 o36=true:=by
 intro F
 kernel_rfl
theorem w36 (G:Nat→D→D):Ac (Env.ofS Tryz.prog l36 []) G:=Ac.add (U:=Bh) (okE l35 []) (w35 G) k36
def o37:Orc:=
 {f:=209,args:=[(.int .i64 (.ofNat 0)),(.int .i64 (.ofNat 0)),(.ptr 4186 0),(.ptr 4188 0),(.ptr 4187 0)],part:=(no (no (no .nil (no .nil (no fy (no (no sK (no (no (no (no (no y28 .nil) .nil) .nil) .nil) .nil)) .nil)))) (no (no .nil eY) (no fU WQ))) (no (no .nil (no .nil (no .nil (no (no .nil (no (no (no (no (no rE .nil) .nil) .nil) .nil) .nil)) .nil)))) (no (no .nil (no .nil (no (no (no .nil (no .nil y69)) (no (no (no (no (no lL .nil) .nil) .nil) .nil) .nil)) .nil))) .nil))),nx:=4319,ok:=true,v:=(.tuple []),out:=.nil,nx':=4360,wr:=[]}
def l37:List Orc:=o37 :: l36
theorem k37:∀[F:Facts],AM (Env.ofS Tryz.prog l36 []) 20000 o37=true:=by
 intro F
 kernel_rfl
theorem w37 (G:Nat→D→D):Ac (Env.ofS Tryz.prog l37 []) G:=Ac.add (U:=Bh) (okE l36 []) (w36 G) k37
def o38:Orc:=
 {f:=189,args:=[(.slice 3992 0 1 10),(.int .i64 (.ofNat 4000)),(.func (.func 190) [(.ptr 3993 0)] [])],part:=(no U2 (no (no (no .nil (no .nil (no y99 .nil))) .nil) .nil)),nx:=3994,ok:=true,v:=(.tuple [(.slice 4149 0 2 10),(.bool false)]),out:=(no (no .nil (no .nil (no fU .nil))) .nil),nx':=4360,wr:=[]}
def l38:List Orc:=o38 :: l37
theorem k38:∀[F:Facts],AM (Env.ofS Tryz.prog l37 []) 20000 o38=true:=by
 intro F
 kernel_rfl
theorem w38 (G:Nat→D→D):Ac (Env.ofS Tryz.prog l38 []) G:=Ac.add (U:=Bh) (okE l37 []) (w37 G) k38
def rj:AV:=(.agg [(.str 1 110),(.slice 3593 0 3 3),.slice0,(.slice 3597 0 3 9)])
def o39:Orc:=
 {f:=148,args:=[(.agg [(.str 1 111),(.slice 3753 0 2 3),.slice0,(.slice 3755 0 2 9)]),rj,y76],part:=(nd y43 (no nE (no (no .nil (no mE .nil)) (no .nil WQ))) .nil),nx:=3756,ok:=true,v:=(.tuple [(.agg [(.str 0 0),.slice0,(.str 0 0),.slice0,(.int .i64 (.ofNat 0)),(.int .i64 (.ofNat 0))]),(.bool true),(.int .i64 (.ofNat 0))]),out:=.nil,nx':=4360,wr:=[]}
def l39:List Orc:=o39 :: l38
theorem k39:∀[F:Facts],AM (Env.ofS Tryz.prog l38 []) 20000 o39=true:=by
 intro F
 kernel_rfl
theorem w39 (G:Nat→D→D):Ac (Env.ofS Tryz.prog l39 []) G:=Ac.add (U:=Bh) (okE l38 []) (w38 G) k39
end Go.Proofs.YtmgppdghdeokbaaGreat.upgradeSoon

