/- What is proved: that certain calls which the law UpgradeGoesOn makes come to the results that are written here (part 3 of 4). Conditions: the memory that such a call reaches is as written here; the kernel runs the evaluator over each. -/
import Derived.Test.YtmgppdghdeokbaaGreatUpgradeGoesOnKnownB
set_option linter.unusedVariables false
set_option linter.unusedSectionVars false
set_option linter.unusedSimpArgs false
namespace Go.Proofs.YtmgppdghdeokbaaGreat.upgradeGoesOn
open Go.AE
def y96:AV:=(.agg [(.str 1 110),(.slice 2744 0 3 3),.slice0,(.slice 2748 0 3 9)])
def y97:T Aj:=(no .nil (no (no .nil y54) .nil))
def y98:T Aj:=(no .nil (no .nil (no (no .nil y56) .nil)))
def o27:Orc:=
 {f:=24,args:=[y89,y96,y76,y92],part:=(nd y43 y91 (no (no (no .nil (no y94 y97)) (no .nil y98)) .nil)),nx:=3247,ok:=true,v:=(.tuple [(.agg [(.str 1 89),(.slice 3414 0 0 1)]),(.int .i64 (.ofNat 0))]),out:=(no .nil (no .nil (no .nil (no (no .nil (no (no .nil (no (no .nil (no y93 .nil)) .nil)) .nil)) .nil)))),nx':=3415,wr:=[]}
def l27:List Orc:=o27::l26
theorem k27:∀[F:Facts],AH (Env.ofS Tryz.prog l26 []) 100000 o27=true:=by
 intro F
 kernel_rfl
theorem w27 (G:Nat→D→D):Ad (Env.ofS Tryz.prog l27 []) G:=Ad.add (U:=Bm) (okE l26 []) (w26 G) k27
def o28:Orc:=
 {f:=61,args:=[y89,y92],part:=(no y91 y95),nx:=3416,ok:=true,v:=(.tuple [(.slice 3486 0 1 1),(.int .i64 (.ofNat 0))]),out:=(no .nil (no .nil (no .nil (no .nil (no .nil (no (no y35 .nil) .nil)))))),nx':=3487,wr:=[]}
def l28:List Orc:=o28::l27
theorem k28:∀[F:Facts],AH (Env.ofS Tryz.prog l27 []) 100000 o28=true:=by
 intro F
 kernel_rfl
theorem w28 (G:Nat→D→D):Ad (Env.ofS Tryz.prog l28 []) G:=Ad.add (U:=Bm) (okE l27 []) (w27 G) k28
def o29:Orc:=
 {f:=23,args:=[y89,y92,(.int .i64 (.ofNat 1))],part:=(no y91 y95),nx:=3487,ok:=true,v:=(.tuple [(.agg [(.str 1 65),(.slice 3589 0 0 1)]),(.int .i64 (.ofNat 0))]),out:=(no (no .nil (no .nil (no (no (no (no (no (no (no .nil y93) .nil) .nil) .nil) .nil) .nil) .nil))) .nil),nx':=3590,wr:=[]}
def l29:List Orc:=o29::l28
theorem k29:∀[F:Facts],AH (Env.ofS Tryz.prog l28 []) 100000 o29=true:=by
 intro F
 kernel_rfl
theorem w29 (G:Nat→D→D):Ad (Env.ofS Tryz.prog l29 []) G:=Ad.add (U:=Bm) (okE l28 []) (w28 G) k29
def o30:Orc:=
 {f:=15,args:=[(.ptr 2742 0),y96,y76],part:=(nd y43 (no (no .nil (no (no .nil (no (no .nil (lf y10)) (no (no .nil (no (no .nil (no (lf (.cells 11 (nd (.ptr 2740 0) y78 (nd (.slice 211 0 2 3) (nd (.slice 213 0 2 9) (lf (.ptr 2741 0)) .nil) y53)))) .nil)) .nil)) .nil))) .nil)) (no .nil (no (no .nil (no (no .nil (lf y14)) (no (no .nil (no (no .nil (no y79 .nil)) .nil)) .nil))) .nil))) (no (no (no .nil (no .nil y97)) (no (no .nil (no .nil (no (no .nil y51) .nil))) y98)) (no .nil (no (no .nil (no .nil (no (no .nil (no (no .nil (no (lf (.cells 1 (lf (.ptr 2739 0)))) .nil)) .nil)) .nil))) .nil)))),nx:=2749,ok:=true,v:=(.tuple [(.slice 3244 0 1 1),(.int .i64 (.ofNat 0))]),out:=(no .nil (no (no .nil (no .nil (no (no .nil (no y19 .nil)) .nil))) .nil)),nx':=3592,wr:=[]}
def l30:List Orc:=o30::l29
theorem k30:∀[F:Facts],AH (Env.ofS Tryz.prog l29 []) 100000 o30=true:=by
 intro F
 kernel_rfl
theorem w30 (G:Nat→D→D):Ad (Env.ofS Tryz.prog l30 []) G:=Ad.add (U:=Bm) (okE l29 []) (w29 G) k30
def y99:T Aj:=(no (no .nil (no .nil (no .nil y37))) .nil)
def jw:T Aj:=(no .nil (no (no .nil (no (no .nil (no .nil (lf y14))) .nil)) .nil))
def nU:T Aj:=(no (no (no (no .nil (no .nil y3)) .nil) .nil) .nil)
def wj:T Aj:=(no nU (no (no .nil (no (no .nil (no .nil (lf y10))) .nil)) .nil))
def iG:T Aj:=(no wj (no (no (no .nil (no .nil (no .nil (no .nil (lf (.cells 14 (nd (.str 1 111) (nd (.slice 3753 0 2 3) (nd (.slice 3755 0 2 9) (lf (.slice 3597 0 3 9)) (lf .slice0)) (nd (.slice 3593 0 3 3) (lf .slice0) y2)) y7))))))) .nil) .nil))
def bp:T Aj:=(no (no (no (no (no (no .nil (no .nil y6)) .nil) .nil) .nil) .nil) .nil)
def tw:T Aj:=(lf (.cells 1 (lf (.ptr 3993 0))))
def uB:T Aj:=(lf (.cells 1 (lf (.func (.func 207) [(.ptr 3995 0)] []))))
def vA:T Aj:=(no .nil (no .nil (no .nil (no .nil (lf (.cells 2 (nd (.slice 4149 0 2 10) (lf (.map 3994)) .nil)))))))
def jD:T Aj:=(no .nil (no .nil (no (no (no (no (no (no y66 .nil) .nil) .nil) .nil) .nil) .nil)))
def o31:Orc:=
 {f:=209,args:=[(.int .i64 (.ofNat 1)),(.int .i64 (.ofNat 1)),(.ptr 4000 0),(.ptr 4002 0),(.ptr 4001 0)],part:=(no (no (no (no (no (no .nil y99) .nil) .nil) (no .nil (no jw (no (no (no .nil (no .nil (no .nil (no .nil (lf (.cells 2 (nd (.slice 3999 0 1 10) (lf (.map 3994)) .nil))))))) .nil) .nil)))) (no (no (no (no .nil y99) .nil) iG) (no .nil bp))) (no (no (no (no (no .nil (no (no .nil (no .nil (no .nil (no .nil tw)))) .nil)) .nil) .nil) .nil) (no (no (no (no .nil (no (no .nil (no .nil (no .nil (no .nil uB)))) .nil)) .nil) (no .nil (no (no (no .nil (no .nil y64)) .nil) .nil))) .nil))),nx:=4109,ok:=true,v:=(.tuple []),out:=(no (no (no .nil (no .nil (no .nil (no (no vA .nil) .nil)))) (no .nil (no jD .nil))) (no .nil (no (no .nil (no .nil (no (no (no .nil (no .nil y69)) .nil) .nil))) .nil))),nx':=4150,wr:=[3995,3999,3994]}
def l31:List Orc:=o31::l30
theorem k31:∀[F:Facts],AH (Env.ofS Tryz.prog l30 []) 100000 o31=true:=by
 intro F
 kernel_rfl
theorem w31 (G:Nat→D→D):Ad (Env.ofS Tryz.prog l31 []) G:=Ad.add (U:=Bm) (okE l30 []) (w30 G) k31
def mn:T Aj:=(no .nil (no .nil (no jw .nil)))
def XD:T Aj:=(no mn (no (no .nil iG) (no .nil bp)))
def o32:Orc:=
 {f:=211,args:=[(.ptr 3993 0),y31,(.bool false)],part:=(no XD .nil),nx:=4154,ok:=true,v:=(.tuple [(.slice 4168 0 0 1),(.slice 4185 0 0 1)]),out:=(no (no .nil (no y38 .nil)) (no (no (no .nil (no (no (no .nil (no y39 .nil)) .nil) .nil)) .nil) .nil)),nx':=4186,wr:=[]}
def l32:List Orc:=o32::l31
theorem k32:∀[F:Facts],AH (Env.ofS Tryz.prog l31 []) 100000 o32=true:=by
 intro F
 kernel_rfl
theorem w32 (G:Nat→D→D):Ad (Env.ofS Tryz.prog l32 []) G:=Ad.add (U:=Bm) (okE l31 []) (w31 G) k32
def o33:Orc:=
 {f:=211,args:=[(.ptr 3993 0),y0,(.bool true)],part:=(no XD .nil),nx:=4190,ok:=true,v:=(.tuple [(.slice 4202 0 0 1),(.slice 4215 0 0 1)]),out:=(no (no (no (no .nil (no .nil y73)) .nil) .nil) (no .nil (no (no .nil (no y73 .nil)) .nil))),nx':=4220,wr:=[]}
def l33:List Orc:=o33::l32
theorem k33:∀[F:Facts],AH (Env.ofS Tryz.prog l32 []) 100000 o33=true:=by
 intro F
 kernel_rfl
theorem w33 (G:Nat→D→D):Ad (Env.ofS Tryz.prog l33 []) G:=Ad.add (U:=Bm) (okE l32 []) (w32 G) k33
def ra:T Aj:=(no (no (no .nil y39) .nil) .nil)
def o34:Orc:=
 {f:=211,args:=[(.ptr 3993 0),y0,(.bool false)],part:=(no XD .nil),nx:=4222,ok:=true,v:=(.tuple [(.slice 4234 0 1 1),(.slice 4247 0 1 1)]),out:=(no (no (no (no .nil (no .nil ra)) .nil) .nil) (no .nil (no (no .nil (no ra .nil)) .nil))),nx':=4252,wr:=[]}
def l34:List Orc:=o34::l33
theorem k34:∀[F:Facts],AH (Env.ofS Tryz.prog l33 []) 100000 o34=true:=by
 intro F
 kernel_rfl
theorem w34 (G:Nat→D→D):Ad (Env.ofS Tryz.prog l34 []) G:=Ad.add (U:=Bm) (okE l33 []) (w33 G) k34
def o35:Orc:=
 {f:=211,args:=[(.ptr 3993 0),y0,(.bool true)],part:=(no XD .nil),nx:=4259,ok:=true,v:=(.tuple [(.slice 4271 0 0 1),(.slice 4284 0 0 1)]),out:=(no (no (no (no (no .nil y74) .nil) .nil) .nil) (no (no .nil (no .nil (no .nil y74))) .nil)),nx':=4289,wr:=[]}
def l35:List Orc:=o35::l34
theorem k35:∀[F:Facts],AH (Env.ofS Tryz.prog l34 []) 100000 o35=true:=by
 intro F
 kernel_rfl
theorem w35 (G:Nat→D→D):Ad (Env.ofS Tryz.prog l35 []) G:=Ad.add (U:=Bm) (okE l34 []) (w34 G) k35
def vw:T Aj:=(no (no .nil (no .nil y39)) .nil)
def o36:Orc:=
 {f:=211,args:=[(.ptr 3993 0),y0,(.bool false)],part:=(no XD .nil),nx:=4289,ok:=true,v:=(.tuple [(.slice 4301 0 1 1),(.slice 4314 0 1 1)]),out:=(no (no .nil (no .nil (no .nil (no vw .nil)))) (no .nil (no (no .nil (no .nil vw)) .nil))),nx':=4319,wr:=[]}
def l36:List Orc:=o36::l35
theorem k36:∀[F:Facts],AH (Env.ofS Tryz.prog l35 []) 100000 o36=true:=by
 intro F
 kernel_rfl
theorem w36 (G:Nat→D→D):Ad (Env.ofS Tryz.prog l36 []) G:=Ad.add (U:=Bm) (okE l35 []) (w35 G) k36
def o37:Orc:=
 {f:=209,args:=[(.int .i64 (.ofNat 0)),(.int .i64 (.ofNat 0)),(.ptr 4186 0),(.ptr 4188 0),(.ptr 4187 0)],part:=(no (no (no .nil (no .nil (no jw (no (no vA (no (no (no (no (no y28 .nil) .nil) .nil) .nil) .nil)) .nil)))) (no (no .nil iG) (no jD bp))) (no (no .nil (no .nil (no .nil (no (no .nil (no (no (no (no (no uB .nil) .nil) .nil) .nil) .nil)) .nil)))) (no (no .nil (no .nil (no (no (no .nil (no .nil y69)) (no (no (no (no (no tw .nil) .nil) .nil) .nil) .nil)) .nil))) .nil))),nx:=4319,ok:=true,v:=(.tuple []),out:=.nil,nx':=4360,wr:=[]}
def l37:List Orc:=o37::l36
theorem k37:∀[F:Facts],AH (Env.ofS Tryz.prog l36 []) 100000 o37=true:=by
 intro F
 kernel_rfl
theorem w37 (G:Nat→D→D):Ad (Env.ofS Tryz.prog l37 []) G:=Ad.add (U:=Bm) (okE l36 []) (w36 G) k37
def o38:Orc:=
 {f:=189,args:=[(.slice 3992 0 1 10),(.int .i64 (.ofNat 4000)),(.func (.func 190) [(.ptr 3993 0)] [])],part:=(no XD (no (no (no .nil (no .nil (no y99 .nil))) .nil) .nil)),nx:=3994,ok:=true,v:=(.tuple [(.slice 4149 0 2 10),(.bool false)]),out:=(no (no .nil (no .nil (no jD .nil))) .nil),nx':=4360,wr:=[]}
def l38:List Orc:=o38::l37
theorem k38:∀[F:Facts],AH (Env.ofS Tryz.prog l37 []) 100000 o38=true:=by
 intro F
 kernel_rfl
theorem w38 (G:Nat→D→D):Ad (Env.ofS Tryz.prog l38 []) G:=Ad.add (U:=Bm) (okE l37 []) (w37 G) k38
def rT:AV:=(.agg [(.str 1 110),(.slice 3593 0 3 3),.slice0,(.slice 3597 0 3 9)])
def o39:Orc:=
 {f:=148,args:=[(.agg [(.str 1 111),(.slice 3753 0 2 3),.slice0,(.slice 3755 0 2 9)]),rT,y76],part:=(nd y43 (no mn (no (no .nil (no wj .nil)) (no .nil bp))) .nil),nx:=3756,ok:=true,v:=(.tuple [(.agg [(.str 0 0),.slice0,(.str 0 0),.slice0,(.int .i64 (.ofNat 0)),(.int .i64 (.ofNat 0))]),(.bool true),(.int .i64 (.ofNat 0))]),out:=.nil,nx':=4360,wr:=[]}
def l39:List Orc:=o39::l38
theorem k39:∀[F:Facts],AH (Env.ofS Tryz.prog l38 []) 100000 o39=true:=by
 intro F
 kernel_rfl
theorem w39 (G:Nat→D→D):Ad (Env.ofS Tryz.prog l39 []) G:=Ad.add (U:=Bm) (okE l38 []) (w38 G) k39
end Go.Proofs.YtmgppdghdeokbaaGreat.upgradeGoesOn

