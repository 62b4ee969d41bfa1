/- What is proved: that certain calls which the law UpgradeGoesOn makes come to the results that are written here (part 2 of 4). Conditions: the memory that such a call reaches is as written here; the kernel runs the evaluator over each. -/
import Derived.Test.YtmgppdghdeokbaaGreatUpgradeGoesOnKnownA
set_option linter.unusedVariables false
set_option linter.unusedSectionVars false
set_option linter.unusedSimpArgs false
namespace Go.Proofs.YtmgppdghdeokbaaGreat.upgradeGoesOn
open Go.AE
def o20:Orc:=
 {f:=189,args:=[(.slice 1818 0 1 10),(.int .i64 (.ofNat 4000)),(.func (.func 190) [(.ptr 1819 0)] [])],part:=(no y71 (no .nil (no (no .nil (no .nil (no y59 .nil))) .nil))),nx:=1820,ok:=true,v:=(.tuple [(.slice 1975 0 2 10),(.bool false)]),out:=(no (no (no (no .nil y67) .nil) .nil) .nil),nx':=2186,wr:=[]}
def l20:List Orc:=o20::l19
theorem k20:∀[F:Facts],AH (Env.ofS Tryz.prog l19 []) 100000 o20=true:=by
 intro F
 kernel_rfl
theorem w20 (G:Nat→D→D):Ad (Env.ofS Tryz.prog l20 []) G:=Ad.add (U:=Bm) (okE l19 []) (w19 G) k20
def y75:AV:=(.agg [(.str 1 110),(.slice 1419 0 3 3),.slice0,(.slice 1423 0 3 9)])
def y76:AV:=(.agg [(.slice 0 2 1 2),.slice0])
def o21:Orc:=
 {f:=148,args:=[(.agg [(.str 1 111),(.slice 1579 0 2 3),.slice0,(.slice 1581 0 2 9)]),y75,y76],part:=(nd y43 (no (no (no y58 .nil) (no .nil (no y60 .nil))) y70) .nil),nx:=1582,ok:=true,v:=(.tuple [(.agg [(.str 0 0),.slice0,(.str 0 0),.slice0,(.int .i64 (.ofNat 0)),(.int .i64 (.ofNat 0))]),(.bool true),(.int .i64 (.ofNat 0))]),out:=.nil,nx':=2186,wr:=[]}
def l21:List Orc:=o21::l20
theorem k21:∀[F:Facts],AH (Env.ofS Tryz.prog l20 []) 100000 o21=true:=by
 intro F
 kernel_rfl
theorem w21 (G:Nat→D→D):Ad (Env.ofS Tryz.prog l21 []) G:=Ad.add (U:=Bm) (okE l20 []) (w20 G) k21
def y77:T Aj:=(no (no (no y50 .nil) .nil) (no (no (lf (.cells 1 (lf (.ptr 141 0)))) .nil) .nil))
def y78:T AV:=(nd (.str 1 111) (nd .slice0 y2 .nil) (nd (.str 1 65) (lf (.bool false)) .nil))
def y79:T Aj:=(lf (.cells 3 (nd (.int .i64 (.ofNat 0)) (lf .map0) (lf .slice0))))
def y80:T Aj:=(no (no .nil (no (no (no .nil y4) .nil) .nil)) .nil)
def y81:T Aj:=(no .nil (no (no (no .nil (no (no (no (lf (.cells 2 (nd (.str 1 66) (lf (.str 1 89)) .nil))) .nil) .nil) .nil)) .nil) .nil))
def y82:T Aj:=(no .nil (no (no (no .nil y44) .nil) .nil))
def y83:T Aj:=(no (no (no .nil (no (no (no (lf (.cells 6 (nd (.str 1 110) (nd (.slice 2191 0 3 3) (lf (.slice 2193 0 3 9)) (lf .slice0)) (nd .slice0 (lf (.slice 2195 0 1 2)) .nil)))) .nil) .nil) .nil)) .nil) .nil)
def y84:T Aj:=(no (no (lf (.cells 3 (nd (.ptr 149 0) (lf (.ptr 2196 0)) (lf .slice0)))) .nil) .nil)
def o22:Orc:=
 {f:=41,args:=[(.ptr 150 0),(.int .i64 (.ofNat 2)),y75,y76],part:=(nd y43 (no (no (no y58 .nil) (no .nil (no (no (no (nd y14 .nil (no .nil (no y3 .nil))) .nil) .nil) .nil))) (no (no .nil y45) (no y77 (no (no (no (lf (.cells 11 (nd (.ptr 133 0) y78 (nd (.slice 137 0 2 3) (nd (.slice 139 0 2 9) (lf (.ptr 140 0)) .nil) y53)))) .nil) .nil) .nil)))) (no (no .nil (no .nil (no (no (no y79 .nil) .nil) .nil))) (no .nil (no (no .nil (no (no (lf (.cells 3 (nd (.ptr 149 0) (lf .ptr0) (lf .slice0)))) .nil) .nil)) .nil)))),nx:=1424,ok:=true,v:=(.tuple [(.bool false),(.int .i64 (.ofNat 0))]),out:=(no (no (no y80 (no y81 .nil)) (no (no y82 .nil) (no .nil (no (no (no (lf (.cells 11 (nd (.ptr 133 0) y78 (nd (.slice 137 0 2 3) (nd (.slice 139 0 2 9) (lf (.ptr 2374 0)) .nil) y53)))) .nil) .nil) .nil)))) (no (no .nil (no (no .nil y83) .nil)) (no .nil (no (no (no (no .nil (no (no .nil (no y57 .nil)) .nil)) .nil) y84) .nil)))),nx':=2402,wr:=[150,141]}
def l22:List Orc:=o22::l21
theorem k22:∀[F:Facts],AH (Env.ofS Tryz.prog l21 []) 100000 o22=true:=by
 intro F
 kernel_rfl
theorem w22 (G:Nat→D→D):Ad (Env.ofS Tryz.prog l22 []) G:=Ad.add (U:=Bm) (okE l21 []) (w21 G) k22
def y85:AV:=(.agg [(.str 1 110),(.slice 2191 0 3 3),.slice0,(.slice 2193 0 3 9),(.slice 2195 0 1 2),.slice0])
def y86:T Aj:=(no (lf (.cells 3 (nd (.int .i64 (.ofNat 3)) (lf .map0) (lf .slice0)))) .nil)
def y87:T Aj:=(no (no (no y80 (no y81 y46)) (no (no y82 y45) (no y77 (no (no (no (lf (.cells 11 (nd (.ptr 133 0) y49 (nd (.slice 137 0 2 3) (nd (.slice 139 0 2 9) (lf (.ptr 2404 0)) .nil) (nd (.bool false) (lf (.slice 2432 0 1 2)) .nil))))) .nil) .nil) .nil)))) (no (no (no (no (no (no (no .nil (no .nil (no (no (lf (.cells 2 (nd (.int .i64 (.ofNat 0)) (lf (.int .i64 (.ofNat 3))) .nil))) .nil) .nil))) .nil) .nil) .nil) .nil) (no (no (no .nil (no .nil (no (no .nil (no y86 .nil)) .nil))) y83) .nil)) (no .nil (no (no .nil y84) .nil))))
def y88:T Aj:=(no .nil (no .nil (no (no (no (no .nil y47) .nil) .nil) .nil)))
def o23:Orc:=
 {f:=101,args:=[(.ptr 150 0),y85],part:=y87,nx:=2434,ok:=true,v:=(.tuple [(.agg [(.str 1 89),(.slice 2615 0 0 1)]),(.int .i64 (.ofNat 0))]),out:=(no (no (no (no .nil y88) .nil) .nil) .nil),nx':=2616,wr:=[]}
def l23:List Orc:=o23::l22
theorem k23:∀[F:Facts],AH (Env.ofS Tryz.prog l22 []) 100000 o23=true:=by
 intro F
 kernel_rfl
theorem w23 (G:Nat→D→D):Ad (Env.ofS Tryz.prog l23 []) G:=Ad.add (U:=Bm) (okE l22 []) (w22 G) k23
def o24:Orc:=
 {f:=78,args:=[(.ptr 150 0),(.int .i64 (.ofNat 3)),y85],part:=y87,nx:=2433,ok:=true,v:=(.int .i64 (.ofNat 0)),out:=(no (no (no (no (no .nil (no (no (no .nil (no (no .nil y86) .nil)) .nil) .nil)) y88) .nil) .nil) (no (no (no (no .nil (no (no (no .nil (no (no .nil (no (lf (.cells 11 (nd (.ptr 2696 0) y52 (nd (.slice 2700 0 3 3) (nd (.slice 2702 0 3 9) (lf (.ptr 2703 0)) .nil) y53)))) .nil)) .nil)) .nil) .nil)) (no (no (no (no .nil y51) .nil) .nil) .nil)) (no .nil (no (no (no (no .nil y54) .nil) .nil) .nil))) (no (no .nil (no .nil (no (no (no .nil (no (no .nil (no (lf (.cells 1 (lf (.ptr 2704 0)))) .nil)) .nil)) .nil) .nil))) (no (no .nil (no (no (lf (.cells 3 (nd (.ptr 2714 0) (lf .ptr0) (lf (.slice 2734 0 1 6))))) .nil) .nil)) (no (no (no (no .nil y56) .nil) (no (no .nil (no (no .nil (no (lf (.cells 6 (nd (.int .i64 (.ofNat 3)) y55 (nd .slice0 (lf (.slice 2615 0 0 1)) .nil)))) .nil)) .nil)) .nil)) .nil))))),nx':=2735,wr:=[150]}
def l24:List Orc:=o24::l23
theorem k24:∀[F:Facts],AH (Env.ofS Tryz.prog l23 []) 100000 o24=true:=by
 intro F
 kernel_rfl
theorem w24 (G:Nat→D→D):Ad (Env.ofS Tryz.prog l24 []) G:=Ad.add (U:=Bm) (okE l23 []) (w23 G) k24
def y89:AV:=(.agg [(.str 1 111),(.slice 2759 0 2 3),.slice0,(.slice 2761 0 2 9)])
def y90:AV:=(.agg [(.str 1 65),.slice0])
def y91:T Aj:=(no (no (no .nil (no (no (no .nil (no .nil (no (no .nil (no (lf y10) .nil)) .nil))) .nil) .nil)) .nil) (no (no .nil (no (no (no .nil (no .nil (no (no .nil (no (lf y14) .nil)) .nil))) .nil) .nil)) .nil))
def o25:Orc:=
 {f:=61,args:=[y89,y90],part:=(no y91 .nil),nx:=3069,ok:=true,v:=(.tuple [(.slice 3136 0 1 1),(.int .i64 (.ofNat 0))]),out:=(no .nil (no (no (no (no (no (no .nil (no (no (no y18 .nil) .nil) .nil)) .nil) .nil) .nil) .nil) .nil)),nx':=3139,wr:=[]}
def l25:List Orc:=o25::l24
theorem k25:∀[F:Facts],AH (Env.ofS Tryz.prog l24 []) 100000 o25=true:=by
 intro F
 kernel_rfl
theorem w25 (G:Nat→D→D):Ad (Env.ofS Tryz.prog l25 []) G:=Ad.add (U:=Bm) (okE l24 []) (w24 G) k25
def y92:AV:=(.agg [(.str 1 66),(.slice 3240 0 0 1)])
def y93:T Aj:=(no .nil (lf (.cells 0 .nil)))
def y94:T Aj:=(no .nil (no (no .nil (no (no y93 .nil) .nil)) .nil))
def y95:T Aj:=(no (no (no .nil (no y94 .nil)) .nil) .nil)
def o26:Orc:=
 {f:=23,args:=[y89,y90,(.int .i64 (.ofNat 0))],part:=(no y91 .nil),nx:=3139,ok:=true,v:=(.tuple [y92,(.int .i64 (.ofNat 0))]),out:=(no .nil y95),nx':=3241,wr:=[]}
def l26:List Orc:=o26::l25
theorem k26:∀[F:Facts],AH (Env.ofS Tryz.prog l25 []) 100000 o26=true:=by
 intro F
 kernel_rfl
theorem w26 (G:Nat→D→D):Ad (Env.ofS Tryz.prog l26 []) G:=Ad.add (U:=Bm) (okE l25 []) (w25 G) k26
end Go.Proofs.YtmgppdghdeokbaaGreat.upgradeGoesOn

