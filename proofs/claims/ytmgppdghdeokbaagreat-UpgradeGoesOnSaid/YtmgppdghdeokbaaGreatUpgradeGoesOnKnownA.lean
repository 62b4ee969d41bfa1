/- What is proved: that certain calls which the law UpgradeGoesOn makes come to the results that are written here (part 1 of 4). Conditions: the memory that such a call reaches is as written here; the kernel runs the evaluator over each. -/
import Derived.Test.YtmgppdghdeokbaaGreatBeF
import Derived.Test.YtmgppdghdeokbaaGreatChecked
import Derived.KernelRfl
set_option linter.unusedVariables false
set_option linter.unusedSectionVars false
set_option linter.unusedSimpArgs false
namespace Go.Proofs.YtmgppdghdeokbaaGreat.upgradeGoesOn
open Go.AE
theorem okE (l:List Orc) (m:List Sm):∀[U:Unk],U.K=(Env.of Tryz.prog).kinds→OK (Env.ofS Tryz.prog l m):=fun {U} h=>OK.of (U:=U) (P:=Tryz.prog) (Checked.mixed Tryz.checked) (by kernel_rfl) h
theorem w0 (G:Nat→D→D):Ad (Env.ofS Tryz.prog [] []) G:=Ad.none (U:=Bm)
def y0:AV:=(.agg [(.int .i64 (.ofNat 0)),(.int .i64 (.ofNat 0)),(.int .i64 (.ofNat 0)),(.int .i64 (.ofNat 0)),(.int .i64 (.ofNat 0)),(.int .i64 (.ofNat 0)),(.int .i64 (.ofNat 0)),(.int .i64 (.ofNat 0)),(.int .i64 (.ofNat 0)),(.int .i64 (.ofNat 0))])
def y1:T AV:=(nd (.str 1 89) (lf (.bool false)) .nil)
def y2:T AV:=(lf (.int .i64 (.ofNat 0)))
def y3:T Aj:=(lf (.cells 9 (nd (.str 1 88) (nd (.bool false) y1 y2) (nd (.int .i64 (.ofNat 0)) (nd (.bool false) y2 .nil) (lf (.str 1 90))))))
def y4:T Aj:=(no (no (no y3 .nil) .nil) .nil)
def y5:T AV:=(lf (.int .i64 (.ofNat 2)))
def y6:T Aj:=(lf (.cells 27 (nd (.str 1 88) (nd (.str 1 89) (nd (.str 1 109) (nd (.int .i64 (.ofNat 0)) y2 (lf (.str 0 0))) (nd (.int .i64 (.ofNat 2)) (lf (.str 1 90)) .nil)) (nd (.str 0 0) (nd (.str 1 89) y2 y2) (nd (.str 1 112) (lf (.str 1 108)) .nil))) (nd (.int .i64 (.ofNat 1)) (nd (.str 1 112) (nd (.int .i64 (.ofNat 0)) y2 y2) (nd (.str 1 107) y5 .nil)) (nd (.int .i64 (.ofNat 0)) (nd (.str 1 88) (lf (.str 1 89)) y2) (nd (.str 0 0) (lf (.str 1 112)) .nil))))))
def y7:T AV:=(nd .slice0 (nd (.str 1 110) (lf (.str 0 0)) y2) (nd .slice0 (lf (.str 0 0)) .nil))
def y8:T Aj:=(no (no (no (no (no y6 .nil) .nil) (no (no .nil (no (lf (.cells 14 (nd (.str 1 111) (nd (.slice 424 0 2 3) (nd (.slice 426 0 2 9) (lf (.slice 261 0 3 9)) (lf .slice0)) (nd (.slice 257 0 3 3) (lf .slice0) y2)) y7))) .nil)) .nil)) .nil) .nil)
def y9:T Aj:=(no (no (no y4 .nil) .nil) y8)
def y10:Aj:=(.cells 6 (nd (.str 1 65) (nd (.bool false) (lf (.str 1 66)) y2) (nd (.int .i64 (.ofNat 0)) (lf (.bool false)) .nil)))
def y11:T Aj:=(no (no .nil (lf y10)) .nil)
def y12:T Aj:=(no .nil (no (no .nil y11) .nil))
def y13:T AV:=(nd (.int .i64 (.ofNat 0)) y2 .nil)
def y14:Aj:=(.cells 18 (nd (.str 1 65) (nd (.str 1 66) (nd (.str 1 109) y13 y5) (nd (.str 0 0) (nd (.str 1 66) y2 .nil) (lf (.str 1 112)))) (nd (.int .i64 (.ofNat 1)) (nd (.str 1 112) y13 (lf (.str 1 107))) (nd (.int .i64 (.ofNat 0)) (lf (.str 1 65)) (lf (.str 0 0))))))
def y15:T Aj:=(no (no .nil (lf y14)) .nil)
def y16:T Aj:=(no .nil (no (no .nil y15) .nil))
def y17:T Aj:=(no (no y12 .nil) (no y16 .nil))
def y18:T Aj:=(no .nil (lf (.cells 1 y2)))
def y19:T Aj:=(no .nil (no (no y18 .nil) .nil))
def o1:Orc:=
 {f:=211,args:=[(.ptr 677 0),y0,(.bool false)],part:=(no (no .nil y9) y17),nx:=791,ok:=true,v:=(.tuple [(.slice 803 0 1 1),(.slice 816 0 1 1)]),out:=(no (no (no .nil (no (no y19 .nil) .nil)) .nil) (no (no (no (no .nil y19) .nil) .nil) .nil)),nx':=821,wr:=[]}
def l1:List Orc:=o1::[]
theorem k1:∀[F:Facts],AH (Env.ofS Tryz.prog [] []) 100000 o1=true:=by
 intro F
 kernel_rfl
theorem w1 (G:Nat→D→D):Ad (Env.ofS Tryz.prog l1 []) G:=Ad.add (U:=Bm) (okE [] []) (w0 G) k1
def y20:T AV:=(lf (.int .i64 (.ofNat 1)))
def y21:T AV:=(nd (.int .i64 (.ofNat 0)) y20 .nil)
def y22:T AV:=(nd (.int .i64 (.ofNat 0)) y13 y2)
def y23:T AV:=(nd (.int .i64 (.ofNat 1)) y2 .nil)
def y24:T Aj:=(no .nil (no (no .nil (no (lf (.cells 20 (nd (.int .i64 (.ofNat 0)) (nd (.int .i64 (.ofNat 0)) (nd (.int .i64 (.ofNat 0)) y21 y13) y22) (nd (.int .i64 (.ofNat 0)) y22 (nd (.int .i64 (.ofNat 0)) y23 y2))))) .nil)) .nil))
def y25:T Aj:=(no (no .nil (no (no .nil (no (lf (.cells 2 (nd (.slice 687 0 2 10) (lf (.map 678)) .nil))) .nil)) .nil)) .nil)
def y26:T Aj:=(no (no (no .nil y24) y25) .nil)
def y27:T AV:=(nd (.int .i64 (.ofNat 0)) y13 y13)
def y28:T Aj:=(lf (.cells 10 (nd (.int .i64 (.ofNat 0)) y27 y22)))
def y29:T Aj:=(lf (.cells 1 (lf (.ptr 677 0))))
def y30:T Aj:=(lf (.cells 1 (lf (.func (.func 207) [(.ptr 679 0)] []))))
def y31:AV:=(.agg [(.int .i64 (.ofNat 1)),(.int .i64 (.ofNat 0)),(.int .i64 (.ofNat 0)),(.int .i64 (.ofNat 0)),(.int .i64 (.ofNat 0)),(.int .i64 (.ofNat 1)),(.int .i64 (.ofNat 0)),(.int .i64 (.ofNat 0)),(.int .i64 (.ofNat 0)),(.int .i64 (.ofNat 0))])
def y32:T Aj:=(no (no .nil (no (no .nil (no (lf (.map [⟨y0,(.bool true),0⟩,⟨y31,(.bool true),1⟩] 2)) .nil)) .nil)) .nil)
def o2:Orc:=
 {f:=209,args:=[(.int .i64 (.ofNat 0)),(.int .i64 (.ofNat 0)),(.ptr 688 0),(.ptr 690 0),(.ptr 689 0)],part:=(no (no y26 (no (no (no y4 (no .nil (no (no .nil (no y28 .nil)) .nil))) .nil) y8)) (no (no (no (no .nil (no .nil (no (no .nil (no y29 .nil)) .nil))) (no (no .nil y11) .nil)) .nil) (no (no (no .nil (no .nil (no (no .nil (no y30 .nil)) .nil))) (no (no .nil y15) .nil)) (no y32 .nil)))),nx:=821,ok:=true,v:=(.tuple []),out:=.nil,nx':=862,wr:=[]}
def l2:List Orc:=o2::l1
theorem k2:∀[F:Facts],AH (Env.ofS Tryz.prog l1 []) 100000 o2=true:=by
 intro F
 kernel_rfl
theorem w2 (G:Nat→D→D):Ad (Env.ofS Tryz.prog l2 []) G:=Ad.add (U:=Bm) (okE l1 []) (w1 G) k2
def y33:T Aj:=(no .nil (no .nil (lf (.cells 2 (nd (.int .i64 (.ofNat 1)) y5 .nil)))))
def y34:T Aj:=(no .nil (lf (.cells 1 y20)))
def y35:T Aj:=(no .nil (no .nil (no y34 .nil)))
def o3:Orc:=
 {f:=211,args:=[(.ptr 677 0),y31,(.bool true)],part:=(no (no .nil y9) y17),nx:=866,ok:=true,v:=(.tuple [(.slice 880 0 1 1),(.slice 897 0 2 1)]),out:=(no (no .nil (no (no (no (no (no y33 .nil) .nil) .nil) .nil) .nil)) (no (no (no (no .nil y35) .nil) .nil) .nil)),nx':=898,wr:=[]}
def l3:List Orc:=o3::l2
theorem k3:∀[F:Facts],AH (Env.ofS Tryz.prog l2 []) 100000 o3=true:=by
 intro F
 kernel_rfl
theorem w3 (G:Nat→D→D):Ad (Env.ofS Tryz.prog l3 []) G:=Ad.add (U:=Bm) (okE l2 []) (w2 G) k3
def y36:T Aj:=(no .nil (no .nil (lf (.cells 2 y13))))
def o4:Orc:=
 {f:=211,args:=[(.ptr 677 0),y31,(.bool false)],part:=(no (no .nil y9) y17),nx:=905,ok:=true,v:=(.tuple [(.slice 919 0 0 1),(.slice 936 0 0 1)]),out:=(no (no (no (no .nil (no .nil (no (no (no .nil y18) .nil) .nil))) .nil) .nil) (no (no (no .nil (no (no .nil (no y36 .nil)) .nil)) .nil) .nil)),nx':=937,wr:=[]}
def l4:List Orc:=o4::l3
theorem k4:∀[F:Facts],AH (Env.ofS Tryz.prog l3 []) 100000 o4=true:=by
 intro F
 kernel_rfl
theorem w4 (G:Nat→D→D):Ad (Env.ofS Tryz.prog l4 []) G:=Ad.add (U:=Bm) (okE l3 []) (w3 G) k4
def o5:Orc:=
 {f:=211,args:=[(.ptr 677 0),y31,(.bool true)],part:=(no (no .nil y9) y17),nx:=939,ok:=true,v:=(.tuple [(.slice 953 0 1 1),(.slice 970 0 2 1)]),out:=(no (no .nil (no (no .nil (no .nil (no .nil (no (no .nil y34) .nil)))) .nil)) (no .nil (no (no .nil (no (no (no .nil y33) .nil) .nil)) .nil))),nx':=971,wr:=[]}
def l5:List Orc:=o5::l4
theorem k5:∀[F:Facts],AH (Env.ofS Tryz.prog l4 []) 100000 o5=true:=by
 intro F
 kernel_rfl
theorem w5 (G:Nat→D→D):Ad (Env.ofS Tryz.prog l5 []) G:=Ad.add (U:=Bm) (okE l4 []) (w4 G) k5
def y37:T Aj:=(no .nil (lf (.cells 10 (nd (.int .i64 (.ofNat 1)) (nd (.int .i64 (.ofNat 0)) y13 y23) y22))))
def o6:Orc:=
 {f:=209,args:=[(.int .i64 (.ofNat 1)),(.int .i64 (.ofNat 1)),(.ptr 862 0),(.ptr 864 0),(.ptr 863 0)],part:=(no (no (no (no (no (no .nil (no .nil (no y37 .nil))) y24) y25) .nil) y9) (no (no (no (no (no .nil (no .nil (no (no .nil y30) .nil))) .nil) (no (no .nil y11) .nil)) .nil) (no y16 (no y32 (no .nil (no (no .nil (no (no .nil y29) .nil)) .nil)))))),nx:=971,ok:=true,v:=(.tuple []),out:=.nil,nx':=1010,wr:=[]}
def l6:List Orc:=o6::l5
theorem k6:∀[F:Facts],AH (Env.ofS Tryz.prog l5 []) 100000 o6=true:=by
 intro F
 kernel_rfl
theorem w6 (G:Nat→D→D):Ad (Env.ofS Tryz.prog l6 []) G:=Ad.add (U:=Bm) (okE l5 []) (w5 G) k6
def y38:T Aj:=(no .nil (no .nil (no (no .nil (no (no (no (no (no (lf (.cells 2 y13)) .nil) .nil) .nil) .nil) .nil)) .nil)))
def y39:T Aj:=(no (no (no (no (lf (.cells 1 y2)) .nil) .nil) .nil) .nil)
def y40:T Aj:=(no .nil (no (no (no y39 .nil) .nil) .nil))
def o7:Orc:=
 {f:=211,args:=[(.ptr 677 0),y31,(.bool false)],part:=(no (no .nil y9) y17),nx:=1014,ok:=true,v:=(.tuple [(.slice 1028 0 0 1),(.slice 1045 0 0 1)]),out:=(no y38 (no y40 .nil)),nx':=1046,wr:=[]}
def l7:List Orc:=o7::l6
theorem k7:∀[F:Facts],AH (Env.ofS Tryz.prog l6 []) 100000 o7=true:=by
 intro F
 kernel_rfl
theorem w7 (G:Nat→D→D):Ad (Env.ofS Tryz.prog l7 []) G:=Ad.add (U:=Bm) (okE l6 []) (w6 G) k7
def o8:Orc:=
 {f:=190,args:=[(.ptr 677 0),y31,(.func (.func 207) [(.ptr 679 0)] [])],part:=(no (no y26 y9) (no (no y12 .nil) (no y16 (no y32 .nil)))),nx:=862,ok:=true,v:=(.bool false),out:=.nil,nx':=1046,wr:=[]}
def l8:List Orc:=o8::l7
theorem k8:∀[F:Facts],AH (Env.ofS Tryz.prog l7 []) 100000 o8=true:=by
 intro F
 kernel_rfl
theorem w8 (G:Nat→D→D):Ad (Env.ofS Tryz.prog l8 []) G:=Ad.add (U:=Bm) (okE l7 []) (w7 G) k8
def o9:Orc:=
 {f:=189,args:=[(.slice 676 0 2 10),(.int .i64 (.ofNat 4000)),(.func (.func 190) [(.ptr 677 0)] [])],part:=(no (no .nil y9) (no (no y12 (no (no y24 .nil) .nil)) (no y16 .nil))),nx:=678,ok:=true,v:=(.tuple [(.slice 687 0 2 10),(.bool false)]),out:=(no (no (no (no (no .nil y24) .nil) .nil) .nil) .nil),nx':=1046,wr:=[]}
def l9:List Orc:=o9::l8
theorem k9:∀[F:Facts],AH (Env.ofS Tryz.prog l8 []) 100000 o9=true:=by
 intro F
 kernel_rfl
theorem w9 (G:Nat→D→D):Ad (Env.ofS Tryz.prog l9 []) G:=Ad.add (U:=Bm) (okE l8 []) (w8 G) k9
def y41:AV:=(.agg [(.str 1 110),(.slice 257 0 3 3),.slice0,(.slice 261 0 3 9)])
def y42:AV:=(.agg [(.slice 0 0 2 2),.slice0])
def y43:Aj:=(.cells 4 (nd (.str 1 65) (nd (.str 1 88) (lf (.str 1 89)) .nil) (lf (.str 1 66))))
def y44:T Aj:=(no (no (no y6 .nil) .nil) .nil)
def o10:Orc:=
 {f:=148,args:=[(.agg [(.str 1 111),(.slice 424 0 2 3),.slice0,(.slice 426 0 2 9)]),y41,y42],part:=(nd y43 (no .nil (no (no (no y4 .nil) .nil) (no (no y44 .nil) .nil))) y17),nx:=427,ok:=true,v:=(.tuple [(.agg [(.str 0 0),.slice0,(.str 0 0),.slice0,(.int .i64 (.ofNat 0)),(.int .i64 (.ofNat 0))]),(.bool true),(.int .i64 (.ofNat 0))]),out:=.nil,nx':=1046,wr:=[]}
def l10:List Orc:=o10::l9
theorem k10:∀[F:Facts],AH (Env.ofS Tryz.prog l9 []) 100000 o10=true:=by
 intro F
 kernel_rfl
theorem w10 (G:Nat→D→D):Ad (Env.ofS Tryz.prog l10 []) G:=Ad.add (U:=Bm) (okE l9 []) (w9 G) k10
def y45:T Aj:=(no (no (no (lf y10) .nil) .nil) .nil)
def y46:T Aj:=(no (no (no (lf y14) .nil) .nil) .nil)
def y47:T Aj:=(no (lf (.cells 0 .nil)) .nil)
def y48:T Aj:=(no .nil (no (no .nil (no .nil (no y47 .nil))) .nil))
def o11:Orc:=
 {f:=24,args:=[(.agg [(.str 1 111),(.slice 1063 0 2 3),.slice0,(.slice 1065 0 2 9)]),(.agg [(.str 1 110),(.slice 1051 0 3 3),.slice0,(.slice 1053 0 3 9)]),(.agg [(.slice 1055 0 2 2),.slice0]),(.agg [(.str 1 66),.slice0])],part:=(no (no (no (no (no (no .nil (no (no (no (no (lf y43) .nil) .nil) .nil) .nil)) .nil) (no (no .nil (no y45 .nil)) .nil)) (no .nil (no .nil (no (no y4 .nil) .nil)))) (no (no .nil (no (no .nil (no y46 .nil)) .nil)) (no .nil (no .nil (no (no y44 .nil) .nil))))) .nil),nx:=1071,ok:=true,v:=(.tuple [(.agg [(.str 1 89),(.slice 1246 0 0 1)]),(.int .i64 (.ofNat 0))]),out:=(no .nil (no .nil (no .nil (no .nil y48)))),nx':=1247,wr:=[]}
def l11:List Orc:=o11::l10
theorem k11:∀[F:Facts],AH (Env.ofS Tryz.prog l10 []) 100000 o11=true:=by
 intro F
 kernel_rfl
theorem w11 (G:Nat→D→D):Ad (Env.ofS Tryz.prog l11 []) G:=Ad.add (U:=Bm) (okE l10 []) (w10 G) k11
def y49:T AV:=(nd (.str 1 111) (nd .slice0 y2 .nil) (nd (.str 1 66) (lf (.bool false)) .nil))
def y50:T Aj:=(lf (.cells 2 (nd (.bool true) (lf .slice0) .nil)))
def y51:T Aj:=(no (no .nil (no y50 .nil)) .nil)
def y52:T AV:=(nd (.str 1 110) (nd .slice0 y2 .nil) y1)
def y53:T AV:=(nd (.bool false) (lf .slice0) .nil)
def y54:T Aj:=(no (no .nil (no y3 .nil)) .nil)
def y55:T AV:=(nd (.str 1 66) (lf (.str 1 89)) (lf (.str 1 110)))
def y56:T Aj:=(no (no .nil (no y6 .nil)) .nil)
def y57:T Aj:=(no (lf (.cells 3 (nd (.int .i64 (.ofNat 2)) (lf .map0) (lf .slice0)))) .nil)
def o12:Orc:=
 {f:=25,args:=[(.ptr 76 0),(.int .i64 (.ofNat 2)),y41,y42],part:=(nd y43 (no (no (no (no (no (nd y10 (no (lf (.cells 2 y21)) .nil) .nil) .nil) .nil) .nil) (no (no (no (lf (.cells 11 (nd (.ptr 59 0) y49 (nd (.slice 63 0 2 3) (nd (.slice 65 0 2 9) (lf (.ptr 227 0)) .nil) (nd (.bool false) (lf (.slice 255 0 1 2)) .nil))))) (no .nil (lf (.cells 3 (nd (.int .i64 (.ofNat 1)) (lf .map0) (lf .slice0)))))) .nil) (no (no (lf (.cells 1 (lf (.ptr 67 0)))) .nil) y50))) (no (no (no (no (nd y14 (no y3 .nil) .nil) .nil) .nil) .nil) (no (no y44 .nil) .nil))) (no (no .nil (no .nil (no (no (lf (.cells 3 (nd (.ptr 75 0) (lf .ptr0) (lf .slice0)))) .nil) .nil))) .nil)),nx:=262,ok:=true,v:=(.int .i64 (.ofNat 0)),out:=(no (no (no (no (no .nil (no .nil (no y51 .nil))) (no .nil (no .nil (no (no (no .nil (no (lf (.cells 11 (nd (.ptr 1327 0) y52 (nd (.slice 1331 0 3 3) (nd (.slice 1333 0 3 9) (lf (.ptr 1334 0)) .nil) y53)))) .nil)) .nil) .nil)))) (no (no .nil (no .nil (no y54 .nil))) .nil)) (no (no (no (no (no .nil (no (no .nil (no (lf (.cells 1 (lf (.ptr 1335 0)))) .nil)) .nil)) .nil) .nil) .nil) (no (no .nil (no (no .nil (no (no .nil (no (lf (.cells 6 (nd (.int .i64 (.ofNat 2)) y55 (nd .slice0 (lf (.slice 1246 0 0 1)) .nil)))) .nil)) .nil)) (no y56 .nil))) .nil))) (no (no .nil (no .nil (no (no (lf (.cells 3 (nd (.ptr 1345 0) (lf .ptr0) (lf (.slice 1365 0 1 6))))) .nil) .nil))) (no .nil (no (no .nil (no .nil (no (no (no .nil y57) .nil) .nil))) y48)))),nx':=1366,wr:=[76]}
def l12:List Orc:=o12::l11
theorem k12:∀[F:Facts],AH (Env.ofS Tryz.prog l11 []) 100000 o12=true:=by
 intro F
 kernel_rfl
theorem w12 (G:Nat→D→D):Ad (Env.ofS Tryz.prog l12 []) G:=Ad.add (U:=Bm) (okE l11 []) (w11 G) k12
def y58:T Aj:=(no .nil (no (no (no .nil (no .nil (no y6 .nil))) .nil) .nil))
def y59:T Aj:=(no (no (no .nil y37) .nil) .nil)
def y60:T Aj:=(no (no (no .nil (no .nil (no y3 .nil))) .nil) (no (no y11 .nil) .nil))
def y61:T Aj:=(no y60 (no (no (no (no .nil (no .nil (lf (.cells 14 (nd (.str 1 111) (nd (.slice 1579 0 2 3) (nd (.slice 1581 0 2 9) (lf (.slice 1423 0 3 9)) (lf .slice0)) (nd (.slice 1419 0 3 3) (lf .slice0) y2)) y7))))) .nil) .nil) .nil))
def y62:T Aj:=(no .nil (no (no y15 .nil) .nil))
def y63:T Aj:=(no .nil (no .nil (lf (.cells 1 (lf (.func (.func 207) [(.ptr 1821 0)] []))))))
def y64:T Aj:=(no .nil (no .nil (lf (.map [⟨y31,(.bool true),0⟩] 1))))
def y65:T Aj:=(no .nil (no .nil (lf (.cells 1 (lf (.ptr 1819 0))))))
def y66:T Aj:=(lf (.cells 20 (nd (.int .i64 (.ofNat 1)) (nd (.int .i64 (.ofNat 0)) y27 (nd (.int .i64 (.ofNat 1)) y13 y2)) (nd (.int .i64 (.ofNat 0)) y22 y22))))
def y67:T Aj:=(no .nil (no .nil (no (no .nil (no .nil (no .nil y66))) .nil)))
def y68:T Aj:=(no (no .nil (no .nil (lf (.cells 2 (nd (.slice 1975 0 2 10) (lf (.map 1820)) .nil))))) .nil)
def y69:T Aj:=(no .nil (no .nil (lf (.map [⟨y31,(.bool true),0⟩,⟨y0,(.bool true),1⟩] 2))))
def o13:Orc:=
 {f:=209,args:=[(.int .i64 (.ofNat 1)),(.int .i64 (.ofNat 1)),(.ptr 1826 0),(.ptr 1828 0),(.ptr 1827 0)],part:=(no (no (no (no y58 .nil) (no (no (no .nil y59) .nil) y61)) (no (no (no (no .nil y59) .nil) .nil) (no .nil (no y62 (no (no (no (no .nil (no .nil (lf (.cells 2 (nd (.slice 1825 0 1 10) (lf (.map 1820)) .nil))))) .nil) .nil) .nil))))) (no (no .nil (no (no (no .nil (no (no y63 .nil) .nil)) .nil) (no .nil (no (no (no y64 .nil) .nil) .nil)))) (no (no (no (no .nil (no (no y65 .nil) .nil)) .nil) .nil) .nil))),nx:=1935,ok:=true,v:=(.tuple []),out:=(no (no (no (no .nil y67) .nil) (no .nil (no .nil (no .nil (no (no y68 .nil) .nil))))) (no (no .nil (no .nil (no .nil (no (no (no y69 .nil) .nil) .nil)))) .nil)),nx':=1976,wr:=[1821,1825,1820]}
def l13:List Orc:=o13::l12
theorem k13:∀[F:Facts],AH (Env.ofS Tryz.prog l12 []) 100000 o13=true:=by
 intro F
 kernel_rfl
theorem w13 (G:Nat→D→D):Ad (Env.ofS Tryz.prog l13 []) G:=Ad.add (U:=Bm) (okE l12 []) (w12 G) k13
def y70:T Aj:=(no .nil (no .nil (no y62 .nil)))
def y71:T Aj:=(no (no (no y58 .nil) (no .nil y61)) y70)
def y72:T Aj:=(no .nil (no .nil (no .nil y18)))
def o14:Orc:=
 {f:=211,args:=[(.ptr 1819 0),y31,(.bool false)],part:=(no y71 .nil),nx:=1980,ok:=true,v:=(.tuple [(.slice 1994 0 0 1),(.slice 2011 0 0 1)]),out:=(no (no (no .nil (no .nil (no .nil (no (no .nil (no .nil y36)) .nil)))) .nil) (no .nil (no (no .nil (no (no y72 .nil) .nil)) .nil))),nx':=2012,wr:=[]}
def l14:List Orc:=o14::l13
theorem k14:∀[F:Facts],AH (Env.ofS Tryz.prog l13 []) 100000 o14=true:=by
 intro F
 kernel_rfl
theorem w14 (G:Nat→D→D):Ad (Env.ofS Tryz.prog l14 []) G:=Ad.add (U:=Bm) (okE l13 []) (w13 G) k14
def o15:Orc:=
 {f:=211,args:=[(.ptr 1819 0),y0,(.bool true)],part:=(no y71 .nil),nx:=2016,ok:=true,v:=(.tuple [(.slice 2028 0 0 1),(.slice 2041 0 0 1)]),out:=(no (no .nil (no (no .nil (no .nil (no .nil y72))) .nil)) (no (no .nil (no .nil (no (no .nil y72) .nil))) .nil)),nx':=2046,wr:=[]}
def l15:List Orc:=o15::l14
theorem k15:∀[F:Facts],AH (Env.ofS Tryz.prog l14 []) 100000 o15=true:=by
 intro F
 kernel_rfl
theorem w15 (G:Nat→D→D):Ad (Env.ofS Tryz.prog l15 []) G:=Ad.add (U:=Bm) (okE l14 []) (w14 G) k15
def o16:Orc:=
 {f:=211,args:=[(.ptr 1819 0),y0,(.bool false)],part:=(no y71 .nil),nx:=2048,ok:=true,v:=(.tuple [(.slice 2060 0 1 1),(.slice 2073 0 1 1)]),out:=(no (no .nil (no (no .nil (no .nil (no (no y39 .nil) .nil))) .nil)) (no (no .nil y40) .nil)),nx':=2078,wr:=[]}
def l16:List Orc:=o16::l15
theorem k16:∀[F:Facts],AH (Env.ofS Tryz.prog l15 []) 100000 o16=true:=by
 intro F
 kernel_rfl
theorem w16 (G:Nat→D→D):Ad (Env.ofS Tryz.prog l16 []) G:=Ad.add (U:=Bm) (okE l15 []) (w15 G) k16
def y73:T Aj:=(no .nil (no .nil (no y39 .nil)))
def o17:Orc:=
 {f:=211,args:=[(.ptr 1819 0),y0,(.bool true)],part:=(no y71 .nil),nx:=2085,ok:=true,v:=(.tuple [(.slice 2097 0 0 1),(.slice 2110 0 0 1)]),out:=(no (no .nil (no (no y73 .nil) .nil)) (no .nil (no .nil (no .nil y73)))),nx':=2115,wr:=[]}
def l17:List Orc:=o17::l16
theorem k17:∀[F:Facts],AH (Env.ofS Tryz.prog l16 []) 100000 o17=true:=by
 intro F
 kernel_rfl
theorem w17 (G:Nat→D→D):Ad (Env.ofS Tryz.prog l17 []) G:=Ad.add (U:=Bm) (okE l16 []) (w16 G) k17
def y74:T Aj:=(no .nil (no (no .nil y39) .nil))
def o18:Orc:=
 {f:=211,args:=[(.ptr 1819 0),y0,(.bool false)],part:=(no y71 .nil),nx:=2115,ok:=true,v:=(.tuple [(.slice 2127 0 1 1),(.slice 2140 0 1 1)]),out:=(no (no (no (no y74 .nil) .nil) .nil) (no (no .nil (no .nil y74)) .nil)),nx':=2145,wr:=[]}
def l18:List Orc:=o18::l17
theorem k18:∀[F:Facts],AH (Env.ofS Tryz.prog l17 []) 100000 o18=true:=by
 intro F
 kernel_rfl
theorem w18 (G:Nat→D→D):Ad (Env.ofS Tryz.prog l18 []) G:=Ad.add (U:=Bm) (okE l17 []) (w17 G) k18
def o19:Orc:=
 {f:=209,args:=[(.int .i64 (.ofNat 0)),(.int .i64 (.ofNat 0)),(.ptr 2012 0),(.ptr 2014 0),(.ptr 2013 0)],part:=(no (no (no (no y58 y67) (no .nil y61)) (no .nil (no .nil (no y62 (no (no y68 (no .nil (no .nil (no .nil y28)))) .nil))))) (no (no .nil (no .nil (no .nil (no (no (no y69 .nil) (no .nil y65)) .nil)))) (no .nil (no .nil (no .nil (no (no .nil (no .nil y63)) .nil)))))),nx:=2145,ok:=true,v:=(.tuple []),out:=.nil,nx':=2186,wr:=[]}
def l19:List Orc:=o19::l18
theorem k19:∀[F:Facts],AH (Env.ofS Tryz.prog l18 []) 100000 o19=true:=by
 intro F
 kernel_rfl
theorem w19 (G:Nat→D→D):Ad (Env.ofS Tryz.prog l19 []) G:=Ad.add (U:=Bm) (okE l18 []) (w18 G) k19
end Go.Proofs.YtmgppdghdeokbaaGreat.upgradeGoesOn

