/- What is proved: that certain calls which the law FamilyExamples makes come to the results that are written here (part 14 of 16). Conditions: the memory that such a call reaches is as written here; the kernel runs the evaluator over each. -/
import Derived.Test.YtmjeljjkhblgeaaGreatDoorFamilyExamplesKnownA
set_option linter.unusedVariables false
set_option linter.unusedSectionVars false
set_option linter.unusedSimpArgs false
namespace Go.Proofs.YtmjeljjkhblgeaaGreatDoor.familyExamples
open Go.AE
def ah:Orc:=
 {f:=32,args:=[(.ptr 4108 0)],part:=(no .nil (no (no .nil (no .nil (no (no (no (no (no (no (no (no (lf (.cells 3 (nd ii (lf (.int .i64 (.ofNat 0))) (lf (.int .i64 (.ofNat 0)))))) .nil) .nil) .nil) .nil) .nil) .nil) .nil) .nil))) .nil)),nx:=4109,ok:=true,v:=(.agg [(.str 6 110442657834322),(.int .i64 (.ofNat 0)),.slice0,.slice0,(.slice 4289 0 4 5)]),out:=(no di (no (no .nil (no .nil (no (no (no (no (no (no (no (no (lf (.cells 3 (nd ii (lf (.int .i64 (.ofNat 69))) (lf (.int .i64 (.ofNat 0)))))) .nil) .nil) .nil) .nil) .nil) .nil) .nil) .nil))) .nil)),nx':=4290,wr:=[4108]}
theorem sT:∀[F:Facts],Ab (Env.ofS Tryz.prog [] []) 1000000 ah=true:=by
 intro F
 kernel_rfl
theorem xS (G:Nat→D→D):ah.Valid Tryz.prog G:=Ad.val (okE _ []) (w0 G) sT
def Vb:Orc:=
 {f:=14,args:=[(.str 69 nW)],part:=.nil,nx:=4106,ok:=true,v:=o0,out:=pd,nx':=4467,wr:=[]}
theorem uD:∀[F:Facts],Ab (Env.ofS Tryz.prog [ah] []) 1000000 Vb=true:=by
 intro F
 kernel_rfl
theorem jt (G:Nat→D→D):Vb.Valid Tryz.prog G:=Ad.val (okE _ []) (.cons (xS G) (w0 G)) uD
def Sz:Orc:=
 {f:=12,args:=[(.str 7 32480064979559794)],part:=.nil,nx:=4096,ok:=true,v:=o0,out:=pd,nx':=4467,wr:=[]}
theorem vU:∀[F:Facts],Ab (Env.ofS Tryz.prog [Vb] []) 1000000 Sz=true:=by
 intro F
 kernel_rfl
theorem jY (G:Nat→D→D):Sz.Valid Tryz.prog G:=Ad.val (okE _ []) (.cons (jt G) (w0 G)) vU
def Yg:Orc:=Vb.move 4086
theorem yS (G:Nat→D→D):Yg.Valid Tryz.prog G:=Orc.Valid.move (jt G) (by kernel_rfl) 4086
def VI:Orc:=
 {f:=13,args:=[(.agg [(.str 6 110442657834322),(.int .i64 (.ofNat 0)),.slice0,.slice0,(.slice 4289 0 4 5)]),(.agg [(.str 6 110442657834322),(.int .i64 (.ofNat 0)),.slice0,.slice0,(.slice 8375 0 4 5)])],part:=(no (no (no (no pG iZ) (no gZ oE)) (no (no (no dU kk) .nil) (no fJ gX))) .nil),nx:=8554,ok:=true,v:=(.bool true),out:=.nil,nx':=8574,wr:=[]}
theorem Aa3:∀[F:Facts],Ab (Env.ofS Tryz.prog [] []) 1000000 VI=true:=by
 intro F
 kernel_rfl
theorem wx (G:Nat→D→D):VI.Valid Tryz.prog G:=Ad.val (okE _ []) (w0 G) Aa3
def Y8:Orc:=Sz.move 8192
theorem zV (G:Nat→D→D):Y8.Valid Tryz.prog G:=Orc.Valid.move (jY G) (by kernel_rfl) 8192
def Vq:Orc:=
 {f:=13,args:=[(.agg [(.str 6 110442657834322),(.int .i64 (.ofNat 0)),.slice0,.slice0,(.slice 12481 0 4 5)]),(.agg [(.str 6 110442657834322),(.int .i64 (.ofNat 0)),.slice0,.slice0,(.slice 8375 0 4 5)])],part:=(no (no (no (no (no (no (no .nil (no .nil (no (no (no (no (no .nil (lf (.cells 5 (nd (.str 6 127979059635539) Cc (nd .slice0 (lf (.slice 12477 0 3 5)) .nil))))) .nil) .nil) .nil) .nil))) .nil) .nil) iZ) (no gZ (no .nil (no .nil (no (no .nil (no (no (no (no (no .nil fb) .nil) .nil) .nil) .nil)) .nil))))) (no (no (no (no (no .nil (no .nil (no (no (no (no (no .nil (lf (.cells 20 (nd (.str 4 1684957547) (nd (.int .i64 (.ofNat 22)) (nd .slice0 Ya (nd (.int .i64 (.ofNat 7)) (lf (.slice 12479 0 1 5)) .nil)) YO) bI)))) .nil) .nil) .nil) .nil))) .nil) kk) .nil) (no fJ (no .nil (no .nil (no (no .nil (no (no (no (no (no .nil (lf (.cells 15 (nd (.str 4 1684957547) ZD (nd .slice0 (nd .slice0 (lf .slice0) (lf (.slice 12475 0 2 1))) Rd))))) .nil) .nil) .nil) .nil)) .nil)))))) .nil),nx:=12660,ok:=true,v:=(.bool true),out:=.nil,nx':=12680,wr:=[]}
theorem tN:∀[F:Facts],Ab (Env.ofS Tryz.prog [] []) 1000000 Vq=true:=by
 intro F
 kernel_rfl
theorem tM (G:Nat→D→D):Vq.Valid Tryz.prog G:=Ad.val (okE _ []) (w0 G) tN
def Y4:Orc:=
 {f:=32,args:=[(.ptr 4109 0)],part:=(no (no .nil (no .nil (no .nil (no (no (no (no (no (no (no (no (lf (.cells 3 (nd nK (lf (.int .i64 (.ofNat 0))) (lf (.int .i64 (.ofNat 0)))))) .nil) .nil) .nil) .nil) .nil) .nil) .nil) .nil)))) .nil),nx:=4110,ok:=true,v:=(.agg [(.str 7 32777976897693010),(.int .i64 (.ofNat 0)),.slice0,.slice0,(.slice 4234 0 4 5)]),out:=(no (no .nil (no .nil (no .nil (no (no (no (no (no (no (no (no (lf (.cells 3 (nd nK (lf (.int .i64 (.ofNat 61))) (lf (.int .i64 (.ofNat 0)))))) .nil) .nil) .nil) .nil) .nil) .nil) .nil) lq)))) iw),nx':=4235,wr:=[4109]}
theorem vD:∀[F:Facts],Ab (Env.ofS Tryz.prog [] []) 1000000 Y4=true:=by
 intro F
 kernel_rfl
theorem te (G:Nat→D→D):Y4.Valid Tryz.prog G:=Ad.val (okE _ []) (w0 G) vD
def UO:Orc:=
 {f:=14,args:=[(.str 61 mE)],part:=.nil,nx:=4107,ok:=true,v:=gK,out:=fA,nx':=4350,wr:=[]}
theorem qU:∀[F:Facts],Ab (Env.ofS Tryz.prog [Y4] []) 1000000 UO=true:=by
 intro F
 kernel_rfl
theorem dw (G:Nat→D→D):UO.Valid Tryz.prog G:=Ad.val (okE _ []) (.cons (te G) (w0 G)) qU
def S4:Orc:=
 {f:=12,args:=[(.str 7 32495402123093352)],part:=.nil,nx:=4096,ok:=true,v:=gK,out:=fA,nx':=4350,wr:=[]}
theorem wj:∀[F:Facts],Ab (Env.ofS Tryz.prog [UO] []) 1000000 S4=true:=by
 intro F
 kernel_rfl
theorem i9 (G:Nat→D→D):S4.Valid Tryz.prog G:=Ad.val (okE _ []) (.cons (dw G) (w0 G)) wj
def cJ:Orc:=UO.move 4085
theorem Abo (G:Nat→D→D):cJ.Valid Tryz.prog G:=Orc.Valid.move (dw G) (by kernel_rfl) 4085
end Go.Proofs.YtmjeljjkhblgeaaGreatDoor.familyExamples

