/- What is proved: that certain calls which the law FamilySessions makes come to the results that are written here (part 13 of 19). Conditions: the memory that such a call reaches is as written here; the kernel runs the evaluator over each. -/
import Derived.Test.YtmjeljjkhblgeaaGreatDoorFamilySessionsKnownA
import Derived.Test.YtmjeljjkhblgeaaGreatDoorFamilySessionsKnownL
set_option linter.unusedVariables false
set_option linter.unusedSectionVars false
set_option linter.unusedSimpArgs false
namespace Go.Proofs.YtmjeljjkhblgeaaGreatDoor.familySessions
open Go.AE
def Zn:Orc:=
 {f:=51,args:=[(.agg [(.str 5 495622842726),(.slice 4283 0 2 4),(.int .i64 (.ofNat 1)),(.int .i64 (.ofNat 1))])],part:=fi,nx:=4284,ok:=true,v:=Y8,out:=.nil,nx':=4555,wr:=[]}
theorem Adm:∀[F:Facts],Ac (Env.ofS Tryz.prog [] []) 1000000 Zn=true:=by
 intro F
 kernel_rfl
theorem Aet (G:Nat→D→D):Zn.Valid Tryz.prog G:=Ad.val (okE _ []) (w0 G) Adm
def Z0:Orc:=
 {f:=49,args:=[(.str 472 bY)],part:=.nil,nx:=4104,ok:=true,v:=(.tuple [(.agg [(.str 5 495622842726),(.slice 4283 0 2 4),(.int .i64 (.ofNat 1)),(.int .i64 (.ofNat 1))]),(.int .i64 (.ofNat 0)),(.int .i64 (.ofNat 0))]),out:=fi,nx':=4555,wr:=[]}
theorem Aaz:∀[F:Facts],Ac (Env.ofS Tryz.prog [Zn,Z8,bH] []) 1000000 Z0=true:=by
 intro F
 kernel_rfl
theorem Arm (G:Nat→D→D):Z0.Valid Tryz.prog G:=Ad.val (okE _ []) (.cons (Aet G) (.cons (Asm G) (.cons (Afs G) (w0 G)))) Aaz
def Tt:Orc:=
 {f:=21,args:=[(.str 5 495622842726)],part:=.nil,nx:=4096,ok:=true,v:=(.tuple [(.agg [(.str 5 495622842726),(.slice 4283 0 2 4),(.int .i64 (.ofNat 1)),(.int .i64 (.ofNat 1))]),(.int .i64 (.ofNat 0))]),out:=fi,nx':=4556,wr:=[]}
theorem Alu:∀[F:Facts],Ac (Env.ofS Tryz.prog [Z0] []) 1000000 Tt=true:=by
 intro F
 kernel_rfl
theorem vB (G:Nat→D→D):Tt.Valid Tryz.prog G:=Ad.val (okE _ []) (.cons (Arm G) (w0 G)) Alu
def Rw:Orc:=
 {f:=25,args:=[(.int .i64 (.ofNat 2))],part:=.nil,nx:=8192,ok:=true,v:=(.agg [(.str 5 495622842726),(.slice 8259 0 2 4),(.int .i64 (.ofNat 1)),(.int .i64 (.ofNat 1))]),out:=aU,nx':=8353,wr:=[]}
theorem Ane:∀[F:Facts],Ac (Env.ofS Tryz.prog [] []) 1000000 Rw=true:=by
 intro F
 kernel_rfl
theorem dY (G:Nat→D→D):Rw.Valid Tryz.prog G:=Ad.val (okE _ []) (w0 G) Ane
def ZF:Orc:=
 {f:=51,args:=[(.agg [(.str 5 495622842726),(.slice 8259 0 2 4),(.int .i64 (.ofNat 1)),(.int .i64 (.ofNat 1))])],part:=aU,nx:=8354,ok:=true,v:=Y8,out:=.nil,nx':=8625,wr:=[]}
theorem Ali:∀[F:Facts],Ac (Env.ofS Tryz.prog [] []) 1000000 ZF=true:=by
 intro F
 kernel_rfl
theorem An1 (G:Nat→D→D):ZF.Valid Tryz.prog G:=Ad.val (okE _ []) (w0 G) Ali
def jb:Orc:=
 {f:=40,args:=[(.slice 8634 0 4 1),(.str 1 32)],part:=(no .nil (no .nil (no (no .nil (no .nil (no .nil (no (no .nil (no .nil wk)) .nil)))) .nil))),nx:=8635,ok:=true,v:=Yz,out:=.nil,nx':=8635,wr:=[]}
theorem Ajp (G:Nat→D→D):jb.Valid Tryz.prog G:=Orc.Valid.join An Aj (by kernel_rfl)
def np:Orc:=
 {f:=40,args:=[(.slice 8749 0 2 1),(.str 1 32)],part:=(no (no .nil (no .nil (no .nil (no (no .nil (no (no (no (no .nil yD) .nil) .nil) .nil)) .nil)))) .nil),nx:=8750,ok:=true,v:=IT,out:=.nil,nx':=8750,wr:=[]}
theorem Ajy (G:Nat→D→D):np.Valid Tryz.prog G:=Orc.Valid.join An Aj (by kernel_rfl)
def sI:Orc:=
 {f:=40,args:=[(.slice 8756 0 2 1),(.str 1 32)],part:=(no .nil (no (no .nil (no (no .nil (no .nil (no (no (no (no .nil (no (no (no (lf (.cells 2 (nd (.str 5 435744240755) (lf (.str 4 1701602377)) .nil))) .nil) .nil) .nil)) .nil) .nil) .nil))) .nil)) .nil)),nx:=8757,ok:=true,v:=(.str 10 478958489472492007158899),out:=.nil,nx':=8757,wr:=[]}
theorem Ahh (G:Nat→D→D):sI.Valid Tryz.prog G:=Orc.Valid.join An Aj (by kernel_rfl)
def oF:Orc:=
 {f:=40,args:=[(.slice 8764 0 2 1),(.str 1 32)],part:=(no .nil (no (no .nil (no .nil (no .nil (no .nil (no (no (no (no .nil pV) .nil) .nil) .nil))))) .nil)),nx:=8765,ok:=true,v:=(.str 10 549738434251183116874867),out:=.nil,nx':=8765,wr:=[]}
theorem Adx (G:Nat→D→D):oF.Valid Tryz.prog G:=Orc.Valid.join An Aj (by kernel_rfl)
def uZ:Orc:=
 {f:=40,args:=[(.slice 8772 0 2 1),(.str 1 32)],part:=(no .nil (no (no .nil (no (no (no (no .nil (no (no (no .nil (no (no (no (lf (.cells 2 (nd (.str 5 435744240755) (lf (.str 3 7630663)) .nil))) .nil) .nil) .nil)) .nil) .nil)) .nil) .nil) .nil)) .nil)),nx:=8773,ok:=true,v:=(.str 9 2147840725831980774515),out:=.nil,nx':=8773,wr:=[]}
theorem Aae (G:Nat→D→D):uZ.Valid Tryz.prog G:=Orc.Valid.join An Aj (by kernel_rfl)
def yP:Orc:=
 {f:=40,args:=[(.slice 8784 0 3 1),(.str 1 32)],part:=(no .nil (no (no (no (no .nil (no (no .nil (no (no wq .nil) .nil)) .nil)) .nil) .nil) .nil)),nx:=8785,ok:=true,v:=Rn,out:=.nil,nx':=8785,wr:=[]}
theorem Aao (G:Nat→D→D):yP.Valid Tryz.prog G:=Orc.Valid.join An Aj (by kernel_rfl)
def vq:Orc:=
 {f:=40,args:=[(.slice 8804 0 6 1),(.str 1 32)],part:=(no .nil (no (no .nil (no (no (no .nil (no .nil (no (no (no .nil qh) .nil) .nil))) .nil) .nil)) .nil)),nx:=8805,ok:=true,v:=TO,out:=.nil,nx':=8805,wr:=[]}
theorem Ac3 (G:Nat→D→D):vq.Valid Tryz.prog G:=Orc.Valid.join An Aj (by kernel_rfl)
def jw:Orc:=
 {f:=40,args:=[(.slice 8824 0 6 1),(.str 1 32)],part:=(no .nil (no (no (no .nil (no .nil (no .nil (no .nil (no (no (no .nil (no (no (no (lf (.cells 6 (nd (.str 4 1885697139) Vx (nd (.str 3 7630663) (lf (.str 5 461229747266)) .nil)))) .nil) .nil) .nil)) .nil) .nil))))) .nil) .nil)),nx:=8825,ok:=true,v:=WM,out:=.nil,nx':=8825,wr:=[]}
theorem Agz (G:Nat→D→D):jw.Valid Tryz.prog G:=Orc.Valid.join An Aj (by kernel_rfl)
def yy:Orc:=
 {f:=40,args:=[(.slice 8844 0 6 1),(.str 1 32)],part:=(no .nil (no (no .nil (no .nil (no (no (no (no .nil (no (no .nil (no (no (no (lf (.cells 6 (nd (.str 4 1885697139) (nd (.str 3 7630663) (lf (.str 4 1684956531)) (lf (.str 6 125780104471923))) (nd (.str 4 1953063255) (lf (.str 3 7037761)) .nil)))) .nil) .nil) .nil)) .nil)) .nil) .nil) .nil))) .nil)),nx:=8845,ok:=true,v:=cw,out:=.nil,nx':=8845,wr:=[]}
theorem Ak4 (G:Nat→D→D):yy.Valid Tryz.prog G:=Orc.Valid.join An Aj (by kernel_rfl)
def qk:Orc:=
 {f:=40,args:=[(.slice 8864 0 6 1),(.str 1 32)],part:=(no .nil (no (no (no (no (no .nil (no (no .nil (no (no .nil qg) .nil)) .nil)) .nil) .nil) .nil) .nil)),nx:=8865,ok:=true,v:=b9,out:=.nil,nx':=8865,wr:=[]}
theorem Agf (G:Nat→D→D):qk.Valid Tryz.prog G:=Orc.Valid.join An Aj (by kernel_rfl)
def tU:Orc:=
 {f:=40,args:=[(.slice 8866 0 9 1),(.str 1 10)],part:=(no .nil (no .nil (no (no (no (no .nil (no (no .nil (no (no .nil (no (no (no (lf (.cells 9 (nd IT (nd (.str 10 478958489472492007158899) (nd (.str 9 2147840725831980774515) (lf cw) .nil) yk) (nd (.str 10 549738434251183116874867) (nd Rn (lf b9) .nil) (lf WM))))) .nil) .nil) .nil)) .nil)) .nil)) .nil) .nil) .nil))),nx:=8867,ok:=true,v:=ri,out:=.nil,nx':=8867,wr:=[]}
theorem zh (G:Nat→D→D):tU.Valid Tryz.prog G:=Orc.Valid.join An Aj (by kernel_rfl)
def uG:Orc:=
 {f:=40,args:=[(.slice 8991 0 2 1),(.str 1 32)],part:=(no (no (no (no (no (no .nil (no (no (no .nil x7) .nil) .nil)) .nil) .nil) .nil) .nil) .nil),nx:=8992,ok:=true,v:=IU,out:=.nil,nx':=8992,wr:=[]}
theorem Amb (G:Nat→D→D):uG.Valid Tryz.prog G:=Orc.Valid.join An Aj (by kernel_rfl)
def rY:Orc:=
 {f:=40,args:=[(.slice 9000 0 3 1),(.str 1 32)],part:=(no .nil (no (no (no .nil (no (no .nil (no (no (no .nil (no .nil (no (no (no (lf (.cells 3 (nd (.str 7 32199698088816483) (lf (.str 4 1953391987)) (lf (.str 1 52))))) .nil) .nil) .nil))) .nil) .nil)) .nil)) .nil) .nil)),nx:=9001,ok:=true,v:=fB,out:=.nil,nx':=9001,wr:=[]}
theorem Aif (G:Nat→D→D):rY.Valid Tryz.prog G:=Orc.Valid.join An Aj (by kernel_rfl)
def uq:Orc:=
 {f:=40,args:=[(.slice 9008 0 2 1),(.str 1 32)],part:=(no .nil (no (no (no (no .nil (no .nil (no (no (no .nil (no .nil (no (no (no (lf (.cells 2 (nd (.str 5 435744240755) (lf (.str 5 521375147346)) .nil))) .nil) .nil) .nil))) .nil) .nil))) .nil) .nil) .nil)),nx:=9009,ok:=true,v:=aF,out:=.nil,nx':=9009,wr:=[]}
theorem Ak7 (G:Nat→D→D):uq.Valid Tryz.prog G:=Orc.Valid.join An Aj (by kernel_rfl)
def sq:Orc:=
 {f:=40,args:=[(.slice 9016 0 2 1),(.str 1 32)],part:=(no .nil (no (no (no .nil (no .nil (no .nil (no (no (no .nil (no .nil (no (no (no (lf (.cells 2 (nd (.str 5 435744240755) (lf (.str 4 1954047310)) .nil))) .nil) .nil) .nil))) .nil) .nil)))) .nil) .nil)),nx:=9017,ok:=true,v:=(.str 10 550015421109390121464947),out:=.nil,nx':=9017,wr:=[]}
theorem Arl (G:Nat→D→D):sq.Valid Tryz.prog G:=Orc.Valid.join An Aj (by kernel_rfl)
def kD:Orc:=
 {f:=40,args:=[(.slice 9024 0 2 1),(.str 1 32)],part:=(no .nil (no (no (no (no (no (no .nil (no (no .nil (no .nil (no (no (no (lf (.cells 2 (nd (.str 5 435744240755) (lf (.str 5 499984201537)) .nil))) .nil) .nil) .nil))) .nil)) .nil) .nil) .nil) .nil) .nil)),nx:=9025,ok:=true,v:=bI,out:=.nil,nx':=9025,wr:=[]}
theorem Aal (G:Nat→D→D):kD.Valid Tryz.prog G:=Orc.Valid.join An Aj (by kernel_rfl)
def xn:Orc:=
 {f:=40,args:=[(.slice 9036 0 3 1),(.str 1 32)],part:=(no .nil (no (no .nil (no .nil (no (no (no .nil (no (no .nil wq) .nil)) .nil) .nil))) .nil)),nx:=9037,ok:=true,v:=Rn,out:=.nil,nx':=9037,wr:=[]}
theorem Ae2 (G:Nat→D→D):xn.Valid Tryz.prog G:=Orc.Valid.join An Aj (by kernel_rfl)
def mq:Orc:=
 {f:=40,args:=[(.slice 9056 0 6 1),(.str 1 32)],part:=(no .nil (no (no (no (no (no .nil (no .nil (no (no .nil (no .nil (no (no (no (lf (.cells 6 (nd (.str 4 1885697139) cH (nd (.str 4 1954047310) (lf (.str 7 32777976897693010)) .nil)))) .nil) .nil) .nil))) .nil))) .nil) .nil) .nil) .nil)),nx:=9057,ok:=true,v:=qe,out:=.nil,nx':=9057,wr:=[]}
theorem Api (G:Nat→D→D):mq.Valid Tryz.prog G:=Orc.Valid.join An Aj (by kernel_rfl)
def qt:Orc:=
 {f:=40,args:=[(.slice 9088 0 11 1),(.str 1 32)],part:=(no .nil (no (no (no (no (no (no (no .nil (no .nil (no .nil (no (no (no (lf (.cells 11 (nd (.str 4 1885697139) (nd (.str 4 1954047310) tI (nd (.str 6 128017496632419) (lf (.str 1 51)) .nil)) (nd (.str 5 499984201537) (nd (.str 5 461229747266) (lf (.str 1 48)) .nil) dT)))) .nil) .nil) .nil)))) .nil) .nil) .nil) .nil) .nil) .nil)),nx:=9089,ok:=true,v:=rl,out:=.nil,nx':=9089,wr:=[]}
theorem Ash (G:Nat→D→D):qt.Valid Tryz.prog G:=Orc.Valid.join An Aj (by kernel_rfl)
def nD:Orc:=
 {f:=40,args:=[(.slice 9108 0 6 1),(.str 1 32)],part:=(no .nil (no (no .nil (no (no .nil (no (no (no .nil (no .nil (no .nil (no (no (no (lf (.cells 6 (nd (.str 4 1885697139) (nd (.str 5 499984201537) (lf (.str 7 28559167692432754)) (lf (.str 6 128017496632419))) (nd (.str 4 1954047310) (lf (.str 3 7037761)) .nil)))) .nil) .nil) .nil)))) .nil) .nil)) .nil)) .nil)),nx:=9109,ok:=true,v:=qU,out:=.nil,nx':=9109,wr:=[]}
theorem Aa5 (G:Nat→D→D):nD.Valid Tryz.prog G:=Orc.Valid.join An Aj (by kernel_rfl)
def sX:Orc:=
 {f:=40,args:=[(.slice 9140 0 11 1),(.str 1 32)],part:=(no .nil (no (no .nil (no (no .nil (no .nil (no (no .nil (no .nil (no .nil iO))) .nil))) .nil)) .nil)),nx:=9141,ok:=true,v:=pB,out:=.nil,nx':=9141,wr:=[]}
theorem Ah7 (G:Nat→D→D):sX.Valid Tryz.prog G:=Orc.Valid.join An Aj (by kernel_rfl)
def qN:Orc:=
 {f:=40,args:=[(.slice 9142 0 10 1),(.str 1 10)],part:=(no .nil (no .nil (no .nil (no (no .nil (no .nil (no (no .nil (no .nil (no .nil (no (no (no (lf (.cells 10 (nd IU (nd fB (nd (.str 10 550015421109390121464947) mo .nil) (nd Rn j8 .nil)) (nd aF (nd bI uI .nil) pU)))) .nil) .nil) .nil)))) .nil))) .nil)))),nx:=9143,ok:=true,v:=kw,out:=.nil,nx':=9143,wr:=[]}
theorem Ah9 (G:Nat→D→D):qN.Valid Tryz.prog G:=Orc.Valid.join An Aj (by kernel_rfl)
def sP:Orc:=
 {f:=40,args:=[(.slice 9144 0 3 1),(.str 1 10)],part:=(no .nil (no (no (no .nil (no .nil (no .nil (no (no .nil (no .nil (no .nil (no (no (no (lf (.cells 3 (nd Yz (lf ri) (lf kw)))) .nil) .nil) .nil)))) .nil)))) .nil) .nil)),nx:=9145,ok:=true,v:=(.str 472 bY),out:=.nil,nx':=9145,wr:=[]}
theorem Aov (G:Nat→D→D):sP.Valid Tryz.prog G:=Orc.Valid.join An Aj (by kernel_rfl)
def U5:Orc:=
 {f:=24,args:=[(.agg [(.str 5 495622842726),(.slice 8259 0 2 4),(.int .i64 (.ofNat 1)),(.int .i64 (.ofNat 1))])],part:=aU,nx:=8353,ok:=true,v:=(.tuple [(.str 472 bY),(.int .i64 (.ofNat 0))]),out:=.nil,nx':=9145,wr:=[]}
theorem Aku:∀[F:Facts],Ac (Env.ofS Tryz.prog [sP,qN,sX,nD,qt,mq,xn,kD,sq,uq,rY,uG,tU,qk,yy,jw,vq,yP,uZ,oF,sI,np,jb,ZF] []) 1000000 U5=true:=by
 intro F
 kernel_rfl
theorem Ac2 (G:Nat→D→D):U5.Valid Tryz.prog G:=Ad.val (okE _ []) (.cons (Aov G) (.cons (Ah9 G) (.cons (Ah7 G) (.cons (Aa5 G) (.cons (Ash G) (.cons (Api G) (.cons (Ae2 G) (.cons (Aal G) (.cons (Arl G) (.cons (Ak7 G) (.cons (Aif G) (.cons (Amb G) (.cons (zh G) (.cons (Agf G) (.cons (Ak4 G) (.cons (Agz G) (.cons (Ac3 G) (.cons (Aao G) (.cons (Aae G) (.cons (Adx G) (.cons (Ahh G) (.cons (Ajy G) (.cons (Ajp G) (.cons (An1 G) (w0 G))))))))))))))))))))))))) Aku
def eX:Orc:=Rw.move 4096
theorem Amz (G:Nat→D→D):eX.Valid Tryz.prog G:=Orc.Valid.move (dY G) (by kernel_rfl) 4096
def V6:Orc:=
 {f:=23,args:=[(.agg [(.str 5 495622842726),(.slice 4283 0 2 4),(.int .i64 (.ofNat 1)),(.int .i64 (.ofNat 1))]),(.agg [(.str 5 495622842726),(.slice 12355 0 2 4),(.int .i64 (.ofNat 1)),(.int .i64 (.ofNat 1))])],part:=(no (no (no jZ (no (no (no (no .nil (no (no (no (no (no (no .nil (lf (.cells 8 (nd (.str 6 128017496632419) (nd (.slice 12332 0 4 3) (nd (.slice 12337 0 4 9) (lf (.slice 12353 0 4 9)) .nil) (lf (.slice 12344 0 4 3))) (nd .slice0 (lf (.str 6 125780104471923)) (lf (.slice 12339 0 1 2))))))) .nil) .nil) .nil) .nil) .nil)) .nil) (no .nil (no (no (no (no (no (no (no .nil oC) .nil) .nil) .nil) .nil) .nil) .nil))) yL)) (no (no (no (no (no .nil (no (no (no (no (no (no .nil pA) .nil) .nil) .nil) .nil) .nil)) .nil) (no .nil (no (no (no (no (no (no (no .nil oM) .nil) .nil) .nil) .nil) .nil) .nil))) xV) .nil)) (no (no (no .nil (no .nil (no .nil (no (no (no (no (no (no (no .nil xf) .nil) .nil) .nil) .nil) .nil) .nil)))) (no .nil (no (no .nil (no (no (no (no (no (no (no .nil kI) .nil) .nil) .nil) .nil) .nil) .nil)) pQ))) .nil)),nx:=12449,ok:=true,v:=(.bool true),out:=.nil,nx':=12455,wr:=[]}
theorem Apn:∀[F:Facts],Ac (Env.ofS Tryz.prog [] []) 1000000 V6=true:=by
 intro F
 kernel_rfl
theorem Anb (G:Nat→D→D):V6.Valid Tryz.prog G:=Ad.val (okE _ []) (w0 G) Apn
def W8:Orc:=Tt.move 12288
theorem Anq (G:Nat→D→D):W8.Valid Tryz.prog G:=Orc.Valid.move (vB G) (by kernel_rfl) 12288
def be:Orc:=Rw.move 12288
theorem Aq9 (G:Nat→D→D):be.Valid Tryz.prog G:=Orc.Valid.move (dY G) (by kernel_rfl) 12288
def Wk:Orc:=
 {f:=23,args:=[(.agg [(.str 5 495622842726),(.slice 16571 0 2 4),(.int .i64 (.ofNat 1)),(.int .i64 (.ofNat 1))]),(.agg [(.str 5 495622842726),(.slice 20547 0 2 4),(.int .i64 (.ofNat 1)),(.int .i64 (.ofNat 1))])],part:=(no (no (no (no .nil (no (no .nil (no xj sD)) .nil)) (no (no (no (no .nil (no (no (no (no (no (no .nil (no (lf (.cells 8 (nd (.str 6 128017496632419) (nd (.slice 20524 0 4 3) (nd (.slice 20529 0 4 9) (lf (.slice 20545 0 4 9)) .nil) (lf (.slice 20536 0 4 3))) (nd .slice0 (lf (.str 6 125780104471923)) (lf (.slice 20531 0 1 2)))))) .nil)) .nil) .nil) .nil) .nil) .nil)) .nil) (no .nil (no (no (no (no (no (no (no .nil ju) .nil) .nil) .nil) .nil) .nil) .nil))) (no .nil (no .nil (no (no .nil (no (no (no (no (no (no (lf (.cells 8 (nd (.str 6 128017496632419) (nd (.slice 16423 0 4 3) (nd (.slice 16476 0 4 9) (lf (.slice 16569 0 4 9)) .nil) (lf (.slice 16508 0 4 3))) (nd .slice0 (lf (.str 6 125780104471923)) (lf (.slice 16487 0 1 2)))))) .nil) .nil) .nil) .nil) .nil) .nil)) .nil))))) (no (no (no (no (no .nil (no (no (no (no (no (no .nil iZ) .nil) .nil) .nil) .nil) .nil)) .nil) (no .nil (no (no (no (no (no (no (no .nil wS) .nil) .nil) .nil) .nil) .nil) .nil))) (no .nil (no .nil jt))) .nil)) (no (no (no .nil (no .nil (no .nil (no (no (no (no (no (no (no .nil yr) .nil) .nil) .nil) .nil) .nil) .nil)))) (no .nil (no (no .nil (no (no (no (no (no (no (no .nil xa) .nil) .nil) .nil) .nil) .nil) .nil)) (no hU lU)))) .nil)),nx:=20641,ok:=true,v:=(.bool true),out:=.nil,nx':=20647,wr:=[]}
theorem Aik:∀[F:Facts],Ac (Env.ofS Tryz.prog [] []) 1000000 Wk=true:=by
 intro F
 kernel_rfl
theorem Aco (G:Nat→D→D):Wk.Valid Tryz.prog G:=Ad.val (okE _ []) (w0 G) Aik
end Go.Proofs.YtmjeljjkhblgeaaGreatDoor.familySessions

