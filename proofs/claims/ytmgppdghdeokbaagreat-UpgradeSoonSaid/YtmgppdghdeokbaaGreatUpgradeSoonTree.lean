/- What is stated: the trees of tests of the functions that the law UpgradeSoon reaches, as data. Conditions: none. -/
import Derived.Test.YtmgppdghdeokbaaGreatBeF
set_option linter.unusedVariables false
set_option linter.unusedSectionVars false
set_option linter.unusedSimpArgs false
namespace Us
open Go.AE
def u0:SE:=.var 0
def u1:SE:=.var 1
def u2:SE:=.var 2
def u3:SE:=.var 3
def u4:SE:=.var 4
def u5:SE:=.var 5
def u6:SE:=.var 6
def u7:SE:=.var 7
def u8:SE:=.var 8
def u9:SE:=.var 9
def u10:SE:=.var 10
def u11:SE:=.var 11
def u12:SE:=.var 12
def u13:SE:=.var 13
def u14:SE:=.var 14
def u15:SE:=.var 15
def u16:SE:=.var 16
def u17:SE:=.var 17
def u18:SE:=.var 18
def u19:SE:=.var 19
def u20:SE:=.var 20
def u21:SE:=.var 21
def u22:SE:=.var 22
def u23:SE:=.var 23
def u24:SE:=.var 24
def u25:SE:=.var 25
def u26:SE:=.var 26
def u27:SE:=.var 27
def u28:SE:=.var 28
def u29:SE:=.var 29
def u30:SE:=.var 30
def u31:SE:=.var 31
def u32:SE:=.var 32
def u33:SE:=.var 33
def u34:SE:=.var 34
def u35:SE:=.var 35
def u36:SE:=.var 36
def u37:SE:=.var 37
def u38:SE:=.var 38
def u39:SE:=.var 39
def u40:SE:=.var 40
def u41:SE:=.var 41
def x0:SE:=(.lenL u1)
def x1:Tr Plf:=(
 .leaf (.done 0 [(.bc false)]))
def x2:SE:=(.lenL u3)
def x3:SE:=(.lenL u2)
def x4:SE:=(.lenS u0)
def x5:SE:=(.lenL u4)
def x6:SE:=(.lss u1 x5)
def x7:SE:=(.lss u1 (.c 0))
def x8:Tr Plf:=(
 .leaf .stuck)
def x9:SE:=(.cell u4 u1 1)
def x10:SE:=(.cell u4 u1 0)
def x11:SE:=(.lss (.c 40) (.lenS x10))
def x12:SE:=(.arith .add .i64 u1 (.c 1))
def x13:SE:=(.lss u1 x2)
def x14:SE:=(.cell u3 u1 0)
def x15:SE:=(.lenL u5)
def x16:SE:=(.cell u5 u1 0)
def x17:SE:=(.cell u5 u1 1)
def x18:SE:=(.cell u5 u1 3)
def x19:SE:=(.cell u5 u1 4)
def x20:SE:=(.cell u5 u1 5)
def x21:SE:=(.lenL u0)
def x22:SE:=(.lss u2 u1)
def x23:SE:=(.lss u2 (.c 0))
def x24:SE:=(.lss u2 x21)
def x25:SE:=(.cell u0 u2 0)
def x26:SE:=(.conv .u8 x25)
def x27:SE:=(.eql u2 (.c 0))
def x28:SE:=(.arith .add .i64 u2 (.c 1))
def x29:Tr Plf:=(
 .leaf (.next 1 [u0,u1,x28]))
def x30:Tr Plf:=(
 .leaf (.done 0 [(.bc true)]))
def x31:Plf:=(.next 1 [u0,(.c 0),u1])
def x32:SE:=(.lss u1 x21)
def x33:SE:=(.cell u0 u1 0)
def x34:Tr Plf:=(
 .leaf (.done 0 [u1]))
def x35:Tr Plf:=(
 .split x7 x8 (
 .split (.eqSS x33 u2) x34 (
 .leaf (.next 1 [u0,x12,u2]))))
def x36:Tr Plf:=(
 .leaf (.done 0 [(.c (-1))]))
def x37:SE:=(.lss u0 u1)
def x38:Tr Plf:=(
 .leaf (.done 0 [(.c 0)]))
def x39:SE:=(.lss u2 u0)
def x40:Tr Plf:=(
 .leaf (.done 0 [u2]))
def x41:Tr Plf:=(
 .split x39 x40 (
 .leaf (.next 1 [u0,(.c 0),u3,u4,u5,u6])))
def x42:SE:=(.lss u1 u0)
def x43:SE:=(.app 3 (rl [(.c 0),x10]))
def x44:SE:=(.app 4 (rl [(.c 0),u4,x10]))
def x45:Tr Plf:=(
 .leaf (.next 1 [u0,x12,u2,u3,u4,u5]))
def x46:SE:=(.app 3 (rl [(.c 0),x14]))
def x47:SE:=(.app 6 (rl [(.c 0),u3,x14]))
def x48:SE:=(.cell u3 u1 2)
def x49:Plf:=(.next 1 ([u0,(.c 0)] ++ us 1 9))
def x50:SE:=(.cell u0 u1 1)
def x51:SE:=(.cell u0 u1 2)
def x52:Tr Plf:=(
 .leaf (.next 1 ([u0,x12] ++ us 2 9)))
def x53:SE:=(.cell u5 u1 2)
def x54:SE:=(.app 6 (rl [(.c 0),u3,x16]))
def x55:SE:=(.eql (.sel x54 0) (.c 1))
def x56:SE:=(.app 4 (rl [(.c 0),u4,x20]))
def x57:SE:=(.eql (.sel x56 0) (.c 1))
def x58:SE:=(.lss (.sel x54 1) (.c 0))
def x59:SE:=(.app 6 (rl [(.c 0),u3,x17]))
def x60:SE:=(.eql (.sel x59 0) (.c 1))
def x61:SE:=(.lss (.sel x59 1) (.c 0))
def x62:SE:=(.lss x15 u1)
def x63:SE:=(.cell u5 u1 6)
def x64:SE:=(.cell u5 u1 7)
def x65:SE:=(.cell u5 u1 8)
def x66:SE:=(.app 8 (rl [(.c 0),(.sub u5 (.c 0) u1),x16,x17,x53,x18,x19,x20,x63,x64,x65]))
def x67:SE:=(.eql (.sel x66 0) (.c 1))
def x68:SE:=(.lss (.sel x66 1) (.c 0))
def x69:SE:=(.lss (.sel x54 1) x2)
def x70:SE:=(.app 3 (rl [(.c 0),x18]))
def x71:SE:=(.app 3 (rl [(.c 0),x19]))
def x72:SE:=(.cell u4 (.sel x56 1) 1)
def x73:Tr Plf:=(
 .split (.eqS x20 0 0) (
 .split (.eql x63 (.c 0)) (
 .split (.eql x64 (.c 0)) (
 .split (.eql x65 (.c 0)) x45 x34) x34) x34) (
 .split (.lss (.sel x56 1) (.c 0)) x34 (
 .split (.lss x63 (.c 0)) x34 (
 .split (.lss x64 x63) x34 (
 .split (.lss x65 (.c (-1000))) x34 (
 .split (.lss (.c 1000) x65) x34 (
 .split (.lss (.sel x56 1) x5) (
 .split (.lss x72 x64) x34 (
 .split (.lss (.arith .add .i64 x63 x65) (.c 0)) x34 (
 .split (.lss x72 (.arith .add .i64 x64 x65)) x34 x45))) x8)))))))
def x74:Tr Plf:=(
 .split x55 (
 .split x57 (
 .split x58 x34 (
 .split x60 (
 .split x61 x34 (
 .split x62 x8 (
 .split x67 (
 .split x68 (
 .split x69 (
 .split (.eql (.sel x70 0) (.c 1)) (
 .split (.sel x70 1) (
 .split (.eql (.sel x71 0) (.c 1)) (
 .split (.sel x71 1) (
 .split (.eqSS x19 u2) x34 x73) x34) x8) x34) x8) x8) x34) x8))) x8)) x8) x8)
def x75:Tr Plf:=(
 .split (.lss (.lenS x18) (.c 4611686018427387904)) (
 .split (.lss (.lenS x19) (.c 4611686018427387904)) (
 .split (.eqS (.strCat x18 x19) 0 0) x73 x34) x8) x8)
def x76:SE:=(rl [(.c 0),u0])
def x77:SE:=(rl [u3])
def x78:SE:=(.rcons u1 (.rcons u2 x77))
def x79:SE:=(.rcons u0 x78)
def x80:SE:=(.app 5 (.rcons (.c 0) (.rcons x3 (.rcons (.c 0) (.rcons (.c 4) x79)))))
def x81:SE:=(.app 7 (.rcons (.c 0) (.rcons x0 (.rcons (.c 1) (.rcons (.c 24) x79)))))
def x82:SE:=(.app 9 (.rcons (.c 0) (.rcons x2 (.rcons (.c 0) (.rcons (.c 80) x79)))))
def x83:Tr Plf:=(
 .leaf (.done 0 [(.c 0),(.c 0)]))
def x84:Tr Plf:=(
 .leaf (.done 0 [(.c 0),(.c 290)]))
def x85:SE:=(rl [x33])
def x86:SE:=(.app 11 (.rcons (.c 0) (.rcons u2 (.rcons u3 x85))))
def x87:SE:=(.c 1073741824)
def x88:SE:=(rl [(.c 0)])
def x89:Tr Plf:=(
 .leaf (.done 0 [u2,u3]))
def x90:SE:=(.isNil u0)
def x91:Tr Plf:=(
 .leaf (.done 0 [.nilL,(.bc true)]))
def x92:Tr Plf:=(
 .split (.lss x21 (.c 1048576)) (
 .leaf (.done 0 [(.cat .emptyL u0),(.bc false)])) x8)
def x93:SE:=(.lss u4 x3)
def x94:SE:=(.lss u4 (.c 0))
def x95:SE:=(.cell u2 u4 0)
def x96:SE:=(.lss x21 x87)
def x97:SE:=(.arith .add .i64 u4 (.c 1))
def x98:Tr Plf:=(
 .leaf (.done 0 [u0,u1]))
def x99:Tr Plf:=(
 .leaf (.done 0 [(.c 0),(.c 2)]))
def dR:Tr Plf:=(
 .leaf (.done 0 [(.c 0),(.c 9)]))
def dg:SE:=(rl [u5])
def ZQ:SE:=(.mIdx [(.int .i64)] u1 dg)
def eV:SE:=(.lss ZQ (.c 0))
def Xe:SE:=(.rcons u4 dg)
def U0:SE:=(.rcons (.c 0) (.rcons u0 (.rcons u1 (.rcons u2 (.rcons u3 Xe)))))
def g9:Tr Plf:=(
 .leaf (.done 0 [(.c 0),u1]))
def IB:SE:=(.arith .quo .i64 (.arith .sub .i64 u0 (.c 1)) (.c 2))
def dS:SE:=(.lss u0 x3)
def fw:SE:=(.cell u2 IB 0)
def Ve:SE:=(.cell u2 u0 0)
def fA:SE:=(.cell u2 IB 1)
def fF:SE:=(.cell u2 u0 1)
def ga:SE:=(.lss fA fF)
def dP:SE:=(.lss fF fA)
def aW:Tr Plf:=(
 .leaf (.next 1 [IB,u1,(.upd (.upd (.upd (.upd u2 IB 0 Ve) IB 1 fF) u0 0 fw) u0 1 fA),u3,u4]))
def ZA:SE:=(rl [u6])
def sW:SE:=(.snoc u3 (.rcons u5 ZA))
def dC:SE:=(.lss u0 x2)
def eD:SE:=(.cell u3 IB 0)
def Yb:SE:=(.cell u3 u0 0)
def eF:SE:=(.cell u3 IB 1)
def UT:SE:=(.cell u3 u0 1)
def cR:SE:=(.lss eF UT)
def R5:Tr Plf:=(
 .leaf (.done 0 [u3,u4]))
def fX:SE:=(.lss UT eF)
def Z5:Tr Plf:=(
 .leaf (.next 1 [IB,u1,u2,(.upd (.upd (.upd (.upd u3 IB 0 Yb) IB 1 UT) u0 0 eD) u0 1 eF),u4,u5]))
def qy:Tr Plf:=(
 .leaf (.done 0 [(.c 2),u2,u3,u4,u1]))
def eG:SE:=(.lss u6 (.c 0))
def oj:Tr Plf:=(
 .leaf (.done 0 [(.c 3),u2,u3,u4,u1]))
def aT:SE:=(.c 1099511627776)
def cY:SE:=(.arith .add .i64 u0 u6)
def aR:SE:=(rl [u5,cY])
def cN:SE:=(.rcons u3 (.rcons u4 (.rcons cY dg)))
def da:SE:=(.app 20 (.rcons (.c 0) (.rcons u0 (.rcons (.snoc .emptyL aR) (.rcons (.bc false) cN)))))
def dQ:SE:=(.app 20 (.rcons (.c 0) (.rcons u0 (.rcons (.snoc u1 aR) (.rcons u2 cN)))))
def jr:SE:=(.upd u1 ZQ 1 cY)
def eP:SE:=(.app 20 (.rcons (.c 0) (.rcons u0 (.rcons jr (.rcons u2 cN)))))
def mr:SE:=(.app 16 (rl [(.c 0),u3,u4,u20]))
def Vp:SE:=(.sel mr 1)
def dD:SE:=(.app 18 (.rcons (.c 0) (.rcons u12 (.rcons u13 (.rcons u14 (.rcons u15 (.rcons u16 x88)))))))
def Z2:SE:=(.cell Vp (.c 0) 2)
def XN:SE:=(.app 21 (rl [(.c 0),u12,(.sel dD 2),u14,u15,u16,(.c 0),Z2]))
def KO:SE:=(.rcons (.c 0) x79)
def fZ:SE:=(.eql (.sel (.app 10 KO) 0) (.c 1))
def VA:SE:=(.eql (.sel (.app 10 KO) 2) (.c 0))
def YZ:SE:=(rl [u2])
def JA:SE:=(.rcons (.c 0) YZ)
def eX:SE:=(rl [u1])
def Yo:SE:=(.app 13 (.rcons (.c 0) eX))
def WO:SE:=(.app 15 (.rcons (.c 0) x77))
def Qh:SE:=(.app 22 (rl [(.c 0),(.sel (.app 12 JA) 1),(.sel (.app 12 JA) 2),u0,(.sel Yo 1),(.sel Yo 2),(.sel (.app 14 JA) 1),(.sel (.app 14 JA) 2),(.sel WO 1),(.sel WO 2),(.strc 0 0),(.bc false),(.c 0),(.c 0),.emptyL,(.bc true),.nilL,(.bc true),(.bc false),.nilL,(.bc true),(.cell u1 (.c 0) 0)]))
def fJ:SE:=(.strAt u0 (.c 0))
def nU:Tr Plf:=(
 .leaf (.next 1 [u0,(.c 0)]))
def R6:SE:=(.strAt u0 u1)
def ZC:Tr Plf:=(
 .leaf (.next 1 [u0,x12]))
def Wg:Plf:=(.next 1 [u4,(.c 0),u0,u1,u2,u3])
def oS:Tr Plf:=(
 .split x7 x8 (
 .split (.eqSS x10 u0) x34 x45))
def sS:Tr Plf:=(
 .split x7 x8 (
 .split (.eqSS x14 u0) x34 x45))
def iP:SE:=(.cell u3 u4 0)
def gy:SE:=(.app 26 (rl [(.c 0),u0,u1,u2,u3,iP]))
def oG:SE:=(.cell u3 u4 1)
def je:SE:=(.app 26 (rl [(.c 0),u0,u1,u2,u3,oG]))
def fN:SE:=(.cell u3 u4 5)
def Wo:SE:=(.cell u3 u4 6)
def YD:SE:=(.cell u3 u4 7)
def UV:SE:=(.cell u3 u4 8)
def lO:Tr Plf:=(
 .leaf (.next 1 [u4,(.sel gy 1),(.c 0),u0,u1,u2,u3,iP,oG,(.cell u3 u4 2),(.cell u3 u4 3),(.cell u3 u4 4),fN,Wo,YD,UV]))
def aa:SE:=(.app 25 (rl [(.c 0),u0,u1,u2,u3,fN]))
def sN:SE:=(.cell u2 (.sel aa 1) 1)
def UW:SE:=(.lenL u6)
def W4:SE:=(.lss u2 UW)
def R0:SE:=(.cell u6 u2 0)
def P3:SE:=(.cell u6 u2 1)
def mG:SE:=(.cell u6 u2 5)
def i4:SE:=(.cell u6 u2 6)
def nq:SE:=(.cell u6 u2 7)
def fV:SE:=(rl [u10])
def gS:SE:=(.app 24 (.rcons (.c 0) fV))
def qq:SE:=(.app 24 (rl [(.c 0),u11]))
def ky:Tr Plf:=(
 .split (.eql (.sel gS 0) (.c 1)) (
 .split (.sel gS 1) (
 .split (.eql (.sel qq 0) (.c 1)) (
 .split (.sel qq 1) (
 .leaf (.done 0 [(.neg (.eqSS u11 u3))])) x1) x8) x1) x8)
def pM:Tr Plf:=(
 .leaf (.next 1 [(.c 0),u0,u1,u2,u3]))
def Ox:SE:=(.lss u0 (.c 0))
def iI:SE:=(.app 24 (rl [(.c 0),Yb]))
def ig:SE:=(.app 25 (rl [(.c 0),u1,u2,u3,u4,Yb]))
def aI:Tr Plf:=(
 .leaf (.done 0 [u0,(.c 291)]))
def OO:SE:=(.arith .add .i64 u0 (.c 1))
def gD:Tr Plf:=(
 .leaf (.next 1 [OO,u1,u2,u3,u4]))
def pu:SE:=(.app 24 (rl [(.c 0),Ve]))
def oJ:SE:=(.app 26 (rl [(.c 0),u1,u2,u3,u4,Ve]))
def lQ:SE:=(.cell u2 u0 2)
def aZ:Tr Plf:=(
 .leaf (.done 0 [u0,(.c 292)]))
def oN:SE:=(.app 27 (rl [(.c 0),u1,u2,u3,u4,u0]))
def Wz:Tr Plf:=(
 .leaf (.done 0 [.nilL,.nilL,(.c 2)]))
def rx:SE:=(.eql (.sel (.app 28 KO) 0) (.c 1))
def nR:SE:=(.eql (.sel (.app 28 KO) 2) (.c 0))
def W6:SE:=(rl [u4])
def fP:SE:=(.rcons u3 W6)
def W2:SE:=(.app 32 (.rcons (.c 0) fP))
def kD:SE:=(.eql (.sel W2 0) (.c 1))
def Q5:SE:=(.arith .sub .i64 x2 (.c 1))
def sX:SE:=(.upd (.upd u3 (.c 0) 0 (.cell u3 Q5 0)) (.c 0) 1 (.cell u3 Q5 1))
def oD:SE:=(.arith .mul .i64 (.c 2) u1)
def lV:SE:=(.cell u6 u9 0)
def dN:SE:=(.cell u6 u9 1)
def cU:SE:=(.lss dN P3)
def Ra:SE:=(.arith .add .i64 u3 (.c 1))
def aY:Tr Plf:=(
 .leaf (.next 2 ([u0,u1,u9,Ra] ++ us 4 7)))
def QG:Tr Plf:=(
 .leaf (.next 2 ([u0,u1,u2,Ra] ++ us 4 7)))
def te:Tr Plf:=(
 .split (.lss P3 dN) QG QG)
def qo:SE:=(.cell u6 u10 0)
def gm:SE:=(.cell u6 u10 1)
def fC:SE:=(.lss gm P3)
def ZP:Tr Plf:=(
 .leaf (.next 2 ([u0,u1,u10,Ra] ++ us 4 7)))
def tn:Tr Plf:=(
 .split (.lss P3 gm) QG QG)
def f5:SE:=(.app 34 (.rcons (.c 0) (.rcons u0 (.rcons u4 x78))))
def gp:Tr Plf:=(
 .split (.eql (.sel f5 0) (.c 1)) (
 .leaf (.next 1 [u0,u1,(.sel f5 1),(.sel f5 2),u4])) x8)
def jh:SE:=(.mIdx [(.int .i64)] u4 (rl [(.cell u2 (.c 0) 1)]))
def pC:SE:=(.rcons u1 (.rcons u2 fP))
def Vk:SE:=(.app 35 (.rcons (.c 0) (.rcons u5 pC)))
def V3:SE:=(.rcons (.c 0) (.rcons u0 pC))
def UI:SE:=(.app 35 V3)
def jR:Tr Plf:=(
 .leaf (.done 0 [u0,u1,(.c 0),u3,u5,u6,u7]))
def gH:SE:=(.rcons u4 (.rcons u5 ZA))
def VF:SE:=(.app 35 (.rcons (.c 0) (.rcons u3 (.rcons u7 gH))))
def Xx:SE:=(rl [u9])
def s7:Tr Plf:=(
 .split (.eql (.sel VF 0) (.c 1)) (
 .leaf (.next 1 [(.snoc u0 Xx),(.bc false),(.sel VF 3),u3,u4,(.sel VF 4),(.sel VF 5),u7,(.sel VF 1),(.sel VF 2)])) x8)
def gv:SE:=(.mIdx [(.int .i64)] u7 Xx)
def Vj:SE:=(.app 35 (.rcons (.c 0) (.rcons u3 (.rcons (.rmv u7 gv) gH))))
def Zj:SE:=(.app 11 (.rcons (.c 0) (.rcons u0 (.rcons u1 YZ))))
def aJ:SE:=(.eqS u7 0 0)
def dt:Tr Plf:=(
 .leaf (.done 0 [(.bc true),(.c 0)]))
def fD:SE:=(rl [u7])
def QA:SE:=(.rcons (.c 0) (.rcons u0 (.rcons u1 fD)))
def jK:SE:=(.eql (.sel (.app 11 QA) 0) (.c 1))
def Rr:SE:=(.sel (.app 11 QA) 1)
def aL:SE:=(.sel (.app 37 QA) 1)
def OE:Tr Plf:=(
 .leaf (.done 0 [(.bc false),(.c 0)]))
def Zz:Tr Plf:=(
 .leaf (.next 1 ([OO] ++ us 1 35)))
def kG:SE:=(.app 38 (rl ([(.c 0),u14,u15] ++ us 26 9)))
def Q1:SE:=(.rcons (.c 0) (.rcons u0 (.rcons u1 (.rcons u2 (.rcons u3 (.rcons u4 (.rcons u5 (.rcons u6 (.rcons u7 (.rcons u8 (.rcons u9 fV)))))))))))
def Jk:SE:=(.lenL u7)
def j3:SE:=(.cell u7 u27 1)
def ZO:SE:=(.app 40 (rl [(.c 0),u0,u1,(.cell u7 u27 0),j3,(.cell u7 u27 2),(.cell u7 u27 3),(.cell u7 u27 4),(.cell u7 u27 5),(.cell u7 u27 6),(.cell u7 u27 7),(.cell u7 u27 8)]))
def Pz:SE:=(.app 22 (rl [(.c 0),(.sel ZO 2),u1,u2,u3,u4,u5,u6,u7,u8,u9,u10,u11,u20,u21,u22,u23,u24,u25,u18,u19,j3]))
def lh:Tr Plf:=(
 .leaf (.done 0 [(.c 2),u9,u10,u11,u17,u18,u19,u0,u1,u13,u15,u12,u14,u16]))
def lK:Tr Plf:=(
 .leaf (.done 0 [(.c 3),u9,u10,u11,u17,u18,u19,u0,u1,u13,u15,u12,u14,u16]))
def MZ:SE:=(.app 33 (rl ([(.c 0)] ++ us 12 5)))
def jB:SE:=(.eql (.sel MZ 0) (.c 1))
def VP:SE:=(.sel MZ 2)
def U9:SE:=(.app 36 (rl [(.c 0),(.sel MZ 1),(.sel MZ 5),VP,(.sel MZ 3),(.sel MZ 4),u20]))
def Y6:SE:=(.sel U9 4)
def aG:SE:=(.sel U9 7)
def Y2:SE:=(.sel U9 5)
def Zo:SE:=(.sel U9 6)
def iz:SE:=(rl [(.cell u7 u21 0),(.cell u7 u21 1),(.cell u7 u21 2),(.cell u7 u21 3),(.cell u7 u21 4),(.cell u7 u21 5),(.cell u7 u21 6),(.cell u7 u21 7),(.cell u7 u21 8)])
def lN:SE:=(.app 39 (.rcons (.c 0) (.rcons u0 (.rcons u1 (.rcons u2 (.rcons u3 (.rcons u4 (.rcons u5 (.rcons u6 (.rcons u7 (.rcons u8 (.rcons u9 (.rcons u10 (.rcons u11 (.rcons u12 (.rcons u13 (.rcons u14 (.rcons u15 (.rcons u16 (.rcons u17 (.rcons u18 (.rcons u19 (.rcons Y6 (.rcons aG (.rcons VP (.rcons Y2 (.rcons Zo (.rcons (.bc true) iz))))))))))))))))))))))))))))
def eu:SE:=(rl [u20,u21])
def JD:SE:=(.app 41 (.rcons (.c 0) (.rcons u0 (.rcons u1 (.rcons u2 (.rcons u3 (.rcons u4 (.rcons u5 (.rcons u6 (.rcons u7 (.rcons u8 (.rcons u9 (.rcons u10 (.rcons u11 (.rcons u12 (.rcons u13 (.rcons u14 (.rcons u15 (.rcons u16 (.rcons (.bc true) (.rcons u18 (.rcons u19 (.rcons Y6 (.rcons aG (.rcons VP (.rcons Y2 (.rcons Zo (.rcons (.bc true) eu))))))))))))))))))))))))))))
def qI:SE:=(.lss (.c 0) (.lenL (.sel U9 1)))
def ol:SE:=(.app 39 (.rcons (.c 0) (.rcons u0 (.rcons u1 (.rcons u2 (.rcons u3 (.rcons u4 (.rcons u5 (.rcons u6 (.rcons u7 (.rcons u8 (.rcons u9 (.rcons u10 (.rcons u11 (.rcons u12 (.rcons u13 (.rcons u14 (.rcons u15 (.rcons u16 (.rcons u17 (.rcons u18 (.rcons u19 (.rcons Y6 (.rcons aG (.rcons VP (.rcons Y2 (.rcons Zo (.rcons qI iz))))))))))))))))))))))))))))
def JH:SE:=(.app 41 (.rcons (.c 0) (.rcons u0 (.rcons u1 (.rcons u2 (.rcons u3 (.rcons u4 (.rcons u5 (.rcons u6 (.rcons u7 (.rcons u8 (.rcons u9 (.rcons u10 (.rcons u11 (.rcons u12 (.rcons u13 (.rcons u14 (.rcons u15 (.rcons u16 (.rcons (.bc false) (.rcons u18 (.rcons u19 (.rcons Y6 (.rcons aG (.rcons VP (.rcons Y2 (.rcons Zo (.rcons qI eu))))))))))))))))))))))))))))
def nb:Plf:=(.next 1 [u2,(.c 0),u0,u1])
def jY:Tr Plf:=(
 .leaf (.next 1 [u0,x12,u2,u3]))
def qu:SE:=(.eql (.sel (.app 43 QA) 0) (.c 1))
def OS:SE:=(.sel (.app 43 QA) 1)
def gu:SE:=(.cell u1 OS 0)
def sD:SE:=(.arith .add .i64 gu u10)
def i5:SE:=(.cell u3 u11 0)
def qh:SE:=(.cell u3 u11 1)
def pq:SE:=(.cell u3 u11 2)
def Ys:SE:=(rl [(.c 0),u6,u7,i5,qh,pq,(.cell u3 u11 3),(.cell u3 u11 4),(.cell u3 u11 5),(.cell u3 u11 6),(.cell u3 u11 7),(.cell u3 u11 8)])
def eh:SE:=(.cat .emptyL u1)
def nK:Tr Plf:=(
 .leaf (.done 0 (us 0 10 ++ [(.c 2)])))
def rb:Tr Plf:=(
 .leaf (.done 0 (us 0 10 ++ [(.c 3)])))
def dY:SE:=(rl [u10,u11])
def aA:SE:=(.rcons u6 (.rcons u7 (.rcons u8 (.rcons u9 dY))))
def tG:SE:=(.app 46 (.rcons (.c 0) (.rcons u0 (.rcons u1 (.rcons u2 (.rcons u3 (.rcons u4 (.rcons u5 aA))))))))
def XW:SE:=(.lenL u9)
def LM:SE:=(.rcons (.c 0) (.rcons u0 eX))
def sT:SE:=(.eql (.sel (.app 49 LM) 0) (.c 1))
def pF:SE:=(rl [u18,u19])
def fQ:SE:=(.app 51 (.rcons (.c 0) pF))
def gn:Tr Plf:=(
 .split (.eql u2 x21) x92 x8)
def e6:SE:=(.app 53 (.rcons (.c 0) (.rcons u3 Xe)))
def jp:SE:=(rl [u6,u7,u8])
def dU:SE:=(.app 54 (.rcons (.c 0) jp))
def fO:SE:=(.app 55 (.rcons (.c 0) (.rcons u9 dY)))
def nL:SE:=(.rcons u4 (.rcons u5 (.rcons u6 fD)))
def UF:SE:=(.rcons (.c 0) nL)
def ba:SE:=(.eql (.sel (.app 10 UF) 2) (.c 0))
def Q7:SE:=(.lenL u8)
def dZ:SE:=(.lss (.c 24) Q7)
def gC:Tr Plf:=(
 .leaf (.done 0 [(.c 24),(.c 490)]))
def dO:SE:=(.cell u8 u17 0)
def qa:SE:=(.app 57 (rl [(.c 0),u1,dO]))
def fI:Tr Plf:=(
 .leaf (.done 0 [u17,(.c 490)]))
def qZ:SE:=(.app 57 (rl [(.c 0),u5,(.cell u8 u17 1)]))
def eL:SE:=(.mIdx [.str] u18 (rl [dO]))
def sE:SE:=(.arith .add .i64 u17 (.c 1))
def kg:Tr Plf:=(
 .leaf (.done 0 [(.c 4),(.c 491)]))
def fx:SE:=(.cell u9 u20 0)
def j6:SE:=(.app 58 (rl [(.c 0),u6,fx]))
def OW:Tr Plf:=(
 .leaf (.done 0 [u20,(.c 491)]))
def na:SE:=(.cell u9 u20 1)
def eM:SE:=(.mIdx [.str] u21 (rl [fx]))
def Sx:SE:=(.cell u9 u20 2)
def ao:SE:=(.arith .sub .i64 (.c 0) Sx)
def mM:SE:=(.arith .add .i64 u20 (.c 1))
def jC:Tr Plf:=(
 .split (.lss Sx (.c (-1000))) OW (
 .leaf (.next 2 [u0,u1,u2,u3,u4,u5,u6,u7,u8,u9,u10,u11,u12,u13,u14,u15,u16,u17,u18,u19,mM,(.snoc u21 (rl [fx,(.bc true)]))])))
def qX:Tr Plf:=(
 .split (.lss Sx (.c (-1000))) OW (
 .leaf (.next 2 [u0,u1,u2,u3,u4,u5,u6,u7,u8,u9,u10,u11,u12,u13,u14,u15,u16,u17,u18,u19,mM,(.upd u21 eM 1 (.bc true))])))
def oB:Tr Plf:=(
 .split (.lss eM (.c 0)) (
 .split (.lss Sx ao) (
 .split (.lss (.c 1000) ao) OW jC) (
 .split (.lss (.c 1000) Sx) OW jC)) (
 .split (.cell u21 eM 1) OW (
 .split (.lss Sx ao) (
 .split (.lss (.c 1000) ao) OW qX) (
 .split (.lss (.c 1000) Sx) OW qX))))
def oM:SE:=(.app 58 (rl [(.c 0),u2,na]))
def pV:SE:=(.cell u0 u2 2)
def fq:SE:=(.app 60 (rl [(.c 0),.nilL,(.bc true),(.sel (.app 49 LM) 1),(.sel (.app 49 LM) 2)]))
def Z4:SE:=(.app 57 (.rcons (.c 0) (.rcons u1 W6)))
def mV:Tr Plf:=(
 .leaf (.done 0 [(.sel Z4 1),(.c 0),(.c 0),(.c 0),(.c 0),(.bc false)]))
def sC:Tr Plf:=(
 .leaf (.done 0 [u7,(.c 0),(.c 0),(.c 0),(.c 0),(.bc false)]))
def aP:SE:=(.cell u0 (.c 0) 0)
def fb:SE:=(.cell u0 (.c 1) 0)
def aB:SE:=(.app 64 (rl ([(.c 0),u8,u0,u1,u2,u3] ++ us 10 5)))
def qj:SE:=(.app 57 (rl [(.c 0),u5,(.cell u8 (.sel aB 1) 1)]))
def qK:SE:=(.app 58 (.rcons (.c 0) (.rcons u8 x85)))
def qQ:SE:=(.app 58 (rl [(.c 0),u4,x50]))
def WA:SE:=(.sel qQ 1)
def Nb:Tr Plf:=(
 .leaf (.done 0 [(.c 0),(.c 0),(.c 0),(.c 0),(.c 0),(.c 3)]))
def Rl:SE:=(.sel qK 1)
def VS:SE:=(.lss Rl (.c 0))
def Wy:SE:=(.lss Rl Q7)
def Yc:SE:=(.cell u8 Rl 1)
def V6:SE:=(.eql Rl (.c 0))
def Wj:SE:=(.eql Rl (.c 1))
def Xi:SE:=(.eql Rl (.c 2))
def Yx:SE:=(.eql Rl (.c 3))
def Vr:SE:=(.arith .add .i64 x51 u11)
def UK:SE:=(.arith .add .i64 x51 u12)
def UH:SE:=(.arith .add .i64 x51 u13)
def Vc:SE:=(.arith .add .i64 x51 u14)
def dq:SE:=(.eql Jk (.c 0))
def Rq:SE:=(.cell u6 u0 0)
def eQ:SE:=(.snoc .emptyL eX)
def dB:SE:=(.snoc eQ YZ)
def aj:SE:=(.snoc dB x77)
def dy:SE:=(.app 59 (.rcons (.c 0) (.rcons u0 (.rcons u1 (.rcons u2 (.rcons u3 (.rcons u4 (.rcons u5 (.rcons u6 (.rcons u7 (.rcons u8 Xx)))))))))))
def SX:SE:=(.app 63 (.rcons (.c 0) (.rcons u0 (.rcons u1 (.rcons u2 (.rcons u3 dY))))))
def QI:SE:=(.app 65 (rl [(.c 0),u0,u1,u2,u3,u4,u5,u6,u7,u8,u9,(.sel SX 1),(.sel SX 2),(.sel SX 3),(.sel SX 4),(.sel SX 5)]))
def fa:SE:=(.app 66 (.rcons (.c 0) (.rcons (.sel QI 1) (.rcons (.sel QI 2) (.rcons (.sel QI 3) (.rcons (.sel QI 4) (.rcons (.sel QI 5) nL)))))))
def kV:Tr Plf:=(
 .leaf (.done 0 [(.c 3),u2]))
def ff:SE:=(.app 12 (.rcons (.c 0) fD))
def M6:SE:=(.sel ff 1)
def M9:SE:=(.sel ff 2)
def pJ:SE:=(.app 68 (rl [(.c 0),M6,M9,.emptyL]))
def ny:SE:=(.app 68 (rl [(.c 0),M6,M9,eQ]))
def mP:SE:=(.app 68 (rl [(.c 0),M6,M9,dB]))
def nW:SE:=(.app 68 (rl [(.c 0),M6,M9,aj]))
def gG:SE:=(.app 68 (rl [(.c 0),M6,M9,(.snoc aj W6)]))
def Nh:SE:=(.app 69 (.rcons (.c 0) (.rcons u0 (.rcons u1 (.rcons u2 (.rcons u3 (.rcons u4 (.rcons u5 jp))))))))
def jV:SE:=(.eql (.sel Nh 0) (.c 1))
def ZS:SE:=(.lss u3 (.c 0))
def V1:SE:=(.lenL u14)
def rA:SE:=(.cell u2 u3 0)
def iq:SE:=(.app 38 (rl [(.c 0),u14,u13,rA,(.cell u2 u3 1),(.cell u2 u3 2),(.cell u2 u3 3),(.cell u2 u3 4),(.cell u2 u3 5),(.cell u2 u3 6),(.cell u2 u3 7),(.cell u2 u3 8)]))
def Vx:SE:=(.lenL u10)
def ot:Tr Plf:=(
 .leaf (.next 1 ([u0,u1,u2,Ra] ++ us 4 8 ++ [V1,u13,u14])))
def KN:SE:=(.app 63 U0)
def mN:SE:=(.eql (.sel KN 0) (.c 1))
def di:SE:=(.app 70 (.rcons (.c 0) (.rcons (.sel KN 1) (.rcons (.sel KN 2) (.rcons (.sel KN 3) (.rcons (.sel KN 4) (.rcons (.sel KN 5) x79)))))))
def eI:SE:=(.lss u3 x21)
def eC:SE:=(.cell u0 u3 0)
def nw:SE:=(.cell u8 u9 1)
def gc:SE:=(.app 40 (rl [(.c 0),(.sel Nh 3),(.sel Nh 2),(.cell u8 u9 0),nw,(.cell u8 u9 2),(.cell u8 u9 3),(.cell u8 u9 4),(.cell u8 u9 5),(.cell u8 u9 6),(.cell u8 u9 7),(.cell u8 u9 8)]))
def s9:SE:=(.app 57 (rl [(.c 0),u6,nw]))
def sg:SE:=(.app 61 (rl [(.c 0),(.sel gc 2),(.sel Nh 2)]))
def M0:SE:=(.sel sg 1)
def Xr:SE:=(.sel s9 1)
def ZX:SE:=(.cell M0 (.c 0) 0)
def ft:SE:=(.cell M0 (.c 1) 0)
def XM:SE:=(.app 71 U0)
def jn:SE:=(.app 72 (.rcons (.c 0) (.rcons (.sel XM 1) (.rcons (.sel XM 2) ZA))))
def Vy:SE:=(.app 73 (.rcons (.c 0) (.rcons (.sel KN 1) (.rcons (.sel KN 2) (.rcons (.sel KN 3) (.rcons (.sel KN 4) (.rcons (.sel KN 5) (.rcons u0 (.rcons u1 (.rcons u2 (.rcons u3 ZA)))))))))))
def ek:SE:=(.app 66 (.rcons (.c 0) (.rcons (.sel Vy 1) (.rcons (.sel Vy 2) (.rcons (.sel Vy 3) (.rcons (.sel Vy 4) (.rcons (.sel Vy 5) x79)))))))
def jc:SE:=(.eql x25 (.cell u1 u2 0))
def mf:Plf:=(.next 1 [u0,u1,(.c 0),u2,u3])
def iA:SE:=(.cell u0 u2 1)
def kU:SE:=(.app 75 (.rcons (.c 0) (.rcons iA W6)))
def dJ:Tr Plf:=(
 .leaf (.next 1 [u0,u1,x28,u3,u4]))
def rJ:SE:=(.rcons u9 (.rcons u10 (.rcons u11 (.rcons u12 (.rcons u13 (.rcons u14 (.rcons u15 (.rcons u16 (.rcons u17 pF)))))))))
def M7:SE:=(.app 52 (.rcons (.c 0) (.rcons u0 (.rcons u1 (.rcons u2 (.rcons u3 (.rcons u4 (.rcons u5 (.rcons u6 (.rcons u7 (.rcons u8 rJ)))))))))))
def YW:SE:=(.rcons (.c 0) (.rcons u0 (.rcons u1 (.rcons u2 (.rcons (.sel M7 1) (.rcons u4 (.rcons x2 (.rcons (.sel M7 2) (.rcons u6 (.rcons x15 (.rcons (.sel M7 3) (.rcons u8 (.rcons Jk rJ)))))))))))))
def Oo:SE:=(.app 56 YW)
def e9:SE:=(.app 59 (rl [(.c 0),(.sel Oo 1),(.sel Oo 2),(.sel Oo 3),(.sel Oo 4),u20,u21,u22,u23,u24,u25]))
def mK:SE:=(.cell u0 u3 1)
def ko:SE:=(rl [eC,mK])
def sF:SE:=(.app 67 (.rcons (.c 0) (.rcons u33 (.rcons u34 (.rcons u35 (.rcons u36 (.rcons u27 (.rcons u28 (.rcons u29 (.rcons u30 (.rcons u31 (.rcons u32 ko))))))))))))
def Ss:SE:=(.app 71 (.rcons (.c 0) (.rcons u33 (.rcons u34 (.rcons u35 (.rcons u36 ko))))))
def mL:SE:=(.eql (.sel Ss 0) (.c 1))
def oi:Tr Plf:=(
 .split mL (
 .leaf (.next 2 [u0,u1,u2,u3,(.sel Ss 1),(.sel Ss 2),(.lenL (.sel Ss 1)),(.c 0),u4,u5,u6,u7,u8,u9,u10,u11,u12,u13,u14,u15,u16,u17,u18,u19,u20,u21,u22,u23,u24,u25,u26,u27,u28,u29,u30,u31,u32,u33,u34,u35,u36])) x8)
def eo:SE:=(.lss (.c 2000) x21)
def eK:SE:=(rl [(.cell u4 u7 0)])
def eN:SE:=(.app 74 (.rcons (.c 0) (.rcons u37 (.rcons u38 (.rcons u39 (.rcons u40 (.rcons eC (.rcons mK eK))))))))
def ZJ:SE:=(.sel eN 1)
def Z3:SE:=(.sel eN 2)
def pL:SE:=(.app 77 (rl [(.c 0),u0,u1,ZJ,Z3]))
def cX:Tr Plf:=(
 .leaf (.done 0 [(.c 7),u23,u24,u25]))
def WU:SE:=(.arith .add .i64 u7 (.c 1))
def Yi:SE:=(.cell u0 u3 2)
def rF:SE:=(.snoc u0 (rl [ZJ,Z3,(.snoc .emptyL eK)]))
def kj:SE:=(.snoc (.cat .emptyL Yi) eK)
def iE:SE:=(.app 80 (rl [(.c 0),u1,u2,u3,u4,(.cell u9 u0 0)]))
def kE:SE:=(.app 80 (rl [(.c 0),u5,u6,u7,u8,(.cell u9 u0 1)]))
def ZT:SE:=(.cell u10 u0 0)
def mF:SE:=(.app 81 (rl [(.c 0),u5,u6,u7,u8,ZT]))
def Yk:SE:=(.cell u10 u0 1)
def Vo:SE:=(.cell u10 u0 2)
def gq:Tr Plf:=(
 .leaf (.next 4 ([u0,(.bc true),(.c 0)] ++ us 1 10 ++ [ZT,Yk,Vo])))
def rU:Tr Plf:=(
 .split (.lss (.c 1000) Vo) gq (
 .leaf (.next 4 [u0,(.lss Vo (.c (-1000))),(.c 0),u1,u2,u3,u4,u5,u6,u7,u8,u9,u10,ZT,Yk,Vo])))
def oo:SE:=(.app 81 (rl [(.c 0),u1,u2,u3,u4,Yk]))
def aq:SE:=(.app 81 (rl [(.c 0),u3,u4,u5,u6,mG]))
def hP:Tr Plf:=(
 .split x96 (
 .leaf (.next 1 [(.snoc u0 YZ),(.bc false),x28,u3,u4,u5,u6,u7,u8])) x8)
def oZ:SE:=(.cell u8 (.sel aq 1) 0)
def dc:Tr Plf:=(
 .leaf (.next 1 ([u0,u1,x28] ++ us 3 6)))
def nZ:SE:=(.app 81 (rl [(.c 0),u0,u1,u2,u3,(.cell u3 u6 5)]))
def ZZ:SE:=(.sel nZ 1)
def qg:SE:=(.cell u3 u6 1)
def ZL:SE:=(.cat .nilL u5)
def mU:SE:=(.app 85 (.rcons (.c 0) (.rcons x25 (.rcons iA fP))))
def dz:SE:=(.lss u4 x21)
def pH:SE:=(.cell u0 u4 0)
def mJ:SE:=(.cell u0 u4 1)
def gU:SE:=(rl [pH,mJ])
def gk:SE:=(.app 83 (.rcons (.c 0) (.rcons u5 (.rcons u6 (.rcons u7 (.rcons u8 gU))))))
def qM:SE:=(rl [(.cell u5 u7 0)])
def dI:SE:=(.app 84 (.rcons (.c 0) (.rcons u8 (.rcons u9 (.rcons u10 (.rcons u11 (.rcons pH (.rcons mJ qM))))))))
def cV:SE:=(rl [(.sel dI 1),(.sel dI 2)])
def me:SE:=(.app 86 (.rcons (.c 0) (.rcons u0 (.rcons u1 cV))))
def iH:Tr Plf:=(
 .leaf (.done 0 [.nilL,(.bc true),.nilL,(.bc true),(.bc false)]))
def Zy:SE:=(.app 81 (rl [(.c 0),u5,u6,u7,u8,Yk]))
def s8:SE:=(.app 81 (rl [(.c 0),u1,u2,u3,u4,ZT]))
def j4:SE:=(.eql (.sel s8 0) (.c 1))
def UR:SE:=(.sel s8 1)
def j9:SE:=(.nilIs u14 (.bc false))
def i7:SE:=(.app 88 (rl [(.c 0),u1,u2,u3,u4,u13,j9]))
def fB:SE:=(.app 82 (.rcons (.c 0) (.rcons u0 (.rcons u1 (.rcons u2 (.rcons u3 aA))))))
def Vg:SE:=(.app 87 U0)
def kF:SE:=(.app 89 (.rcons (.c 0) (.rcons u9 (.rcons u10 (.rcons u11 (.rcons u12 (.rcons u5 (.rcons u6 (.rcons u7 (.rcons u8 (.rcons u13 (.rcons u14 gU))))))))))))
def lA:SE:=(.app 1 (.rcons (.c 0) (.rcons u8 Xx)))
def Se:Tr Plf:=(
 .split (.eql (.sel (.app 2 x88) 0) (.c 1)) x30 x8)
def FQ:SE:=(.app 23 KO)
def ME:SE:=(.app 30 KO)
def nN:SE:=(.eql (.sel ME 0) (.c 1))
def jM:SE:=(.eql (.sel ME 8) (.c 0))
def IO:SE:=(.app 42 (.rcons (.c 0) (.rcons u35 (.rcons u36 (.rcons u22 (.rcons u23 (.rcons u24 (.rcons u25 (.rcons u26 (.rcons u27 (.rcons u28 (.rcons u29 (.rcons u30 (.rcons u31 (.rcons u37 (.rcons u41 (.rcons u38 (.rcons u39 (.rcons u40 (.rcons u32 (.rcons u33 (.rcons u34 (.rcons (.c 0) x85)))))))))))))))))))))))
def MH:SE:=(.app 48 (.rcons (.c 0) (.rcons u12 (.rcons u13 (.rcons u14 (.rcons u15 (.rcons u16 (.rcons u17 (.rcons u18 (.rcons u19 (.rcons u20 (.rcons u21 (.rcons (.c 0) x85)))))))))))))
def dH:SE:=(.app 78 (.rcons (.c 0) (.rcons u35 (.rcons u36 (.rcons u22 (.rcons u23 (.rcons u24 (.rcons u25 (.rcons u26 (.rcons u27 (.rcons u28 (.rcons u29 (.rcons u30 (.rcons u31 (.rcons u37 (.rcons u41 (.rcons u38 (.rcons u39 (.rcons u40 (.rcons u32 (.rcons u33 (.rcons u34 aA))))))))))))))))))))))
def fW:SE:=(.app 79 (.rcons (.c 0) (.rcons u12 (.rcons u13 (.rcons u14 (.rcons u15 (.rcons u16 (.rcons u17 (.rcons u18 (.rcons u19 eu))))))))))
def kO:SE:=(.eql (.sel fW 0) (.c 1))
def dr:SE:=(.app 90 (.rcons (.c 0) (.rcons u2 (.rcons u3 (.rcons u4 (.rcons u5 (.rcons (.sel fW 1) (.rcons (.sel fW 2) aA))))))))
def pR:SE:=(.eql (.sel dr 0) (.c 1))
def UP:SE:=(.sel dH 1)
def Vz:SE:=(.sel dr 1)
def qC:SE:=(.eql (.sel dr 0) (.c 2))
def vf:Tr Plf:=
 .split (.lss (.c 6) x0) x1 (
 .split (.lss (.c 12) x2) x1 (
 .split (.lss (.c 5) x3) x1 (
 .split (.lss (.c 40) x4) x1 (
 .leaf (.next 1 [(.c 0),(.c 0),u0,u1,u2,u3])))))
def tY:Tr Plf:=
 .split x6 (
 .split x7 x8 (
 .split (.lss x9 (.c 0)) (
 .split x11 x1 (
 .leaf (.next 1 [(.arith .add .i64 u0 (.c 0)),x12,u2,u3,u4,u5]))) (
 .split (.lss (.c 100) x9) (
 .split x11 x1 (
 .leaf (.next 1 [(.arith .add .i64 u0 (.c 100)),x12,u2,u3,u4,u5]))) (
 .split x11 x1 (
 .leaf (.next 1 [(.arith .add .i64 u0 x9),x12,u2,u3,u4,u5])))))) (
 .leaf (.next 2 [u0,(.c 0),u2,u3,u4,u5]))
def uf:Tr Plf:=
 .split x13 (
 .split x7 x8 (
 .split (.lss (.c 40) (.lenS x14)) x1 (
 .leaf (.next 2 [u0,x12,u2,u3,u4,u5])))) (
 .leaf (.next 3 [u0,(.c 0),u2,u3,u4,u5]))
def uc:Tr Plf:=
 .split (.lss u1 x15) (
 .split x7 x8 (
 .split (.lss (.c 40) (.lenS x16)) x1 (
 .split (.lss (.c 40) (.lenS x17)) x1 (
 .split (.lss (.c 40) (.lenS x18)) x1 (
 .split (.lss (.c 40) (.lenS x19)) x1 (
 .split (.lss (.c 40) (.lenS x20)) x1 (
 .leaf (.next 3 [u0,x12,u2,u3,u4,u5])))))))) (
 .leaf (.done 0 [(.neg (.lss (.c 30) u0))]))
def t0:List (Tr Plf):=[vf,tY,uf,uc]
def uQ:Tr Plf:=
 .split (.lss (.c 10) x21) x1 (
 .leaf (.done 0 [(.neg (.lss (.c 10) x0))]))
def t1:List (Tr Plf):=[uQ]
def uu:Tr Plf:=
 .leaf (.done 0 [])
def t2:List (Tr Plf):=[uu]
def uK:Tr Plf:=
 .split (.lss x4 (.c 1)) x1 (
 .split (.lss (.c 32) x4) x1 (
 .leaf (.next 1 [(.bytes u0),(.lenL (.bytes u0)),(.c 0)])))
def tZ:Tr Plf:=
 .split x22 (
 .split x23 x8 (
 .split x24 (
 .split (.lss x26 (.c 97)) (
 .split (.lss x26 (.c 65)) (
 .split x27 x1 (
 .split (.lss x26 (.c 48)) x1 (
 .split (.lss (.c 57) x26) x1 x29))) (
 .split (.lss (.c 90) x26) (
 .split x27 x1 (
 .split (.eql x26 (.c 95)) x29 x1)) x29)) (
 .split (.lss (.c 122) x26) (
 .split x27 x1 x1) x29)) x8)) x30
def t3:List (Tr Plf):=[uK,tZ]
def ua:Tr Plf:=
 .leaf x31
def vi:Tr Plf:=
 .split x32 x35 x36
def t4:List (Tr Plf):=[ua,vi]
def ul:Tr Plf:=
 .split x37 x38 x41
def uH:Tr Plf:=
 .split x42 (
 .split x7 x8 (
 .split x6 (
 .split (.eql (.sel x43 0) (.c 1)) (
 .split (.sel x43 1) (
 .split (.eql (.sel x44 0) (.c 1)) (
 .split (.lss (.sel x44 1) u1) x34 (
 .split (.lss x9 (.c 1)) x34 (
 .split (.lss (.c 1000) x9) x34 x45))) x8) x34) x8) x8)) x36
def t5:List (Tr Plf):=[ul,uH]
def uP:Tr Plf:=
 .leaf x31
def uo:Tr Plf:=
 .split x32 x35 x36
def t6:List (Tr Plf):=[uP,uo]
def ub:Tr Plf:=
 .split x37 x38 x41
def uM:Tr Plf:=
 .split x42 (
 .split x7 x8 (
 .split x13 (
 .split (.eql (.sel x46 0) (.c 1)) (
 .split (.sel x46 1) (
 .split (.eql (.sel x47 0) (.c 1)) (
 .split (.lss (.sel x47 1) u1) x34 (
 .split (.lss x48 (.c 0)) x34 (
 .split (.lss (.c 1048576) x48) x34 x45))) x8) x34) x8) x8)) x36
def t7:List (Tr Plf):=[ub,uM]
def ur:Tr Plf:=
 .leaf x49
def uF:Tr Plf:=
 .split x32 (
 .split x7 x8 (
 .split (.and (.eqSS u2 x33) (.and (.eqSS u3 x50) (.and (.eql u4 x51) (.and (.eqSS u5 (.cell u0 u1 3)) (.and (.eqSS u6 (.cell u0 u1 4)) (.and (.eqSS u7 (.cell u0 u1 5)) (.and (.eql u8 (.cell u0 u1 6)) (.and (.eql u9 (.cell u0 u1 7)) (.eql u10 (.cell u0 u1 8)))))))))) x34 x52)) x36
def t8:List (Tr Plf):=[ur,uF]
def vd:Tr Plf:=
 .split x37 x38 x41
def uV:Tr Plf:=
 .split x42 (
 .split x7 x8 (
 .split (.lss u1 x15) (
 .split (.eql x53 (.c 1)) x74 (
 .split (.eql x53 (.c 2)) x74 (
 .split (.eql x53 (.c 3)) (
 .split x55 (
 .split x57 (
 .split x58 x34 (
 .split x60 (
 .split x61 x34 (
 .split x62 x8 (
 .split x67 (
 .split x68 (
 .split x69 (
 .split (.lss (.c 0) (.cell u3 (.sel x54 1) 2)) x75 x34) x8) x34) x8))) x8)) x8) x8) (
 .split (.eql x53 (.c 4)) (
 .split x55 (
 .split x57 (
 .split x58 x34 (
 .split x60 (
 .split x61 x34 (
 .split x62 x8 (
 .split x67 (
 .split x68 (
 .split x69 x75 x8) x34) x8))) x8)) x8) x8) (
 .split x55 (
 .split x57 x34 x8) x8))))) x8)) x36
def t9:List (Tr Plf):=[vd,uV]
def jG:Tr Plf:=
 .split (.eql (.sel (.app 3 x76) 0) (.c 1)) (
 .split (.sel (.app 3 x76) 1) (
 .split (.eql (.sel x80 0) (.c 1)) (
 .split (.lss (.sel x80 1) (.c 0)) (
 .split (.eql (.sel x81 0) (.c 1)) (
 .split (.lss (.sel x81 1) (.c 0)) (
 .split (.eql (.sel x82 0) (.c 1)) (
 .split (.lss (.sel x82 1) (.c 0)) x83 (
 .leaf (.done 0 [(.sel x82 1),(.c 293)]))) x8) (
 .leaf (.done 0 [(.sel x81 1),(.c 292)]))) x8) (
 .leaf (.done 0 [(.sel x80 1),(.c 291)]))) x8) x84) x8
def t10:List (Tr Plf):=[jG]
def gX:Tr Plf:=
 .leaf (.next 1 [u0,u1,(.c 0),u2])
def sB:Tr Plf:=
 .split x24 (
 .split x23 x8 (
 .split (.eqSS x25 u3) x40 (
 .leaf (.next 1 [u0,u1,x28,u3])))) x36
def t11:List (Tr Plf):=[gX,sB]
def kP:Tr Plf:=
 .split (.lss (.c 4) x21) x8 (
 .leaf (.next 1 [u0,(.c 0),.nilL,(.bc true)]))
def mh:Tr Plf:=
 .split x32 (
 .split x7 x8 (
 .split (.eqS x33 0 0) x8 (
 .split (.lss x50 (.c 1)) x8 (
 .split (.lss (.c 1000) x50) x8 (
 .split (.eql (.sel x86 0) (.c 1)) (
 .split (.lss (.sel x86 1) (.c 0)) (
 .split (.lss x3 x87) (
 .leaf (.next 1 [u0,x12,(.snoc u2 (.rcons x33 (.rcons x50 x88))),(.bc false)])) x8) x8) x8))))) x89
def t12:List (Tr Plf):=[kP,mh]
def rC:Tr Plf:=
 .split x90 x91 x92
def t13:List (Tr Plf):=[rC]
def iG:Tr Plf:=
 .split x90 x91 x92
def t14:List (Tr Plf):=[iG]
def jI:Tr Plf:=
 .split x90 x91 x92
def t15:List (Tr Plf):=[jI]
def tu:Tr Plf:=
 .leaf (.next 1 [.nilL,(.bc true),u0,u1,(.c 0),u2])
def nj:Tr Plf:=
 .split x93 (
 .split x94 x8 (
 .split (.eqSS x95 u5) (
 .split x96 (
 .leaf (.next 1 [(.snoc u0 (rl [x95,(.cell u2 u4 1),(.cell u2 u4 2)])),(.bc false),u2,u3,x97,u5])) x8) (
 .leaf (.next 1 [u0,u1,u2,u3,x97,u5])))) x98
def t16:List (Tr Plf):=[tu,nj]
def lX:Tr Plf:=
 .split (.lss u5 (.c 0)) x99 (
 .split (.lss u5 (.c 256)) (
 .split u2 dR (
 .split eV dR (
 .leaf (.done 0 [(.arith .sub .i64 (.cell u1 ZQ 1) u0),(.c 0)])))) x99)
def t17:List (Tr Plf):=[lX]
def lB:Tr Plf:=
 .split (.eql (.sel (.app 17 U0) 0) (.c 1)) (
 .split (.eql (.sel (.app 17 U0) 2) (.c 0)) (
 .split u2 g9 (
 .split eV g9 (
 .leaf (.done 0 [(.c 0),(.rmv u1 ZQ)])))) (
 .leaf (.done 0 [(.sel (.app 17 U0) 2),u1]))) x8
def t18:List (Tr Plf):=[lB]
def nV:Tr Plf:=
 .split (.lss x3 x87) (
 .leaf (.next 1 [(.arith .sub .i64 (.lenL (.snoc u2 Xe)) (.c 1)),u0,(.snoc u2 Xe),(.bc false),u1])) x8
def qT:Tr Plf:=
 .split (.lss (.c 0) u0) (
 .split (.lss IB (.c 0)) x8 (
 .split (.lss IB x3) (
 .split dS (
 .split (.lss fw Ve) (
 .split ga x89 (
 .split dP x89 x89)) (
 .split (.lss Ve fw) (
 .split ga aW (
 .split dP aW aW)) (
 .split ga x89 (
 .split dP aW x89)))) x8) x8)) x89
def t19:List (Tr Plf):=[nV,qT]
def jE:Tr Plf:=
 .split (.lss x2 x87) (
 .leaf (.next 1 [(.arith .sub .i64 (.lenL sW) (.c 1)),u0,u2,sW,(.bc false),u1])) x8
def kb:Tr Plf:=
 .split (.lss (.c 0) u0) (
 .split (.lss IB (.c 0)) x8 (
 .split (.lss IB x2) (
 .split dC (
 .split (.lss eD Yb) (
 .split cR R5 (
 .split fX R5 R5)) (
 .split (.lss Yb eD) (
 .split cR Z5 (
 .split fX Z5 Z5)) (
 .split cR R5 (
 .split fX Z5 R5)))) x8) x8)) R5
def t20:List (Tr Plf):=[jE,kb]
def rW:Tr Plf:=
 .split (.lss u5 (.c 0)) qy (
 .split (.lss u5 (.c 256)) (
 .split eG oj (
 .split (.lss (.arith .sub .i64 aT u0) u6) oj (
 .split u2 (
 .split (.eql (.sel da 0) (.c 1)) (
 .leaf (.done 0 [(.c 0),(.bc false),(.sel da 1),(.sel da 2),(.snoc .emptyL aR)])) x8) (
 .split eV (
 .split (.eql (.sel dQ 0) (.c 1)) (
 .leaf (.done 0 [(.c 0),u2,(.sel dQ 1),(.sel dQ 2),(.snoc u1 aR)])) x8) (
 .split (.eql (.sel eP 0) (.c 1)) (
 .leaf (.done 0 [(.c 0),u2,(.sel eP 1),(.sel eP 2),jr])) x8))))) qy)
def t21:List (Tr Plf):=[rW]
def mt:Tr Plf:=
 .split (.eql (.sel mr 0) (.c 1)) (
 .split (.lss (.c 0) (.lenL Vp)) (
 .split (.eql (.sel dD 0) (.c 1)) (
 .split (.lss (.c 0) Z2) (
 .split (.eql (.sel XN 0) (.c 1)) (
 .leaf (.done 0 [(.cell Vp (.c 0) 0),(.cell Vp (.c 0) 1),Z2,(.sel XN 2),(.sel XN 3),(.sel XN 4),(.sel XN 5)])) x8) (
 .leaf (.done 0 [(.cell Vp (.c 0) 0),(.cell Vp (.c 0) 1),Z2,u14,u15,u16,(.sel dD 2)]))) x8) x8) x8
def t22:List (Tr Plf):=[mt]
def gY:Tr Plf:=
 .split fZ (
 .split VA (
 .split (.eql (.sel (.app 12 JA) 0) (.c 1)) (
 .split (.eql (.sel Yo 0) (.c 1)) (
 .split (.eql (.sel (.app 14 JA) 0) (.c 1)) (
 .split (.eql (.sel WO 0) (.c 1)) (
 .split (.lss (.c 0) x0) (
 .split (.eql (.sel Qh 0) (.c 1)) (
 .leaf (.done 0 [u0,(.sel Yo 1),(.sel Yo 2),(.sel (.app 14 JA) 1),(.sel (.app 14 JA) 2),(.sel WO 1),(.sel WO 2),(.sel Qh 1),(.sel Qh 2),(.sel Qh 3),.nilL,(.sel (.app 12 JA) 1),(.sel (.app 12 JA) 2),(.sel Qh 4),(.sel Qh 5),(.sel Qh 6),(.sel Qh 7)])) x8) x8) x8) x8) x8) x8) (
 .leaf (.done 1 [(.sel (.app 10 KO) 2)]))) x8
def t23:List (Tr Plf):=[gY]
def tW:Tr Plf:=
 .split (.lss x4 (.c 1)) x1 (
 .split (.lss (.c 32) x4) x1 (
 .split (.eql fJ (.c 95)) x1 (
 .split (.lss fJ (.c 48)) nU (
 .split (.lss (.c 57) fJ) nU x1))))
def iY:Tr Plf:=
 .split (.lss u1 x4) (
 .split x7 x8 (
 .split (.lss R6 (.c 97)) (
 .split (.lss R6 (.c 65)) (
 .split (.lss R6 (.c 48)) x1 (
 .split (.lss (.c 57) R6) x1 ZC)) (
 .split (.lss (.c 90) R6) (
 .split (.eql R6 (.c 95)) ZC x1) ZC)) (
 .split (.lss (.c 122) R6) x1 ZC))) x30
def t24:List (Tr Plf):=[tW,iY]
def pX:Tr Plf:=
 .leaf Wg
def i6:Tr Plf:=
 .split x6 oS x36
def t25:List (Tr Plf):=[pX,i6]
def qe:Tr Plf:=
 .leaf Wg
def rZ:Tr Plf:=
 .split x13 sS x36
def t26:List (Tr Plf):=[qe,rZ]
def oW:Tr Plf:=
 .split x94 x8 (
 .split (.lss u4 x2) (
 .split (.eql (.sel gy 0) (.c 1)) (
 .split (.lss (.sel gy 1) (.c 0)) x1 (
 .split (.eql (.sel je 0) (.c 1)) (
 .split (.lss (.sel je 1) (.c 0)) x1 (
 .split (.eqS fN 0 0) (
 .split (.eql Wo (.c 0)) (
 .split (.eql YD (.c 0)) (
 .split (.eql UV (.c 0)) lO x1) x1) x1) (
 .split (.eql (.sel aa 0) (.c 1)) (
 .split (.lss (.sel aa 1) (.c 0)) x1 (
 .split (.lss Wo (.c 0)) x1 (
 .split (.lss YD Wo) x1 (
 .split (.lss (.sel aa 1) x3) (
 .split (.lss sN YD) x1 (
 .split (.lss UV (.c (-1000))) x1 (
 .split (.lss (.c 1000) UV) x1 (
 .split (.lss (.arith .add .i64 Wo UV) (.c 0)) x1 (
 .split (.lss sN (.arith .add .i64 YD UV)) x1 lO))))) x8)))) x8))) x8)) x8) x8)
def mw:Tr Plf:=
 .split x39 (
 .split x23 x8 (
 .split W4 (
 .split (.and (.eqSS R0 u7) (.and (.eqSS P3 u8) (.and (.eql (.cell u6 u2 2) u9) (.and (.eqSS (.cell u6 u2 3) u10) (.and (.eqSS (.cell u6 u2 4) u11) (.and (.eqSS mG u12) (.and (.eql i4 u13) (.and (.eql nq u14) (.eql (.cell u6 u2 8) u15))))))))) x1 (
 .leaf (.next 1 ([u0,u1,x28] ++ us 3 13)))) x8)) (
 .split (.eql u9 (.c 1)) ky (
 .split (.eql u9 (.c 2)) ky (
 .split (.eql u9 (.c 3)) (
 .split (.eqS u10 0 0) (
 .split (.eqS u11 0 0) (
 .split x7 x8 (
 .split x6 (
 .leaf (.done 0 [(.lss (.c 0) (.cell u4 u1 2))])) x8)) x1) x1) (
 .split (.eql u9 (.c 4)) (
 .split (.eqS u10 0 0) (
 .leaf (.done 0 [(.eqS u11 0 0)])) x1) x1))))
def t27:List (Tr Plf):=[oW,mw]
def mS:Tr Plf:=
 .split (.eql (.sel (.app 24 x76) 0) (.c 1)) (
 .split (.sel (.app 24 x76) 1) (
 .split (.lss (.c 4) x3) (
 .leaf (.done 0 [(.c 4),(.c 291)])) pM) x84) x8
def oX:Tr Plf:=
 .split dC (
 .split Ox x8 (
 .split (.eql (.sel iI 0) (.c 1)) (
 .split (.sel iI 1) (
 .split (.eql (.sel ig 0) (.c 1)) (
 .split (.eql (.sel ig 1) u0) (
 .split (.lss UT (.c 1)) aI (
 .split (.lss (.c 1000) UT) aI gD)) aI) x8) aI) x8)) (
 .split (.eql x3 (.c 0)) (
 .leaf (.done 0 [(.c 0),(.c 292)])) (
 .split (.lss (.c 24) x3) (
 .leaf (.done 0 [(.c 24),(.c 292)])) (
 .leaf (.next 2 [(.c 0),u1,u2,u3,u4]))))
def kz:Tr Plf:=
 .split dS (
 .split Ox x8 (
 .split (.eql (.sel pu 0) (.c 1)) (
 .split (.sel pu 1) (
 .split (.eql (.sel oJ 0) (.c 1)) (
 .split (.eql (.sel oJ 1) u0) (
 .split (.lss lQ (.c 0)) aZ (
 .split (.lss (.c 1048576) lQ) aZ (
 .leaf (.next 2 [OO,u1,u2,u3,u4])))) aZ) x8) aZ) x8)) (
 .split (.lss (.c 80) x5) (
 .leaf (.done 0 [(.c 80),(.c 293)])) (
 .leaf (.next 3 [(.c 0),u1,u2,u3,u4])))
def pG:Tr Plf:=
 .split (.lss u0 x5) (
 .split (.eql (.sel oN 0) (.c 1)) (
 .split (.sel oN 1) (
 .leaf (.next 3 [OO,u1,u2,u3,u4])) (
 .leaf (.done 0 [u0,(.c 293)]))) x8) x83
def t28:List (Tr Plf):=[mS,oX,kz,pG]
def qd:Tr Plf:=
 .split (.lss (.c 4) x21) Wz (
 .leaf (.next 1 [u0,(.c 0),.nilL,(.bc true),.nilL,(.bc true)]))
def qW:Tr Plf:=
 .split x32 (
 .split x7 x8 (
 .split (.eqS x33 0 0) Wz (
 .split (.lss x50 (.c 1)) Wz (
 .split (.lss (.c 1000) x50) Wz (
 .leaf (.next 2 [u0,u1,(.c 0),u2,u3,u4,u5])))))) (
 .leaf (.done 0 [(.nilIs u2 u3),(.nilIs u4 u5),(.c 0)]))
def tS:Tr Plf:=
 .split x22 (
 .split x23 x8 (
 .split x24 (
 .split x7 x8 (
 .split x32 (
 .split (.eqSS x25 x33) Wz (
 .leaf (.next 2 [u0,u1,x28,u3,u4,u5,u6]))) x8)) x8)) (
 .split x7 x8 (
 .split x32 (
 .split (.lss x2 x87) (
 .split (.lss x15 x87) (
 .leaf (.next 1 [u0,x12,(.snoc u3 (rl [x33,x50])),(.bc false),(.snoc u5 x88),(.bc false)])) x8) x8) x8))
def t29:List (Tr Plf):=[qd,qW,tS]
def pN:Tr Plf:=
 .split rx (
 .split nR (
 .split (.eql (.sel (.app 29 JA) 0) (.c 1)) (
 .split (.lss (.c 0) x0) (
 .leaf (.done 0 [u0,u1,u2,u3,(.cell u1 (.c 0) 0),(.sel (.app 29 JA) 1),(.sel (.app 29 JA) 2),(.c 0)])) x8) x8) (
 .leaf (.done 0 [(.strc 0 0),.nilL,.nilL,.nilL,(.strc 0 0),.nilL,.nilL,(.sel (.app 28 KO) 2)]))) x8
def t30:List (Tr Plf):=[pN]
def j8:Tr Plf:=
 .split u1 (
 .leaf (.done 0 [(.bc true),.emptyL])) (
 .leaf (.done 0 [(.bc false),u0]))
def t31:List (Tr Plf):=[j8]
def ic:Tr Plf:=
 .split u1 x91 x92
def t32:List (Tr Plf):=[ic]
def iy:Tr Plf:=
 .split u2 (
 .split kD (
 .leaf (.done 0 [u0,(.bc true),(.sel W2 1),(.sel W2 2),.emptyL])) x8) (
 .split kD (
 .leaf (.done 0 [u0,(.bc false),(.sel W2 1),(.sel W2 2),u1])) x8)
def t33:List (Tr Plf):=[iy]
def sn:Tr Plf:=
 .split (.lss Q5 (.c 0)) x8 (
 .split (.lss Q5 x2) (
 .split (.lss (.c 0) x2) (
 .split (.lss (.lenL sX) Q5) x8 (
 .leaf (.next 1 [Q5,(.c 0),u0,u2,(.sub sX (.c 0) Q5),u4,u1]))) x8) x8)
def rG:Tr Plf:=
 .leaf (.next 2 [u0,u1,u1,(.c 0),u2,u3,u4,u5,u6,(.arith .add .i64 oD (.c 1)),(.arith .add .i64 oD (.c 2))])
def pI:Tr Plf:=
 .split (.lss u3 (.c 2)) (
 .split (.eql u3 (.c 0)) (
 .split (.lss u9 u0) (
 .split (.lss u9 (.c 0)) x8 (
 .split (.lss u9 UW) (
 .split x23 x8 (
 .split W4 (
 .split (.lss lV R0) (
 .split cU aY (
 .split (.lss P3 dN) aY aY)) (
 .split (.lss R0 lV) (
 .split cU QG te) (
 .split cU aY te))) x8)) x8)) QG) (
 .split (.eql u3 (.c 1)) (
 .split (.lss u10 u0) (
 .split (.lss u10 (.c 0)) x8 (
 .split (.lss u10 UW) (
 .split x23 x8 (
 .split W4 (
 .split (.lss qo R0) (
 .split fC ZP (
 .split (.lss P3 gm) ZP ZP)) (
 .split (.lss R0 qo) (
 .split fC QG tn) (
 .split fC ZP tn))) x8)) x8)) QG) x8)) (
 .split (.eql u2 u1) (
 .leaf (.done 0 [u6,u7])) (
 .split x23 x8 (
 .split W4 (
 .split x7 x8 (
 .split (.lss u1 UW) (
 .leaf (.next 1 [u0,u2,u4,u5,(.upd (.upd (.upd (.upd u6 u1 0 R0) u1 1 P3) u2 0 (.cell u6 u1 0)) u2 1 (.cell u6 u1 1)),u7,u8])) x8)) x8)))
def t34:List (Tr Plf):=[sn,rG,pI]
def lM:Tr Plf:=
 .leaf (.next 1 [u0,u2,u3,u4,u1])
def kQ:Tr Plf:=
 .split (.lss (.c 0) x3) (
 .split u1 gp (
 .split (.lss jh (.c 0)) gp (
 .split (.eql (.cell u4 jh 1) (.cell u2 (.c 0) 0)) (
 .leaf (.done 0 [(.cell u2 (.c 0) 0),(.cell u2 (.c 0) 1),(.bc true),u2,u3])) gp))) (
 .leaf (.done 0 [(.c 0),(.c 0),(.bc false),u2,u3]))
def t35:List (Tr Plf):=[lM,kQ]
def jy:Tr Plf:=
 .split (.lss aT u5) (
 .leaf (.done 0 [.nilL,(.bc true),(.c 3),u0,u3,u4,u1])) (
 .split (.lss u0 u5) (
 .split (.eql (.sel Vk 0) (.c 1)) (
 .leaf (.next 1 [.nilL,(.bc true),(.sel Vk 3),u5,u2,(.sel Vk 4),(.sel Vk 5),u1,(.sel Vk 1),(.sel Vk 2)])) x8) (
 .split (.eql (.sel UI 0) (.c 1)) (
 .leaf (.next 1 [.nilL,(.bc true),(.sel UI 3),u0,u2,(.sel UI 4),(.sel UI 5),u1,(.sel UI 1),(.sel UI 2)])) x8))
def gW:Tr Plf:=
 .split u2 (
 .split (.lss u3 u8) jR (
 .split x96 (
 .split u4 s7 (
 .split (.lss gv (.c 0)) s7 (
 .split (.eql (.sel Vj 0) (.c 1)) (
 .leaf (.next 1 [(.snoc u0 Xx),(.bc false),(.sel Vj 3),u3,u4,(.sel Vj 4),(.sel Vj 5),(.rmv u7 gv),(.sel Vj 1),(.sel Vj 2)])) x8))) x8)) jR
def t36:List (Tr Plf):=[jy,gW]
def ln:Tr Plf:=
 .split (.eql (.sel Zj 0) (.c 1)) (
 .split (.lss (.sel Zj 1) (.c 0)) dR (
 .split (.lss (.sel Zj 1) x21) (
 .leaf (.done 0 [(.cell u0 (.sel Zj 1) 2),(.c 0)])) x8)) x8
def t37:List (Tr Plf):=[ln]
def rQ:Tr Plf:=
 .split aJ dt (
 .split (.eql (.sel (.app 37 QA) 0) (.c 1)) (
 .split (.eql (.sel (.app 37 QA) 2) (.c 0)) (
 .split jK (
 .split (.lss Rr (.c 0)) x8 (
 .split (.lss Rr x21) (
 .split (.lss aL u8) OE (
 .split (.lss u9 aL) OE (
 .split (.lss u10 (.arith .sub .i64 (.c 0) aL)) OE (
 .leaf (.done 0 [(.neg (.lss (.arith .sub .i64 (.cell u0 Rr 1) aL) u10)),(.c 0)]))))) x8)) x8) (
 .leaf (.done 0 [(.bc false),(.sel (.app 37 QA) 2)]))) x8)
def t38:List (Tr Plf):=[rQ]
def jx:Tr Plf:=
 .leaf (.next 1 ([(.c 0)] ++ us 2 10 ++ [u17,u18,u19,u0,u1,u12,u14,u15,u16,u13,u20,u22,u23,u24,u21] ++ us 26 9 ++ [u25]))
def qk:Tr Plf:=
 .split (.lss u0 (.c 3)) (
 .split (.eql u0 (.c 0)) (
 .split (.eqSS u26 u8) Zz x1) (
 .split (.eql u0 (.c 1)) (
 .split (.eql (.sel kG 0) (.c 1)) (
 .split (.sel kG 1) Zz x1) x8) (
 .split (.eql u0 (.c 2)) (
 .split (.eql u28 (.c 3)) (
 .split u35 Zz x1) Zz) x8))) x30
def t39:List (Tr Plf):=[jx,qk]
def ma:Tr Plf:=
 .split (.eql (.sel (.app 38 Q1) 0) (.c 1)) (
 .split (.eql (.sel (.app 38 Q1) 2) (.c 0)) (
 .split (.sel (.app 38 Q1) 1) (
 .split aJ (
 .leaf (.done 0 [(.c 0),u0])) (
 .split jK (
 .split (.lss Rr (.c 0)) x8 (
 .split (.lss Rr x21) (
 .leaf (.done 0 [(.c 0),(.upd u0 Rr 2 (.arith .add .i64 (.cell u0 Rr 2) u10))])) x8)) x8)) (
 .leaf (.done 0 [(.c 8),u0]))) (
 .leaf (.done 0 [(.sel (.app 38 Q1) 2),u0]))) x8
def t40:List (Tr Plf):=[ma]
def ib:Tr Plf:=
 .split (.lss (.lenL u18) (.c 100000)) (
 .split (.lss u27 (.c 0)) x8 (
 .split (.lss u27 Jk) (
 .split (.eql (.sel ZO 0) (.c 1)) (
 .split (.eql (.lenL (.sel ZO 2)) x21) (
 .split (.eql (.sel Pz 0) (.c 1)) (
 .leaf (.done 0 [(.sel Pz 1),(.sel Pz 2),(.sel Pz 3),(.snoc u18 (rl [u27,u26])),(.bc false),(.sel ZO 2),u1,u12,u14,u15,u16,u13,u20,(.sel Pz 4),(.sel Pz 5),(.sel Pz 6),(.sel Pz 7)])) x8) x8) x8) x8)) x8
def t41:List (Tr Plf):=[ib]
def kH:Tr Plf:=
 .split (.lss u21 (.c 0)) lh (
 .split (.lss u21 Jk) (
 .split (.lss u20 u12) lK (
 .split (.lss aT u20) lK (
 .split jB (
 .split (.eql (.sel U9 0) (.c 1)) (
 .split u17 (
 .split (.eql (.sel lN 0) (.c 1)) (
 .split (.sel lN 1) (
 .split (.eql (.sel JD 0) (.c 1)) (
 .leaf (.done 0 [(.c 0),(.sel JD 1),(.sel JD 2),(.sel JD 3),(.bc false),(.sel JD 4),(.sel JD 5),(.sel JD 6),(.sel JD 7),(.sel JD 17),(.sel JD 15),(.sel JD 13),(.sel JD 14),(.sel JD 16)])) x8) (
 .leaf (.done 0 [(.c 8),u9,u10,u11,(.bc true),u18,u19,u0,u1,u13,u15,u12,u14,u16]))) x8) (
 .split (.eql (.sel ol 0) (.c 1)) (
 .split (.sel ol 1) (
 .split (.eql (.sel JH 0) (.c 1)) (
 .leaf (.done 0 [(.c 0),(.sel JH 1),(.sel JH 2),(.sel JH 3),(.bc false),(.sel JH 4),(.sel JH 5),(.sel JH 6),(.sel JH 7),(.sel JH 17),(.sel JH 15),(.sel JH 13),(.sel JH 14),(.sel JH 16)])) x8) (
 .leaf (.done 0 [(.c 8),u9,u10,u11,(.bc false),u18,u19,u0,u1,u13,u15,u12,u14,u16]))) x8)) x8) x8))) lh)
def t42:List (Tr Plf):=[kH]
def rf:Tr Plf:=
 .leaf nb
def pk:Tr Plf:=
 .split (.lss u1 x3) (
 .split x7 x8 (
 .split (.eqSS (.cell u2 u1 0) u0) x34 jY)) x36
def t43:List (Tr Plf):=[rf,pk]
def jw:Tr Plf:=
 .split aJ dt (
 .split qu (
 .split (.lss OS (.c 0)) (
 .leaf (.done 0 [(.bc false),(.c 9)])) (
 .split (.lss OS x21) (
 .split (.lss OS x0) (
 .split (.lss gu u8) OE (
 .split (.lss u9 gu) OE (
 .split (.lss u10 (.c (-1000))) OE (
 .split (.lss (.c 1000) u10) OE (
 .split (.lss sD (.c 0)) OE (
 .split (.lss (.cell u0 OS 1) sD) OE dt)))))) x8) x8)) x8)
def t44:List (Tr Plf):=[jw]
def oE:Tr Plf:=
 .leaf Wg
def jN:Tr Plf:=
 .split x13 (
 .split x7 x8 (
 .split (.eqSS x14 u0) (
 .leaf (.done 0 [x14,(.cell u3 u1 1),x48])) x45)) (
 .leaf (.done 0 [(.strc 0 0),(.bc false),(.c 0)]))
def t45:List (Tr Plf):=[oE,jN]
def oY:Tr Plf:=
 .split (.lss u11 (.c 0)) x8 (
 .split (.lss u11 x2) (
 .split (.eql (.sel (.app 44 Ys) 0) (.c 1)) (
 .split (.eqSS i5 u4) (
 .split (.sel (.app 44 Ys) 1) (
 .split (.eql pq (.c 3)) (
 .split (.eql (.sel (.app 45 V3) 0) (.c 1)) (
 .leaf (.done 0 [(.neg (.lss (.arith .sub .i64 u10 u5) (.sel (.app 45 V3) 3)))])) x8) x30) x1) x1) x8) x8)
def t46:List (Tr Plf):=[oY]
def oL:Tr Plf:=
 .split (.eql (.sel (.app 44 Q1) 0) (.c 1)) (
 .split (.eql (.sel (.app 44 Q1) 2) (.c 0)) (
 .split (.sel (.app 44 Q1) 1) (
 .split aJ (
 .leaf (.done 0 [u0,u1,(.c 0)])) (
 .split qu (
 .split (.lss x0 (.c 1048576)) (
 .split (.lss OS (.c 0)) x8 (
 .split (.lss OS (.lenL eh)) (
 .leaf (.done 0 [u0,(.nilIs (.upd eh OS 0 (.arith .add .i64 (.cell eh OS 0) u10)) (.bc false)),(.c 0)])) x8)) x8) x8)) (
 .leaf (.done 0 [u0,u1,(.c 8)]))) (
 .leaf (.done 0 [u0,u1,(.sel (.app 44 Q1) 2)]))) x8
def t47:List (Tr Plf):=[oL]
def lZ:Tr Plf:=
 .split (.lss u11 (.c 0)) nK (
 .split (.lss u11 x2) (
 .split (.lss u10 u8) rb (
 .split (.lss aT u10) rb (
 .split (.eql (.sel tG 0) (.c 1)) (
 .split (.sel tG 1) (
 .split (.eql (.sel (.app 47 Ys) 0) (.c 1)) (
 .split (.lss XW (.c 1048576)) (
 .split (.lss (.lenL (.cat .emptyL u9)) x87) (
 .leaf (.done 0 [u0,u1,u2,u3,qh,u10,(.sel (.app 47 Ys) 1),(.sel (.app 47 Ys) 2),u10,(.nilIs (.snoc (.cat .emptyL u9) (.rcons u11 fV)) (.bc false)),(.c 0)])) x8) x8) x8) (
 .leaf (.done 0 (us 0 10 ++ [(.c 8)])))) x8))) nK)
def t48:List (Tr Plf):=[lZ]
def jv:Tr Plf:=
 .split u1 x91 x92
def t49:List (Tr Plf):=[jv]
def kA:Tr Plf:=
 .split sT (
 .leaf (.done 0 [(.sel (.app 49 LM) 1),(.sel (.app 49 LM) 2)])) x8
def t50:List (Tr Plf):=[kA]
def ru:Tr Plf:=
 .split u1 x91 x92
def t51:List (Tr Plf):=[ru]
def jP:Tr Plf:=
 .split (.eql (.sel (.app 50 LM) 0) (.c 1)) (
 .split jB (
 .split (.eql (.sel fQ 0) (.c 1)) (
 .leaf (.done 0 [u3,u5,u7,u2,u4,u6,u8,u9,u10,u11,u17,(.sel fQ 1),(.sel fQ 2),(.sel (.app 50 LM) 1),(.sel (.app 50 LM) 2),(.sel MZ 1),VP,(.sel MZ 3),(.sel MZ 4),(.sel MZ 5)])) x8) x8) x8
def t52:List (Tr Plf):=[jP]
def nC:Tr Plf:=
 .split u1 x91 gn
def t53:List (Tr Plf):=[nC]
def ki:Tr Plf:=
 .split u1 x91 gn
def t54:List (Tr Plf):=[ki]
def pU:Tr Plf:=
 .split u1 x91 gn
def t55:List (Tr Plf):=[pU]
def hZ:Tr Plf:=
 .split (.eql (.sel e6 0) (.c 1)) (
 .split (.eql (.sel dU 0) (.c 1)) (
 .split (.eql (.sel fO 0) (.c 1)) (
 .leaf (.done 0 [u2,(.nilIs (.sel e6 1) (.sel e6 2)),(.nilIs (.sel dU 1) (.sel dU 2)),(.nilIs (.sel fO 1) (.sel fO 2))])) x8) x8) x8
def t56:List (Tr Plf):=[hZ]
def ri:Tr Plf:=
 .leaf x31
def tL:Tr Plf:=
 .split x32 x35 x36
def t57:List (Tr Plf):=[ri,tL]
def mz:Tr Plf:=
 .leaf x31
def qb:Tr Plf:=
 .split x32 x35 x36
def t58:List (Tr Plf):=[mz,qb]
def rY:Tr Plf:=
 .split fZ (
 .split VA (
 .split (.eql (.sel (.app 10 UF) 0) (.c 1)) (
 .split ba (
 .split dZ gC (
 .leaf (.next 1 [u0,u1,u2,u3,u4,u5,u6,u7,u8,u9,VA,(.neg VA),(.neg VA),ba,(.neg ba),(.neg ba),dZ,(.c 0),.emptyL]))) x99) x8) x99) x8
def jA:Tr Plf:=
 .split (.lss u17 Q7) (
 .split (.lss u17 (.c 0)) x8 (
 .split (.eql (.sel qa 0) (.c 1)) (
 .split (.lss (.sel qa 1) (.c 0)) fI (
 .split (.eql (.sel qZ 0) (.c 1)) (
 .split (.lss (.sel qZ 1) (.c 0)) fI (
 .split (.lss eL (.c 0)) (
 .leaf (.next 1 [u0,u1,u2,u3,u4,u5,u6,u7,u8,u9,u10,u11,u12,u13,u14,u15,u16,sE,(.snoc u18 (rl [dO,(.bc true)]))])) (
 .split (.cell u18 eL 1) fI (
 .leaf (.next 1 [u0,u1,u2,u3,u4,u5,u6,u7,u8,u9,u10,u11,u12,u13,u14,u15,u16,sE,(.upd u18 eL 1 (.bc true))]))))) x8)) x8)) (
 .split (.lss (.c 4) XW) kg (
 .leaf (.next 2 [u0,u1,u2,u3,u4,u5,u6,u7,u8,u9,u10,u11,u12,u13,u14,u15,u16,u17,(.lss u17 Q7),(.lss (.c 4) XW),(.c 0),.emptyL])))
def tJ:Tr Plf:=
 .split (.lss u20 XW) (
 .split (.lss u20 (.c 0)) x8 (
 .split (.eql (.sel j6 0) (.c 1)) (
 .split (.lss (.sel j6 1) (.c 0)) OW (
 .split (.eqS na 0 0) oB (
 .split (.eql (.sel oM 0) (.c 1)) (
 .split (.lss (.sel oM 1) (.c 0)) OW oB) x8))) x8)) x83
def t59:List (Tr Plf):=[rY,jA,tJ]
def hJ:Tr Plf:=
 .leaf (.next 1 [u2,u3,(.c 0),u0,u1])
def kR:Tr Plf:=
 .split x24 (
 .split x23 x8 (
 .split (.lss x2 x87) (
 .leaf (.next 1 [u0,u1,x28,(.snoc u3 (rl [pV])),(.bc false)])) x8)) R5
def t60:List (Tr Plf):=[hJ,kR]
def mu:Tr Plf:=
 .split sT (
 .split (.eql (.sel fq 0) (.c 1)) (
 .leaf (.done 0 [(.sel fq 1),(.sel fq 2)])) x8) x8
def t61:List (Tr Plf):=[mu]
def tq:Tr Plf:=
 .split (.eql (.sel (.app 61 LM) 0) (.c 1)) (
 .leaf (.done 0 [u12,(.nilIs (.sel (.app 61 LM) 1) (.sel (.app 61 LM) 2))])) x8
def t62:List (Tr Plf):=[tq]
def pY:Tr Plf:=
 .split (.eql (.sel Z4 0) (.c 1)) (
 .split (.lss (.sel Z4 1) (.c 0)) mV (
 .split (.eql x15 x3) (
 .leaf (.next 1 [u5,(.c 0),u0,u1,u2,u3,u4,(.sel Z4 1)])) mV)) x8
def oI:Tr Plf:=
 .split x32 (
 .split x7 x8 (
 .split (.lss x33 (.c 0)) sC (
 .split x6 (
 .split (.lss x9 x33) sC (
 .leaf (.next 1 ([u0,x12] ++ us 2 6)))) x8))) (
 .split (.lss x21 (.c 4)) (
 .split (.eql x21 (.c 0)) (
 .leaf (.done 0 [u7,(.c 0),(.c 0),(.c 0),(.c 0),(.bc true)])) (
 .split (.eql x21 (.c 1)) (
 .leaf (.done 0 [u7,aP,(.c 0),(.c 0),(.c 0),(.bc true)])) (
 .split (.eql x21 (.c 2)) (
 .leaf (.done 0 [u7,aP,fb,(.c 0),(.c 0),(.bc true)])) (
 .split (.eql x21 (.c 3)) (
 .leaf (.done 0 [u7,aP,fb,(.cell u0 (.c 2) 0),(.c 0),(.bc true)])) x8)))) (
 .leaf (.done 0 [u7,aP,fb,(.cell u0 (.c 2) 0),(.cell u0 (.c 3) 0),(.bc true)])))
def t63:List (Tr Plf):=[pY,oI]
def qi:Tr Plf:=
 .leaf x49
def tP:Tr Plf:=
 .split x32 (
 .split x7 x8 (
 .split eG x8 (
 .split (.lss u6 x2) (
 .split (.eqSS x33 (.cell u3 u6 0)) x34 x52) x8))) x36
def t64:List (Tr Plf):=[qi,tP]
def il:Tr Plf:=
 .split (.eql (.sel aB 0) (.c 1)) (
 .split (.lss (.sel aB 1) (.c 0)) (
 .leaf (.done 0 [(.c 0),(.c 0),(.c 0),(.c 0),(.c 0),(.c 9)])) (
 .split (.lss (.sel aB 1) Q7) (
 .split (.eql (.sel qj 0) (.c 1)) (
 .leaf (.next 1 [u9,(.c 0),u0,u1,u2,u3,u4,u5,u6,u7,u10,u11,u12,u13,u14,(.sel qj 1),(.c 0),(.c 0),(.c 0),(.c 0)])) x8) x8)) x8
def om:Tr Plf:=
 .split x32 (
 .split x7 x8 (
 .split (.eql (.sel qK 0) (.c 1)) (
 .split (.eql (.sel qQ 0) (.c 1)) (
 .split (.lss WA (.c 0)) (
 .split (.lss x51 (.c 0)) Nb (
 .split VS x8 (
 .split Wy (
 .split (.lss Yc x51) Nb (
 .split V6 (
 .leaf (.next 1 ([u0,x12] ++ us 2 14 ++ [x51,u17,u18,u19]))) (
 .split Wj (
 .leaf (.next 1 ([u0,x12] ++ us 2 15 ++ [x51,u18,u19]))) (
 .split Xi (
 .leaf (.next 1 ([u0,x12] ++ us 2 16 ++ [x51,u19]))) (
 .split Yx (
 .leaf (.next 1 ([u0,x12] ++ us 2 17 ++ [x51]))) x8))))) x8))) (
 .split (.eql WA (.c 0)) (
 .split (.lss Vr (.c 0)) Nb (
 .split VS x8 (
 .split Wy (
 .split (.lss Yc Vr) Nb (
 .split V6 (
 .leaf (.next 1 ([u0,x12] ++ us 2 14 ++ [Vr,u17,u18,u19]))) (
 .split Wj (
 .leaf (.next 1 ([u0,x12] ++ us 2 15 ++ [Vr,u18,u19]))) (
 .split Xi (
 .leaf (.next 1 ([u0,x12] ++ us 2 16 ++ [Vr,u19]))) (
 .split Yx (
 .leaf (.next 1 ([u0,x12] ++ us 2 17 ++ [Vr]))) x8))))) x8))) (
 .split (.eql WA (.c 1)) (
 .split (.lss UK (.c 0)) Nb (
 .split VS x8 (
 .split Wy (
 .split (.lss Yc UK) Nb (
 .split V6 (
 .leaf (.next 1 ([u0,x12] ++ us 2 14 ++ [UK,u17,u18,u19]))) (
 .split Wj (
 .leaf (.next 1 ([u0,x12] ++ us 2 15 ++ [UK,u18,u19]))) (
 .split Xi (
 .leaf (.next 1 ([u0,x12] ++ us 2 16 ++ [UK,u19]))) (
 .split Yx (
 .leaf (.next 1 ([u0,x12] ++ us 2 17 ++ [UK]))) x8))))) x8))) (
 .split (.eql WA (.c 2)) (
 .split (.lss UH (.c 0)) Nb (
 .split VS x8 (
 .split Wy (
 .split (.lss Yc UH) Nb (
 .split V6 (
 .leaf (.next 1 ([u0,x12] ++ us 2 14 ++ [UH,u17,u18,u19]))) (
 .split Wj (
 .leaf (.next 1 ([u0,x12] ++ us 2 15 ++ [UH,u18,u19]))) (
 .split Xi (
 .leaf (.next 1 ([u0,x12] ++ us 2 16 ++ [UH,u19]))) (
 .split Yx (
 .leaf (.next 1 ([u0,x12] ++ us 2 17 ++ [UH]))) x8))))) x8))) (
 .split (.eql WA (.c 3)) (
 .split (.lss Vc (.c 0)) Nb (
 .split VS x8 (
 .split Wy (
 .split (.lss Yc Vc) Nb (
 .split V6 (
 .leaf (.next 1 ([u0,x12] ++ us 2 14 ++ [Vc,u17,u18,u19]))) (
 .split Wj (
 .leaf (.next 1 ([u0,x12] ++ us 2 15 ++ [Vc,u18,u19]))) (
 .split Xi (
 .leaf (.next 1 ([u0,x12] ++ us 2 16 ++ [Vc,u19]))) (
 .split Yx (
 .leaf (.next 1 ([u0,x12] ++ us 2 17 ++ [Vc]))) x8))))) x8))) x8))))) x8) x8)) (
 .leaf (.done 0 (us 15 5 ++ [(.c 0)])))
def t65:List (Tr Plf):=[il,om]
def pK:Tr Plf:=
 .split Ox x8 (
 .split (.lss u0 UW) (
 .split dq (
 .leaf (.done 0 [Rq,.emptyL])) (
 .split (.eql Jk (.c 1)) (
 .leaf (.done 0 [Rq,eQ])) (
 .split (.eql Jk (.c 2)) (
 .leaf (.done 0 [Rq,dB])) (
 .split (.eql Jk (.c 3)) (
 .leaf (.done 0 [Rq,aj])) (
 .split (.eql Jk (.c 4)) (
 .leaf (.done 0 [Rq,(.snoc aj W6)])) x8))))) x8)
def t66:List (Tr Plf):=[pK]
def io:Tr Plf:=
 .split (.eql (.sel dy 0) (.c 1)) (
 .split (.eql (.sel dy 2) (.c 0)) (
 .split (.eql (.sel SX 0) (.c 1)) (
 .split (.sel SX 6) (
 .split (.eql (.sel QI 0) (.c 1)) (
 .split (.eql (.sel QI 6) (.c 0)) (
 .split (.eql (.sel fa 0) (.c 1)) (
 .leaf (.done 0 [(.sel fa 1),(.sel fa 2),(.c 0)])) x8) (
 .leaf (.done 0 [(.strc 0 0),.nilL,(.sel QI 6)]))) x8) (
 .leaf (.done 0 [(.strc 0 0),.nilL,(.c 492)]))) x8) (
 .leaf (.done 0 [(.strc 0 0),.nilL,(.sel dy 2)]))) x8
def t67:List (Tr Plf):=[io]
def kX:Tr Plf:=
 .split (.eql x3 x21) (
 .leaf nb) (
 .leaf (.done 0 [(.c 2),u0]))
def sr:Tr Plf:=
 .split x32 (
 .split x7 x8 (
 .split (.lss x33 (.c 0)) kV (
 .split (.lss u1 x3) (
 .split (.lss (.cell u2 u1 1) x33) kV jY) x8))) (
 .leaf (.next 2 [u0,x21,(.c 0),u2,u3]))
def iQ:Tr Plf:=
 .split x22 (
 .split x23 x8 (
 .split x24 (
 .split (.lss u2 x2) (
 .leaf (.next 2 [u0,u1,x28,(.upd u3 u2 2 x25),u4])) x8) x8)) (
 .leaf (.done 0 [(.c 0),u3]))
def t68:List (Tr Plf):=[kX,sr,iQ]
def n5:Tr Plf:=
 .split (.eql (.sel ff 0) (.c 1)) (
 .split dq (
 .split (.eql (.sel pJ 0) (.c 1)) (
 .leaf (.done 0 [(.lenL M6),M9,(.sel pJ 2)])) x8) (
 .split (.eql Jk (.c 1)) (
 .split (.eql (.sel ny 0) (.c 1)) (
 .leaf (.done 0 [(.lenL M6),M9,(.sel ny 2)])) x8) (
 .split (.eql Jk (.c 2)) (
 .split (.eql (.sel mP 0) (.c 1)) (
 .leaf (.done 0 [(.lenL M6),M9,(.sel mP 2)])) x8) (
 .split (.eql Jk (.c 3)) (
 .split (.eql (.sel nW 0) (.c 1)) (
 .leaf (.done 0 [(.lenL M6),M9,(.sel nW 2)])) x8) (
 .split (.eql Jk (.c 4)) (
 .split (.eql (.sel gG 0) (.c 1)) (
 .leaf (.done 0 [(.lenL M6),M9,(.sel gG 2)])) x8) x8))))) x8
def t69:List (Tr Plf):=[n5]
def qG:Tr Plf:=
 .split jV (
 .leaf (.next 1 [.nilL,(.bc true),u8,(.c 0),u0,u1,u2,u3,u4,u5,u6,u7,(.sel Nh 1),(.sel Nh 2),(.sel Nh 3)])) x8
def kS:Tr Plf:=
 .split (.lss u3 x3) (
 .split ZS x8 (
 .split (.eql V1 u12) (
 .split (.eql (.sel iq 0) (.c 1)) (
 .split (.sel iq 1) (
 .split x94 x8 (
 .split (.lss u4 Vx) (
 .split (.eqSS rA (.cell u10 u4 0)) (
 .split x96 (
 .leaf (.next 1 [(.snoc u0 x77),(.bc false),u2,Ra,u4,u5,u6,u7,u8,u9,u10,u11,V1,u13,u14])) x8) ot) x8)) ot) x8) x8)) x98
def t70:List (Tr Plf):=[qG,kS]
def rS:Tr Plf:=
 .split fZ (
 .split VA (
 .split mN (
 .split (.sel KN 6) (
 .split (.eql (.sel di 0) (.c 1)) (
 .leaf (.done 0 [(.sel di 1),(.sel di 2),(.c 0)])) x8) (
 .leaf (.done 0 [.nilL,(.bc true),(.c 492)]))) x8) (
 .leaf (.done 0 [.nilL,(.bc true),(.c 2)]))) x8
def t71:List (Tr Plf):=[rS]
def nO:Tr Plf:=
 .leaf (.next 1 [u0,u1,u2,(.c 0)])
def jq:Tr Plf:=
 .split eI (
 .split ZS x8 (
 .split (.eql u2 eC) (
 .leaf (.done 0 [u3])) (
 .leaf (.next 1 [u0,u1,u2,Ra])))) x36
def t72:List (Tr Plf):=[nO,jq]
def rN:Tr Plf:=
 .split jV (
 .split (.lss u9 (.c 0)) x8 (
 .split (.lss u9 Q7) (
 .split (.eql (.lenL (.sel Nh 3)) (.sel Nh 1)) (
 .split (.eql (.sel gc 0) (.c 1)) (
 .split (.eql (.sel s9 0) (.c 1)) (
 .split (.eql (.lenL (.sel gc 2)) (.lenL (.sel Nh 3))) (
 .split (.eql (.sel sg 0) (.c 1)) (
 .split (.lss (.lenL M0) (.c 4)) (
 .split (.eql (.lenL M0) (.c 0)) (
 .leaf (.done 0 [Xr,(.c 0),(.c 0),(.c 0),(.c 0)])) (
 .split (.eql (.lenL M0) (.c 1)) (
 .leaf (.done 0 [Xr,ZX,(.c 0),(.c 0),(.c 0)])) (
 .split (.eql (.lenL M0) (.c 2)) (
 .leaf (.done 0 [Xr,ZX,ft,(.c 0),(.c 0)])) (
 .split (.eql (.lenL M0) (.c 3)) (
 .leaf (.done 0 [Xr,ZX,ft,(.cell M0 (.c 2) 0),(.c 0)])) x8)))) (
 .leaf (.done 0 [Xr,ZX,ft,(.cell M0 (.c 2) 0),(.cell M0 (.c 3) 0)]))) x8) x8) x8) x8) x8) x8)) x8
def t73:List (Tr Plf):=[rN]
def tQ:Tr Plf:=
 .split (.eql (.sel XM 0) (.c 1)) (
 .split (.eql (.sel XM 3) (.c 0)) (
 .split (.eql (.sel jn 0) (.c 1)) (
 .split (.lss (.sel jn 1) (.c 0)) (
 .leaf (.done 0 [(.strc 0 0),.nilL,(.c 8)])) (
 .split mN (
 .split (.eql (.sel Vy 0) (.c 1)) (
 .split (.eql (.sel ek 0) (.c 1)) (
 .leaf (.done 0 [(.sel ek 1),(.sel ek 2),(.c 0)])) x8) x8) x8)) x8) (
 .leaf (.done 0 [(.strc 0 0),.nilL,(.sel XM 3)]))) x8
def t74:List (Tr Plf):=[tQ]
def tD:Tr Plf:=
 .split (.eql x21 x0) (
 .leaf (.next 1 [u0,u1,(.c 0)])) x1
def kY:Tr Plf:=
 .split x24 (
 .split x23 x8 (
 .split (.lss u2 x0) (
 .split jc x29 x1) x8)) x30
def t75:List (Tr Plf):=[tD,kY]
def qU:Tr Plf:=
 .leaf mf
def sO:Tr Plf:=
 .split x24 (
 .split x23 x8 (
 .split (.eqSS x25 u3) (
 .split (.eql (.sel kU 0) (.c 1)) (
 .split (.sel kU 1) x40 dJ) x8) dJ)) x36
def t76:List (Tr Plf):=[qU,sO]
def lP:Tr Plf:=
 .split (.eql (.sel (.app 76 KO) 0) (.c 1)) (
 .leaf (.done 0 [(.neg (.lss (.sel (.app 76 KO) 1) (.c 0)))])) x8
def t77:List (Tr Plf):=[lP]
def ng:Tr Plf:=
 .split (.eql (.sel M7 0) (.c 1)) (
 .split (.eql (.sel Oo 0) (.c 1)) (
 .split (.eql (.sel e9 0) (.c 1)) (
 .split (.eql (.sel e9 2) (.c 0)) (
 .split (.eql (.sel (.app 62 YW) 0) (.c 1)) (
 .leaf (.next 1 [(.snoc .emptyL (rl [(.sel (.app 62 YW) 1),(.sel (.app 62 YW) 2),.nilL])),(.bc false),(.c (-1)),(.c 0),u2,x2,u4,x15,u6,Jk,u8,u9,u10,u11,u17,u18,u19,u0,u1,(.sel M7 1),(.sel M7 2),(.sel M7 3),u12,u14,u15,u16,u13,u20,u21,u22,u23,u24,u25,(.sel Oo 1),(.sel Oo 2),(.sel Oo 3),(.sel Oo 4)])) x8) (
 .leaf (.done 0 [(.sel e9 2),(.sel M7 1),(.sel M7 2),(.sel M7 3)]))) x8) x8) x8
def rv:Tr Plf:=
 .split eI (
 .split ZS x8 (
 .split (.eql (.sel sF 0) (.c 1)) (
 .split (.eql (.sel sF 3) (.c 0)) (
 .split x23 (
 .split mL (
 .leaf (.next 2 [u0,u1,u3,u3,(.sel Ss 1),(.sel Ss 2),(.lenL (.sel Ss 1)),(.c 0),u4,u5,u6,u7,u8,u9,u10,u11,u12,u13,u14,u15,u16,u17,u18,u19,u20,u21,u22,u23,u24,u25,u26,u27,u28,u29,u30,u31,u32,u33,u34,u35,u36])) x8) oi) oi) x8)) (
 .split eo (
 .leaf (.done 0 [(.c 7),u19,u20,u21])) (
 .split x23 (
 .leaf (.done 0 [(.c 9),u19,u20,u21])) (
 .split x24 (
 .leaf (.done 1 [pV,u19,u20,u21])) x8)))
def tg:Tr Plf:=
 .split (.lss u7 u6) (
 .split (.lss u7 (.c 0)) x8 (
 .split (.lss u7 x5) (
 .split ZS x8 (
 .split eI (
 .split (.eql (.sel eN 0) (.c 1)) (
 .split (.eql (.sel pL 0) (.c 1)) (
 .split (.sel pL 1) (
 .split eo cX (
 .leaf (.next 2 (us 0 7 ++ [WU] ++ us 8 33)))) (
 .split (.isNil Yi) (
 .split x96 (
 .split (.lss (.c 2000) (.lenL rF)) cX (
 .leaf (.next 2 ([rF,(.bc false)] ++ us 2 5 ++ [WU] ++ us 8 33)))) x8) (
 .split (.lss (.lenL Yi) (.c 1048576)) (
 .split (.lss (.lenL (.cat .emptyL Yi)) x87) (
 .split x96 (
 .split (.lss (.c 2000) (.lenL (.snoc u0 (rl [ZJ,Z3,(.nilIs kj (.and (.and (.bc false) (.eql (.lenL Yi) (.c 0))) (.eql (.c 1) (.c 0))))])))) cX (
 .leaf (.next 2 [(.snoc u0 (rl [ZJ,Z3,(.nilIs kj (.bc false))])),(.bc false),u2,u3,u4,u5,u6,WU,u8,u9,u10,u11,u12,u13,u14,u15,u16,u17,u18,u19,u20,u21,u22,u23,u24,u25,u26,u27,u28,u29,u30,u31,u32,u33,u34,u35,u36,u37,u38,u39,u40]))) x8) x8) x8))) x8) x8) x8)) x8)) (
 .leaf (.next 1 ([u0,u1,u2,Ra] ++ us 8 33)))
def t78:List (Tr Plf):=[ng,rv,tg]
def sY:Tr Plf:=
 .split (.lss Jk (.c 1048576)) (
 .leaf (.done 0 [u4,(.nilIs (.cat .nilL u7) dq)])) x8
def t79:List (Tr Plf):=[sY]
def oe:Tr Plf:=
 .leaf Wg
def rM:Tr Plf:=
 .split x13 sS x36
def t80:List (Tr Plf):=[oe,rM]
def iB:Tr Plf:=
 .leaf Wg
def rK:Tr Plf:=
 .split x6 oS x36
def t81:List (Tr Plf):=[iB,rK]
def tE:Tr Plf:=
 .split rx (
 .split nR (
 .split (.eql (.sel (.app 28 UF) 0) (.c 1)) (
 .split (.eql (.sel (.app 28 UF) 2) (.c 0)) (
 .split dZ gC (
 .leaf (.next 1 ([(.c 0)] ++ us 0 10)))) x99) x8) x99) x8
def sJ:Tr Plf:=
 .split (.lss u0 XW) (
 .split Ox x8 (
 .split (.eql (.sel iE 0) (.c 1)) (
 .split (.lss (.sel iE 1) (.c 0)) (
 .leaf (.next 2 ([u0,(.bc true),(.c 0)] ++ us 1 10))) (
 .split (.eql (.sel kE 0) (.c 1)) (
 .leaf (.next 2 [u0,(.lss (.sel kE 1) (.c 0)),(.c 0),u1,u2,u3,u4,u5,u6,u7,u8,u9,u10])) x8)) x8)) (
 .split (.lss (.c 4) Vx) kg (
 .leaf (.next 3 ([(.c 0)] ++ us 1 10))))
def iZ:Tr Plf:=
 .split x39 (
 .split u1 (
 .leaf (.next 2 ([u0,(.bc true),x28] ++ us 3 10))) (
 .split x23 x8 (
 .split (.lss u2 (.lenL u11)) (
 .split Ox x8 (
 .split (.lss u0 (.lenL u11)) (
 .leaf (.next 2 [u0,(.eqSS (.cell u11 u2 0) (.cell u11 u0 0)),x28,u3,u4,u5,u6,u7,u8,u9,u10,u11,u12])) x8)) x8))) (
 .split u1 (
 .leaf (.done 0 [u0,(.c 490)])) (
 .leaf (.next 1 ([OO] ++ us 3 10))))
def oK:Tr Plf:=
 .split (.lss u0 Vx) (
 .split Ox x8 (
 .split (.eql (.sel mF 0) (.c 1)) (
 .split (.lss (.sel mF 1) (.c 0)) gq (
 .split (.eqS Yk 0 0) rU (
 .split (.eql (.sel oo 0) (.c 1)) (
 .split (.lss (.sel oo 1) (.c 0)) gq rU) x8))) x8)) x83
def ip:Tr Plf:=
 .split x39 (
 .split u1 (
 .leaf (.next 4 ([u0,(.bc true),x28] ++ us 3 13))) (
 .split x23 x8 (
 .split (.lss u2 (.lenL u12)) (
 .leaf (.next 4 [u0,(.eqSS (.cell u12 u2 0) u13),x28,u3,u4,u5,u6,u7,u8,u9,u10,u11,u12,u13,u14,u15])) x8))) (
 .split u1 (
 .leaf (.done 0 [u0,(.c 491)])) (
 .leaf (.next 3 ([OO] ++ us 3 10))))
def t82:List (Tr Plf):=[tE,sJ,iZ,oK,ip]
def gO:Tr Plf:=
 .leaf (.next 1 ([.nilL,(.bc true),(.c 0)] ++ us 0 6))
def iC:Tr Plf:=
 .split W4 (
 .split x23 x8 (
 .split (.eql (.sel aq 0) (.c 1)) (
 .split (.eqSS R0 u7) (
 .split (.lss (.sel aq 1) (.c 0)) hP (
 .split (.lss (.sel aq 1) Q7) (
 .split (.lss oZ i4) dc (
 .split (.lss nq oZ) dc hP)) x8)) dc) x8)) x98
def t83:List (Tr Plf):=[gO,iC]
def oP:Tr Plf:=
 .split eG x8 (
 .split (.lss u6 x2) (
 .split (.lss x15 (.c 1048576)) (
 .split (.eql (.sel nZ 0) (.c 1)) (
 .split (.lss ZZ (.c 0)) (
 .leaf (.done 0 [qg,(.nilIs ZL (.eql x15 (.c 0)))])) (
 .split (.lss ZZ (.lenL ZL)) (
 .leaf (.done 0 [qg,(.nilIs (.upd ZL ZZ 0 (.arith .add .i64 (.cell ZL ZZ 0) (.cell u3 u6 8))) (.eql x15 (.c 0)))])) x8)) x8) x8) x8)
def t84:List (Tr Plf):=[oP]
def mg:Tr Plf:=
 .split (.eqSS u0 u2) (
 .split (.eql x0 x2) pM x1) x1
def qV:Tr Plf:=
 .split dS (
 .split Ox x8 (
 .split (.lss u0 x5) (
 .split (.eql Ve (.cell u4 u0 0)) gD x1) x8)) x30
def t85:List (Tr Plf):=[mg,qV]
def iX:Tr Plf:=
 .leaf mf
def iu:Tr Plf:=
 .split x24 (
 .split x23 x8 (
 .split (.eql (.sel mU 0) (.c 1)) (
 .split (.sel mU 1) x30 dJ) x8)) x1
def t86:List (Tr Plf):=[iX,iu]
def qR:Tr Plf:=
 .leaf (.next 1 [(.snoc .emptyL Xe),(.bc false),(.snoc .emptyL (rl [.nilL])),(.bc false),(.c 0),u0,u1,u2,u3])
def pd:Tr Plf:=
 .split dz (
 .split x94 x8 (
 .split (.eql (.sel gk 0) (.c 1)) (
 .leaf (.next 2 [u0,u1,u2,u3,u4,(.sel gk 1),(.sel gk 2),(.c 0),u5,u6,u7,u8])) x8)) (
 .leaf (.done 0 [u0,u1,u2,u3,(.bc true)]))
def pw:Tr Plf:=
 .split (.lss u7 x15) (
 .split x94 x8 (
 .split dz (
 .split (.lss u7 (.c 0)) x8 (
 .split (.eql (.sel dI 0) (.c 1)) (
 .split (.eql (.sel me 0) (.c 1)) (
 .split (.sel me 1) (
 .split eo iH (
 .leaf (.next 2 (us 0 7 ++ [WU,u8,u9,u10,u11])))) (
 .split x96 (
 .split x93 (
 .split (.lss (.lenL x95) (.c 1048576)) (
 .split (.lss (.lenL (.cat .nilL x95)) x87) (
 .split (.lss x3 x87) (
 .split (.lss (.c 2000) (.lenL (.snoc u0 cV))) iH (
 .leaf (.next 2 [(.snoc u0 cV),(.bc false),(.snoc u2 (rl [(.nilIs (.snoc (.cat .nilL x95) qM) (.bc false))])),(.bc false),u4,u5,u6,WU,u8,u9,u10,u11]))) x8) x8) x8) x8) x8)) x8) x8)) x8)) (
 .leaf (.next 1 [u0,u1,u2,u3,x97,u8,u9,u10,u11]))
def t87:List (Tr Plf):=[qR,pd,pw]
def re:Tr Plf:=
 .split (.eql (.sel (.app 80 V3) 0) (.c 1)) (
 .split (.lss (.sel (.app 80 V3) 1) (.c 0)) x1 (
 .split (.eql x15 x3) (
 .leaf (.next 1 ([(.c 0)] ++ us 0 6))) x1)) x8
def sL:Tr Plf:=
 .split (.lss u0 UW) (
 .split Ox x8 (
 .split (.lss Rq (.c 0)) x1 (
 .split dC (
 .split (.lss UT Rq) x1 (
 .leaf (.next 1 ([OO] ++ us 1 6)))) x8))) x30
def t88:List (Tr Plf):=[re,sL]
def mj:Tr Plf:=
 .split (.lss x3 (.c 1048577)) (
 .leaf (.next 1 [(.bc false),(.c 0),u0,u1,u2,u3,u4,u5,u6,u7,u8,u9,u10,u11,(.strc 0 0),(.rep x3 x88)])) x8
def ku:Tr Plf:=
 .split (.lss u1 Vx) (
 .split x7 x8 (
 .split (.eqSS (.cell u10 u1 0) u12) (
 .leaf (.next 1 [(.bc true),x12,u2,u3,u4,u5,u6,u7,u8,u9,u10,u11,u12,u13,(.cell u10 u1 1),u15])) (
 .leaf (.next 1 ([u0,x12] ++ us 2 14))))) (
 .split u0 (
 .leaf (.next 2 ([(.c 0)] ++ us 2 14))) (
 .leaf (.done 0 [(.strc 0 0),.nilL,(.c 9)])))
def tN:Tr Plf:=
 .split (.lss u0 Vx) (
 .split Ox x8 (
 .split (.eql (.sel Zy 0) (.c 1)) (
 .split (.lss (.sel Zy 1) (.c 0)) (
 .split j4 (
 .split (.lss UR (.c 0)) x8 (
 .split (.lss UR V1) (
 .leaf (.next 2 [OO,u1,u2,u3,u4,u5,u6,u7,u8,u9,u10,u11,u12,u13,(.upd u14 UR 0 Vo)])) x8)) x8) (
 .split (.lss (.sel Zy 1) (.lenL u12)) (
 .split j4 (
 .split (.lss UR (.c 0)) x8 (
 .split (.lss UR V1) (
 .leaf (.next 2 [OO,u1,u2,u3,u4,u5,u6,u7,u8,u9,u10,u11,u12,u13,(.upd u14 UR 0 (.arith .add .i64 Vo (.cell u12 (.sel Zy 1) 0)))])) x8)) x8) x8)) x8)) (
 .split (.eql (.sel i7 0) (.c 1)) (
 .split (.sel i7 1) (
 .leaf (.done 0 [u13,j9,(.c 0)])) (
 .leaf (.done 0 [(.strc 0 0),.nilL,(.c 3)]))) x8)
def t89:List (Tr Plf):=[mj,ku,tN]
def pO:Tr Plf:=
 .split (.eql (.sel fB 0) (.c 1)) (
 .split (.eql (.sel fB 2) (.c 0)) (
 .split (.eql (.sel Vg 0) (.c 1)) (
 .split (.sel Vg 5) (
 .leaf (.next 1 [(.sel Vg 1),(.sel Vg 2),(.sel Vg 3),(.sel Vg 4),(.c 0),u0,u1,u2,u3,u6,u7,u8,u9,u10,u11])) (
 .leaf (.done 0 [(.c 7)]))) x8) (
 .leaf (.done 0 [(.sel fB 2)]))) x8
def iW:Tr Plf:=
 .split dz (
 .split x94 x8 (
 .split (.eql (.sel kF 0) (.c 1)) (
 .split (.eql (.sel kF 3) (.c 0)) (
 .split x93 (
 .leaf (.done 1 [x95])) x8) (
 .leaf (.next 1 ([u0,u1,u2,u3,x97] ++ us 5 10)))) x8)) (
 .leaf (.done 0 [(.c 9)]))
def t90:List (Tr Plf):=[pO,iW]
def qm:Tr Plf:=
 .split (.eql (.sel (.app 0 KO) 0) (.c 1)) (
 .split (.sel (.app 0 KO) 1) (
 .split (.eql (.sel (.app 0 UF) 0) (.c 1)) (
 .split (.sel (.app 0 UF) 1) (
 .split (.eql (.sel lA 0) (.c 1)) (
 .split (.sel lA 1) (
 .split (.lss (.c 8) Vx) Se (
 .split (.eql (.sel FQ 0) (.c 1)) (
 .split nN (
 .split (.eql (.c 0) (.sel ME 8)) (
 .split jM (
 .leaf (.next 1 [u10,(.c 0),u0,u1,u2,u3,u4,u5,u6,u7,u8,u9,(.sel ME 1),(.sel ME 2),(.sel ME 3),(.sel ME 4),(.sel ME 5),(.c 0),(.sel ME 6),(.sel ME 7),(.c 0),.nilL,(.sel FQ 1),(.sel FQ 2),(.sel FQ 3),(.sel FQ 4),(.sel FQ 5),(.sel FQ 6),(.sel FQ 7),(.sel FQ 8),(.sel FQ 9),(.sel FQ 10),(.bc false),(.sel FQ 11),(.bc true),(.sel FQ 12),(.sel FQ 13),(.c 0),(.sel FQ 14),(.sel FQ 15),(.sel FQ 16),(.sel FQ 17)])) Se) x1) x8) (
 .split (.eql (.sel FQ 0) (.c 2)) (
 .split nN (
 .split (.eql (.sel FQ 1) (.sel ME 8)) (
 .split jM x8 Se) x1) x8) x8))) Se) x8) Se) x8) Se) x8
def gT:Tr Plf:=
 .split x32 (
 .split x7 x8 (
 .split (.eql (.sel IO 0) (.c 1)) (
 .split (.eql (.sel MH 0) (.c 1)) (
 .leaf (.next 1 [u0,x12,u2,u3,u4,u5,u6,u7,u8,u9,u10,u11,(.sel MH 1),(.sel MH 2),(.sel MH 3),(.sel MH 4),(.sel MH 5),(.sel MH 6),(.sel MH 7),(.sel MH 8),(.sel MH 9),(.sel MH 10),u22,u23,u24,u25,u26,u27,u28,(.sel IO 2),(.sel IO 3),(.sel IO 4),(.sel IO 5),(.sel IO 6),(.sel IO 7),(.sel IO 8),(.sel IO 9),(.sel IO 12),(.sel IO 13),(.sel IO 11),(.sel IO 14),(.sel IO 10)])) x8) x8)) (
 .split (.eql (.sel dH 0) (.c 1)) (
 .split kO (
 .split pR (
 .split (.eql UP Vz) (
 .leaf (.next 2 [.nilL,.nilL,(.c 0)])) x1) (
 .split qC (
 .split (.eql UP (.c 0)) (
 .split (.eql (.c 0) (.lenL Vz)) (
 .leaf (.next 2 [.nilL,Vz,(.c 0)])) x1) x1) x8)) x8) (
 .split (.eql (.sel dH 0) (.c 2)) (
 .split kO (
 .split pR (
 .split (.eql (.c 0) Vz) (
 .split (.eql (.lenL UP) (.c 0)) (
 .leaf (.next 2 [UP,.nilL,(.c 0)])) x1) x1) (
 .split qC (
 .split (.eql (.lenL UP) (.lenL Vz)) (
 .leaf (.next 2 [UP,Vz,(.c 0)])) x1) x8)) x8) x8))
def iN:Tr Plf:=
 .split x24 (
 .split x23 x8 (
 .split (.lss u2 x0) (
 .split jc (
 .leaf (.next 2 [u0,u1,x28])) x1) x8)) Se
def t91:List (Tr Plf):=[qm,gT,iN]
def ts:List (List (Tr Plf)):=[t0,t1,t2,t3,t4,t5,t6,t7,t8,t9,t10,t11,t12,t13,t14,t15,t16,t17,t18,t19,t20,t21,t22,t23,t24,t25,t26,t27,t28,t29,t30,t31,t32,t33,t34,t35,t36,t37,t38,t39,t40,t41,t42,t43,t44,t45,t46,t47,t48,t49,t50,t51,t52,t53,t54,t55,t56,t57,t58,t59,t60,t61,t62,t63,t64,t65,t66,t67,t68,t69,t70,t71,t72,t73,t74,t75,t76,t77,t78,t79,t80,t81,t82,t83,t84,t85,t86,t87,t88,t89,t90,t91]
end Us

