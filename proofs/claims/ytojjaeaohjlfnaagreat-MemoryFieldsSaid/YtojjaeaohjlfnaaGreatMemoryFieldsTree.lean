/- What is stated: the trees of tests of the functions that the law MemoryFields reaches, as data. Conditions: none. -/
import Derived.Test.YtojjaeaohjlfnaaGreatBeH
set_option linter.unusedVariables false
set_option linter.unusedSectionVars false
set_option linter.unusedSimpArgs false
namespace Mm
open Go.AE
def u0:SE:=.var 0
def u1:SE:=.var 1
def u2:SE:=.var 2
def u3:SE:=.var 3
def u4:SE:=.var 4
def u5:SE:=.var 5
def u6:SE:=.var 6
def u7:SE:=.var 7
def u8:SE:=.var 8
def u9:SE:=.var 9
def u10:SE:=.var 10
def u11:SE:=.var 11
def u12:SE:=.var 12
def u13:SE:=.var 13
def u14:SE:=.var 14
def u15:SE:=.var 15
def u16:SE:=.var 16
def u17:SE:=.var 17
def u18:SE:=.var 18
def u19:SE:=.var 19
def u20:SE:=.var 20
def u21:SE:=.var 21
def u22:SE:=.var 22
def u23:SE:=.var 23
def x0:SE:=(.lenL u1)
def x1:Tr Plf:=(
 .leaf (.done 0 [(.bc false)]))
def x2:SE:=(.lenS u0)
def x3:SE:=(.lenL u2)
def x4:Tr Plf:=(
 .leaf .stuck)
def x5:SE:=(.cell u2 u0 1)
def x6:SE:=(.cell u2 u0 0)
def x7:Tr Plf:=(
 .leaf (.done 0 [(.bc true)]))
def x8:SE:=(.lss u1 (.c 0))
def x9:SE:=(.arith .add .i64 u1 (.c 1))
def x10:SE:=(.arith .add .i64 u0 (.c 1))
def x11:Plf:=(.next 1 [u0,u1,u2,(.c 0)])
def x12:SE:=(.lenL u0)
def x13:SE:=(.lss u3 x12)
def x14:SE:=(.lss u3 (.c 0))
def x15:SE:=(.cell u0 u3 0)
def x16:SE:=(.arith .add .i64 u3 (.c 1))
def x17:Tr Plf:=(
 .leaf (.next 1 [u0,u1,u2,x16]))
def x18:Tr Plf:=(
 .leaf (.done 0 [(.c (-1))]))
def x19:Plf:=(.next 1 [u0,u1,(.c 0)])
def x20:SE:=(.lss u2 x12)
def x21:SE:=(.lss u2 (.c 0))
def x22:SE:=(.cell u0 u2 0)
def x23:SE:=(.conv .u8 x22)
def x24:Tr Plf:=(
 .leaf (.done 0 [u2]))
def x25:SE:=(.arith .add .i64 u2 (.c 1))
def x26:Tr Plf:=(
 .leaf (.next 1 [u0,u1,x25]))
def x27:SE:=(rl [(.bc false)])
def x28:SE:=(.rcons (.bc false) x27)
def x29:SE:=(.app 1 (.rcons (.c 0) (.rcons (.snoc (.snoc .emptyL (rl [(.neg (.lss x2 (.c 1)))])) (rl [(.neg (.lss (.c 32) x2))])) x28)))
def x30:SE:=(.strAt u0 (.c 0))
def x31:SE:=(.app 2 (.rcons (.c 0) (.rcons (.bytes u0) x27)))
def x32:Tr Plf:=(
 .split (.eql (.sel x31 0) (.c 1)) (
 .leaf (.done 0 [(.lss (.sel x31 1) (.c 0))])) x4)
def x33:Plf:=(.next 1 [u0,(.c 0),u1])
def x34:SE:=(.lss u1 x12)
def x35:SE:=(.cell u0 u1 0)
def x36:Tr Plf:=(
 .leaf (.next 1 [u0,x9,u2]))
def x37:Tr Plf:=(
 .split x8 x4 (
 .split (.eqSS x35 u2) (
 .leaf (.done 0 [u1])) x36))
def x38:SE:=(.cell u1 u3 0)
def x39:SE:=(.eql (.cell u0 u3 1) (.cell u1 u3 1))
def x40:SE:=(.cell u2 u4 0)
def x41:Tr Plf:=(
 .leaf (.done 0 [u8,u9]))
def x42:SE:=(.arith .add .i64 u4 (.c 1))
def x43:Tr Plf:=(
 .leaf (.done 1 []))
def x44:SE:=(rl [x35])
def x45:SE:=(.mIdx [.str] u2 x44)
def x46:SE:=(.lss x45 (.c 0))
def x47:SE:=(.app 3 (.rcons (.c 0) x44))
def x48:SE:=(.cell u0 u1 1)
def x49:SE:=(.snoc .emptyL (rl [(.sel x47 1)]))
def x50:SE:=(rl [(.bc true)])
def x51:SE:=(.app 1 (.rcons (.c 0) (.rcons (.snoc (.snoc x49 x50) x27) x28)))
def x52:SE:=(.snoc u2 (.rcons x35 x50))
def x53:Tr Plf:=(
 .leaf (.next 1 [u0,x9,x52]))
def x54:Tr Plf:=(
 .leaf (.done 0 [u1,x52]))
def x55:SE:=(.app 1 (.rcons (.c 0) (.rcons (.snoc (.snoc x49 (rl [(.neg (.eql x48 (.c 0)))])) (rl [(.neg (.lss (.c 1048576) x48))])) x28)))
def x56:SE:=(.upd u2 x45 1 (.bc true))
def x57:Tr Plf:=(
 .leaf (.done 0 [u1,x56]))
def x58:Tr Plf:=(
 .leaf (.next 1 [u0,x9,x56]))
def x59:SE:=(.cell u0 u1 5)
def x60:SE:=(.cell u0 u1 6)
def x61:Tr Plf:=(
 .split x46 (
 .leaf (.next 1 [u0,x9,(.snoc u2 (rl [x35,x59,x60]))])) (
 .leaf (.next 1 [u0,x9,(.upd (.upd u2 x45 1 x59) x45 2 x60)])))
def x62:SE:=(.mIdx [.str] u4 (rl [x22]))
def x63:Tr Plf:=(
 .leaf (.next 1 [u0,u1,x25,u3,u4,u5,u6]))
def x64:SE:=(.c 34359738368)
def x65:SE:=(.app 1 (.rcons (.c 0) (.rcons (.snoc (.snoc (.snoc .emptyL (rl [(.neg (.lss (.cell u4 x62 1) (.c 0)))])) (rl [(.neg (.lss (.cell u4 x62 2) (.cell u4 x62 1)))])) (rl [(.lss (.cell u4 x62 2) x64)])) x28)))
def x66:SE:=(.lss u2 x0)
def x67:SE:=(.cell u1 u2 0)
def x68:SE:=(.mIdx [.str] u3 (rl [x67]))
def x69:SE:=(.cell u1 u2 1)
def x70:SE:=(.lss (.c 0) x69)
def x71:Tr Plf:=(
 .leaf (.next 1 [(.arith .add .i64 u0 (.arith .mul .i64 x69 (.c 0))),u1,x25,u3,u4]))
def x72:Tr Plf:=(
 .leaf (.next 1 [(.arith .add .i64 u0 (.arith .mul .i64 x69 (.cell u3 x68 1))),u1,x25,u3,u4]))
def x73:Tr Plf:=(
 .leaf (.next 1 [(.arith .add .i64 u0 (.arith .mul .i64 x69 (.cell u3 x68 2))),u1,x25,u3,u4]))
def x74:Tr Plf:=(
 .leaf (.done 0 [u0]))
def x75:Tr Plf:=(
 .leaf (.done 0 [u5,u6,(.c 9)]))
def x76:SE:=(.lenL u17)
def x77:SE:=(.app 1 (.rcons (.c 0) (.rcons (.snoc (.snoc .emptyL (rl [(.neg (.lss (.c 1048576) u16))])) (rl [(.neg (.lss (.c 4) x76))])) x28)))
def x78:SE:=(.app 8 (rl [(.c 0),u17,.emptyL]))
def x79:SE:=(.lss u6 (.c 0))
def x80:SE:=(.lss (.lenL u8) u6)
def x81:SE:=(.sub u8 (.c 0) u6)
def x82:SE:=(.app 9 (rl [(.c 0),x81]))
def x83:SE:=(.rcons .nilL x50)
def x84:SE:=(.app 10 (.rcons (.c 0) (.rcons u0 (.rcons u1 (.rcons u2 (.rcons u3 (.rcons u4 (.rcons u5 (.rcons u6 (.rcons u7 (.rcons u8 (.rcons (.sel x82 1) x83))))))))))))
def x85:SE:=(.rcons (.c 0) (.rcons (.bc false) x83))
def x86:SE:=(.app 11 (.rcons (.c 0) (.rcons (.strc 0 0) (.rcons (.sel x82 1) x85))))
def x87:SE:=(.app 12 (.rcons (.c 0) (.rcons u16 (.rcons u17 (.rcons (.sel x82 1) x50)))))
def x88:SE:=(.app 12 (.rcons (.c 0) (.rcons u16 (.rcons u17 (.rcons (.sel x82 1) x27)))))
def x89:Tr Plf:=(
 .split (.eql (.sel x87 0) (.c 1)) (
 .split (.eql (.sel x88 0) (.c 1)) (
 .split (.lss (.sel x87 1) (.c 0)) x75 (
 .split (.lss (.c 1048576) (.sel x88 1)) x75 x43)) x4) x4)
def x90:SE:=(rl [(.cat .emptyL u17),(.and (.bc false) (.eql x76 (.c 0)))])
def x91:SE:=(.sel (.app 10 (.rcons (.c 0) (.rcons u0 (.rcons u1 (.rcons u2 (.rcons u3 (.rcons u4 (.rcons u5 (.rcons u6 (.rcons u7 (.rcons u8 (.rcons (.sel x82 1) x90)))))))))))) 0)
def x92:SE:=(.app 10 (.rcons (.c 0) (.rcons u0 (.rcons u1 (.rcons u2 (.rcons u3 (.rcons u4 (.rcons u5 (.rcons u6 (.rcons u7 (.rcons u8 (.rcons (.sel x82 1) (.rcons (.cat .emptyL u17) x27)))))))))))))
def x93:SE:=(.app 11 (.rcons (.c 0) (.rcons (.strc 0 0) (.rcons (.sel x82 1) (.rcons (.c 0) (.rcons (.bc false) x90))))))
def x94:SE:=(.cell u0 u1 10)
def x95:Tr Plf:=(
 .leaf (.next 1 ([u0,x9]++us 2 15)))
def x96:SE:=(.mIdx [.str] (.sel x82 1) (rl [u19]))
def x97:SE:=(rl (us 9 15))
def x98:SE:=(.app 14 (.rcons (.c 0) (.rcons x81 x97)))
def x99:Tr Plf:=(
 .leaf (.done 0 [u5,u6,(.c 8)]))
def kh:Tr Plf:=(
 .leaf (.done 0 [u5,u6,(.c 3)]))
def YQ:SE:=(.app 7 (.rcons (.c 0) (.rcons u3 (.rcons u4 (.rcons u5 (.rcons u10 (.rcons u11 (.rcons u6 (.rcons u7 (.rcons u8 (.rcons u9 (.rcons u0 (.rcons u13 (.rcons (.snoc (.snoc .emptyL (rl [x67])) (rl [x69])) x27))))))))))))))
def RL:SE:=(.cell u1 u2 2)
def cA:SE:=(rl [u9])
def cG:SE:=(.app 3 (.rcons (.c 0) cA))
def gY:SE:=(.eql (.sel cG 0) (.c 1))
def jA:SE:=(.app 4 (.rcons (.c 0) (.rcons x81 cA)))
def Kx:SE:=(.eqSS u9 u9)
def Pk:SE:=(.eqSS u18 (.strc 0 0))
def ME:SE:=(.eqSS u19 (.strc 0 0))
def ON:SE:=(.eqSS u20 (.strc 0 0))
def MP:SE:=(.eql u10 u10)
def Yt:SE:=(.eql u16 (.c 0))
def Vo:SE:=(.eql u22 (.c 0))
def ai:SE:=(.eql u23 (.c 0))
def YX:SE:=(.neg (.bc false))
def fi:SE:=(.neg (.and (.neg (.and (.bc false) (.bc false))) (.neg (.and YX YX))))
def dF:SE:=(.and u13 (.bc true))
def bb:SE:=(.neg (.and (.neg (.and dF (.bc false))) (.neg (.and (.neg dF) YX))))
def eG:SE:=(.and Yt (.and Vo (.and ai (.and fi bb))))
def iE:SE:=(.app 5 (.rcons (.c 0) (.rcons u17 x83)))
def Ow:SE:=(.eql (.sel iE 0) (.c 1))
def Ox:SE:=(.sel iE 1)
def jQ:SE:=(.app 6 (.rcons (.c 0) (.rcons u21 x83)))
def L7:SE:=(.eql (.sel jQ 0) (.c 1))
def Lb:SE:=(.sel jQ 1)
def LC:Tr Plf:=(
 .leaf (.done 0 [u5,u6,(.c 6)]))
def cy:SE:=(.eql (.arith .rem .i64 u11 (.c 8)) (.c 0))
def gD:SE:=(.arith .sub .i64 (.arith .shl .i64 (.c 1) u11) (.c 1))
def cF:SE:=(.snoc .emptyL (rl [u14]))
def hI:SE:=(.rcons (.snoc cF (rl [u15])) x27)
def YH:SE:=(.app 7 (.rcons (.c 0) (.rcons u0 (.rcons u1 (.rcons u2 (.rcons u3 (.rcons u4 (.rcons u5 (.rcons u6 (.rcons u7 (.rcons u8 (.rcons (.c 0) (.rcons gD hI)))))))))))))
def ii:Tr Plf:=(
 .split (.eql (.sel YH 0) (.c 1)) (
 .leaf (.done 0 [(.sel YH 1),(.sel YH 2),(.c 7)])) (
 .split (.eql (.sel YH 0) (.c 2)) x43 x4))
def CB:Tr Plf:=(
 .leaf (.done 0 [u5,u6,(.c 5)]))
def WP:SE:=(.eql u15 (.c 0))
def YP:SE:=(.app 7 (.rcons (.c 0) (.rcons u0 (.rcons u1 (.rcons u2 (.rcons u3 (.rcons u4 (.rcons u5 (.rcons u6 (.rcons u7 (.rcons u8 (.rcons (.c 0) (.rcons gD (.rcons cF x27))))))))))))))
def fD:Tr Plf:=(
 .split (.eql (.sel YP 0) (.c 1)) (
 .leaf (.done 0 [(.sel YP 1),(.sel YP 2),(.c 7)])) (
 .split (.eql (.sel YP 0) (.c 2)) x43 x4))
def Sf:SE:=(.eql u11 (.c 0))
def f7:SE:=(.and u12 (.bc true))
def cT:SE:=(.neg (.and (.neg (.and f7 (.bc false))) (.neg (.and (.neg f7) YX))))
def ej:SE:=(.and (.bc true) (.and Yt (.and Vo (.and ai (.and cT fi)))))
def Yx:SE:=(.app 7 (.rcons (.c 0) (.rcons u0 (.rcons u1 (.rcons u2 (.rcons u3 (.rcons u4 (.rcons u5 (.rcons u6 (.rcons u7 (.rcons u8 (.rcons (.c 0) (.rcons (.c 34359738367) hI)))))))))))))
def WT:SE:=(.eql u14 (.c 0))
def aZ:SE:=(.and ai (.and cT bb))
def gt:SE:=(.and ME (.and ON (.and MP (.and Sf (.and WT (.and WP (.and (.bc true) (.and Vo aZ))))))))
def je:SE:=(.rcons (.c 0) (.rcons u0 (.rcons u1 (.rcons u2 (.rcons u3 (.rcons u4 (.rcons u5 (.rcons u6 (.rcons u7 (.rcons u8 x97))))))))))
def Vt:SE:=(.app 13 je)
def bl:Tr Plf:=(
 .split (.eql (.sel Vt 0) (.c 1)) (
 .leaf (.done 0 [(.sel Vt 1),(.sel Vt 2),(.sel Vt 3)])) (
 .split (.eql (.sel Vt 0) (.c 2)) x43 x4))
def gj:SE:=(.and Yt (.and Vo aZ))
def Yq:SE:=(.app 7 (.rcons (.c 0) (.rcons u0 (.rcons u1 (.rcons u2 (.rcons u3 (.rcons u4 (.rcons u5 (.rcons u6 (.rcons u7 (.rcons u8 (.rcons (.c 0) (.rcons (.c 255) (.rcons cF x27))))))))))))))
def fI:SE:=(.rcons (.c 1048576) (.rcons (.snoc .emptyL (rl [u15])) x27))
def Zj:SE:=(.app 7 (.rcons (.c 0) (.rcons u0 (.rcons u1 (.rcons u2 (.rcons u3 (.rcons u4 (.rcons u5 (.rcons u6 (.rcons u7 (.rcons u8 (.rcons (.c 0) fI))))))))))))
def XR:SE:=(.app 7 (.rcons (.c 0) (.rcons u0 (.rcons u1 (.rcons u2 (.rcons u3 (.rcons u4 (.rcons u5 (.rcons u6 (.rcons u7 (.rcons u8 (.rcons (.c 2) fI))))))))))))
def XE:SE:=(.eqSS (.strc 0 0) (.strc 0 0))
def iD:SE:=(.lss (.mIdx [.str] u3 (rl [u18])) (.c 0))
def gU:SE:=(.and WT (.and WP gj))
def ka:SE:=(.and ON (.and MP (.and Sf gU)))
def WO:SE:=(.app 15 je)
def Yf:SE:=(.app 7 (.rcons (.c 0) (.rcons u0 (.rcons u1 (.rcons u2 (.rcons u3 (.rcons u4 (.rcons u5 (.rcons u6 (.rcons u7 (.rcons u8 (.rcons (.c 1) (.rcons (.c 3) (.rcons (.snoc .emptyL (rl [u22])) x27))))))))))))))
def fT:SE:=(.app 4 (rl [(.c 0),x81,u20]))
def Ya:SE:=(.app 7 (.rcons (.c 0) (.rcons u0 (.rcons u1 (.rcons u2 (.rcons u3 (.rcons u4 (.rcons u5 (.rcons u6 (.rcons u7 (.rcons u8 (.rcons (.c 0) (.rcons (.c 4294967295) (.rcons (.snoc .emptyL (rl [u23])) x27))))))))))))))
def hZ:SE:=(.mIdx [.str] u4 (rl [u18]))
def UN:SE:=(.c 1073741824)
def eV:SE:=(.cell u0 u1 9)
def cr:Tr Plf:=(
 .split (.lss x3 UN) (
 .leaf (.next 1 [u0,x9,(.snoc u2 (rl [eV])),(.bc false)])) x4)
def aL:SE:=(.cell u0 u1 12)
def aM:SE:=(.lenL u5)
def dM:SE:=(.app 18 (.rcons (.c 0) (.rcons (.sub u0 (.c 0) u1) x44)))
def fP:SE:=(.mIdx [.str] u9 x44)
def ek:SE:=(.mIdx [.str] u10 x44)
def bZ:SE:=(.lss ek (.c 0))
def ja:Tr Plf:=(
 .leaf (.next 1 ([u0,x9]++us 2 9++[(.bc false),(.c 0)])))
def bX:SE:=(.cell u10 ek 1)
def gx:Tr Plf:=(
 .leaf (.next 1 ([u0,x9]++us 2 9++[(.bc false),u12])))
def jX:Tr Plf:=(
 .split u11 (
 .split bZ gx (
 .leaf (.next 1 ([u0,x9]++us 2 9++[bX,u12])))) gx)
def bU:SE:=(.cell u9 fP 1)
def jt:Tr Plf:=(
 .leaf (.next 1 ([u0,x9]++us 2 9++[(.bc false),bU])))
def fN:Tr Plf:=(
 .leaf (.done 0 [u5,(.c (-1)),(.c 3),(.c (-1)),u9,u10,u3,u4]))
def dJ:SE:=(.cell u0 u1 3)
def iG:SE:=(.cell u0 u1 4)
def db:SE:=(.cell u0 u1 11)
def WV:SE:=(.app 16 (rl [(.c 0),u2,u3,u4,u8,u9,u5,u1,u7,u0,x35,x48,(.cell u0 u1 2),dJ,iG,x59,x60,(.cell u0 u1 7),(.cell u0 u1 8),eV,x94,db,aL,(.cell u0 u1 13),(.cell u0 u1 14)]))
def Yv:SE:=(rl [u0])
def gd:SE:=(.app 17 (.rcons (.c 0) (.rcons u7 Yv)))
def YT:SE:=(.app 19 (rl [(.c 0),u2,u3,u4,u8,u9,u5,(.c (-1)),u7,u0,u10,(.c 0),(.sel gd 1)]))
def gq:SE:=(.upd (.snoc u8 (rl [u7,(.c 0)])) (.lenL u8) 1 (.arith .add .i64 (.sel YT 2) (.c 1)))
def bA:SE:=(.lenL u9)
def gB:SE:=(.upd (.snoc u9 (.rcons u7 x27)) bA 1 (.sel YT 1))
def Yh:SE:=(.rcons (.c 0) Yv)
def dw:Tr Plf:=(
 .leaf (.done 0 [(.c 3),u0,u1,u2]))
def Ie:SE:=(.app 20 (rl [(.c 0),u2,u0,u3,u7,u8,u1,(.c (-1)),u5,u6,x35,x48]))
def bC:SE:=(rl [u3])
def bq:SE:=(rl [u2])
def Ok:SE:=(.rcons (.c 0) (.rcons u0 (.rcons u1 bq)))
def Ss:SE:=(.app 21 Ok)
def hJ:SE:=(.arith .add .i64 u0 RL)
def kg:SE:=(.arith .rem .i64 hJ (.c 8))
def en:Tr Plf:=(
 .leaf (.next 1 [kg,u1,x25,u3,u4]))
def fF:SE:=(.arith .rem .i64 (.arith .mul .i64 (.arith .quo .i64 (.arith .sub .i64 hJ (.c 1)) RL) RL) (.c 8))
def bf:SE:=(.app 4 (rl [(.c 0),u0,db]))
def jY:SE:=(.eql (.sel bf 0) (.c 1))
def fg:SE:=(.lss (.sel bf 1) (.c 0))
def Z4:SE:=(.app 23 (.rcons (.c 0) (.rcons (.c 0) Yh)))
def aT:SE:=(.app 23 (.rcons (.c 0) (.rcons (.sel bf 1) Yh)))
def cP:Tr Plf:=(
 .split dJ x7 (
 .split jY (
 .split fg x1 x1) x4))
def iR:SE:=(.app 24 (.rcons (.c 0) (.rcons u9 (.rcons u2 Yv))))
def Uo:SE:=(.sel iR 1)
def ki:Tr Plf:=(
 .leaf (.next 1 [kg,u1,x25,u3,u4,u5,Uo,u7,u8,u9]))
def fQ:SE:=(.app 24 (.rcons (.c 0) (.rcons u9 (.rcons x0 Yv))))
def YO:SE:=(.sel fQ 1)
def Rm:SE:=(.app 22 Ok)
def EW:SE:=(.sel Rm 1)
def EQ:SE:=(.sel Rm 2)
def EO:SE:=(.sel Rm 3)
def dt:Tr Plf:=(
 .leaf (.done 0 [EW,EQ,EO,(.sel Rm 4)]))
def SK:SE:=(.app 25 (rl [(.c 0),EW,EQ,EO,(.sel Rm 4),(.c 0),(.cell u1 (.c 0) 0),(.cell u1 (.c 0) 1),(.cell u1 (.c 0) 1)]))
def SD:SE:=(.app 25 (rl [(.c 0),EW,EQ,EO,(.sel SK 1),(.c 1),(.cell u1 (.c 1) 0),(.cell u1 (.c 1) 1),(.cell u1 (.c 1) 1)]))
def Rt:SE:=(.app 25 (rl [(.c 0),EW,EQ,EO,(.sel SD 1),(.c 2),(.cell u1 (.c 2) 0),(.cell u1 (.c 2) 1),(.cell u1 (.c 2) 1)]))
def Q0:SE:=(.app 25 (rl [(.c 0),EW,EQ,EO,(.sel Rt 1),(.c 3),(.cell u1 (.c 3) 0),(.cell u1 (.c 3) 1),(.cell u1 (.c 3) 1)]))
def Q3:SE:=(.app 25 (rl [(.c 0),EW,EQ,EO,(.sel Q0 1),(.c 4),(.cell u1 (.c 4) 0),(.cell u1 (.c 4) 1),(.cell u1 (.c 4) 1)]))
def Q2:SE:=(.app 25 (rl [(.c 0),EW,EQ,EO,(.sel Q3 1),(.c 5),(.cell u1 (.c 5) 0),(.cell u1 (.c 5) 1),(.cell u1 (.c 5) 1)]))
def RH:SE:=(.app 25 (rl [(.c 0),EW,EQ,EO,(.sel Q2 1),(.c 6),(.cell u1 (.c 6) 0),(.cell u1 (.c 6) 1),(.cell u1 (.c 6) 1)]))
def Se:SE:=(.app 25 (rl [(.c 0),EW,EQ,EO,(.sel RH 1),(.c 7),(.cell u1 (.c 7) 0),(.cell u1 (.c 7) 1),(.cell u1 (.c 7) 1)]))
def Sb:SE:=(.app 25 (rl [(.c 0),EW,EQ,EO,(.sel Se 1),(.c 8),(.cell u1 (.c 8) 0),(.cell u1 (.c 8) 1),(.cell u1 (.c 8) 1)]))
def U4:SE:=(.app 25 (rl [(.c 0),EW,EQ,EO,(.sel Sb 1),(.c 9),(.cell u1 (.c 9) 0),(.cell u1 (.c 9) 1),(.cell u1 (.c 9) 1)]))
def bE:Tr Plf:=(
 .leaf (.done 0 [(.c 40)]))
def Ek:Tr Plf:=(
 .leaf (.done 0 [(.c 0)]))
def km:SE:=(.arith .shr .i64 u9 (.c 7))
def XT:Tr Plf:=(
 .leaf (.done 0 [(.c 16)]))
def eB:SE:=(.arith .shr .i64 km (.c 7))
def gR:SE:=(.arith .shr .i64 eB (.c 7))
def bP:Tr Plf:=(
 .leaf (.done 0 [(.c 32)]))
def gK:SE:=(.app 9 (rl [(.c 0),u1]))
def gz:SE:=(.snoc .emptyL (rl [(.neg (.lss (.c 1048576) u10))]))
def aj:SE:=(.lenL u11)
def dK:SE:=(.app 1 (.rcons (.c 0) (.rcons (.snoc gz (rl [(.neg (.lss (.c 4) aj))])) x28)))
def dQ:SE:=(.app 8 (rl [(.c 0),u11,.emptyL]))
def Zg:SE:=(.sel gK 1)
def cR:SE:=(.app 11 (.rcons (.c 0) (.rcons (.strc 0 0) (.rcons Zg x85))))
def gV:SE:=(.app 12 (.rcons (.c 0) (.rcons u10 (.rcons u11 (.rcons Zg x27)))))
def iT:Tr Plf:=(
 .split (.eql (.sel (.app 12 (.rcons (.c 0) (.rcons u10 (.rcons u11 (.rcons Zg x50))))) 0) (.c 1)) (
 .split (.eql (.sel gV 0) (.c 1)) (
 .leaf (.done 0 [(.arith .mul .i64 (.c 8) (.sel gV 1))])) x4) x4)
def bT:SE:=(.app 11 (rl [(.c 0),(.strc 0 0),Zg,(.c 0),(.bc false),(.cat .emptyL u11),(.and (.bc false) (.eql aj (.c 0)))]))
def ib:SE:=(.app 1 (.rcons (.c 0) (.rcons (.snoc gz x27) x28)))
def Y7:SE:=(.arith .sub .i64 u5 (.c 8))
def bQ:SE:=(.lss (.c 0) Y7)
def VF:Tr Plf:=(
 .split bQ (
 .leaf (.done 0 [(.arith .add .i64 (.c 0) Y7)])) Ek)
def gO:SE:=(.lss (.c 335544320) u18)
def ey:SE:=(.arith .sub .i64 (.arith .mul .i64 (.arith .quo .i64 (.arith .sub .i64 (.arith .add .i64 u18 u5) (.c 1)) u5) u5) u18)
def ir:Tr Plf:=(
 .split (.lss u18 (.c 0)) VF (
 .split gO VF (
 .split bQ (
 .leaf (.done 0 [(.arith .add .i64 ey Y7)])) (
 .leaf (.done 0 [(.arith .add .i64 ey (.c 0))])))))
def jS:SE:=(.arith .sub .i64 (.arith .mul .i64 (.arith .quo .i64 (.arith .sub .i64 (.arith .add .i64 u18 (.c 8)) (.c 1)) (.c 8)) (.c 8)) u18)
def cu:SE:=(.arith .sub .i64 u16 (.c 1))
def dW:SE:=(.app 22 (rl [(.c 0),u3,u4,u5]))
def gX:SE:=(.cell u1 u6 0)
def jB:SE:=(.cell u1 u6 1)
def eS:SE:=(.cell u1 u6 2)
def gW:SE:=(.cell u1 u6 3)
def j6:SE:=(.cell u1 u6 4)
def de:SE:=(.cell u1 u6 5)
def dP:SE:=(.cell u1 u6 6)
def jC:SE:=(.cell u1 u6 7)
def dL:SE:=(.cell u1 u6 8)
def eN:SE:=(.cell u1 u6 9)
def jo:SE:=(.cell u1 u6 10)
def fA:SE:=(.cell u1 u6 11)
def fc:SE:=(.cell u1 u6 12)
def fG:SE:=(.cell u1 u6 13)
def eA:SE:=(.cell u1 u6 14)
def jZ:SE:=(.app 29 (rl [(.c 0),u0,u1,u2,gX,jB,eS,gW,j6,de,dP,jC,dL,eN,jo,fA,fc,fG,eA,(.c 0)]))
def fV:SE:=(.arith .sub .i64 (.arith .quo .i64 (.arith .sub .i64 (.arith .add .i64 (.arith .add .i64 (.c 0) (.sel jZ 1)) (.c 8)) (.c 1)) (.c 8)) (.c 1))
def ac:Tr Plf:=(
 .split (.lss u6 x0) (
 .split (.eql (.sel jZ 0) (.c 1)) (
 .split (.lss (.c 0) fV) (
 .leaf (.done 0 [fV])) Ek) x4) x4)
def aN:Tr Plf:=(
 .split x79 x4 ac)
def eI:SE:=(.lss u2 (.lenL u4))
def gM:SE:=(.cell u4 u2 1)
def X7:SE:=(.app 23 (rl [(.c 0),u6,(.c 0),gM]))
def gv:SE:=(.app 29 (rl [(.c 0),u0,u1,u2,gX,jB,eS,gW,j6,de,dP,jC,dL,eN,jo,fA,fc,fG,eA,(.sel X7 1)]))
def gJ:SE:=(.arith .sub .i64 (.arith .quo .i64 (.arith .sub .i64 (.arith .add .i64 (.arith .add .i64 (.sel X7 1) (.sel gv 1)) (.c 8)) (.c 1)) (.c 8)) (.c 1))
def ij:SE:=(.eql (.sel (.app 27 Ok) 0) (.c 1))
def eU:SE:=(.app 28 (.rcons (.c 0) (.rcons u1 bC)))
def e9:SE:=(.eql (.sel eU 0) (.c 1))
def Qq:SE:=(.sel eU 1)
def jG:Tr Plf:=(
 .leaf (.done 0 [(.c 0),(.c 9)]))
def ca:SE:=(.cell u1 Qq 1)
def cI:SE:=(.app 4 (rl [(.c 0),ca,u4]))
def eW:SE:=(.eql (.sel cI 0) (.c 1))
def io:SE:=(.lss (.sel cI 1) (.c 0))
def hP:SE:=(rl [(.sel cI 1)])
def jP:SE:=(.app 30 (.rcons (.c 0) (.rcons (.cell u1 Qq 0) (.rcons ca (.rcons Qq (.rcons u0 (.rcons u1 (.rcons u2 hP))))))))
def iy:Tr Plf:=(
 .leaf (.done 0 [(.arith .rem .i64 (.arith .add .i64 u15 u2) (.c 8))]))
def ew:Tr Plf:=(
 .leaf (.next 1 ([u15]++us 0 15)))
def gy:SE:=(.app 32 (.rcons (.c 0) (.rcons (.cell u5 u3 0) (.rcons (.cell u5 u3 1) (.rcons (.cell u5 u3 2) (.rcons (.cell u5 u3 3) (.rcons (.cell u5 u3 4) (.rcons (.cell u5 u3 5) (.rcons (.cell u5 u3 6) (.rcons (.cell u5 u3 7) (.rcons (.cell u5 u3 8) (.rcons (.cell u5 u3 9) (.rcons (.cell u5 u3 10) (.rcons (.cell u5 u3 11) (.rcons (.cell u5 u3 12) (.rcons (.cell u5 u3 13) (.rcons (.cell u5 u3 14) bq)))))))))))))))))
def eY:SE:=(.arith .quo .i64 u0 (.c 128))
def ik:SE:=(.arith .rem .i64 u0 (.c 128))
def aX:Tr Plf:=(
 .leaf (.done 0 [u1,u2]))
def YU:SE:=(.app 34 (.rcons (.c 0) (.rcons u0 bC)))
def il:SE:=(.app 36 (rl [(.c 0),u2,u3,(.cell u5 u1 0),(.lenL u3)]))
def Vv:SE:=(.sel il 1)
def dT:SE:=(.cell u5 u1 1)
def Yw:SE:=(.arith .mul .i64 dT (.cell u3 Vv 5))
def cX:Tr Plf:=(
 .leaf (.next 1 [(.arith .add .i64 u0 Yw),x9,u2,u3,u4,u5]))
def iQ:SE:=(.arith .mul .i64 dT (.cell u3 Vv 6))
def aB:SE:=(.app 35 (rl [(.c 0),u8]))
def eL:SE:=(.app 37 (rl [(.c 0),u0,u1,u9,u10]))
def dS:SE:=(.arith .mul .i64 (.c 8) u8)
def da:SE:=(.arith .add .i64 u0 u1)
def gF:SE:=(.arith .sub .i64 u4 (.c 8))
def gS:Tr Plf:=(
 .split (.lss (.c 0) gF) (
 .leaf (.done 0 [(.arith .add .i64 u1 gF)])) (
 .leaf (.done 0 [(.arith .add .i64 u1 (.c 0))])))
def cW:SE:=(.app 33 (rl [(.c 0),u0,u1]))
def eF:SE:=(.cell (.sel cW 1) u2 0)
def iS:SE:=(.app 38 (rl [(.c 0),u0,u1,x67,x69,RL,(.cell u1 u2 3),(.cell u1 u2 4),(.cell u1 u2 5),(.cell u1 u2 6),(.cell u1 u2 7),(.cell u1 u2 8),(.cell u1 u2 9),(.cell u1 u2 10),(.cell u1 u2 11),(.cell u1 u2 12),(.cell u1 u2 13),(.cell u1 u2 14),eF]))
def iU:SE:=(.arith .sub .i64 (.arith .quo .i64 (.arith .add .i64 (.arith .add .i64 eF (.sel iS 1)) (.c 7)) (.c 8)) (.c 1))
def UX:SE:=(.app 31 (rl ([(.c 0)]++us 0 5)))
def dk:SE:=(.eql (.sel UX 1) (.c 0))
def fB:Tr Plf:=(
 .split dk (
 .split (.eql (.sel UX 2) (.c 9)) x7 x1) x1)
def j7:SE:=(.app 39 (.rcons (.c 0) (.rcons (.cell u1 Qq 0) (.rcons ca hP))))
def lm:Tr Plf:=
 .split (.lss (.c 9) x0) x1 (
 .split (.lss (.c 100) x2) x1 (
 .split (.lss (.c 100) (.lenS u2)) x1 (
 .leaf (.next 1 [(.c 0),u0,u1,u2]))))
def lc:Tr Plf:=
 .split (.lss u0 x3) (
 .split (.lss u0 (.c 0)) x4 (
 .split (.lss (.c 16) (.lenL x5)) x1 (
 .split (.lss (.c 100) (.lenS x6)) x1 (
 .leaf (.next 2 [u0,(.c 0),u1,u2,u3,x6,x5]))))) x7
def lD:Tr Plf:=
 .split (.lss u1 (.lenL u6)) (
 .split x8 x4 (
 .split (.lss (.c 100) (.lenS (.cell u6 u1 0))) x1 (
 .split (.lss (.c 10) (.lenL (.cell u6 u1 12))) x1 (
 .split (.lss (.c 6) (.lenL (.cell u6 u1 8))) x1 (
 .leaf (.next 2 ([u0,x9]++us 2 5))))))) (
 .leaf (.next 1 [x10,u2,u3,u4]))
def t0:List (Tr Plf):=[lm,lc,lD]
def kI:Tr Plf:=
 .leaf x11
def lO:Tr Plf:=
 .split x13 (
 .split x14 x4 (
 .split u2 (
 .split x15 (
 .leaf (.done 0 [u3])) x17) (
 .split x15 x17 (
 .leaf (.done 0 [u3]))))) x18
def t1:List (Tr Plf):=[kI,lO]
def kH:Tr Plf:=
 .leaf x19
def kx:Tr Plf:=
 .split x20 (
 .split x21 x4 (
 .split (.lss x23 (.c 65)) (
 .split (.lss x23 (.c 48)) x24 (
 .split (.lss (.c 57) x23) x24 x26)) (
 .split (.lss (.c 90) x23) (
 .split (.lss x23 (.c 97)) (
 .split (.eql x23 (.c 95)) x26 x24) (
 .split (.lss (.c 122) x23) x24 x26)) x26))) x18
def t2:List (Tr Plf):=[kH,kx]
def lH:Tr Plf:=
 .split (.eql (.sel x29 0) (.c 1)) (
 .split (.lss (.sel x29 1) (.c 0)) (
 .split (.lss (.c 0) x2) (
 .split (.lss x30 (.c 65)) x1 (
 .split (.lss (.c 90) x30) (
 .split (.lss x30 (.c 97)) x1 (
 .split (.lss (.c 122) x30) x1 x32)) x32)) x4) x1) x4
def t3:List (Tr Plf):=[lH]
def kX:Tr Plf:=
 .leaf x33
def lg:Tr Plf:=
 .split x34 x37 x18
def t4:List (Tr Plf):=[kX,lg]
def lL:Tr Plf:=
 .split (.eql x12 x0) (
 .leaf x11) x1
def kV:Tr Plf:=
 .split x13 (
 .split x14 x4 (
 .split (.lss u3 x0) (
 .split (.and (.eqSS x15 x38) x39) x17 x1) x4)) x7
def t5:List (Tr Plf):=[lL,kV]
def ln:Tr Plf:=
 .split (.eql x12 x0) (
 .leaf x11) x1
def lx:Tr Plf:=
 .split x13 (
 .split x14 x4 (
 .split (.lss u3 x0) (
 .split (.and (.eql x15 x38) (.and x39 (.eqSS (.cell u0 u3 2) (.cell u1 u3 2)))) x17 x1) x4)) x7
def t6:List (Tr Plf):=[ln,lx]
def kP:Tr Plf:=
 .leaf (.next 1 [u9,u10,u11,u12,(.c 0),u0,u1,u2,u5,u6,u7,u8,u3,u4])
def kE:Tr Plf:=
 .split (.lss u4 x3) (
 .split (.lss u4 (.c 0)) x4 (
 .split (.lss x40 u0) x41 (
 .split (.lss u1 x40) x41 (
 .leaf (.next 1 ([x40,u1,u2,u3,x42]++us 5 9)))))) x43
def t7:List (Tr Plf):=[kP,kE]
def li:Tr Plf:=
 .leaf x33
def ld:Tr Plf:=
 .split x34 (
 .split x8 x4 (
 .split x46 (
 .split (.eql (.sel x47 0) (.c 1)) (
 .split (.lss x48 (.c (-1048576))) (
 .split (.eql (.sel x51 0) (.c 1)) (
 .split (.lss (.sel x51 1) (.c 0)) x53 x54) x4) (
 .split (.eql (.sel x55 0) (.c 1)) (
 .split (.lss (.sel x55 1) (.c 0)) x53 x54) x4)) x4) (
 .split (.cell u2 x45 1) x57 (
 .split (.eql (.sel x47 0) (.c 1)) (
 .split (.lss x48 (.c (-1048576))) (
 .split (.eql (.sel x51 0) (.c 1)) (
 .split (.lss (.sel x51 1) (.c 0)) x58 x57) x4) (
 .split (.eql (.sel x55 0) (.c 1)) (
 .split (.lss (.sel x55 1) (.c 0)) x58 x57) x4)) x4)))) (
 .leaf (.done 0 [(.c (-1)),u2]))
def t8:List (Tr Plf):=[li,ld]
def lN:Tr Plf:=
 .leaf (.next 1 [u0,(.c 0),.emptyL])
def kZ:Tr Plf:=
 .split x34 (
 .split x8 x4 (
 .split (.eql x48 (.c 1)) x61 (
 .split (.eql x48 (.c 2)) (
 .split x46 (
 .leaf (.next 1 [u0,x9,(.snoc u2 (rl [x35,x59,x59]))])) (
 .leaf (.next 1 [u0,x9,(.upd (.upd u2 x45 1 x59) x45 2 x59)]))) (
 .split (.eql x48 (.c 3)) x61 x36)))) x24
def t9:List (Tr Plf):=[lN,kZ]
def dc:Tr Plf:=
 .leaf (.next 1 [u10,u11,(.c 0),u0,u1,u2,u5,u6,u7,u8,u3,u4,u9])
def jb:Tr Plf:=
 .split x20 (
 .split x21 x4 (
 .split (.lss (.mIdx [.str] u12 (rl [x22])) (.c 0)) (
 .leaf (.done 0 [u6,u7])) (
 .leaf (.next 1 ([u0,u1,x25]++us 3 10))))) x43
def t10:List (Tr Plf):=[dc,jb]
def dp:Tr Plf:=
 .leaf (.next 1 [u4,u5,(.c 0),u0,u1,u2,u3])
def dy:Tr Plf:=
 .split x20 (
 .split x21 x4 (
 .split (.lss x62 (.c 0)) (
 .split (.eqSS x22 u3) x63 (
 .leaf (.next 1 [u0,u1,x25,u3,u4,u5,(.bc true)]))) (
 .split (.eqSS x22 u3) x63 (
 .split (.eql (.sel x65 0) (.c 1)) (
 .split (.lss (.sel x65 1) (.c 0)) x63 (
 .leaf (.done 0 [u6]))) x4)))) (
 .leaf (.done 1 [u6]))
def t11:List (Tr Plf):=[dp,dy]
def jH:Tr Plf:=
 .leaf (.next 1 [u0,u1,(.c 0),u2,u3])
def jk:Tr Plf:=
 .split x66 (
 .split x21 x4 (
 .split (.lss x68 (.c 0)) (
 .split u4 (
 .split x70 x71 x71) (
 .split x70 x71 x71)) (
 .split u4 (
 .split x70 x72 x73) (
 .split x70 x73 x72)))) x74
def t12:List (Tr Plf):=[jH,jk]
def ji:Tr Plf:=
 .split (.lss u16 (.c (-1048576))) x75 (
 .split (.eql (.sel x77 0) (.c 1)) (
 .split (.lss (.sel x77 1) (.c 0)) (
 .split (.eql (.sel x78 0) (.c 1)) (
 .split (.lss (.sel x78 1) (.c 0)) (
 .split x79 x4 (
 .split x80 x4 (
 .split (.eql (.sel x82 0) (.c 1)) (
 .split (.isNil u17) (
 .split (.eql (.sel x84 0) (.c 1)) (
 .leaf (.done 0 [(.sel x84 1),(.sel x84 2),(.c 8)])) (
 .split (.eql (.sel x84 0) (.c 2)) (
 .split (.eql (.sel x86 0) (.c 1)) x75 (
 .split (.eql (.sel x86 0) (.c 2)) (
 .split (.sel x86 1) x75 x89) x4)) x4)) (
 .split (.lss x76 (.c 1048576)) (
 .split (.eql x91 (.c 1)) (
 .leaf (.done 0 [(.sel x92 1),(.sel x92 2),(.c 8)])) (
 .split (.eql x91 (.c 2)) (
 .split (.eql (.sel x93 0) (.c 1)) x75 (
 .split (.eql (.sel x93 0) (.c 2)) (
 .split (.sel x93 1) x75 x89) x4)) x4)) x4)) x4))) x75) x4) x75) x4)
def t13:List (Tr Plf):=[ji]
def gc:Tr Plf:=
 .leaf (.next 1 ([u0,(.c 0)]++us 1 15))
def jI:Tr Plf:=
 .split x34 (
 .split x8 x4 (
 .split (.eql x48 (.c 9)) (
 .split (.eqSS x94 u12) (
 .leaf (.done 0 [u1])) x95) x95)) x18
def t14:List (Tr Plf):=[gc,jI]
def eH:Tr Plf:=
 .split x79 x4 (
 .split x80 x4 (
 .split (.eql (.sel x82 0) (.c 1)) (
 .split (.lss x96 (.c 0)) (
 .split (.eql (.sel x98 0) (.c 1)) x99 x4) (
 .split (.eql (.sel x98 0) (.c 1)) (
 .split (.lss (.sel x98 1) (.c 0)) (
 .split (.lss (.lenL u21) (.c 1)) kh (
 .split (.lss (.c 40) (.lenL u21)) kh (
 .leaf (.next 1 [(.cell (.sel x82 1) x96 1),u21,(.c 0),u0,u1,u2,u5,u6,u7,u8,u3,u4,(.cell (.sel x82 1) x96 1),(.cell (.sel x82 1) x96 2)])))) x99) x4)) x4))
def fC:Tr Plf:=
 .split x66 (
 .split x21 x4 (
 .split (.eql (.sel YQ 0) (.c 1)) (
 .leaf (.done 0 [(.sel YQ 1),(.sel YQ 2),(.c 7)])) (
 .split (.eql (.sel YQ 0) (.c 2)) (
 .split (.lss (.mIdx [.str] u10 (rl [RL])) (.c 0)) (
 .leaf (.done 0 [u6,u7,(.c 8)])) (
 .leaf (.next 1 [(.arith .add .i64 x69 (.c 1)),u1,x25,u3,u4,u5,u6,u7,u8,u9,u10,u11,u12,u13]))) x4))) x43
def t15:List (Tr Plf):=[eH,fC]
def jp:Tr Plf:=
 .split gY (
 .split (.sel cG 1) (
 .split x79 x4 (
 .split x80 x4 (
 .split (.eql (.sel jA 0) (.c 1)) (
 .split (.lss (.sel jA 1) (.c 0)) (
 .split (.eql u10 (.c 1)) (
 .split (.and Kx (.and Pk (.and ME (.and ON (.and MP (.and (.bc true) (.and (.bc true) (.and (.bc true) eG)))))))) (
 .split Ow (
 .split Ox (
 .split L7 (
 .split Lb (
 .split (.lss u11 (.c 1)) LC (
 .split (.lss (.c 32) u11) LC (
 .split u12 (
 .split (.lss (.c 8) u11) (
 .split cy ii LC) LC) ii))) CB) x4) CB) x4) CB) (
 .split (.eql u10 (.c 2)) (
 .split (.and Kx (.and Pk (.and ME (.and ON (.and MP (.and (.bc true) (.and (.bc true) (.and WP eG)))))))) (
 .split Ow (
 .split Ox (
 .split L7 (
 .split Lb (
 .split (.lss u11 (.c 1)) LC (
 .split (.lss (.c 32) u11) LC (
 .split u12 (
 .split (.lss (.c 8) u11) (
 .split cy fD LC) LC) fD))) CB) x4) CB) x4) CB) (
 .split (.eql u10 (.c 3)) (
 .split (.and Kx (.and Pk (.and ME (.and ON (.and MP (.and Sf (.and (.bc true) ej))))))) (
 .split Ow (
 .split Ox (
 .split L7 (
 .split Lb (
 .split (.eql (.sel Yx 0) (.c 1)) (
 .leaf (.done 0 [(.sel Yx 1),(.sel Yx 2),(.c 7)])) (
 .split (.eql (.sel Yx 0) (.c 2)) x43 x4)) CB) x4) CB) x4) CB) (
 .split (.eql u10 (.c 4)) (
 .split (.and Kx (.and Pk gt)) (
 .split L7 (
 .split Lb bl CB) x4) CB) (
 .split (.eql u10 (.c 5)) (
 .split (.and Kx (.and Pk (.and ME (.and ON (.and MP (.and Sf (.and (.bc true) (.and (.bc true) gj)))))))) (
 .split Ow (
 .split Ox (
 .split L7 (
 .split Lb (
 .split (.eql (.sel Yq 0) (.c 1)) (
 .leaf (.done 0 [(.sel Yq 1),(.sel Yq 2),(.c 7)])) (
 .split (.eql (.sel Yq 0) (.c 2)) (
 .split (.eql (.sel Zj 0) (.c 1)) (
 .leaf (.done 0 [(.sel Zj 1),(.sel Zj 2),(.c 7)])) (
 .split (.eql (.sel Zj 0) (.c 2)) x43 x4)) x4)) CB) x4) CB) x4) CB) (
 .split (.eql u10 (.c 6)) (
 .split (.and Kx (.and Pk (.and ME (.and ON (.and MP (.and Sf (.and WT ej))))))) (
 .split Ow (
 .split Ox (
 .split L7 (
 .split Lb (
 .split (.eql (.sel XR 0) (.c 1)) (
 .leaf (.done 0 [(.sel XR 1),(.sel XR 2),(.c 7)])) (
 .split (.eql (.sel XR 0) (.c 2)) x43 x4)) CB) x4) CB) x4) CB) (
 .split (.eql u10 (.c 7)) (
 .split (.and Kx (.and XE gt)) (
 .split L7 (
 .split Lb (
 .split iD x99 bl) CB) x4) CB) (
 .split (.eql u10 (.c 8)) (
 .split (.and Kx (.and XE (.and ME ka))) (
 .split Ow (
 .split Ox (
 .split L7 (
 .split Lb (
 .split iD x99 x43) CB) x4) CB) x4) CB) (
 .split (.eql u10 (.c 9)) (
 .split (.and Kx (.and Pk (.and XE ka))) (
 .split Ow (
 .split Ox (
 .split (.eql (.sel WO 0) (.c 1)) (
 .leaf (.done 0 [(.sel WO 1),(.sel WO 2),(.sel WO 3)])) (
 .split (.eql (.sel WO 0) (.c 2)) x43 x4)) CB) x4) CB) (
 .split (.eql u10 (.c 10)) (
 .split (.and Kx (.and Pk (.and ME (.and ON (.and MP (.and (.bc true) gU)))))) (
 .split Ow (
 .split Ox (
 .split L7 (
 .split Lb (
 .split (.eql u11 (.c 2)) x43 (
 .split (.eql u11 (.c 4)) x43 (
 .split (.lss u11 (.c 8)) LC (
 .split (.lss (.c 512) u11) LC (
 .split cy x43 LC))))) CB) x4) CB) x4) CB) (
 .split (.eql u10 (.c 11)) (
 .split (.and Kx (.and Pk (.and ME (.and XE (.and MP (.and Sf (.and WT (.and WP (.and Yt (.and (.bc true) aZ)))))))))) (
 .split Ow (
 .split Ox (
 .split L7 (
 .split Lb (
 .split (.eql (.sel Yf 0) (.c 1)) (
 .leaf (.done 0 [(.sel Yf 1),(.sel Yf 2),(.c 7)])) (
 .split (.eql (.sel Yf 0) (.c 2)) (
 .split (.eql (.sel fT 0) (.c 1)) (
 .split (.lss (.sel fT 1) (.c 0)) x99 x43) x4) x4)) CB) x4) CB) x4) CB) (
 .split (.eql u10 (.c 12)) (
 .split (.and Kx (.and XE (.and ME (.and ON (.and MP (.and Sf (.and WT (.and WP (.and (.bc true) (.and Vo (.and (.bc true) (.and cT bb)))))))))))) (
 .split L7 (
 .split Lb (
 .split (.eql (.sel Ya 0) (.c 1)) (
 .leaf (.done 0 [(.sel Ya 1),(.sel Ya 2),(.c 7)])) (
 .split (.eql (.sel Ya 0) (.c 2)) (
 .split (.lss hZ (.c 0)) x99 (
 .split (.cell u4 hZ 1) bl x99)) x4)) CB) x4) CB) (
 .leaf (.done 0 [u5,u6,(.c 4)])))))))))))))) (
 .leaf (.done 0 [u5,u6,(.c 2)]))) x4))) (
 .leaf (.done 0 [u5,u6,(.c 1)]))) x4
def t16:List (Tr Plf):=[jp]
def dI:Tr Plf:=
 .leaf (.next 1 [u1,(.c 0),.nilL,(.bc true)])
def jh:Tr Plf:=
 .split x34 (
 .split x8 x4 (
 .split (.eql x48 (.c 7)) cr (
 .split (.eql x48 (.c 8)) cr (
 .split (.eql x48 (.c 12)) cr (
 .split (.eql x48 (.c 9)) (
 .leaf (.next 2 [u0,u1,aL,(.lenL aL),(.c 0),u2,u3])) (
 .leaf (.next 1 [u0,x9,u2,u3]))))))) (
 .leaf (.done 0 [(.nilIs u2 u3)]))
def iW:Tr Plf:=
 .split (.lss u4 u3) (
 .split (.lss u4 (.c 0)) x4 (
 .split (.lss u4 x3) (
 .split (.lss aM UN) (
 .leaf (.next 2 [u0,u1,u2,u3,x42,(.snoc u5 (rl [(.cell u2 u4 2)])),(.bc false)])) x4) x4)) (
 .leaf (.next 1 [u0,x9,u5,u6]))
def t17:List (Tr Plf):=[dI,jh,iW]
def dn:Tr Plf:=
 .leaf x19
def iz:Tr Plf:=
 .split x20 (
 .split x21 x4 (
 .split (.eqSS u1 x22) x24 x26)) x18
def t18:List (Tr Plf):=[dn,iz]
def kf:Tr Plf:=
 .leaf (.next 1 [u11,(.c 0),u0,u1,u2,u5,u6,u7,u8,u3,u4,u9,u10])
def kn:Tr Plf:=
 .split x34 (
 .split x8 x4 (
 .split (.lss x12 u1) x4 (
 .split (.eql (.sel dM 0) (.c 1)) (
 .split (.lss (.sel dM 1) (.c 0)) (
 .split (.lss fP (.c 0)) (
 .split (.lss u12 (.c 0)) (
 .split u11 (
 .split bZ ja (
 .leaf (.next 1 ([u0,x9]++us 2 9++[bX,(.c 0)])))) ja) jX) (
 .split (.lss u12 bU) (
 .split u11 (
 .split bZ jt (
 .leaf (.next 1 ([u0,x9]++us 2 9++[bX,bU])))) jt) jX)) (
 .leaf (.next 1 ([u0,x9]++us 2 11)))) x4))) (
 .leaf (.done 0 [u11,u12]))
def t19:List (Tr Plf):=[kf,kn]
def jg:Tr Plf:=
 .split gY (
 .split (.sel cG 1) (
 .split (.lss (.mIdx [.str] u3 cA) (.c 0)) (
 .split (.lss (.lenL u10) (.c 1)) fN (
 .split (.lss (.c 40) (.lenL u10)) fN (
 .leaf (.next 1 [u10,(.c 0),u0,u1,u2,u5,(.c (-1)),u9,u3,u4,(.bc true)])))) (
 .leaf (.done 0 [u5,(.c (-1)),(.c 2),(.c (-1)),u9,u10,u3,u4]))) (
 .leaf (.done 0 [u5,(.c (-1)),(.c 1),(.c (-1)),u9,u10,u3,u4]))) x4
def jF:Tr Plf:=
 .split x34 (
 .split x8 x4 (
 .split (.eql (.sel WV 0) (.c 1)) (
 .leaf (.done 0 [(.sel WV 1),(.sel WV 2),(.sel WV 3),u1,u7,u0,u8,u9])) (
 .split (.eql (.sel WV 0) (.c 2)) (
 .split u10 (
 .leaf (.next 1 [u0,x9,u2,u3,u4,u5,u1,u7,u8,u9,(.neg iG)])) (
 .leaf (.next 1 [u0,x9,u2,u3,u4,u5,u1,u7,u8,u9,(.bc false)]))) x4))) (
 .split (.eql (.sel gd 0) (.c 1)) (
 .split (.eql (.sel YT 0) (.c 1)) (
 .split (.lss (.mIdx [.str] u8 (rl [u7])) (.c 0)) (
 .split (.lss (.mIdx [.str] u9 (rl [u7])) (.c 0)) (
 .split (.lss (.sel YT 2) (.c 16)) (
 .leaf (.done 1 [u7,u0,gq,gB])) (
 .leaf (.done 0 [u5,(.c (-1)),(.c 10),(.c (-1)),u7,u0,gq,gB]))) x4) x4) x4) x4)
def t20:List (Tr Plf):=[jg,jF]
def iK:Tr Plf:=
 .split (.eql (.sel (.app 3 Yh) 0) (.c 1)) (
 .split (.sel (.app 3 Yh) 1) (
 .split (.lss x0 (.c 1)) dw (
 .split (.lss (.c 60) x0) dw (
 .leaf (.next 1 [u1,(.c 0),u0,u2,(.c (-1)),(.strc 0 0),.nilL,.emptyL,.emptyL])))) (
 .leaf (.done 0 [(.c 1),u0,u1,u2]))) x4
def j5:Tr Plf:=
 .split x34 (
 .split x8 x4 (
 .split (.eql (.sel Ie 0) (.c 1)) (
 .leaf (.done 1 [(.sel Ie 1),(.sel Ie 2),(.sel Ie 3),(.bc true),u2,u0,u3,u1,(.sel Ie 4),(.sel Ie 5),(.sel Ie 6),(.sel Ie 7),(.sel Ie 8)])) (
 .split (.eql (.sel Ie 0) (.c 2)) (
 .leaf (.next 1 [u0,x9,u2,u3,u1,(.sel Ie 1),(.sel Ie 2),(.sel Ie 3),(.sel Ie 4)])) x4))) (
 .split (.lss (.mIdx [.str] u7 bC) (.c 0)) (
 .leaf (.done 1 [(.c (-1)),(.c (-1)),(.c 11),(.bc true),u2,u0,u3,(.c (-1)),(.c (-1)),u5,u6,u7,u8])) (
 .leaf (.done 1 [(.c 0),(.c 0),(.c 0),(.bc false),u2,u0,u3,(.c (-1)),(.c (-1)),u5,u6,u7,u8])))
def t21:List (Tr Plf):=[iK,j5]
def iP:Tr Plf:=
 .split (.eql (.sel Ss 0) (.c 1)) (
 .leaf (.done 0 [(.c (-1)),(.c (-1)),(.sel Ss 1),(.bc true)])) (
 .split (.eql (.sel Ss 0) (.c 2)) (
 .leaf (.done 0 [(.sel Ss 1),(.sel Ss 2),(.sel Ss 3),(.sel Ss 4)])) x4)
def t22:List (Tr Plf):=[iP]
def fj:Tr Plf:=
 .leaf (.next 1 [(.c 0),u2,(.c 0),u0,u1])
def dN:Tr Plf:=
 .split x66 (
 .split x21 x4 (
 .split (.eql u2 u3) x74 (
 .split (.eql x69 (.c 1)) en (
 .split (.eql x69 (.c 2)) en (
 .split (.eql x69 (.c 10)) (
 .split (.eql RL (.c 0)) x4 (
 .leaf (.next 1 [fF,u1,x25,u3,u4]))) (
 .leaf (.next 1 [(.c 0),u1,x25,u3,u4]))))))) (
 .split (.eql x0 u3) x74 x43)
def t23:List (Tr Plf):=[fj,dN]
def ga:Tr Plf:=
 .split (.eql u1 x12) (
 .leaf (.done 0 [(.neg (.eql u2 (.c 0)))])) (
 .split x8 x4 (
 .split x34 (
 .split (.eql u2 (.c 0)) (
 .split jY (
 .split fg (
 .split (.eql x48 (.c 11)) (
 .split (.eql (.sel Z4 0) (.c 1)) (
 .split (.eql (.sel Z4 1) (.c 0)) x1 x7) (
 .split (.eql (.sel Z4 0) (.c 2)) x1 x4)) x1) (
 .split (.eql x48 (.c 11)) (
 .split (.eql (.sel aT 0) (.c 1)) (
 .split (.eql (.sel aT 1) (.c 0)) x1 x7) (
 .split (.eql (.sel aT 0) (.c 2)) x1 x4)) x1)) x4) (
 .split (.eql x48 (.c 1)) cP (
 .split (.eql x48 (.c 2)) cP (
 .split (.eql x48 (.c 10)) cP x7)))) x4))
def t24:List (Tr Plf):=[ga]
def iZ:Tr Plf:=
 .leaf (.next 1 ([(.c 0),u7,(.c 0)]++us 0 7))
def dU:Tr Plf:=
 .split x66 (
 .split x21 x4 (
 .split (.eql (.sel iR 0) (.c 1)) (
 .split Uo (
 .split (.eql u2 bA) (
 .leaf (.done 0 [u7,(.c (-1)),Uo])) (
 .leaf (.done 0 [u7,u2,Uo]))) (
 .split (.eql x69 (.c 1)) ki (
 .split (.eql x69 (.c 2)) ki (
 .split (.eql x69 (.c 10)) (
 .split (.eql RL (.c 0)) x4 (
 .leaf (.next 1 [fF,u1,x25,u3,u4,u5,Uo,u7,u8,u9]))) (
 .leaf (.next 1 [(.c 0),u1,x25,u3,u4,u5,Uo,u7,u8,u9])))))) x4)) (
 .split (.eql (.sel fQ 0) (.c 1)) (
 .split YO (
 .split (.eql x0 bA) (
 .leaf (.done 0 [u7,(.c (-1)),YO])) (
 .leaf (.done 0 [u7,x0,YO]))) (
 .leaf (.done 1 [YO]))) x4)
def t25:List (Tr Plf):=[iZ,dU]
def dj:Tr Plf:=
 .split (.eql (.sel Rm 0) (.c 1)) (
 .split (.sel Rm 4) dt (
 .split (.lss (.c 0) x0) (
 .split (.eql (.sel SK 0) (.c 1)) (
 .leaf (.done 0 [(.sel SK 1),(.sel SK 2),(.c 12),(.sel SK 3)])) (
 .split (.eql (.sel SK 0) (.c 2)) (
 .split (.lss (.c 1) x0) (
 .split (.eql (.sel SD 0) (.c 1)) (
 .leaf (.done 0 [(.sel SD 1),(.sel SD 2),(.c 12),(.sel SD 3)])) (
 .split (.eql (.sel SD 0) (.c 2)) (
 .split (.lss (.c 2) x0) (
 .split (.eql (.sel Rt 0) (.c 1)) (
 .leaf (.done 0 [(.sel Rt 1),(.sel Rt 2),(.c 12),(.sel Rt 3)])) (
 .split (.eql (.sel Rt 0) (.c 2)) (
 .split (.lss (.c 3) x0) (
 .split (.eql (.sel Q0 0) (.c 1)) (
 .leaf (.done 0 [(.sel Q0 1),(.sel Q0 2),(.c 12),(.sel Q0 3)])) (
 .split (.eql (.sel Q0 0) (.c 2)) (
 .split (.lss (.c 4) x0) (
 .split (.eql (.sel Q3 0) (.c 1)) (
 .leaf (.done 0 [(.sel Q3 1),(.sel Q3 2),(.c 12),(.sel Q3 3)])) (
 .split (.eql (.sel Q3 0) (.c 2)) (
 .split (.lss (.c 5) x0) (
 .split (.eql (.sel Q2 0) (.c 1)) (
 .leaf (.done 0 [(.sel Q2 1),(.sel Q2 2),(.c 12),(.sel Q2 3)])) (
 .split (.eql (.sel Q2 0) (.c 2)) (
 .split (.lss (.c 6) x0) (
 .split (.eql (.sel RH 0) (.c 1)) (
 .leaf (.done 0 [(.sel RH 1),(.sel RH 2),(.c 12),(.sel RH 3)])) (
 .split (.eql (.sel RH 0) (.c 2)) (
 .split (.lss (.c 7) x0) (
 .split (.eql (.sel Se 0) (.c 1)) (
 .leaf (.done 0 [(.sel Se 1),(.sel Se 2),(.c 12),(.sel Se 3)])) (
 .split (.eql (.sel Se 0) (.c 2)) (
 .split (.lss (.c 8) x0) (
 .split (.eql (.sel Sb 0) (.c 1)) (
 .leaf (.done 0 [(.sel Sb 1),(.sel Sb 2),(.c 12),(.sel Sb 3)])) (
 .split (.eql (.sel Sb 0) (.c 2)) (
 .split (.lss (.c 9) x0) (
 .split (.eql (.sel U4 0) (.c 1)) (
 .leaf (.done 0 [(.sel U4 1),(.sel U4 2),(.c 12),(.sel U4 3)])) (
 .split (.eql (.sel U4 0) (.c 2)) (
 .split (.lss (.c 10) x0) x4 (
 .leaf (.done 0 [EW,EQ,EO,(.sel U4 1)]))) x4)) (
 .leaf (.done 0 [EW,EQ,EO,(.sel Sb 1)]))) x4)) (
 .leaf (.done 0 [EW,EQ,EO,(.sel Se 1)]))) x4)) (
 .leaf (.done 0 [EW,EQ,EO,(.sel RH 1)]))) x4)) (
 .leaf (.done 0 [EW,EQ,EO,(.sel Q2 1)]))) x4)) (
 .leaf (.done 0 [EW,EQ,EO,(.sel Q3 1)]))) x4)) (
 .leaf (.done 0 [EW,EQ,EO,(.sel Q0 1)]))) x4)) (
 .leaf (.done 0 [EW,EQ,EO,(.sel Rt 1)]))) x4)) (
 .leaf (.done 0 [EW,EQ,EO,(.sel SD 1)]))) x4)) (
 .leaf (.done 0 [EW,EQ,EO,(.sel SK 1)]))) x4)) dt)) x4
def t26:List (Tr Plf):=[dj]
def cY:Tr Plf:=
 .split (.eql (.sel (.app 26 Ok) 0) (.c 1)) (
 .leaf (.done 0 [(.neg (.sel (.app 26 Ok) 4))])) x4
def t27:List (Tr Plf):=[cY]
def iB:Tr Plf:=
 .leaf x33
def iL:Tr Plf:=
 .split x34 x37 x18
def t28:List (Tr Plf):=[iB,iL]
def fU:Tr Plf:=
 .split (.eql u4 (.c 1)) (
 .leaf (.done 0 [u5])) (
 .split (.eql u4 (.c 2)) (
 .leaf (.done 0 [u5])) (
 .split (.eql u4 (.c 3)) (
 .split u7 bE (
 .split (.lss u9 (.c 0)) Ek (
 .split (.lss u9 x64) (
 .split (.lss u9 (.c 128)) (
 .leaf (.done 0 [(.c 8)])) (
 .split (.lss km (.c 128)) XT (
 .split (.lss eB (.c 128)) (
 .leaf (.done 0 [(.c 24)])) (
 .split (.lss gR (.c 128)) bP (
 .split (.lss (.arith .shr .i64 gR (.c 7)) (.c 128)) bE Ek))))) Ek))) (
 .split (.eql u4 (.c 4)) (
 .split (.eql (.sel gK 0) (.c 1)) (
 .split (.lss u10 (.c (-1048576))) Ek (
 .split (.eql (.sel dK 0) (.c 1)) (
 .split (.lss (.sel dK 1) (.c 0)) (
 .split (.eql (.sel dQ 0) (.c 1)) (
 .split (.lss (.sel dQ 1) (.c 0)) (
 .split (.isNil u11) (
 .split (.eql (.sel cR 0) (.c 1)) Ek (
 .split (.eql (.sel cR 0) (.c 2)) (
 .split (.sel cR 1) Ek iT) x4)) (
 .split (.lss aj (.c 1048576)) (
 .split (.eql (.sel bT 0) (.c 1)) Ek (
 .split (.eql (.sel bT 0) (.c 2)) (
 .split (.sel bT 1) Ek iT) x4)) (
 .split (.eql (.sel ib 0) (.c 1)) (
 .split (.lss (.sel ib 1) (.c 0)) x4 Ek) x4))) Ek) x4) Ek) x4)) x4) (
 .split (.eql u4 (.c 5)) (
 .leaf (.done 0 [(.arith .mul .i64 (.c 8) (.arith .add .i64 u9 (.c 1)))])) (
 .split (.eql u4 (.c 6)) (
 .leaf (.done 0 [(.arith .mul .i64 (.c 8) u9)])) (
 .split (.eql u4 (.c 10)) (
 .split (.lss u5 (.c 8)) (
 .split (.eql u5 (.c 2)) ir (
 .split (.eql u5 (.c 4)) ir VF)) (
 .split (.lss u18 (.c 0)) VF (
 .split gO VF (
 .split bQ (
 .leaf (.done 0 [(.arith .add .i64 jS Y7)])) (
 .leaf (.done 0 [(.arith .add .i64 jS (.c 0))])))))) (
 .split (.eql u4 (.c 11)) (
 .split (.lss u16 (.c 1)) Ek (
 .split (.lss (.c 3) u16) Ek (
 .split (.eql cu (.c 0)) XT (
 .split (.eql cu (.c 1)) XT (
 .split (.eql cu (.c 2)) bP x4))))) Ek)))))))
def t29:List (Tr Plf):=[fU]
def iC:Tr Plf:=
 .split (.eql (.sel dW 0) (.c 1)) (
 .split (.sel dW 4) aN (
 .split x21 aN (
 .split eI (
 .split x79 x4 (
 .split (.lss u6 (.lenL gM)) (
 .split (.eql (.sel X7 0) (.c 1)) (
 .split (.lss u6 x0) (
 .split (.eql (.sel gv 0) (.c 1)) (
 .split (.lss (.c 0) gJ) (
 .leaf (.done 0 [gJ])) Ek) x4) x4) (
 .split (.eql (.sel X7 0) (.c 2)) ac x4)) ac)) aN))) x4
def t30:List (Tr Plf):=[iC]
def fY:Tr Plf:=
 .split ij (
 .split (.sel (.app 27 Ok) 1) (
 .split e9 (
 .split (.lss Qq (.c 0)) jG (
 .split (.lss Qq x0) (
 .split eW (
 .split io jG (
 .split (.eql (.sel jP 0) (.c 1)) (
 .leaf (.done 0 [(.sel jP 1),(.c 0)])) x4)) x4) x4)) x4) (
 .leaf (.done 0 [(.c 0),(.c 2)]))) x4
def t31:List (Tr Plf):=[fY]
def fR:Tr Plf:=
 .split (.eql u1 (.c 1)) iy (
 .split (.eql u1 (.c 2)) iy (
 .split (.eql u1 (.c 10)) (
 .split (.eql u2 (.c 2)) ew (
 .split (.eql u2 (.c 4)) ew Ek)) Ek))
def ku:Tr Plf:=
 .split (.eql u3 (.c 0)) x4 (
 .split (.eql (.arith .rem .i64 u0 u3) (.c 0)) (
 .leaf (.done 0 [(.arith .rem .i64 u0 (.c 8))])) (
 .leaf (.next 1 ([x10]++us 1 15))))
def t32:List (Tr Plf):=[fR,ku]
def gp:Tr Plf:=
 .leaf (.next 1 [.nilL,(.bc true),(.c 0),(.c 0),u0,u1])
def eP:Tr Plf:=
 .split (.lss u3 aM) (
 .split (.lss x12 UN) (
 .split x14 x4 (
 .split (.eql (.sel gy 0) (.c 1)) (
 .leaf (.next 1 [(.snoc u0 bq),(.bc false),(.sel gy 1),x16,u4,u5])) x4)) x4) (
 .leaf (.done 0 [u0,u1,u2]))
def t33:List (Tr Plf):=[gp,eP]
def ju:Tr Plf:=
 .leaf (.next 1 [u0,u1,.nilL,(.bc true),(.c 0)])
def jU:Tr Plf:=
 .split (.lss u4 u1) (
 .split (.lss u4 (.arith .sub .i64 u1 (.c 1))) (
 .split (.lss x3 UN) (
 .leaf (.next 1 [eY,u1,(.snoc u2 (rl [(.conv .u8 (.arith .add .i64 ik (.c 128)))])),(.bc false),x42])) x4) (
 .split (.lss x3 UN) (
 .leaf (.next 1 [eY,u1,(.snoc u2 (rl [(.conv .u8 ik)])),(.bc false),x42])) x4)) (
 .leaf (.done 0 [u2,u3,(.eql u0 (.c 0))]))
def t34:List (Tr Plf):=[ju,jU]
def ez:Tr Plf:=
 .leaf (.next 1 [u0,.nilL,(.bc true),(.c 1)])
def fu:Tr Plf:=
 .split (.lss (.c 5) u3) aX (
 .split (.lss u0 (.c 0)) aX (
 .split (.lss u0 x64) (
 .split (.eql (.sel YU 0) (.c 1)) (
 .split (.sel YU 3) (
 .split (.lss x0 UN) (
 .leaf (.next 1 [u0,(.snoc u1 (rl [(.nilIs (.sel YU 1) (.sel YU 2))])),(.bc false),x16])) x4) x17) x4) aX))
def t35:List (Tr Plf):=[ez,fu]
def fa:Tr Plf:=
 .leaf (.next 1 [u2,u3,(.c 0),u0,u1])
def dA:Tr Plf:=
 .split (.lss u2 u1) (
 .split x21 x4 (
 .split eI (
 .split (.eqSS (.cell u4 u2 0) u0) x24 (
 .leaf (.next 1 [u0,u1,x25,u3,u4]))) x4)) x18
def t36:List (Tr Plf):=[fa,dA]
def gP:Tr Plf:=
 .leaf (.next 1 [u2,(.c 0),u0,u1,u2,u3])
def jD:Tr Plf:=
 .split (.lss u1 aM) (
 .split x8 x4 (
 .split (.eql (.sel il 0) (.c 1)) (
 .split (.lss Vv (.c 0)) x4 (
 .split (.lss Vv (.lenL u3)) (
 .split (.eql (.cell u3 Vv 1) (.c 2)) (
 .split (.lss Yw Yw) cX cX) (
 .split (.lss Yw iQ) (
 .leaf (.next 1 [(.arith .add .i64 u0 iQ),x9,u2,u3,u4,u5])) cX)) x4)) x4)) x74
def t37:List (Tr Plf):=[gP,jD]
def j0:Tr Plf:=
 .split (.eql u3 (.c 1)) (
 .leaf (.done 0 [u4])) (
 .split (.eql u3 (.c 2)) (
 .leaf (.done 0 [u4])) (
 .split (.eql u3 (.c 3)) (
 .split u6 bE (
 .split (.lss u8 (.c 0)) Ek (
 .split (.lss u8 x64) (
 .split (.eql (.sel aB 0) (.c 1)) (
 .split (.lss (.c 0) (.lenL (.sel aB 1))) (
 .leaf (.done 0 [(.arith .mul .i64 (.c 8) (.lenL (.cell (.sel aB 1) (.c 0) 0)))])) x4) x4) Ek))) (
 .split (.eql u3 (.c 4)) (
 .split (.eql (.sel eL 0) (.c 1)) (
 .leaf (.done 0 [(.arith .mul .i64 (.c 8) (.sel eL 1))])) x4) (
 .split (.eql u3 (.c 5)) (
 .leaf (.done 0 [(.arith .add .i64 dS (.c 8))])) (
 .split (.eql u3 (.c 6)) (
 .leaf (.done 0 [dS])) (
 .split (.eql u3 (.c 10)) (
 .leaf (.next 1 ([u17,(.c 0)]++us 2 15))) (
 .split (.eql u3 (.c 11)) (
 .split (.eql u15 (.c 3)) bP XT) Ek)))))))
def dD:Tr Plf:=
 .split (.lss u4 (.c 8)) (
 .split (.eql u4 (.c 0)) x4 (
 .split (.eql (.arith .rem .i64 da u4) (.c 0)) gS x95)) (
 .split (.eql (.arith .rem .i64 da (.c 8)) (.c 0)) gS x95)
def t38:List (Tr Plf):=[j0,dD]
def cZ:Tr Plf:=
 .split (.eql (.sel cW 0) (.c 1)) (
 .split x21 x4 (
 .split (.lss u2 (.lenL (.sel cW 1))) (
 .split x66 (
 .split (.eql (.sel iS 0) (.c 1)) (
 .split (.lss (.c 0) iU) (
 .leaf (.done 0 [iU])) Ek) x4) x4) x4)) x4
def t39:List (Tr Plf):=[cZ]
def eD:Tr Plf:=
 .split (.eql (.sel (.app 0 Ok) 0) (.c 1)) (
 .split (.sel (.app 0 Ok) 1) (
 .split (.lss (.c 100) (.lenS u3)) x7 (
 .split (.lss (.c 100) (.lenS u4)) x7 (
 .split (.eql (.sel UX 0) (.c 1)) (
 .split ij (
 .split (.sel (.app 27 Ok) 1) (
 .split e9 (
 .split (.lss Qq (.c 0)) fB (
 .split (.lss Qq x0) (
 .split eW (
 .split io fB (
 .split (.eql (.sel j7 0) (.c 1)) (
 .split (.eql (.sel UX 1) (.sel j7 1)) (
 .split (.eql (.sel UX 2) (.c 0)) x7 x1) x1) x4)) x4) x4)) x4) (
 .split dk (
 .split (.eql (.sel UX 2) (.c 2)) x7 x1) x1)) x4) x4))) x7) x4
def t40:List (Tr Plf):=[eD]
def ts:List (List (Tr Plf)):=[t0,t1,t2,t3,t4,t5,t6,t7,t8,t9,t10,t11,t12,t13,t14,t15,t16,t17,t18,t19,t20,t21,t22,t23,t24,t25,t26,t27,t28,t29,t30,t31,t32,t33,t34,t35,t36,t37,t38,t39,t40]
end Mm

