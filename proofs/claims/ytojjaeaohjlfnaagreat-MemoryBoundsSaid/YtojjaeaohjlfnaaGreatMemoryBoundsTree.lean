/- What is stated: the trees of tests of the functions that the law MemoryBounds reaches, as data. Conditions: none. -/
import Derived.Test.YtojjaeaohjlfnaaGreatBeG
set_option linter.unusedVariables false
set_option linter.unusedSectionVars false
set_option linter.unusedSimpArgs false
namespace Mz
open Go.AE
def u0:SE:=.var 0
def u1:SE:=.var 1
def u2:SE:=.var 2
def u3:SE:=.var 3
def u4:SE:=.var 4
def u5:SE:=.var 5
def u6:SE:=.var 6
def u7:SE:=.var 7
def u8:SE:=.var 8
def u9:SE:=.var 9
def u10:SE:=.var 10
def u11:SE:=.var 11
def u12:SE:=.var 12
def u13:SE:=.var 13
def u14:SE:=.var 14
def u15:SE:=.var 15
def u16:SE:=.var 16
def u17:SE:=.var 17
def u18:SE:=.var 18
def u19:SE:=.var 19
def u20:SE:=.var 20
def u21:SE:=.var 21
def u22:SE:=.var 22
def u23:SE:=.var 23
def x0:SE:=(.lenL u1)
def x1:Tr Plf:=(.leaf (.done 0 [(.bc false)]))
def x2:SE:=(.lenS u0)
def x3:SE:=(.lenL u2)
def x4:SE:=(.lss u0 (.c 0))
def x5:Tr Plf:=(.leaf .stuck)
def x6:SE:=(.cell u2 u0 1)
def x7:SE:=(.cell u2 u0 0)
def x8:Tr Plf:=(.leaf (.done 0 [(.bc true)]))
def x9:SE:=(.lenL u6)
def x10:SE:=(.lss u1 (.c 0))
def x11:SE:=(.arith .add .i64 u1 (.c 1))
def x12:SE:=(.arith .add .i64 u0 (.c 1))
def x13:Plf:=(.next 1 [u0,u1,u2,(.c 0)])
def x14:SE:=(.lenL u0)
def x15:SE:=(.lss u3 x14)
def x16:SE:=(.lss u3 (.c 0))
def x17:SE:=(.cell u0 u3 0)
def x18:Tr Plf:=(.leaf (.done 0 [u3]))
def x19:SE:=(.arith .add .i64 u3 (.c 1))
def x20:Tr Plf:=(.leaf (.next 1 [u0,u1,u2,x19]))
def x21:Tr Plf:=(.leaf (.done 0 [(.c (-1))]))
def x22:Plf:=(.next 1 [u0,u1,(.c 0)])
def x23:SE:=(.lss u2 x14)
def x24:SE:=(.lss u2 (.c 0))
def x25:SE:=(.cell u0 u2 0)
def x26:SE:=(.conv .u8 x25)
def x27:Tr Plf:=(.leaf (.done 0 [u2]))
def x28:SE:=(.arith .add .i64 u2 (.c 1))
def x29:Tr Plf:=(.leaf (.next 1 [u0,u1,x28]))
def x30:SE:=(rl [(.bc false)])
def x31:SE:=(.rcons (.bc false) x30)
def x32:SE:=(.app 1 (.rcons (.c 0) (.rcons (.snoc (.snoc .emptyL (rl [(.neg (.lss x2 (.c 1)))])) (rl [(.neg (.lss (.c 32) x2))])) x31)))
def x33:SE:=(.strAt u0 (.c 0))
def x34:SE:=(.app 2 (.rcons (.c 0) (.rcons (.bytes u0) x30)))
def x35:Tr Plf:=(.split (.eql (.sel x34 0) (.c 1)) (.leaf (.done 0 [(.lss (.sel x34 1) (.c 0))])) x5)
def x36:Plf:=(.next 1 [u0,(.c 0),u1])
def x37:SE:=(.lss u1 x14)
def x38:SE:=(.cell u0 u1 0)
def x39:Tr Plf:=(.leaf (.done 0 [u1]))
def x40:Tr Plf:=(.leaf (.next 1 [u0,x11,u2]))
def x41:Tr Plf:=(.split x10 x5 (.split (.eqSS x38 u2) x39 x40))
def x42:SE:=(.lss u3 x0)
def x43:SE:=(.cell u1 u3 0)
def x44:SE:=(.cell u0 u3 1)
def x45:SE:=(.cell u1 u3 1)
def x46:SE:=(.lss u4 x3)
def x47:SE:=(.lss u4 (.c 0))
def x48:SE:=(.cell u2 u4 0)
def x49:Tr Plf:=(.leaf (.done 0 [u8,u9]))
def x50:SE:=(.arith .add .i64 u4 (.c 1))
def x51:Tr Plf:=(.leaf (.done 1 []))
def x52:SE:=(rl [x38])
def x53:SE:=(.mIdx [.str] u2 x52)
def x54:SE:=(.lss x53 (.c 0))
def x55:SE:=(.app 3 (.rcons (.c 0) x52))
def x56:SE:=(.cell u0 u1 1)
def x57:SE:=(.snoc .emptyL (rl [(.sel x55 1)]))
def x58:SE:=(rl [(.bc true)])
def x59:SE:=(.app 1 (.rcons (.c 0) (.rcons (.snoc (.snoc x57 x58) x30) x31)))
def x60:SE:=(.snoc u2 (.rcons x38 x58))
def x61:Tr Plf:=(.leaf (.next 1 [u0,x11,x60]))
def x62:Tr Plf:=(.leaf (.done 0 [u1,x60]))
def x63:SE:=(.app 1 (.rcons (.c 0) (.rcons (.snoc (.snoc x57 (rl [(.neg (.eql x56 (.c 0)))])) (rl [(.neg (.lss (.c 1048576) x56))])) x31)))
def x64:SE:=(.cell u2 x53 1)
def x65:SE:=(.upd u2 x53 1 (.bc true))
def x66:Tr Plf:=(.leaf (.done 0 [u1,x65]))
def x67:Tr Plf:=(.leaf (.next 1 [u0,x11,x65]))
def x68:SE:=(.cell u0 u1 5)
def x69:SE:=(.cell u0 u1 6)
def x70:Tr Plf:=(.split x54 (.leaf (.next 1 [u0,x11,(.snoc u2 (rl [x38,x68,x69]))])) (.leaf (.next 1 [u0,x11,(.upd (.upd u2 x53 1 x68) x53 2 x69)])))
def x71:SE:=(.mIdx [.str] u4 (rl [x25]))
def x72:Tr Plf:=(.leaf (.next 1 [u0,u1,x28,u3,u4,u5,u6]))
def x73:SE:=(.c 34359738368)
def x74:SE:=(.app 1 (.rcons (.c 0) (.rcons (.snoc (.snoc (.snoc .emptyL (rl [(.neg (.lss (.cell u4 x71 1) (.c 0)))])) (rl [(.neg (.lss (.cell u4 x71 2) (.cell u4 x71 1)))])) (rl [(.lss (.cell u4 x71 2) x73)])) x31)))
def x75:SE:=(.lss u2 x0)
def x76:SE:=(.cell u1 u2 0)
def x77:SE:=(.mIdx [.str] u3 (rl [x76]))
def x78:SE:=(.cell u1 u2 1)
def x79:SE:=(.lss (.c 0) x78)
def x80:Tr Plf:=(.leaf (.next 1 [(.arith .add .i64 u0 (.arith .mul .i64 x78 (.c 0))),u1,x28,u3,u4]))
def x81:Tr Plf:=(.leaf (.next 1 [(.arith .add .i64 u0 (.arith .mul .i64 x78 (.cell u3 x77 1))),u1,x28,u3,u4]))
def x82:Tr Plf:=(.leaf (.next 1 [(.arith .add .i64 u0 (.arith .mul .i64 x78 (.cell u3 x77 2))),u1,x28,u3,u4]))
def x83:Tr Plf:=(.leaf (.done 0 [u0]))
def x84:Tr Plf:=(.leaf (.done 0 [u5,u6,(.c 9)]))
def x85:SE:=(.lenL u17)
def x86:SE:=(.app 1 (.rcons (.c 0) (.rcons (.snoc (.snoc .emptyL (rl [(.neg (.lss (.c 1048576) u16))])) (rl [(.neg (.lss (.c 4) x85))])) x31)))
def x87:SE:=(.app 8 (rl [(.c 0),u17,.emptyL]))
def x88:SE:=(.lss u6 (.c 0))
def x89:SE:=(.lenL u8)
def x90:SE:=(.lss x89 u6)
def x91:SE:=(.sub u8 (.c 0) u6)
def x92:SE:=(.app 9 (rl [(.c 0),x91]))
def x93:SE:=(.rcons .nilL x58)
def x94:SE:=(.app 10 (.rcons (.c 0) (.rcons u0 (.rcons u1 (.rcons u2 (.rcons u3 (.rcons u4 (.rcons u5 (.rcons u6 (.rcons u7 (.rcons u8 (.rcons (.sel x92 1) x93))))))))))))
def x95:SE:=(.rcons (.c 0) (.rcons (.bc false) x93))
def x96:SE:=(.app 11 (.rcons (.c 0) (.rcons (.strc 0 0) (.rcons (.sel x92 1) x95))))
def x97:SE:=(.app 12 (.rcons (.c 0) (.rcons u16 (.rcons u17 (.rcons (.sel x92 1) x58)))))
def x98:SE:=(.app 12 (.rcons (.c 0) (.rcons u16 (.rcons u17 (.rcons (.sel x92 1) x30)))))
def x99:Tr Plf:=(.split (.eql (.sel x97 0) (.c 1)) (.split (.eql (.sel x98 0) (.c 1)) (.split (.lss (.sel x97 1) (.c 0)) x84 (.split (.lss (.c 1048576) (.sel x98 1)) x84 x51)) x5) x5)
def Aba:SE:=(rl [(.cat .emptyL u17),(.and (.bc false) (.eql x85 (.c 0)))])
def xm:SE:=(.sel (.app 10 (.rcons (.c 0) (.rcons u0 (.rcons u1 (.rcons u2 (.rcons u3 (.rcons u4 (.rcons u5 (.rcons u6 (.rcons u7 (.rcons u8 (.rcons (.sel x92 1) Aba)))))))))))) 0)
def sA:SE:=(.app 10 (.rcons (.c 0) (.rcons u0 (.rcons u1 (.rcons u2 (.rcons u3 (.rcons u4 (.rcons u5 (.rcons u6 (.rcons u7 (.rcons u8 (.rcons (.sel x92 1) (.rcons (.cat .emptyL u17) x30)))))))))))))
def kO:SE:=(.app 11 (.rcons (.c 0) (.rcons (.strc 0 0) (.rcons (.sel x92 1) (.rcons (.c 0) (.rcons (.bc false) Aba))))))
def ld:SE:=(.eql x56 (.c 9))
def jA:SE:=(.cell u0 u1 10)
def dR:Tr Plf:=(.leaf (.next 1 ([u0,x11]++us 2 15)))
def jN:SE:=(.mIdx [.str] (.sel x92 1) (rl [u19]))
def Ab4:SE:=(rl (us 9 15))
def nc:SE:=(.app 14 (.rcons (.c 0) (.rcons x91 Ab4)))
def uO:SE:=(.eql (.sel nc 0) (.c 1))
def Uv:Tr Plf:=(.leaf (.done 0 [u5,u6,(.c 8)]))
def tw:Tr Plf:=(.leaf (.done 0 [u5,u6,(.c 3)]))
def mO:SE:=(.cell (.sel x92 1) jN 1)
def bK:SE:=(.app 7 (.rcons (.c 0) (.rcons u3 (.rcons u4 (.rcons u5 (.rcons u10 (.rcons u11 (.rcons u6 (.rcons u7 (.rcons u8 (.rcons u9 (.rcons u0 (.rcons u13 (.rcons (.snoc (.snoc .emptyL (rl [x76])) (rl [x78])) x30))))))))))))))
def Sx:SE:=(.cell u1 u2 2)
def cn:SE:=(rl [u9])
def gC:SE:=(.app 3 (.rcons (.c 0) cn))
def tM:SE:=(.eql (.sel gC 0) (.c 1))
def oZ:SE:=(.app 4 (.rcons (.c 0) (.rcons x91 cn)))
def Lq:SE:=(.eqSS u9 u9)
def PS:SE:=(.eqSS u18 (.strc 0 0))
def Nz:SE:=(.eqSS u19 (.strc 0 0))
def QI:SE:=(.eqSS u20 (.strc 0 0))
def NI:SE:=(.eql u10 u10)
def bF:SE:=(.eql u16 (.c 0))
def Y1:SE:=(.eql u22 (.c 0))
def kM:SE:=(.eql u23 (.c 0))
def cT:SE:=(.neg (.bc false))
def zf:SE:=(.neg (.and (.neg (.and (.bc false) (.bc false))) (.neg (.and cT cT))))
def va:SE:=(.and u13 (.bc true))
def jQ:SE:=(.neg (.and (.neg (.and va (.bc false))) (.neg (.and (.neg va) cT))))
def vG:SE:=(.and bF (.and Y1 (.and kM (.and zf jQ))))
def zQ:SE:=(.app 5 (.rcons (.c 0) (.rcons u17 x93)))
def Qf:SE:=(.eql (.sel zQ 0) (.c 1))
def Qm:SE:=(.sel zQ 1)
def ra:SE:=(.app 6 (.rcons (.c 0) (.rcons u21 x93)))
def MP:SE:=(.eql (.sel ra 0) (.c 1))
def Mq:SE:=(.sel ra 1)
def Nq:Tr Plf:=(.leaf (.done 0 [u5,u6,(.c 6)]))
def gX:SE:=(.eql (.arith .rem .i64 u11 (.c 8)) (.c 0))
def tT:SE:=(.arith .sub .i64 (.arith .shl .i64 (.c 1) u11) (.c 1))
def j1:SE:=(.snoc .emptyL (rl [u14]))
def tz:SE:=(.rcons (.snoc j1 (rl [u15])) x30)
def cO:SE:=(.app 7 (.rcons (.c 0) (.rcons u0 (.rcons u1 (.rcons u2 (.rcons u3 (.rcons u4 (.rcons u5 (.rcons u6 (.rcons u7 (.rcons u8 (.rcons (.c 0) (.rcons tT tz)))))))))))))
def xV:Tr Plf:=(.split (.eql (.sel cO 0) (.c 1)) (.leaf (.done 0 [(.sel cO 1),(.sel cO 2),(.c 7)])) (.split (.eql (.sel cO 0) (.c 2)) x51 x5))
def CB:Tr Plf:=(.leaf (.done 0 [u5,u6,(.c 5)]))
def Zz:SE:=(.eql u15 (.c 0))
def cI:SE:=(.app 7 (.rcons (.c 0) (.rcons u0 (.rcons u1 (.rcons u2 (.rcons u3 (.rcons u4 (.rcons u5 (.rcons u6 (.rcons u7 (.rcons u8 (.rcons (.c 0) (.rcons tT (.rcons j1 x30))))))))))))))
def tc:Tr Plf:=(.split (.eql (.sel cI 0) (.c 1)) (.leaf (.done 0 [(.sel cI 1),(.sel cI 2),(.c 7)])) (.split (.eql (.sel cI 0) (.c 2)) x51 x5))
def TK:SE:=(.eql u11 (.c 0))
def Abq:SE:=(.and u12 (.bc true))
def gT:SE:=(.neg (.and (.neg (.and Abq (.bc false))) (.neg (.and (.neg Abq) cT))))
def Aai:SE:=(.and (.bc true) (.and bF (.and Y1 (.and kM (.and gT zf)))))
def dr:SE:=(.app 7 (.rcons (.c 0) (.rcons u0 (.rcons u1 (.rcons u2 (.rcons u3 (.rcons u4 (.rcons u5 (.rcons u6 (.rcons u7 (.rcons u8 (.rcons (.c 0) (.rcons (.c 34359738367) tz)))))))))))))
def ZA:SE:=(.eql u14 (.c 0))
def lz:SE:=(.and kM (.and gT jQ))
def wp:SE:=(.and Nz (.and QI (.and NI (.and TK (.and ZA (.and Zz (.and (.bc true) (.and Y1 lz))))))))
def qM:SE:=(.rcons (.c 0) (.rcons u0 (.rcons u1 (.rcons u2 (.rcons u3 (.rcons u4 (.rcons u5 (.rcons u6 (.rcons u7 (.rcons u8 Ab4))))))))))
def YX:SE:=(.app 13 qM)
def iy:Tr Plf:=(.split (.eql (.sel YX 0) (.c 1)) (.leaf (.done 0 [(.sel YX 1),(.sel YX 2),(.sel YX 3)])) (.split (.eql (.sel YX 0) (.c 2)) x51 x5))
def vo:SE:=(.and bF (.and Y1 lz))
def cS:SE:=(.app 7 (.rcons (.c 0) (.rcons u0 (.rcons u1 (.rcons u2 (.rcons u3 (.rcons u4 (.rcons u5 (.rcons u6 (.rcons u7 (.rcons u8 (.rcons (.c 0) (.rcons (.c 255) (.rcons j1 x30))))))))))))))
def pI:SE:=(.rcons (.c 1048576) (.rcons (.snoc .emptyL (rl [u15])) x30))
def dJ:SE:=(.app 7 (.rcons (.c 0) (.rcons u0 (.rcons u1 (.rcons u2 (.rcons u3 (.rcons u4 (.rcons u5 (.rcons u6 (.rcons u7 (.rcons u8 (.rcons (.c 0) pI))))))))))))
def cA:SE:=(.app 7 (.rcons (.c 0) (.rcons u0 (.rcons u1 (.rcons u2 (.rcons u3 (.rcons u4 (.rcons u5 (.rcons u6 (.rcons u7 (.rcons u8 (.rcons (.c 2) pI))))))))))))
def YW:SE:=(.eqSS (.strc 0 0) (.strc 0 0))
def nG:SE:=(.lss (.mIdx [.str] u3 (rl [u18])) (.c 0))
def rB:SE:=(.and ZA (.and Zz vo))
def ou:SE:=(.and QI (.and NI (.and TK rB)))
def ap:SE:=(.app 15 qM)
def dE:SE:=(.app 7 (.rcons (.c 0) (.rcons u0 (.rcons u1 (.rcons u2 (.rcons u3 (.rcons u4 (.rcons u5 (.rcons u6 (.rcons u7 (.rcons u8 (.rcons (.c 1) (.rcons (.c 3) (.rcons (.snoc .emptyL (rl [u22])) x30))))))))))))))
def xF:SE:=(.app 4 (rl [(.c 0),x91,u20]))
def cR:SE:=(.app 7 (.rcons (.c 0) (.rcons u0 (.rcons u1 (.rcons u2 (.rcons u3 (.rcons u4 (.rcons u5 (.rcons u6 (.rcons u7 (.rcons u8 (.rcons (.c 0) (.rcons (.c 4294967295) (.rcons (.snoc .emptyL (rl [u23])) x30))))))))))))))
def zV:SE:=(.mIdx [.str] u4 (rl [u18]))
def Qq:SE:=(.c 1073741824)
def yT:SE:=(.cell u0 u1 9)
def iK:Tr Plf:=(.split (.lss x3 Qq) (.leaf (.next 1 [u0,x11,(.snoc u2 (rl [yT])),(.bc false)])) x5)
def gH:SE:=(.cell u0 u1 12)
def ZX:Tr Plf:=(.leaf (.next 1 [u0,x11,u2,u3]))
def gr:SE:=(.lenL u5)
def MS:SE:=(.lss x14 u1)
def tN:SE:=(.app 18 (.rcons (.c 0) (.rcons (.sub u0 (.c 0) u1) x52)))
def Mr:SE:=(.eql (.sel tN 0) (.c 1))
def M0:SE:=(.lss (.sel tN 1) (.c 0))
def tk:SE:=(.mIdx [.str] u9 x52)
def jL:SE:=(.mIdx [.str] u10 x52)
def MA:SE:=(.lss jL (.c 0))
def rb:Tr Plf:=(.leaf (.next 1 ([u0,x11]++us 2 9++[(.bc false),(.c 0)])))
def gx:SE:=(.cell u10 jL 1)
def ns:Tr Plf:=(.leaf (.next 1 ([u0,x11]++us 2 9++[(.bc false),u12])))
def vV:Tr Plf:=(.split u11 (.split MA ns (.leaf (.next 1 ([u0,x11]++us 2 9++[gx,u12])))) ns)
def jC:SE:=(.cell u9 tk 1)
def qp:Tr Plf:=(.leaf (.next 1 ([u0,x11]++us 2 9++[(.bc false),jC])))
def yn:Tr Plf:=(.leaf (.done 0 [u5,(.c (-1)),(.c 3),(.c (-1)),u9,u10,u3,u4]))
def ve:SE:=(.cell u0 u1 3)
def Aa7:SE:=(.cell u0 u1 4)
def oA:SE:=(.cell u0 u1 8)
def rh:SE:=(.cell u0 u1 11)
def Zo:SE:=(.app 16 (rl [(.c 0),u2,u3,u4,u8,u9,u5,u1,u7,u0,x38,x56,(.cell u0 u1 2),ve,Aa7,x68,x69,(.cell u0 u1 7),oA,yT,jA,rh,gH,(.cell u0 u1 13),(.cell u0 u1 14)]))
def US:SE:=(rl [u0])
def qx:SE:=(.app 17 (.rcons (.c 0) (.rcons u7 US)))
def bD:SE:=(.app 19 (rl [(.c 0),u2,u3,u4,u8,u9,u5,(.c (-1)),u7,u0,u10,(.c 0),(.sel qx 1)]))
def TY:SE:=(rl [(.c 0)])
def Aam:SE:=(.upd (.snoc u8 (.rcons u7 TY)) x89 1 (.arith .add .i64 (.sel bD 2) (.c 1)))
def kf:SE:=(.lenL u9)
def mN:SE:=(.upd (.snoc u9 (.rcons u7 x30)) kf 1 (.sel bD 1))
def eC:SE:=(.rcons (.c 0) US)
def rC:Tr Plf:=(.leaf (.done 0 [(.c 3),u0,u1,u2]))
def wN:SE:=(rl [x38,x56])
def I1:SE:=(.app 20 (.rcons (.c 0) (.rcons u2 (.rcons u0 (.rcons u3 (.rcons u7 (.rcons u8 (.rcons u1 (.rcons (.c (-1)) (.rcons u5 (.rcons u6 wN)))))))))))
def Qv:SE:=(rl [u2])
def iD:SE:=(.rcons u0 (.rcons u1 Qv))
def HV:SE:=(.rcons (.c 0) iD)
def QS:SE:=(.app 21 HV)
def bj:SE:=(.eql (.sel QS 0) (.c 1))
def aX:SE:=(.eql (.sel QS 0) (.c 2))
def YD:SE:=(.sel QS 4)
def mY:SE:=(.arith .add .i64 u0 Sx)
def ng:SE:=(.arith .rem .i64 mY (.c 8))
def nf:Tr Plf:=(.leaf (.next 1 [ng,u1,x28,u3,u4]))
def rZ:SE:=(.arith .rem .i64 (.arith .mul .i64 (.arith .quo .i64 (.arith .sub .i64 mY (.c 1)) Sx) Sx) (.c 8))
def jR:SE:=(.app 4 (rl [(.c 0),u0,rh]))
def vK:SE:=(.eql (.sel jR 0) (.c 1))
def yx:SE:=(.lss (.sel jR 1) (.c 0))
def jW:SE:=(.app 23 (.rcons (.c 0) (.rcons (.c 0) eC)))
def jn:SE:=(.app 23 (.rcons (.c 0) (.rcons (.sel jR 1) eC)))
def lG:Tr Plf:=(.split ve x8 (.split vK (.split yx x1 x1) x5))
def nZ:SE:=(.app 24 (.rcons (.c 0) (.rcons u9 (.rcons u2 US))))
def Xe:SE:=(.sel nZ 1)
def uQ:Tr Plf:=(.leaf (.next 1 [ng,u1,x28,u3,u4,u5,Xe,u7,u8,u9]))
def wY:SE:=(.app 24 (.rcons (.c 0) (.rcons u9 (.rcons x0 US))))
def cY:SE:=(.sel wY 1)
def T9:SE:=(.app 22 HV)
def E5:SE:=(.sel T9 1)
def E3:SE:=(.sel T9 2)
def E4:SE:=(.sel T9 3)
def Abe:Tr Plf:=(.leaf (.done 0 [E5,E3,E4,(.sel T9 4)]))
def bk:SE:=(.lss (.c 0) x0)
def Ui:SE:=(.app 25 (rl [(.c 0),E5,E3,E4,(.sel T9 4),(.c 0),(.cell u1 (.c 0) 0),(.cell u1 (.c 0) 1),(.cell u1 (.c 0) 1)]))
def Ux:SE:=(.app 25 (rl [(.c 0),E5,E3,E4,(.sel Ui 1),(.c 1),(.cell u1 (.c 1) 0),(.cell u1 (.c 1) 1),(.cell u1 (.c 1) 1)]))
def Uz:SE:=(.app 25 (rl [(.c 0),E5,E3,E4,(.sel Ux 1),(.c 2),(.cell u1 (.c 2) 0),(.cell u1 (.c 2) 1),(.cell u1 (.c 2) 1)]))
def Um:SE:=(.app 25 (rl [(.c 0),E5,E3,E4,(.sel Uz 1),(.c 3),(.cell u1 (.c 3) 0),(.cell u1 (.c 3) 1),(.cell u1 (.c 3) 1)]))
def UR:SE:=(.app 25 (rl [(.c 0),E5,E3,E4,(.sel Um 1),(.c 4),(.cell u1 (.c 4) 0),(.cell u1 (.c 4) 1),(.cell u1 (.c 4) 1)]))
def Uu:SE:=(.app 25 (rl [(.c 0),E5,E3,E4,(.sel UR 1),(.c 5),(.cell u1 (.c 5) 0),(.cell u1 (.c 5) 1),(.cell u1 (.c 5) 1)]))
def Tl:SE:=(.app 25 (rl [(.c 0),E5,E3,E4,(.sel Uu 1),(.c 6),(.cell u1 (.c 6) 0),(.cell u1 (.c 6) 1),(.cell u1 (.c 6) 1)]))
def Uf:SE:=(.app 25 (rl [(.c 0),E5,E3,E4,(.sel Tl 1),(.c 7),(.cell u1 (.c 7) 0),(.cell u1 (.c 7) 1),(.cell u1 (.c 7) 1)]))
def To:SE:=(.app 25 (rl [(.c 0),E5,E3,E4,(.sel Uf 1),(.c 8),(.cell u1 (.c 8) 0),(.cell u1 (.c 8) 1),(.cell u1 (.c 8) 1)]))
def XA:SE:=(.app 25 (rl [(.c 0),E5,E3,E4,(.sel To 1),(.c 9),(.cell u1 (.c 9) 0),(.cell u1 (.c 9) 1),(.cell u1 (.c 9) 1)]))
def UP:SE:=(.lenL u3)
def aB:SE:=(.lss u1 UP)
def Th:SE:=(.cell u3 u1 1)
def uX:SE:=(.upd u3 u1 1 .nilL)
def kZ:SE:=(.cell u8 u3 8)
def bX:SE:=(.cell u8 u3 12)
def uV:SE:=(.upd u8 u3 8 .nilL)
def Aae:SE:=(.lss (.lenL bX) (.c 1048576))
def lS:SE:=(.nilIs (.cat .emptyL bX) (.bc false))
def nJ:SE:=(.upd u8 u3 8 (.nilIs (.cat .emptyL kZ) (.bc false)))
def XT:SE:=(.lenL u4)
def Pp:Plf:=(.next 1 [u4,(.c 0),u0,u1,u2,u3])
def PF:Tr Plf:=(.leaf (.next 1 [u0,x11,u2,u3,u4,u5]))
def dM:Tr Plf:=(.leaf (.done 0 []))
def iG:SE:=(.mIdx [.str] u1 US)
def PH:SE:=(.lss iG (.c 0))
def rk:SE:=(.app 30 (.rcons (.c 0) (.rcons u3 US)))
def Gw:SE:=(.eql (.sel rk 0) (.c 1))
def ej:SE:=(.sel rk 1)
def Gz:SE:=(.lss ej (.c 0))
def Gv:SE:=(.lss (.c 0) UP)
def rO:SE:=(.app 17 (rl [(.c 0),(.cell u3 (.c 0) 0),(.cell u3 (.c 0) 1)]))
def Gx:SE:=(.eql (.sel rO 0) (.c 1))
def cZ:SE:=(.snoc u1 (.rcons u0 x58))
def pJ:SE:=(rl [u2,u3,u4,(.sel rO 1)])
def GV:SE:=(.rcons (.c 0) (.rcons cZ pJ))
def GA:SE:=(.lss ej UP)
def vH:SE:=(.app 17 (rl [(.c 0),(.cell u3 ej 0),(.cell u3 ej 1)]))
def Gy:SE:=(.eql (.sel vH 0) (.c 1))
def pX:SE:=(rl [u2,u3,u4,(.sel vH 1)])
def G3:SE:=(.rcons (.c 0) (.rcons cZ pX))
def QG:SE:=(.cell u1 iG 1)
def dF:SE:=(.upd u1 iG 1 (.bc true))
def Hc:SE:=(.rcons (.c 0) (.rcons dF pJ))
def GK:SE:=(.rcons (.c 0) (.rcons dF pX))
def vU:SE:=(rl [u3,u4,u5])
def HE:SE:=(.rcons (.c 0) (.rcons x38 (.rcons u2 vU)))
def zK:SE:=(rl [u4,u5,u6])
def wj:SE:=(.app 48 (.rcons (.c 0) (.rcons x25 (.rcons u3 zK))))
def oH:SE:=(.app 50 (.rcons (.c 0) cn))
def jh:SE:=(.app 29 (rl [(.c 0),u0,u1,u2,u3,u4,u5,u6,u7,u8,(.sel oH 1),u8,u10,(.c (-1)),(.c (-1)),u11]))
def iw:SE:=(.app 51 (rl ([(.c 0)]++us 0 9++[(.c 7),u9,(.c (-1))])))
def vJ:SE:=(.mIdx [.str] u9 (rl [Sx]))
def Ze:SE:=(.app 51 (.rcons (.c 0) (.rcons u3 (.rcons u4 (.rcons u5 (.rcons u6 (.rcons u7 (.rcons u8 (.rcons u9 (.rcons u10 (.rcons u11 (.rcons (.c 8) (.rcons u0 TY)))))))))))))
def kz:SE:=(.arith .sub .i64 (.lenL (.sel Ze 1)) (.c 1))
def ZJ:SE:=(.app 51 (rl [(.c 0),u3,u4,u5,u6,u7,u8,u9,u10,u11,(.c 8),u0,(.cell u9 vJ 1)]))
def gN:SE:=(.arith .sub .i64 (.lenL (.sel ZJ 1)) (.c 1))
def nU:SE:=(.app 53 (.rcons (.c 0) (.rcons oA Qv)))
def tR:Tr Plf:=(.split (.eql (.sel nU 0) (.c 1)) (.split (.lss (.sel nU 1) (.c 0)) x40 x39) x5)
def eH:SE:=(.rcons (.c 0) (.rcons u1 Qv))
def kc:SE:=(.eql (.sel (.app 27 HV) 0) (.c 1))
def io:SE:=(.sel (.app 27 HV) 1)
def Rf:SE:=(.app 28 HV)
def nR:SE:=(.app 49 (.rcons (.c 0) (.rcons u0 (.rcons u1 (.rcons u2 (.rcons (.snoc .emptyL (rl [(.sel Rf 4)])) x30))))))
def WX:SE:=(rl [(.c (-1)),(.c (-1))])
def uq:SE:=(.rcons (.c (-1)) (.rcons (.c (-1)) (.rcons (.c (-1)) WX)))
def jw:SE:=(rl [x17])
def Abv:SE:=(.mIdx [.str] u10 jw)
def oW:Tr Plf:=(.leaf (.next 1 ([u0,u1,u2,x19]++us 4 9)))
def dB:SE:=(.lenL u11)
def xn:SE:=(.upd (.snoc u11 (.rcons x17 TY)) dB 1 (.lenL u7))
def xl:SE:=(.upd (.snoc u12 (.rcons x17 TY)) (.lenL u12) 1 (.c 0))
def gu:SE:=(.app 51 (.rcons (.c 0) (.rcons u4 (.rcons u0 (.rcons u5 (.rcons u6 (.rcons u7 (.rcons u8 (.rcons xn (.rcons xl (.rcons u3 (.rcons (.c 3) WX))))))))))))
def qY:SE:=(.mIdx [.str] u11 (rl [u6]))
def Aah:SE:=(.lss (.c 0) (.lenL u7))
def RD:SE:=(.cell u4 u6 1)
def Aan:SE:=(.cell u4 u6 9)
def sx:SE:=(.mIdx [.str] u18 (rl [Aan]))
def jf:SE:=(.lss sx (.c 0))
def jx:SE:=(.rcons u6 TY)
def gO:SE:=(.app 51 (.rcons (.c 0) (.rcons u7 (.rcons u0 (.rcons u8 (.rcons u9 (.rcons u10 (.rcons u11 (.rcons u18 (.rcons u19 (.rcons u14 (.rcons (.c 5) jx))))))))))))
def NF:SE:=(.arith .add .i64 u6 (.c 1))
def lw:SE:=(rl [u6,(.cell u18 sx 1)])
def hJ:SE:=(.app 51 (.rcons (.c 0) (.rcons u7 (.rcons u0 (.rcons u8 (.rcons u9 (.rcons u10 (.rcons u11 (.rcons u18 (.rcons u19 (.rcons u14 (.rcons (.c 5) lw))))))))))))
def jV:SE:=(.app 51 (.rcons (.c 0) (.rcons u7 (.rcons u0 (.rcons u8 (.rcons u9 (.rcons u10 (.rcons u11 (.rcons u18 (.rcons u19 (.rcons u15 (.rcons (.c 6) jx))))))))))))
def jd:SE:=(.app 51 (.rcons (.c 0) (.rcons u7 (.rcons u0 (.rcons u8 (.rcons u9 (.rcons u10 (.rcons u11 (.rcons u18 (.rcons u19 (.rcons u15 (.rcons (.c 6) lw))))))))))))
def kQ:SE:=(.app 51 (.rcons (.c 0) (.rcons u7 (.rcons u0 (.rcons u8 (.rcons u9 (.rcons u10 (.rcons u11 (.rcons u18 (.rcons u19 (.rcons u16 (.rcons (.c 9) jx))))))))))))
def jS:SE:=(.app 51 (.rcons (.c 0) (.rcons u7 (.rcons u0 (.rcons u8 (.rcons u9 (.rcons u10 (.rcons u11 (.rcons u18 (.rcons u19 (.rcons u16 (.rcons (.c 9) lw))))))))))))
def sk:SE:=(.cell u4 u6 0)
def ka:SE:=(.app 52 (rl [(.c 0),u7,u0,u8,u9,u10,u11,u18,u19,u17,u6,sk,RD,(.cell u4 u6 2),(.cell u4 u6 3),(.cell u4 u6 4),(.cell u4 u6 5),(.cell u4 u6 6),(.cell u4 u6 7),(.cell u4 u6 8),Aan,(.cell u4 u6 10),(.cell u4 u6 11),(.cell u4 u6 12),(.cell u4 u6 13),(.cell u4 u6 14)]))
def ca:SE:=(.app 50 (rl [(.c 0),(.c 4)]))
def iX:SE:=(.cell u0 u12 0)
def qq:SE:=(.app 55 (rl [(.c 0),iX,(.cell u0 u12 1),sk]))
def cr:SE:=(.mIdx [.str] u19 (rl [iX]))
def mQ:SE:=(.snoc u19 (rl [iX,(.c 1)]))
def jc:SE:=(.app 29 (.rcons (.c 0) (.rcons u7 (.rcons u0 (.rcons u8 (.rcons u9 (.rcons u10 (.rcons u11 (.rcons u18 (.rcons mQ (.rcons u12 (.rcons (.sel ca 1) (.rcons u12 (.rcons u6 (.rcons (.c 0) WX)))))))))))))))
def sw:SE:=(.upd u19 cr 1 (.arith .add .i64 (.cell u19 cr 1) (.c 1)))
def kH:SE:=(.app 29 (.rcons (.c 0) (.rcons u7 (.rcons u0 (.rcons u8 (.rcons u9 (.rcons u10 (.rcons u11 (.rcons u18 (.rcons sw (.rcons u12 (.rcons (.sel ca 1) (.rcons u12 (.rcons u6 (.rcons (.cell u19 cr 1) WX)))))))))))))))
def jm:SE:=(.app 29 (.rcons (.c 0) (.rcons u7 (.rcons u0 (.rcons u8 (.rcons u9 (.rcons u10 (.rcons u11 (.rcons u18 (.rcons u19 (.rcons u12 (.rcons (.sel ca 1) (.rcons u12 (.rcons u6 (.rcons (.c (-1)) WX)))))))))))))))
def pO:Tr Plf:=(.split (.eql (.sel jm 0) (.c 1)) (.leaf (.next 2 [u0,u1,u2,u3,u4,u5,NF,u7,u8,u9,(.sel jm 1),(.sel jm 2),u12,u13,u14,u15,u16,u17,u18,u19])) x5)
def jI:Tr Plf:=(.split (.eql (.sel qq 0) (.c 1)) (.split (.sel qq 1) (.split (.lss cr (.c 0)) (.split (.eql (.sel jc 0) (.c 1)) (.leaf (.next 2 [u0,u1,u2,u3,u4,u5,NF,u7,u8,u9,(.sel jc 1),(.sel jc 2),u12,u13,u14,u15,u16,u17,u18,mQ])) x5) (.split (.eql (.sel kH 0) (.c 1)) (.leaf (.next 2 [u0,u1,u2,u3,u4,u5,NF,u7,u8,u9,(.sel kH 1),(.sel kH 2),u12,u13,u14,u15,u16,u17,u18,sw])) x5)) pO) x5)
def kD:SE:=(.app 51 (.rcons (.c 0) (.rcons u7 (.rcons u0 (.rcons u8 (.rcons u9 (.rcons u10 (.rcons u11 (.rcons u18 (.rcons u19 (.rcons u12 (.rcons (.c 10) WX))))))))))))
def jE:Tr Plf:=(.leaf (.done 0 [(.c 40)]))
def EC:Tr Plf:=(.leaf (.done 0 [(.c 0)]))
def mI:SE:=(.arith .shr .i64 u9 (.c 7))
def cu:Tr Plf:=(.leaf (.done 0 [(.c 16)]))
def Abm:SE:=(.arith .shr .i64 mI (.c 7))
def mS:SE:=(.arith .shr .i64 Abm (.c 7))
def gp:Tr Plf:=(.leaf (.done 0 [(.c 32)]))
def ji:SE:=(rl [u1])
def wv:SE:=(.app 9 (.rcons (.c 0) ji))
def mz:SE:=(.snoc .emptyL (rl [(.neg (.lss (.c 1048576) u10))]))
def yp:SE:=(.app 1 (.rcons (.c 0) (.rcons (.snoc mz (rl [(.neg (.lss (.c 4) dB))])) x31)))
def rT:SE:=(.app 8 (rl [(.c 0),u11,.emptyL]))
def dK:SE:=(.sel wv 1)
def kL:SE:=(.app 11 (.rcons (.c 0) (.rcons (.strc 0 0) (.rcons dK x95))))
def mf:SE:=(.app 12 (.rcons (.c 0) (.rcons u10 (.rcons u11 (.rcons dK x30)))))
def mg:Tr Plf:=(.split (.eql (.sel (.app 12 (.rcons (.c 0) (.rcons u10 (.rcons u11 (.rcons dK x58))))) 0) (.c 1)) (.split (.eql (.sel mf 0) (.c 1)) (.leaf (.done 0 [(.arith .mul .i64 (.c 8) (.sel mf 1))])) x5) x5)
def gE:SE:=(.app 11 (rl [(.c 0),(.strc 0 0),dK,(.c 0),(.bc false),(.cat .emptyL u11),(.and (.bc false) (.eql dB (.c 0)))]))
def pB:SE:=(.app 1 (.rcons (.c 0) (.rcons (.snoc mz x30) x31)))
def cK:SE:=(.arith .sub .i64 u5 (.c 8))
def lg:SE:=(.lss (.c 0) cK)
def aH:Tr Plf:=(.split lg (.leaf (.done 0 [(.arith .add .i64 (.c 0) cK)])) EC)
def uv:SE:=(.lss (.c 335544320) u18)
def rP:SE:=(.arith .sub .i64 (.arith .mul .i64 (.arith .quo .i64 (.arith .sub .i64 (.arith .add .i64 u18 u5) (.c 1)) u5) u5) u18)
def ow:Tr Plf:=(.split (.lss u18 (.c 0)) aH (.split uv aH (.split lg (.leaf (.done 0 [(.arith .add .i64 rP cK)])) (.leaf (.done 0 [(.arith .add .i64 rP (.c 0))])))))
def mw:SE:=(.arith .sub .i64 (.arith .mul .i64 (.arith .quo .i64 (.arith .sub .i64 (.arith .add .i64 u18 (.c 8)) (.c 1)) (.c 8)) (.c 8)) u18)
def j4:SE:=(.arith .sub .i64 u16 (.c 1))
def qa:SE:=(.app 22 (.rcons (.c 0) vU))
def xB:SE:=(.cell u1 u6 0)
def oq:SE:=(.cell u1 u6 1)
def pF:SE:=(.cell u1 u6 2)
def ur:SE:=(.cell u1 u6 3)
def n9:SE:=(.cell u1 u6 4)
def mX:SE:=(.cell u1 u6 5)
def sn:SE:=(.cell u1 u6 6)
def zB:SE:=(.cell u1 u6 7)
def vf:SE:=(.cell u1 u6 8)
def l5:SE:=(.cell u1 u6 9)
def wJ:SE:=(.cell u1 u6 10)
def zX:SE:=(.cell u1 u6 11)
def lO:SE:=(.cell u1 u6 12)
def tP:SE:=(.cell u1 u6 13)
def lU:SE:=(.cell u1 u6 14)
def qo:SE:=(.app 59 (.rcons (.c 0) (.rcons u0 (.rcons u1 (.rcons u2 (.rcons xB (.rcons oq (.rcons pF (.rcons ur (.rcons n9 (.rcons mX (.rcons sn (.rcons zB (.rcons vf (.rcons l5 (.rcons wJ (.rcons zX (.rcons lO (.rcons tP (.rcons lU TY))))))))))))))))))))
def wV:SE:=(.arith .sub .i64 (.arith .quo .i64 (.arith .sub .i64 (.arith .add .i64 (.arith .add .i64 (.c 0) (.sel qo 1)) (.c 8)) (.c 1)) (.c 8)) (.c 1))
def jv:Tr Plf:=(.split (.lss u6 x0) (.split (.eql (.sel qo 0) (.c 1)) (.split (.lss (.c 0) wV) (.leaf (.done 0 [wV])) EC) x5) x5)
def lF:Tr Plf:=(.split x88 x5 jv)
def aW:SE:=(.lss u2 XT)
def Qn:SE:=(.cell u4 u2 1)
def bH:SE:=(.app 23 (rl [(.c 0),u6,(.c 0),Qn]))
def se:SE:=(.app 59 (rl [(.c 0),u0,u1,u2,xB,oq,pF,ur,n9,mX,sn,zB,vf,l5,wJ,zX,lO,tP,lU,(.sel bH 1)]))
def lK:SE:=(.arith .sub .i64 (.arith .quo .i64 (.arith .sub .i64 (.arith .add .i64 (.arith .add .i64 (.sel bH 1) (.sel se 1)) (.c 8)) (.c 1)) (.c 8)) (.c 1))
def jZ:SE:=(.app 60 (.rcons (.c 0) (.rcons u3 (.rcons u4 (.rcons u5 (.rcons u6 (.rcons u7 (.rcons u8 Qv))))))))
def gv:SE:=(.app 61 (.rcons (.c 0) (.rcons x78 (.rcons x76 (.rcons x78 (.rcons u2 zK))))))
def xd:SE:=(.mIdx [.str] u7 (rl [u8]))
def mV:Plf:=(.next 1 [u2,(.c 0),u0,u1])
def dC:SE:=(.app 63 (.rcons (.c 0) (.rcons u2 (.rcons u3 (.rcons u4 (.rcons u5 (.rcons u6 (.rcons u7 (.rcons u8 (.rcons u9 x52))))))))))
def NL:SE:=(.eql (.sel dC 0) (.c 1))
def NH:SE:=(.eql (.sel dC 2) (.c 0))
def qA:SE:=(.app 17 (.rcons (.c 0) wN))
def Qh:SE:=(.eql (.sel qA 0) (.c 1))
def wh:SE:=(rl [(.c 0),(.sel qA 1)])
def wT:SE:=(.app 64 (.rcons (.c 0) (.rcons .emptyL wh)))
def pQ:SE:=(.arith .add .i64 (.sel dC 1) (.sel wT 1))
def tQ:SE:=(.app 64 (.rcons (.c 0) (.rcons u10 wh)))
def RU:SE:=(.eql (.sel tQ 0) (.c 1))
def so:SE:=(.arith .add .i64 (.sel dC 1) (.sel tQ 1))
def So:SE:=(.snoc u10 (rl [x38,so]))
def SI:SE:=(.upd u10 jL 1 so)
def QN:Tr Plf:=(.leaf (.done 0 [u10]))
def Nw:SE:=(.app 56 HV)
def qe:SE:=(.eql (.sel (.app 30 eH) 0) (.c 1))
def Ya:SE:=(.sel (.app 30 eH) 1)
def Aa9:SE:=(.app 62 (.rcons (.c 0) (.rcons u1 (.rcons .emptyL iD))))
def gZ:SE:=(.eql (.sel Aa9 0) (.c 1))
def Aao:SE:=(.mIdx [.str] .emptyL Qv)
def jM:SE:=(.lss Aao (.c 0))
def Xb:SE:=(.sel Aa9 1)
def lc:SE:=(.cell .emptyL Aao 1)
def Sk:Tr Plf:=(.split gZ (.split jM (.leaf (.done 0 [Xb,(.c 0),(.c 0),(.c 0)])) (.leaf (.done 0 [Xb,(.c 0),lc,(.c 0)]))) x5)
def dw:SE:=(.sel QS 12)
def jT:SE:=(.mIdx [.str] dw (rl [(.cell u1 (.c 0) 0)]))
def de:SE:=(.cell dw jT 1)
def kI:SE:=(.mIdx [.str] dw (rl [(.cell u1 Ya 0)]))
def bR:SE:=(.cell dw kI 1)
def cq:SE:=(.app 65 (rl [(.c 0),u0,u1,u2,(.sel Nw 1),(.sel Nw 2),(.sel Nw 3),(.sel Nw 4),(.sel Nw 5),(.sel Nw 6),(.sel Nw 7),(.sel Nw 8)]))
def yh:SE:=(.app 62 (.rcons (.c 0) (.rcons u1 (.rcons (.sel cq 1) iD))))
def kY:SE:=(.eql (.sel yh 0) (.c 1))
def ma:SE:=(.mIdx [.str] (.sel cq 1) Qv)
def kj:SE:=(.lss ma (.c 0))
def Xu:SE:=(.sel yh 1)
def ip:SE:=(.cell (.sel cq 1) ma 1)
def SL:Tr Plf:=(.split kY (.split kj (.leaf (.done 0 [Xu,(.c 0),(.c 0),(.c 0)])) (.leaf (.done 0 [Xu,(.c 0),ip,(.c 0)]))) x5)
def X3:SE:=(.cell u4 u2 0)
def kJ:SE:=(.cell u4 u2 9)
def nV:SE:=(.cell u4 u2 2)
def tB:SE:=(.cell u4 u2 3)
def ya:SE:=(.cell u4 u2 4)
def Aac:SE:=(.cell u4 u2 5)
def uB:SE:=(.cell u4 u2 6)
def wk:SE:=(.cell u4 u2 7)
def zt:SE:=(.cell u4 u2 8)
def oK:SE:=(.cell u4 u2 10)
def ri:SE:=(.cell u4 u2 11)
def ql:SE:=(.cell u4 u2 12)
def xe:SE:=(.cell u4 u2 13)
def rI:SE:=(.cell u4 u2 14)
def i4:Tr Plf:=(.leaf (.next 2 [u0,u1,u2,(.snoc .emptyL (rl [kJ])),(.bc false),(.c 0),u3,u4,X3,Qn,nV,tB,ya,Aac,uB,wk,zt,kJ,oK,ri,ql,xe,rI]))
def Zw:SE:=(.lss u5 (.c 0))
def kV:SE:=(.arith .add .i64 u5 (.c 1))
def Aa5:Tr Plf:=(.leaf (.next 3 (us 0 5++[(.c 0),u6,u7])))
def iS:SE:=(.lss u5 UP)
def nB:SE:=(.arith .add .i64 u7 (.c 1))
def zj:SE:=(.cell u3 u5 0)
def Ta:SE:=(.app 68 (rl [(.c 0),x43,x45]))
def jP:SE:=(.eql (.sel Ta 0) (.c 1))
def sL:Tr Plf:=(.split x42 (.split jP (.leaf (.next 1 [u3,(.sel Ta 1),(.sel Ta 2),u0,u1,u2])) x5) x5)
def Q9:Tr Plf:=(.split x42 (.split jP (.leaf (.next 1 [u3,(.c 0),(.sel Ta 1),(.sel Ta 2),(.c 0),u0,u1,u2])) x5) x5)
def yI:SE:=(.app 67 (.rcons (.c 0) (.rcons u5 (.rcons u6 (.rcons u7 (.rcons x48 US))))))
def Rb:SE:=(.eql (.sel yI 0) (.c 1))
def EM:SE:=(rl [(.c 0),u5,u6,u7,(.sel yI 1)])
def Hz:Tr Plf:=(.leaf (.next 1 [u0,u1,u2,u3,x50,u5,u6,u7]))
def Rt:Tr Plf:=(.leaf (.done 0 [x11]))
def xI:SE:=(.cell u3 u1 10)
def rL:SE:=(.cell u3 u1 0)
def zh:Tr Plf:=(.leaf (.next 2 [u0,u1,(.c 0),u2,u3,rL,Th,(.cell u3 u1 2),(.cell u3 u1 3),(.cell u3 u1 4),(.cell u3 u1 5),(.cell u3 u1 6),(.cell u3 u1 7),(.cell u3 u1 8),(.cell u3 u1 9),xI,(.cell u3 u1 11),(.cell u3 u1 12),(.cell u3 u1 13),(.cell u3 u1 14)]))
def dq:Tr Plf:=(.leaf (.next 1 [u0,u1,x28,u3,u4]))
def nS:SE:=(.app 78 (rl [(.c 0),u3,u4,X3]))
def Aa0:SE:=(.app 79 (.rcons (.c 0) (.rcons u2 (.rcons u3 ji))))
def xz:SE:=(.app 80 (rl [(.c 0),(.cell u4 u0 0),(.cell u4 u0 1)]))
def SY:Tr Plf:=(.split x42 (.split jP (.leaf (.next 1 [u3,(.sel Ta 1),(.sel Ta 2),(.c 0),(.c 0),u0,u1,u2])) x5) x5)
def R9:SE:=(.lss u4 x0)
def pA:SE:=(.app 67 (rl [(.c 0),u5,u6,u7,(.cell u1 u4 0),x9]))
def SG:SE:=(.eql (.sel pA 0) (.c 1))
def D9:SE:=(rl [(.c 0),u5,u6,u7,(.sel pA 1)])
def zd:SE:=(.app 80 (rl [(.c 0),(.cell u6 u0 0),(.cell u6 u0 1)]))
def QT:Tr Plf:=(.split x4 x5 (.split (.lss u0 x9) (.split (.eql (.sel zd 0) (.c 1)) (.leaf (.done 0 [(.arith .add .i64 (.sel zd 1) u3)])) x5) x5))
def zR:SE:=(.app 67 (rl [(.c 0),u0,u1,u2,u2,x0]))
def Aaf:SE:=(.eql (.sel zR 0) (.c 1))
def en:SE:=(.sel zR 1)
def jj:SE:=(.app 68 (rl [(.c 0),rL,Th]))
def bC:SE:=(.app 67 (rl [(.c 0),u5,u6,u7,x48,x9]))
def tK:SE:=(.arith .sub .i64 u1 (.c 1))
def ru:Tr Plf:=(.leaf (.next 1 [u0,tK,u5,u6,u7]))
def yq:Tr Plf:=(.leaf (.done 0 [(.arith .rem .i64 (.arith .add .i64 u15 u2) (.c 8))]))
def wK:Tr Plf:=(.leaf (.next 1 ([u15]++us 0 15)))
def s9:SE:=(.app 91 (.rcons (.c 0) (.rcons (.cell u5 u3 0) (.rcons (.cell u5 u3 1) (.rcons (.cell u5 u3 2) (.rcons (.cell u5 u3 3) (.rcons (.cell u5 u3 4) (.rcons (.cell u5 u3 5) (.rcons (.cell u5 u3 6) (.rcons (.cell u5 u3 7) (.rcons (.cell u5 u3 8) (.rcons (.cell u5 u3 9) (.rcons (.cell u5 u3 10) (.rcons (.cell u5 u3 11) (.rcons (.cell u5 u3 12) (.rcons (.cell u5 u3 13) (.rcons (.cell u5 u3 14) Qv)))))))))))))))))
def wI:SE:=(.arith .quo .i64 u0 (.c 128))
def wz:SE:=(.arith .rem .i64 u0 (.c 128))
def lj:SE:=(.eql u0 (.c 0))
def kh:Tr Plf:=(.leaf (.done 0 [u1,u2]))
def eE:SE:=(.app 93 (rl [(.c 0),u0,u3]))
def oU:SE:=(.app 95 (rl [(.c 0),u2,u3,(.cell u5 u1 0),UP]))
def bq:SE:=(.sel oU 1)
def uY:SE:=(.cell u5 u1 1)
def dj:SE:=(.arith .mul .i64 uY (.cell u3 bq 5))
def lB:Tr Plf:=(.leaf (.next 1 [(.arith .add .i64 u0 dj),x11,u2,u3,u4,u5]))
def xG:SE:=(.arith .mul .i64 uY (.cell u3 bq 6))
def iQ:SE:=(.app 94 (rl [(.c 0),u8]))
def sB:SE:=(.app 96 (rl [(.c 0),u0,u1,u9,u10]))
def sF:SE:=(.arith .mul .i64 (.c 8) u8)
def zG:SE:=(.arith .add .i64 u0 u1)
def uN:SE:=(.arith .sub .i64 u4 (.c 8))
def Aas:Tr Plf:=(.split (.lss (.c 0) uN) (.leaf (.done 0 [(.arith .add .i64 u1 uN)])) (.leaf (.done 0 [(.arith .add .i64 u1 (.c 0))])))
def i9:SE:=(.app 92 (.rcons (.c 0) (.rcons u0 ji)))
def Abb:SE:=(.cell (.sel i9 1) u2 0)
def wC:SE:=(.app 97 (rl [(.c 0),u0,u1,x76,x78,Sx,(.cell u1 u2 3),(.cell u1 u2 4),(.cell u1 u2 5),(.cell u1 u2 6),(.cell u1 u2 7),(.cell u1 u2 8),(.cell u1 u2 9),(.cell u1 u2 10),(.cell u1 u2 11),(.cell u1 u2 12),(.cell u1 u2 13),(.cell u1 u2 14),Abb]))
def nM:SE:=(.arith .sub .i64 (.arith .quo .i64 (.arith .add .i64 (.arith .add .i64 Abb (.sel wC 1)) (.c 7)) (.c 8)) (.c 1))
def dc:SE:=(rl [(.c 0),u0,u1,u2,en])
def tY:SE:=(.cell u4 u1 1)
def kW:SE:=(.app 98 (.rcons (.c 0) (.rcons (.cell u4 u1 0) (.rcons tY Qv))))
def tJ:Tr Plf:=(.leaf (.next 1 ([u0,x11]++us 3 6)))
def KE:SE:=(.app 66 HV)
def Ab2:SE:=(.eql (.sel KE 0) (.c 1))
def cD:Tr Plf:=(.split (.lss (.sel KE 1) u3) x1 (.split (.lss (.sel KE 2) u4) x1 (.leaf (.done 0 [(.neg (.lss (.sel KE 3) u5))]))))
def ew:SE:=(.app 99 HV)
def sa:SE:=(.app 100 (.rcons (.c 0) (.rcons u0 (.rcons u1 (.rcons u2 (.rcons (.c 0) (.rcons (.c 0) TY)))))))
def vR:SE:=(.and (.eql u8 u11) (.and (.eql u9 u12) (.eql u10 u13)))
def nw:SE:=(.arith .add .i64 u11 u5)
def tZ:SE:=(.arith .add .i64 u12 u6)
def iF:SE:=(.arith .add .i64 u13 u7)
def kX:SE:=(.app 100 (rl [(.c 0),u2,u3,u4,nw,tZ,iF]))
def wo:SE:=(.eql (.sel kX 0) (.c 1))
def Yv:Tr Plf:=(.split vR (.split lj (.split wo (.split (.sel kX 1) x1 x8) x5) x1) x1)
def Adh:Tr Plf:=
 .split (.lss (.c 9) x0) x1 (.split (.lss (.c 100) x2) x1 (.split (.lss (.c 100) (.lenS u2)) x1 (.leaf (.next 1 [(.c 0),u0,u1,u2]))))
def Ada:Tr Plf:=
 .split (.lss u0 x3) (.split x4 x5 (.split (.lss (.c 16) (.lenL x6)) x1 (.split (.lss (.c 100) (.lenS x7)) x1 (.leaf (.next 2 [u0,(.c 0),u1,u2,u3,x7,x6]))))) x8
def Ad0:Tr Plf:=
 .split (.lss u1 x9) (.split x10 x5 (.split (.lss (.c 100) (.lenS (.cell u6 u1 0))) x1 (.split (.lss (.c 10) (.lenL (.cell u6 u1 12))) x1 (.split (.lss (.c 6) (.lenL (.cell u6 u1 8))) x1 (.leaf (.next 2 ([u0,x11]++us 2 5))))))) (.leaf (.next 1 [x12,u2,u3,u4]))
def t0:List (Tr Plf):=[Adh,Ada,Ad0]
def Acm:Tr Plf:=
 .leaf x13
def Aej:Tr Plf:=
 .split x15 (.split x16 x5 (.split u2 (.split x17 x18 x20) (.split x17 x20 x18))) x21
def t1:List (Tr Plf):=[Acm,Aej]
def Ach:Tr Plf:=
 .leaf x22
def Ab7:Tr Plf:=
 .split x23 (.split x24 x5 (.split (.lss x26 (.c 65)) (.split (.lss x26 (.c 48)) x27 (.split (.lss (.c 57) x26) x27 x29)) (.split (.lss (.c 90) x26) (.split (.lss x26 (.c 97)) (.split (.eql x26 (.c 95)) x29 x27) (.split (.lss (.c 122) x26) x27 x29)) x29))) x21
def t2:List (Tr Plf):=[Ach,Ab7]
def Ad3:Tr Plf:=
 .split (.eql (.sel x32 0) (.c 1)) (.split (.lss (.sel x32 1) (.c 0)) (.split (.lss (.c 0) x2) (.split (.lss x33 (.c 65)) x1 (.split (.lss (.c 90) x33) (.split (.lss x33 (.c 97)) x1 (.split (.lss (.c 122) x33) x1 x35)) x35)) x5) x1) x5
def t3:List (Tr Plf):=[Ad3]
def Ac5:Tr Plf:=
 .leaf x36
def Adc:Tr Plf:=
 .split x37 x41 x21
def t4:List (Tr Plf):=[Ac5,Adc]
def Aed:Tr Plf:=
 .split (.eql x14 x0) (.leaf x13) x1
def Ac3:Tr Plf:=
 .split x15 (.split x16 x5 (.split x42 (.split (.and (.eqSS x17 x43) (.eql x44 x45)) x20 x1) x5)) x8
def t5:List (Tr Plf):=[Aed,Ac3]
def Adi:Tr Plf:=
 .split (.eql x14 x0) (.leaf x13) x1
def Adq:Tr Plf:=
 .split x15 (.split x16 x5 (.split x42 (.split (.and (.eql x17 x43) (.and (.eql x44 x45) (.eqSS (.cell u0 u3 2) (.cell u1 u3 2)))) x20 x1) x5)) x8
def t6:List (Tr Plf):=[Adi,Adq]
def Acu:Tr Plf:=
 .leaf (.next 1 [u9,u10,u11,u12,(.c 0),u0,u1,u2,u5,u6,u7,u8,u3,u4])
def Acf:Tr Plf:=
 .split x46 (.split x47 x5 (.split (.lss x48 u0) x49 (.split (.lss u1 x48) x49 (.leaf (.next 1 ([x48,u1,u2,u3,x50]++us 5 9)))))) x51
def t7:List (Tr Plf):=[Acu,Acf]
def Ade:Tr Plf:=
 .leaf x36
def Adb:Tr Plf:=
 .split x37 (.split x10 x5 (.split x54 (.split (.eql (.sel x55 0) (.c 1)) (.split (.lss x56 (.c (-1048576))) (.split (.eql (.sel x59 0) (.c 1)) (.split (.lss (.sel x59 1) (.c 0)) x61 x62) x5) (.split (.eql (.sel x63 0) (.c 1)) (.split (.lss (.sel x63 1) (.c 0)) x61 x62) x5)) x5) (.split x64 x66 (.split (.eql (.sel x55 0) (.c 1)) (.split (.lss x56 (.c (-1048576))) (.split (.eql (.sel x59 0) (.c 1)) (.split (.lss (.sel x59 1) (.c 0)) x67 x66) x5) (.split (.eql (.sel x63 0) (.c 1)) (.split (.lss (.sel x63 1) (.c 0)) x67 x66) x5)) x5)))) (.leaf (.done 0 [(.c (-1)),u2]))
def t8:List (Tr Plf):=[Ade,Adb]
def Aeg:Tr Plf:=
 .leaf (.next 1 [u0,(.c 0),.emptyL])
def Ac9:Tr Plf:=
 .split x37 (.split x10 x5 (.split (.eql x56 (.c 1)) x70 (.split (.eql x56 (.c 2)) (.split x54 (.leaf (.next 1 [u0,x11,(.snoc u2 (rl [x38,x68,x68]))])) (.leaf (.next 1 [u0,x11,(.upd (.upd u2 x53 1 x68) x53 2 x68)]))) (.split (.eql x56 (.c 3)) x70 x40)))) x27
def t9:List (Tr Plf):=[Aeg,Ac9]
def lQ:Tr Plf:=
 .leaf (.next 1 [u10,u11,(.c 0),u0,u1,u2,u5,u6,u7,u8,u3,u4,u9])
def xN:Tr Plf:=
 .split x23 (.split x24 x5 (.split (.lss (.mIdx [.str] u12 (rl [x25])) (.c 0)) (.leaf (.done 0 [u6,u7])) (.leaf (.next 1 ([u0,u1,x28]++us 3 10))))) x51
def t10:List (Tr Plf):=[lQ,xN]
def me:Tr Plf:=
 .leaf (.next 1 [u4,u5,(.c 0),u0,u1,u2,u3])
def mF:Tr Plf:=
 .split x23 (.split x24 x5 (.split (.lss x71 (.c 0)) (.split (.eqSS x25 u3) x72 (.leaf (.next 1 [u0,u1,x28,u3,u4,u5,(.bc true)]))) (.split (.eqSS x25 u3) x72 (.split (.eql (.sel x74 0) (.c 1)) (.split (.lss (.sel x74 1) (.c 0)) x72 (.leaf (.done 0 [u6]))) x5)))) (.leaf (.done 1 [u6]))
def t11:List (Tr Plf):=[me,mF]
def zp:Tr Plf:=
 .leaf (.next 1 [u0,u1,(.c 0),u2,u3])
def yo:Tr Plf:=
 .split x75 (.split x24 x5 (.split (.lss x77 (.c 0)) (.split u4 (.split x79 x80 x80) (.split x79 x80 x80)) (.split u4 (.split x79 x81 x82) (.split x79 x82 x81)))) x83
def t12:List (Tr Plf):=[zp,yo]
def yl:Tr Plf:=
 .split (.lss u16 (.c (-1048576))) x84 (.split (.eql (.sel x86 0) (.c 1)) (.split (.lss (.sel x86 1) (.c 0)) (.split (.eql (.sel x87 0) (.c 1)) (.split (.lss (.sel x87 1) (.c 0)) (.split x88 x5 (.split x90 x5 (.split (.eql (.sel x92 0) (.c 1)) (.split (.isNil u17) (.split (.eql (.sel x94 0) (.c 1)) (.leaf (.done 0 [(.sel x94 1),(.sel x94 2),(.c 8)])) (.split (.eql (.sel x94 0) (.c 2)) (.split (.eql (.sel x96 0) (.c 1)) x84 (.split (.eql (.sel x96 0) (.c 2)) (.split (.sel x96 1) x84 x99) x5)) x5)) (.split (.lss x85 (.c 1048576)) (.split (.eql xm (.c 1)) (.leaf (.done 0 [(.sel sA 1),(.sel sA 2),(.c 8)])) (.split (.eql xm (.c 2)) (.split (.eql (.sel kO 0) (.c 1)) x84 (.split (.eql (.sel kO 0) (.c 2)) (.split (.sel kO 1) x84 x99) x5)) x5)) x5)) x5))) x84) x5) x84) x5)
def t13:List (Tr Plf):=[yl]
def sM:Tr Plf:=
 .leaf (.next 1 ([u0,(.c 0)]++us 1 15))
def zr:Tr Plf:=
 .split x37 (.split x10 x5 (.split ld (.split (.eqSS jA u12) x39 dR) dR)) x21
def t14:List (Tr Plf):=[sM,zr]
def pd:Tr Plf:=
 .split x88 x5 (.split x90 x5 (.split (.eql (.sel x92 0) (.c 1)) (.split (.lss jN (.c 0)) (.split uO Uv x5) (.split uO (.split (.lss (.sel nc 1) (.c 0)) (.split (.lss (.lenL u21) (.c 1)) tw (.split (.lss (.c 40) (.lenL u21)) tw (.leaf (.next 1 [mO,u21,(.c 0),u0,u1,u2,u5,u6,u7,u8,u3,u4,mO,(.cell (.sel x92 1) jN 2)])))) Uv) x5)) x5))
def qZ:Tr Plf:=
 .split x75 (.split x24 x5 (.split (.eql (.sel bK 0) (.c 1)) (.leaf (.done 0 [(.sel bK 1),(.sel bK 2),(.c 7)])) (.split (.eql (.sel bK 0) (.c 2)) (.split (.lss (.mIdx [.str] u10 (rl [Sx])) (.c 0)) (.leaf (.done 0 [u6,u7,(.c 8)])) (.leaf (.next 1 [(.arith .add .i64 x78 (.c 1)),u1,x28,u3,u4,u5,u6,u7,u8,u9,u10,u11,u12,u13]))) x5))) x51
def t15:List (Tr Plf):=[pd,qZ]
def yG:Tr Plf:=
 .split tM (.split (.sel gC 1) (.split x88 x5 (.split x90 x5 (.split (.eql (.sel oZ 0) (.c 1)) (.split (.lss (.sel oZ 1) (.c 0)) (.split (.eql u10 (.c 1)) (.split (.and Lq (.and PS (.and Nz (.and QI (.and NI (.and (.bc true) (.and (.bc true) (.and (.bc true) vG)))))))) (.split Qf (.split Qm (.split MP (.split Mq (.split (.lss u11 (.c 1)) Nq (.split (.lss (.c 32) u11) Nq (.split u12 (.split (.lss (.c 8) u11) (.split gX xV Nq) Nq) xV))) CB) x5) CB) x5) CB) (.split (.eql u10 (.c 2)) (.split (.and Lq (.and PS (.and Nz (.and QI (.and NI (.and (.bc true) (.and (.bc true) (.and Zz vG)))))))) (.split Qf (.split Qm (.split MP (.split Mq (.split (.lss u11 (.c 1)) Nq (.split (.lss (.c 32) u11) Nq (.split u12 (.split (.lss (.c 8) u11) (.split gX tc Nq) Nq) tc))) CB) x5) CB) x5) CB) (.split (.eql u10 (.c 3)) (.split (.and Lq (.and PS (.and Nz (.and QI (.and NI (.and TK (.and (.bc true) Aai))))))) (.split Qf (.split Qm (.split MP (.split Mq (.split (.eql (.sel dr 0) (.c 1)) (.leaf (.done 0 [(.sel dr 1),(.sel dr 2),(.c 7)])) (.split (.eql (.sel dr 0) (.c 2)) x51 x5)) CB) x5) CB) x5) CB) (.split (.eql u10 (.c 4)) (.split (.and Lq (.and PS wp)) (.split MP (.split Mq iy CB) x5) CB) (.split (.eql u10 (.c 5)) (.split (.and Lq (.and PS (.and Nz (.and QI (.and NI (.and TK (.and (.bc true) (.and (.bc true) vo)))))))) (.split Qf (.split Qm (.split MP (.split Mq (.split (.eql (.sel cS 0) (.c 1)) (.leaf (.done 0 [(.sel cS 1),(.sel cS 2),(.c 7)])) (.split (.eql (.sel cS 0) (.c 2)) (.split (.eql (.sel dJ 0) (.c 1)) (.leaf (.done 0 [(.sel dJ 1),(.sel dJ 2),(.c 7)])) (.split (.eql (.sel dJ 0) (.c 2)) x51 x5)) x5)) CB) x5) CB) x5) CB) (.split (.eql u10 (.c 6)) (.split (.and Lq (.and PS (.and Nz (.and QI (.and NI (.and TK (.and ZA Aai))))))) (.split Qf (.split Qm (.split MP (.split Mq (.split (.eql (.sel cA 0) (.c 1)) (.leaf (.done 0 [(.sel cA 1),(.sel cA 2),(.c 7)])) (.split (.eql (.sel cA 0) (.c 2)) x51 x5)) CB) x5) CB) x5) CB) (.split (.eql u10 (.c 7)) (.split (.and Lq (.and YW wp)) (.split MP (.split Mq (.split nG Uv iy) CB) x5) CB) (.split (.eql u10 (.c 8)) (.split (.and Lq (.and YW (.and Nz ou))) (.split Qf (.split Qm (.split MP (.split Mq (.split nG Uv x51) CB) x5) CB) x5) CB) (.split (.eql u10 (.c 9)) (.split (.and Lq (.and PS (.and YW ou))) (.split Qf (.split Qm (.split (.eql (.sel ap 0) (.c 1)) (.leaf (.done 0 [(.sel ap 1),(.sel ap 2),(.sel ap 3)])) (.split (.eql (.sel ap 0) (.c 2)) x51 x5)) CB) x5) CB) (.split (.eql u10 (.c 10)) (.split (.and Lq (.and PS (.and Nz (.and QI (.and NI (.and (.bc true) rB)))))) (.split Qf (.split Qm (.split MP (.split Mq (.split (.eql u11 (.c 2)) x51 (.split (.eql u11 (.c 4)) x51 (.split (.lss u11 (.c 8)) Nq (.split (.lss (.c 512) u11) Nq (.split gX x51 Nq))))) CB) x5) CB) x5) CB) (.split (.eql u10 (.c 11)) (.split (.and Lq (.and PS (.and Nz (.and YW (.and NI (.and TK (.and ZA (.and Zz (.and bF (.and (.bc true) lz)))))))))) (.split Qf (.split Qm (.split MP (.split Mq (.split (.eql (.sel dE 0) (.c 1)) (.leaf (.done 0 [(.sel dE 1),(.sel dE 2),(.c 7)])) (.split (.eql (.sel dE 0) (.c 2)) (.split (.eql (.sel xF 0) (.c 1)) (.split (.lss (.sel xF 1) (.c 0)) Uv x51) x5) x5)) CB) x5) CB) x5) CB) (.split (.eql u10 (.c 12)) (.split (.and Lq (.and YW (.and Nz (.and QI (.and NI (.and TK (.and ZA (.and Zz (.and (.bc true) (.and Y1 (.and (.bc true) (.and gT jQ)))))))))))) (.split MP (.split Mq (.split (.eql (.sel cR 0) (.c 1)) (.leaf (.done 0 [(.sel cR 1),(.sel cR 2),(.c 7)])) (.split (.eql (.sel cR 0) (.c 2)) (.split (.lss zV (.c 0)) Uv (.split (.cell u4 zV 1) iy Uv)) x5)) CB) x5) CB) (.leaf (.done 0 [u5,u6,(.c 4)])))))))))))))) (.leaf (.done 0 [u5,u6,(.c 2)]))) x5))) (.leaf (.done 0 [u5,u6,(.c 1)]))) x5
def t16:List (Tr Plf):=[yG]
def mW:Tr Plf:=
 .leaf (.next 1 [u1,(.c 0),.nilL,(.bc true)])
def yk:Tr Plf:=
 .split x37 (.split x10 x5 (.split (.eql x56 (.c 7)) iK (.split (.eql x56 (.c 8)) iK (.split (.eql x56 (.c 12)) iK (.split ld (.leaf (.next 2 [u0,u1,gH,(.lenL gH),(.c 0),u2,u3])) ZX))))) (.leaf (.done 0 [(.nilIs u2 u3)]))
def xw:Tr Plf:=
 .split (.lss u4 u3) (.split x47 x5 (.split x46 (.split (.lss gr Qq) (.leaf (.next 2 [u0,u1,u2,u3,x50,(.snoc u5 (rl [(.cell u2 u4 2)])),(.bc false)])) x5) x5)) (.leaf (.next 1 [u0,x11,u5,u6]))
def t17:List (Tr Plf):=[mW,yk,xw]
def l7:Tr Plf:=
 .leaf x22
def wl:Tr Plf:=
 .split x23 (.split x24 x5 (.split (.eqSS u1 x25) x27 x29)) x21
def t18:List (Tr Plf):=[l7,wl]
def Aax:Tr Plf:=
 .leaf (.next 1 [u11,(.c 0),u0,u1,u2,u5,u6,u7,u8,u3,u4,u9,u10])
def Aby:Tr Plf:=
 .split x37 (.split x10 x5 (.split MS x5 (.split Mr (.split M0 (.split (.lss tk (.c 0)) (.split (.lss u12 (.c 0)) (.split u11 (.split MA rb (.leaf (.next 1 ([u0,x11]++us 2 9++[gx,(.c 0)])))) rb) vV) (.split (.lss u12 jC) (.split u11 (.split MA qp (.leaf (.next 1 ([u0,x11]++us 2 9++[gx,jC])))) qp) vV)) (.leaf (.next 1 ([u0,x11]++us 2 11)))) x5))) (.leaf (.done 0 [u11,u12]))
def t19:List (Tr Plf):=[Aax,Aby]
def yg:Tr Plf:=
 .split tM (.split (.sel gC 1) (.split (.lss (.mIdx [.str] u3 cn) (.c 0)) (.split (.lss (.lenL u10) (.c 1)) yn (.split (.lss (.c 40) (.lenL u10)) yn (.leaf (.next 1 [u10,(.c 0),u0,u1,u2,u5,(.c (-1)),u9,u3,u4,(.bc true)])))) (.leaf (.done 0 [u5,(.c (-1)),(.c 2),(.c (-1)),u9,u10,u3,u4]))) (.leaf (.done 0 [u5,(.c (-1)),(.c 1),(.c (-1)),u9,u10,u3,u4]))) x5
def zl:Tr Plf:=
 .split x37 (.split x10 x5 (.split (.eql (.sel Zo 0) (.c 1)) (.leaf (.done 0 [(.sel Zo 1),(.sel Zo 2),(.sel Zo 3),u1,u7,u0,u8,u9])) (.split (.eql (.sel Zo 0) (.c 2)) (.split u10 (.leaf (.next 1 [u0,x11,u2,u3,u4,u5,u1,u7,u8,u9,(.neg Aa7)])) (.leaf (.next 1 [u0,x11,u2,u3,u4,u5,u1,u7,u8,u9,(.bc false)]))) x5))) (.split (.eql (.sel qx 0) (.c 1)) (.split (.eql (.sel bD 0) (.c 1)) (.split (.lss (.mIdx [.str] u8 (rl [u7])) (.c 0)) (.split (.lss (.mIdx [.str] u9 (rl [u7])) (.c 0)) (.split (.lss (.sel bD 2) (.c 16)) (.leaf (.done 1 [u7,u0,Aam,mN])) (.leaf (.done 0 [u5,(.c (-1)),(.c 10),(.c (-1)),u7,u0,Aam,mN]))) x5) x5) x5) x5)
def t20:List (Tr Plf):=[yg,zl]
def wM:Tr Plf:=
 .split (.eql (.sel (.app 3 eC) 0) (.c 1)) (.split (.sel (.app 3 eC) 1) (.split (.lss x0 (.c 1)) rC (.split (.lss (.c 60) x0) rC (.leaf (.next 1 [u1,(.c 0),u0,u2,(.c (-1)),(.strc 0 0),.nilL,.emptyL,.emptyL])))) (.leaf (.done 0 [(.c 1),u0,u1,u2]))) x5
def Aab:Tr Plf:=
 .split x37 (.split x10 x5 (.split (.eql (.sel I1 0) (.c 1)) (.leaf (.done 1 [(.sel I1 1),(.sel I1 2),(.sel I1 3),(.bc true),u2,u0,u3,u1,(.sel I1 4),(.sel I1 5),(.sel I1 6),(.sel I1 7),(.sel I1 8)])) (.split (.eql (.sel I1 0) (.c 2)) (.leaf (.next 1 [u0,x11,u2,u3,u1,(.sel I1 1),(.sel I1 2),(.sel I1 3),(.sel I1 4)])) x5))) (.split (.lss (.mIdx [.str] u7 (rl [u3])) (.c 0)) (.leaf (.done 1 [(.c (-1)),(.c (-1)),(.c 11),(.bc true),u2,u0,u3,(.c (-1)),(.c (-1)),u5,u6,u7,u8])) (.leaf (.done 1 [(.c 0),(.c 0),(.c 0),(.bc false),u2,u0,u3,(.c (-1)),(.c (-1)),u5,u6,u7,u8])))
def t21:List (Tr Plf):=[wM,Aab]
def wW:Tr Plf:=
 .split bj (.leaf (.done 0 [(.c (-1)),(.c (-1)),(.sel QS 1),(.bc true)])) (.split aX (.leaf (.done 0 [(.sel QS 1),(.sel QS 2),(.sel QS 3),YD])) x5)
def t22:List (Tr Plf):=[wW]
def qI:Tr Plf:=
 .leaf (.next 1 [(.c 0),u2,(.c 0),u0,u1])
def nH:Tr Plf:=
 .split x75 (.split x24 x5 (.split (.eql u2 u3) x83 (.split (.eql x78 (.c 1)) nf (.split (.eql x78 (.c 2)) nf (.split (.eql x78 (.c 10)) (.split (.eql Sx (.c 0)) x5 (.leaf (.next 1 [rZ,u1,x28,u3,u4]))) (.leaf (.next 1 [(.c 0),u1,x28,u3,u4]))))))) (.split (.eql x0 u3) x83 x51)
def t23:List (Tr Plf):=[qI,nH]
def sJ:Tr Plf:=
 .split (.eql u1 x14) (.leaf (.done 0 [(.neg (.eql u2 (.c 0)))])) (.split x10 x5 (.split x37 (.split (.eql u2 (.c 0)) (.split vK (.split yx (.split (.eql x56 (.c 11)) (.split (.eql (.sel jW 0) (.c 1)) (.split (.eql (.sel jW 1) (.c 0)) x1 x8) (.split (.eql (.sel jW 0) (.c 2)) x1 x5)) x1) (.split (.eql x56 (.c 11)) (.split (.eql (.sel jn 0) (.c 1)) (.split (.eql (.sel jn 1) (.c 0)) x1 x8) (.split (.eql (.sel jn 0) (.c 2)) x1 x5)) x1)) x5) (.split (.eql x56 (.c 1)) lG (.split (.eql x56 (.c 2)) lG (.split (.eql x56 (.c 10)) lG x8)))) x5))
def t24:List (Tr Plf):=[sJ]
def um:Tr Plf:=
 .leaf (.next 1 ([(.c 0),u7,(.c 0)]++us 0 7))
def nW:Tr Plf:=
 .split x75 (.split x24 x5 (.split (.eql (.sel nZ 0) (.c 1)) (.split Xe (.split (.eql u2 kf) (.leaf (.done 0 [u7,(.c (-1)),Xe])) (.leaf (.done 0 [u7,u2,Xe]))) (.split (.eql x78 (.c 1)) uQ (.split (.eql x78 (.c 2)) uQ (.split (.eql x78 (.c 10)) (.split (.eql Sx (.c 0)) x5 (.leaf (.next 1 [rZ,u1,x28,u3,u4,u5,Xe,u7,u8,u9]))) (.leaf (.next 1 [(.c 0),u1,x28,u3,u4,u5,Xe,u7,u8,u9])))))) x5)) (.split (.eql (.sel wY 0) (.c 1)) (.split cY (.split (.eql x0 kf) (.leaf (.done 0 [u7,(.c (-1)),cY])) (.leaf (.done 0 [u7,x0,cY]))) (.leaf (.done 1 [cY]))) x5)
def t25:List (Tr Plf):=[um,nW]
def lX:Tr Plf:=
 .split (.eql (.sel T9 0) (.c 1)) (.split (.sel T9 4) Abe (.split bk (.split (.eql (.sel Ui 0) (.c 1)) (.leaf (.done 0 [(.sel Ui 1),(.sel Ui 2),(.c 12),(.sel Ui 3)])) (.split (.eql (.sel Ui 0) (.c 2)) (.split (.lss (.c 1) x0) (.split (.eql (.sel Ux 0) (.c 1)) (.leaf (.done 0 [(.sel Ux 1),(.sel Ux 2),(.c 12),(.sel Ux 3)])) (.split (.eql (.sel Ux 0) (.c 2)) (.split (.lss (.c 2) x0) (.split (.eql (.sel Uz 0) (.c 1)) (.leaf (.done 0 [(.sel Uz 1),(.sel Uz 2),(.c 12),(.sel Uz 3)])) (.split (.eql (.sel Uz 0) (.c 2)) (.split (.lss (.c 3) x0) (.split (.eql (.sel Um 0) (.c 1)) (.leaf (.done 0 [(.sel Um 1),(.sel Um 2),(.c 12),(.sel Um 3)])) (.split (.eql (.sel Um 0) (.c 2)) (.split (.lss (.c 4) x0) (.split (.eql (.sel UR 0) (.c 1)) (.leaf (.done 0 [(.sel UR 1),(.sel UR 2),(.c 12),(.sel UR 3)])) (.split (.eql (.sel UR 0) (.c 2)) (.split (.lss (.c 5) x0) (.split (.eql (.sel Uu 0) (.c 1)) (.leaf (.done 0 [(.sel Uu 1),(.sel Uu 2),(.c 12),(.sel Uu 3)])) (.split (.eql (.sel Uu 0) (.c 2)) (.split (.lss (.c 6) x0) (.split (.eql (.sel Tl 0) (.c 1)) (.leaf (.done 0 [(.sel Tl 1),(.sel Tl 2),(.c 12),(.sel Tl 3)])) (.split (.eql (.sel Tl 0) (.c 2)) (.split (.lss (.c 7) x0) (.split (.eql (.sel Uf 0) (.c 1)) (.leaf (.done 0 [(.sel Uf 1),(.sel Uf 2),(.c 12),(.sel Uf 3)])) (.split (.eql (.sel Uf 0) (.c 2)) (.split (.lss (.c 8) x0) (.split (.eql (.sel To 0) (.c 1)) (.leaf (.done 0 [(.sel To 1),(.sel To 2),(.c 12),(.sel To 3)])) (.split (.eql (.sel To 0) (.c 2)) (.split (.lss (.c 9) x0) (.split (.eql (.sel XA 0) (.c 1)) (.leaf (.done 0 [(.sel XA 1),(.sel XA 2),(.c 12),(.sel XA 3)])) (.split (.eql (.sel XA 0) (.c 2)) (.split (.lss (.c 10) x0) x5 (.leaf (.done 0 [E5,E3,E4,(.sel XA 1)]))) x5)) (.leaf (.done 0 [E5,E3,E4,(.sel To 1)]))) x5)) (.leaf (.done 0 [E5,E3,E4,(.sel Uf 1)]))) x5)) (.leaf (.done 0 [E5,E3,E4,(.sel Tl 1)]))) x5)) (.leaf (.done 0 [E5,E3,E4,(.sel Uu 1)]))) x5)) (.leaf (.done 0 [E5,E3,E4,(.sel UR 1)]))) x5)) (.leaf (.done 0 [E5,E3,E4,(.sel Um 1)]))) x5)) (.leaf (.done 0 [E5,E3,E4,(.sel Uz 1)]))) x5)) (.leaf (.done 0 [E5,E3,E4,(.sel Ux 1)]))) x5)) (.leaf (.done 0 [E5,E3,E4,(.sel Ui 1)]))) x5)) Abe)) x5
def t26:List (Tr Plf):=[lX]
def lI:Tr Plf:=
 .split (.eql (.sel (.app 26 HV) 0) (.c 1)) (.leaf (.done 0 [(.neg (.sel (.app 26 HV) 4))])) x5
def t27:List (Tr Plf):=[lI]
def wn:Tr Plf:=
 .split (.isNil u1) (.leaf (.next 1 [(.c 0),(.c 0),u0,.nilL,(.bc true),u2])) (.split (.lss x0 (.c 1048576)) (.leaf (.next 1 [x0,(.c 0),u0,(.cat .emptyL u1),(.bc false),u2])) x5)
def wO:Tr Plf:=
 .split (.lss u1 u0) (.split x10 x5 (.split aB (.split (.isNil Th) (.leaf (.next 2 [u1,u0,(.lenL (.cell uX u1 1)),u2,uX,u4,u5])) (.split (.lss (.lenL Th) (.c 1048576)) (.leaf (.next 3 [u1,u0,(.lenL Th),(.c 0),u2,u3,u4,u5,(.cat .emptyL Th),(.bc false)])) x5)) x5)) (.leaf (.done 0 [u2,u3,u4,u5]))
def sr:Tr Plf:=
 .split (.lss (.c 0) u2) x5 (.leaf (.next 1 [u1,x12,u3,u4,u5,u6]))
def Aak:Tr Plf:=
 .split (.lss u3 u2) (.split x16 x5 (.split (.lss u3 x89) (.split (.isNil kZ) (.split (.isNil bX) (.leaf (.next 3 [u0,u1,u2,x19,u4,u5,u6,u7,(.upd uV u3 12 .nilL),u9])) (.split Aae (.leaf (.next 3 [u0,u1,u2,x19,u4,u5,u6,u7,(.upd uV u3 12 lS),u9])) x5)) (.split (.lss (.lenL kZ) (.c 1048576)) (.split (.isNil bX) (.leaf (.next 3 [u0,u1,u2,x19,u4,u5,u6,u7,(.upd nJ u3 12 .nilL),u9])) (.split Aae (.leaf (.next 3 [u0,u1,u2,x19,u4,u5,u6,u7,(.upd nJ u3 12 lS),u9])) x5)) x5)) x5)) (.leaf (.next 1 [u1,x12,u4,(.upd u5 u0 1 (.nilIs u8 u9)),u6,u7]))
def t28:List (Tr Plf):=[wn,wO,sr,Aak]
def rM:Tr Plf:=
 .split (.lss XT Qq) (.leaf (.done 0 [(.snoc u4 (rl (us 9 6))),(.bc false)])) x5
def t29:List (Tr Plf):=[rM]
def wq:Tr Plf:=
 .leaf x36
def uw:Tr Plf:=
 .split x37 x41 x21
def t30:List (Tr Plf):=[wq,uw]
def sq:Tr Plf:=
 .leaf Pp
def vN:Tr Plf:=
 .split x37 (.split x10 x5 (.split MS x5 (.split Mr (.split M0 x5 PF) x5))) dM
def t31:List (Tr Plf):=[sq,vN]
def rE:Tr Plf:=
 .split PH (.split Gw (.split Gz (.split Gv (.split Gx (.split (.eql (.sel (.app 31 GV) 0) (.c 1)) (.leaf (.done 0 [cZ])) x5) x5) x5) (.split GA (.split Gy (.split (.eql (.sel (.app 31 G3) 0) (.c 1)) (.leaf (.done 0 [cZ])) x5) x5) x5)) x5) (.split QG x39 (.split Gw (.split Gz (.split Gv (.split Gx (.split (.eql (.sel (.app 31 Hc) 0) (.c 1)) (.leaf (.done 0 [dF])) x5) x5) x5) (.split GA (.split Gy (.split (.eql (.sel (.app 31 GK) 0) (.c 1)) (.leaf (.done 0 [dF])) x5) x5) x5)) x5))
def t32:List (Tr Plf):=[rE]
def te:Tr Plf:=
 .leaf Pp
def pw:Tr Plf:=
 .split x37 (.split x10 x5 (.split MS x5 (.split Mr (.split M0 (.split (.eql (.sel (.app 32 HE) 0) (.c 1)) (.leaf (.next 1 [u0,x11,(.sel (.app 32 HE) 1),u3,u4,u5])) x5) PF) x5))) x27
def t33:List (Tr Plf):=[te,pw]
def yU:Tr Plf:=
 .split PH (.split Gw (.split Gz (.split Gv (.split Gx (.split (.eql (.sel (.app 33 GV) 0) (.c 1)) (.leaf (.done 0 [(.sel (.app 33 GV) 1)])) x5) x5) x5) (.split GA (.split Gy (.split (.eql (.sel (.app 33 G3) 0) (.c 1)) (.leaf (.done 0 [(.sel (.app 33 G3) 1)])) x5) x5) x5)) x5) (.split QG x39 (.split Gw (.split Gz (.split Gv (.split Gx (.split (.eql (.sel (.app 33 Hc) 0) (.c 1)) (.leaf (.done 0 [(.sel (.app 33 Hc) 1)])) x5) x5) x5) (.split GA (.split Gy (.split (.eql (.sel (.app 33 GK) 0) (.c 1)) (.leaf (.done 0 [(.sel (.app 33 GK) 1)])) x5) x5) x5)) x5))
def t34:List (Tr Plf):=[yU]
def oM:Tr Plf:=
 .leaf Pp
def qR:Tr Plf:=
 .split x37 (.split x10 x5 (.split MS x5 (.split Mr (.split M0 (.split (.eql (.sel (.app 34 HE) 0) (.c 1)) (.leaf (.next 1 [u0,x11,(.sel (.app 34 HE) 1),u3,u4,u5])) x5) PF) x5))) x27
def t35:List (Tr Plf):=[oM,qR]
def qb:Tr Plf:=
 .split PH (.split Gw (.split Gz (.split Gv (.split Gx (.split (.eql (.sel (.app 35 GV) 0) (.c 1)) (.leaf (.done 0 [(.sel (.app 35 GV) 1)])) x5) x5) x5) (.split GA (.split Gy (.split (.eql (.sel (.app 35 G3) 0) (.c 1)) (.leaf (.done 0 [(.sel (.app 35 G3) 1)])) x5) x5) x5)) x5) (.split QG x39 (.split Gw (.split Gz (.split Gv (.split Gx (.split (.eql (.sel (.app 35 Hc) 0) (.c 1)) (.leaf (.done 0 [(.sel (.app 35 Hc) 1)])) x5) x5) x5) (.split GA (.split Gy (.split (.eql (.sel (.app 35 GK) 0) (.c 1)) (.leaf (.done 0 [(.sel (.app 35 GK) 1)])) x5) x5) x5)) x5))
def t36:List (Tr Plf):=[qb]
def uG:Tr Plf:=
 .leaf Pp
def zg:Tr Plf:=
 .split x37 (.split x10 x5 (.split MS x5 (.split Mr (.split M0 (.split (.eql (.sel (.app 36 HE) 0) (.c 1)) (.leaf (.next 1 [u0,x11,(.sel (.app 36 HE) 1),u3,u4,u5])) x5) PF) x5))) x27
def t37:List (Tr Plf):=[uG,zg]
def rQ:Tr Plf:=
 .split PH (.split Gw (.split Gz (.split Gv (.split Gx (.split (.eql (.sel (.app 37 GV) 0) (.c 1)) (.leaf (.done 0 [(.sel (.app 37 GV) 1)])) x5) x5) x5) (.split GA (.split Gy (.split (.eql (.sel (.app 37 G3) 0) (.c 1)) (.leaf (.done 0 [(.sel (.app 37 G3) 1)])) x5) x5) x5)) x5) (.split QG x39 (.split Gw (.split Gz (.split Gv (.split Gx (.split (.eql (.sel (.app 37 Hc) 0) (.c 1)) (.leaf (.done 0 [(.sel (.app 37 Hc) 1)])) x5) x5) x5) (.split GA (.split Gy (.split (.eql (.sel (.app 37 GK) 0) (.c 1)) (.leaf (.done 0 [(.sel (.app 37 GK) 1)])) x5) x5) x5)) x5))
def t38:List (Tr Plf):=[rQ]
def lJ:Tr Plf:=
 .leaf Pp
def tH:Tr Plf:=
 .split x37 (.split x10 x5 (.split MS x5 (.split Mr (.split M0 (.split (.eql (.sel (.app 38 HE) 0) (.c 1)) (.leaf (.next 1 [u0,x11,(.sel (.app 38 HE) 1),u3,u4,u5])) x5) PF) x5))) x27
def t39:List (Tr Plf):=[lJ,tH]
def oQ:Tr Plf:=
 .split PH (.split Gw (.split Gz (.split Gv (.split Gx (.split (.eql (.sel (.app 39 GV) 0) (.c 1)) (.leaf (.done 0 [(.sel (.app 39 GV) 1)])) x5) x5) x5) (.split GA (.split Gy (.split (.eql (.sel (.app 39 G3) 0) (.c 1)) (.leaf (.done 0 [(.sel (.app 39 G3) 1)])) x5) x5) x5)) x5) (.split QG x39 (.split Gw (.split Gz (.split Gv (.split Gx (.split (.eql (.sel (.app 39 Hc) 0) (.c 1)) (.leaf (.done 0 [(.sel (.app 39 Hc) 1)])) x5) x5) x5) (.split GA (.split Gy (.split (.eql (.sel (.app 39 GK) 0) (.c 1)) (.leaf (.done 0 [(.sel (.app 39 GK) 1)])) x5) x5) x5)) x5))
def t40:List (Tr Plf):=[oQ]
def oi:Tr Plf:=
 .leaf Pp
def mE:Tr Plf:=
 .split x37 (.split x10 x5 (.split MS x5 (.split Mr (.split M0 (.split (.eql (.sel (.app 40 HE) 0) (.c 1)) (.leaf (.next 1 [u0,x11,(.sel (.app 40 HE) 1),u3,u4,u5])) x5) PF) x5))) x27
def t41:List (Tr Plf):=[oi,mE]
def Aav:Tr Plf:=
 .split PH (.split Gw (.split Gz (.split Gv (.split Gx (.split (.eql (.sel (.app 41 GV) 0) (.c 1)) (.leaf (.done 0 [(.sel (.app 41 GV) 1)])) x5) x5) x5) (.split GA (.split Gy (.split (.eql (.sel (.app 41 G3) 0) (.c 1)) (.leaf (.done 0 [(.sel (.app 41 G3) 1)])) x5) x5) x5)) x5) (.split QG x39 (.split Gw (.split Gz (.split Gv (.split Gx (.split (.eql (.sel (.app 41 Hc) 0) (.c 1)) (.leaf (.done 0 [(.sel (.app 41 Hc) 1)])) x5) x5) x5) (.split GA (.split Gy (.split (.eql (.sel (.app 41 GK) 0) (.c 1)) (.leaf (.done 0 [(.sel (.app 41 GK) 1)])) x5) x5) x5)) x5))
def t42:List (Tr Plf):=[Aav]
def mb:Tr Plf:=
 .leaf Pp
def lR:Tr Plf:=
 .split x37 (.split x10 x5 (.split MS x5 (.split Mr (.split M0 (.split (.eql (.sel (.app 42 HE) 0) (.c 1)) (.leaf (.next 1 [u0,x11,(.sel (.app 42 HE) 1),u3,u4,u5])) x5) PF) x5))) x27
def t43:List (Tr Plf):=[mb,lR]
def tt:Tr Plf:=
 .split PH (.split Gw (.split Gz (.split Gv (.split Gx (.split (.eql (.sel (.app 43 GV) 0) (.c 1)) (.leaf (.done 0 [(.sel (.app 43 GV) 1)])) x5) x5) x5) (.split GA (.split Gy (.split (.eql (.sel (.app 43 G3) 0) (.c 1)) (.leaf (.done 0 [(.sel (.app 43 G3) 1)])) x5) x5) x5)) x5) (.split QG x39 (.split Gw (.split Gz (.split Gv (.split Gx (.split (.eql (.sel (.app 43 Hc) 0) (.c 1)) (.leaf (.done 0 [(.sel (.app 43 Hc) 1)])) x5) x5) x5) (.split GA (.split Gy (.split (.eql (.sel (.app 43 GK) 0) (.c 1)) (.leaf (.done 0 [(.sel (.app 43 GK) 1)])) x5) x5) x5)) x5))
def t44:List (Tr Plf):=[tt]
def yA:Tr Plf:=
 .leaf Pp
def pK:Tr Plf:=
 .split x37 (.split x10 x5 (.split MS x5 (.split Mr (.split M0 (.split (.eql (.sel (.app 44 HE) 0) (.c 1)) (.leaf (.next 1 [u0,x11,(.sel (.app 44 HE) 1),u3,u4,u5])) x5) PF) x5))) x27
def t45:List (Tr Plf):=[yA,pK]
def vn:Tr Plf:=
 .split PH (.split Gw (.split Gz (.split Gv (.split Gx (.split (.eql (.sel (.app 45 GV) 0) (.c 1)) (.leaf (.done 0 [(.sel (.app 45 GV) 1)])) x5) x5) x5) (.split GA (.split Gy (.split (.eql (.sel (.app 45 G3) 0) (.c 1)) (.leaf (.done 0 [(.sel (.app 45 G3) 1)])) x5) x5) x5)) x5) (.split QG x39 (.split Gw (.split Gz (.split Gv (.split Gx (.split (.eql (.sel (.app 45 Hc) 0) (.c 1)) (.leaf (.done 0 [(.sel (.app 45 Hc) 1)])) x5) x5) x5) (.split GA (.split Gy (.split (.eql (.sel (.app 45 GK) 0) (.c 1)) (.leaf (.done 0 [(.sel (.app 45 GK) 1)])) x5) x5) x5)) x5))
def t46:List (Tr Plf):=[vn]
def uf:Tr Plf:=
 .leaf Pp
def Aag:Tr Plf:=
 .split x37 (.split x10 x5 (.split MS x5 (.split Mr (.split M0 (.split (.eql (.sel (.app 46 HE) 0) (.c 1)) (.leaf (.next 1 [u0,x11,(.sel (.app 46 HE) 1),u3,u4,u5])) x5) PF) x5))) x27
def t47:List (Tr Plf):=[uf,Aag]
def Aa3:Tr Plf:=
 .split PH (.split Gw (.split Gz (.split Gv (.split Gx (.split (.eql (.sel (.app 47 GV) 0) (.c 1)) (.leaf (.done 0 [(.sel (.app 47 GV) 1)])) x5) x5) x5) (.split GA (.split Gy (.split (.eql (.sel (.app 47 G3) 0) (.c 1)) (.leaf (.done 0 [(.sel (.app 47 G3) 1)])) x5) x5) x5)) x5) (.split QG x39 (.split Gw (.split Gz (.split Gv (.split Gx (.split (.eql (.sel (.app 47 Hc) 0) (.c 1)) (.leaf (.done 0 [(.sel (.app 47 Hc) 1)])) x5) x5) x5) (.split GA (.split Gy (.split (.eql (.sel (.app 47 GK) 0) (.c 1)) (.leaf (.done 0 [(.sel (.app 47 GK) 1)])) x5) x5) x5)) x5))
def t48:List (Tr Plf):=[Aa3]
def vA:Tr Plf:=
 .leaf (.next 1 [u3,u4,(.c 0),.emptyL,u0,u1,u2])
def vI:Tr Plf:=
 .split x23 (.split x24 x5 (.split (.eql (.sel wj 0) (.c 1)) (.leaf (.next 1 [u0,u1,x28,(.sel wj 1),u4,u5,u6])) x5)) x18
def t49:List (Tr Plf):=[vA,vI]
def uJ:Tr Plf:=
 .leaf (.done 0 [u0])
def t50:List (Tr Plf):=[uJ]
def oN:Tr Plf:=
 .split (.eql (.sel oH 0) (.c 1)) (.split (.eql (.sel jh 0) (.c 1)) (.leaf (.done 0 [(.sel jh 1),(.sel jh 2)])) x5) x5
def t51:List (Tr Plf):=[oN]
def tX:Tr Plf:=
 .split (.eql (.sel iw 0) (.c 1)) (.leaf (.next 1 [u9,u22,(.c 0),u0,u1,u2,u3,(.sel iw 1),(.sel iw 2),u6,u7,u8])) x5
def wB:Tr Plf:=
 .split x75 (.split x24 x5 (.split (.lss vJ (.c 0)) (.split (.eql (.sel Ze 0) (.c 1)) (.split (.lss kz (.c 0)) x5 (.split (.lss kz (.lenL (.sel Ze 1))) (.leaf (.next 1 [u0,u1,x28,u3,u4,u5,u6,(.upd (.sel Ze 1) kz 4 u2),(.sel Ze 2),u9,u10,u11])) x5)) x5) (.split (.eql (.sel ZJ 0) (.c 1)) (.split (.lss gN (.c 0)) x5 (.split (.lss gN (.lenL (.sel ZJ 1))) (.leaf (.next 1 [u0,u1,x28,u3,u4,u5,u6,(.upd (.sel ZJ 1) gN 4 u2),(.sel ZJ 2),u9,u10,u11])) x5)) x5))) (.leaf (.done 0 [u7,u8]))
def t52:List (Tr Plf):=[tX,wB]
def wX:Tr Plf:=
 .leaf x36
def yZ:Tr Plf:=
 .split x37 x41 x21
def t53:List (Tr Plf):=[wX,yZ]
def vS:Tr Plf:=
 .leaf x36
def oL:Tr Plf:=
 .split x37 (.split x10 x5 (.split ld (.split (.eqSS jA u2) x39 tR) tR)) x21
def t54:List (Tr Plf):=[vS,oL]
def rj:Tr Plf:=
 .split (.eql (.sel (.app 54 eH) 0) (.c 1)) (.leaf (.done 0 [(.neg (.lss (.sel (.app 54 eH) 1) (.c 0)))])) x5
def t55:List (Tr Plf):=[rj]
def Aa2:Tr Plf:=
 .split kc (.split io (.split (.eql (.sel Rf 0) (.c 1)) (.split (.eql (.sel nR 0) (.c 1)) (.leaf (.next 1 [(.sel Rf 2),(.sel Rf 3),(.lenL (.sel Rf 2)),(.c 0),(.sel Rf 1),(.sel Rf 3),(.sel Rf 4),(.snoc (.snoc .emptyL (.rcons (.c 1) uq)) (.rcons (.c 2) uq)),(.bc false),(.c 0),(.sel nR 1),.emptyL,.emptyL])) x5) x5) dM) x5
def sE:Tr Plf:=
 .split (.lss u3 u2) (.split x16 x5 (.split x15 (.split (.lss Abv (.c 0)) oW (.split (.cell u10 Abv 1) (.split (.lss (.mIdx [.str] u11 jw) (.c 0)) (.split (.lss (.mIdx [.str] u12 jw) (.c 0)) (.split (.eql (.sel gu 0) (.c 1)) (.leaf (.next 2 [u0,u1,u2,u3,x44,(.lenL x44),(.c 0),u4,u5,u6,(.sel gu 1),(.sel gu 2),u3,u10,u3,u3,u3,u3,xn,xl])) x5) x5) x5) oW)) x5)) (.split (.lss qY (.c 0)) (.split Aah (.leaf (.done 1 [u4,u0,u5,u6,(.upd u7 (.c 0) 5 (.c 0)),u8,u11,u12])) x5) (.split Aah (.leaf (.done 1 [u4,u0,u5,u6,(.upd u7 (.c 0) 5 (.cell u11 qY 1)),u8,u11,u12])) x5))
def tS:Tr Plf:=
 .split (.lss u6 u5) (.split x88 x5 (.split (.lss u6 XT) (.split (.eql RD (.c 8)) (.split jf (.split (.eql (.sel gO 0) (.c 1)) (.leaf (.next 2 [u0,u1,u2,u3,u4,u5,NF,u7,u8,u9,(.sel gO 1),(.sel gO 2),u12,u13,u14,u15,u16,u17,u18,u19])) x5) (.split (.eql (.sel hJ 0) (.c 1)) (.leaf (.next 2 [u0,u1,u2,u3,u4,u5,NF,u7,u8,u9,(.sel hJ 1),(.sel hJ 2),u12,u13,u14,u15,u16,u17,u18,u19])) x5)) (.split (.eql RD (.c 7)) (.split jf (.split (.eql (.sel jV 0) (.c 1)) (.leaf (.next 2 [u0,u1,u2,u3,u4,u5,NF,u7,u8,u9,(.sel jV 1),(.sel jV 2),u12,u13,u14,u15,u16,u17,u18,u19])) x5) (.split (.eql (.sel jd 0) (.c 1)) (.leaf (.next 2 [u0,u1,u2,u3,u4,u5,NF,u7,u8,u9,(.sel jd 1),(.sel jd 2),u12,u13,u14,u15,u16,u17,u18,u19])) x5)) (.split (.eql RD (.c 12)) (.split jf (.split (.eql (.sel kQ 0) (.c 1)) (.leaf (.next 2 [u0,u1,u2,u3,u4,u5,NF,u7,u8,u9,(.sel kQ 1),(.sel kQ 2),u12,u13,u14,u15,u16,u17,u18,u19])) x5) (.split (.eql (.sel jS 0) (.c 1)) (.leaf (.next 2 [u0,u1,u2,u3,u4,u5,NF,u7,u8,u9,(.sel jS 1),(.sel jS 2),u12,u13,u14,u15,u16,u17,u18,u19])) x5)) (.split (.eql RD (.c 9)) (.split (.eql (.sel ka 0) (.c 1)) (.leaf (.next 2 [u0,u1,u2,u3,u4,u5,NF,u7,u8,u9,(.sel ka 1),(.sel ka 2),u12,u13,u14,u15,u16,u17,u18,u19])) x5) (.split (.eql (.sel ca 0) (.c 1)) (.split (.lss u12 (.c 0)) x5 (.split (.lss u12 x14) (.split (.eql RD (.c 1)) jI (.split (.eql RD (.c 2)) jI (.split (.eql RD (.c 3)) jI pO))) x5)) x5))))) x5)) (.split (.eql (.sel kD 0) (.c 1)) (.leaf (.next 1 [u0,u1,u2,x19,u7,u8,u9,(.sel kD 1),(.sel kD 2),u12,u13,u18,u19])) x5)
def t56:List (Tr Plf):=[Aa2,sE,tS]
def Aa4:Tr Plf:=
 .leaf (.done 0 [])
def t57:List (Tr Plf):=[Aa4]
def xx:Tr Plf:=
 .leaf (.next 1 [u1,(.c 0)])
def mA:Tr Plf:=
 .split x37 (.split x10 x5 (.split (.eql (.sel (.app 57 (.rcons (.c 0) x52)) 0) (.c 1)) (.leaf (.next 1 [u0,x11])) x5)) dM
def t58:List (Tr Plf):=[xx,mA]
def rF:Tr Plf:=
 .split (.eql u4 (.c 1)) (.leaf (.done 0 [u5])) (.split (.eql u4 (.c 2)) (.leaf (.done 0 [u5])) (.split (.eql u4 (.c 3)) (.split u7 jE (.split (.lss u9 (.c 0)) EC (.split (.lss u9 x73) (.split (.lss u9 (.c 128)) (.leaf (.done 0 [(.c 8)])) (.split (.lss mI (.c 128)) cu (.split (.lss Abm (.c 128)) (.leaf (.done 0 [(.c 24)])) (.split (.lss mS (.c 128)) gp (.split (.lss (.arith .shr .i64 mS (.c 7)) (.c 128)) jE EC))))) EC))) (.split (.eql u4 (.c 4)) (.split (.eql (.sel wv 0) (.c 1)) (.split (.lss u10 (.c (-1048576))) EC (.split (.eql (.sel yp 0) (.c 1)) (.split (.lss (.sel yp 1) (.c 0)) (.split (.eql (.sel rT 0) (.c 1)) (.split (.lss (.sel rT 1) (.c 0)) (.split (.isNil u11) (.split (.eql (.sel kL 0) (.c 1)) EC (.split (.eql (.sel kL 0) (.c 2)) (.split (.sel kL 1) EC mg) x5)) (.split (.lss dB (.c 1048576)) (.split (.eql (.sel gE 0) (.c 1)) EC (.split (.eql (.sel gE 0) (.c 2)) (.split (.sel gE 1) EC mg) x5)) (.split (.eql (.sel pB 0) (.c 1)) (.split (.lss (.sel pB 1) (.c 0)) x5 EC) x5))) EC) x5) EC) x5)) x5) (.split (.eql u4 (.c 5)) (.leaf (.done 0 [(.arith .mul .i64 (.c 8) (.arith .add .i64 u9 (.c 1)))])) (.split (.eql u4 (.c 6)) (.leaf (.done 0 [(.arith .mul .i64 (.c 8) u9)])) (.split (.eql u4 (.c 10)) (.split (.lss u5 (.c 8)) (.split (.eql u5 (.c 2)) ow (.split (.eql u5 (.c 4)) ow aH)) (.split (.lss u18 (.c 0)) aH (.split uv aH (.split lg (.leaf (.done 0 [(.arith .add .i64 mw cK)])) (.leaf (.done 0 [(.arith .add .i64 mw (.c 0))])))))) (.split (.eql u4 (.c 11)) (.split (.lss u16 (.c 1)) EC (.split (.lss (.c 3) u16) EC (.split (.eql j4 (.c 0)) cu (.split (.eql j4 (.c 1)) cu (.split (.eql j4 (.c 2)) gp x5))))) EC)))))))
def t59:List (Tr Plf):=[rF]
def zM:Tr Plf:=
 .split (.eql (.sel qa 0) (.c 1)) (.split (.sel qa 4) lF (.split x24 lF (.split aW (.split x88 x5 (.split (.lss u6 (.lenL Qn)) (.split (.eql (.sel bH 0) (.c 1)) (.split (.lss u6 x0) (.split (.eql (.sel se 0) (.c 1)) (.split (.lss (.c 0) lK) (.leaf (.done 0 [lK])) EC) x5) x5) (.split (.eql (.sel bH 0) (.c 2)) jv x5)) jv)) lF))) x5
def t60:List (Tr Plf):=[zM]
def oc:Tr Plf:=
 .leaf (.next 1 ([(.c 0),u0,(.c 0)]++us 1 6))
def l9:Tr Plf:=
 .split x75 (.split x24 x5 (.split (.eql (.sel jZ 0) (.c 1)) (.split (.lss u0 (.sel jZ 1)) (.leaf (.next 1 [(.sel jZ 1),u1,x28,u3,u4,u5,u6,u7,u8])) (.leaf (.next 1 ([u0,u1,x28]++us 3 6)))) x5)) x83
def t61:List (Tr Plf):=[oc,l9]
def pS:Tr Plf:=
 .leaf (.next 1 [(.c 0),u0,(.c 0),u1,u2,u3,u4])
def xQ:Tr Plf:=
 .split x75 (.split x24 x5 (.split (.lss x77 (.c 0)) (.split x4 (.leaf (.next 1 [(.c 0),u1,x28,u3,u4,u5,u6])) x72) (.split (.eql (.sel gv 0) (.c 1)) (.split (.lss u0 (.sel gv 1)) (.leaf (.next 1 [(.sel gv 1),u1,x28,u3,u4,u5,u6])) x72) x5))) x83
def t62:List (Tr Plf):=[pS,xQ]
def my:Tr Plf:=
 .split (.eql XT (.c 0)) (.leaf (.done 0 [(.c 0),(.c 1)])) (.split (.lss xd (.c 0)) (.leaf (.done 0 [(.c 0),(.c 9)])) (.leaf (.done 0 [(.cell u7 xd 1),(.c 0)])))
def t63:List (Tr Plf):=[my]
def sZ:Tr Plf:=
 .leaf mV
def yH:Tr Plf:=
 .split x37 (.split x10 x5 (.split MS x5 (.split Mr (.split M0 (.split x54 (.split x16 (.leaf (.next 1 [u0,x11,u2,(.c 0)])) ZX) (.split (.lss u3 x64) (.leaf (.next 1 [u0,x11,u2,x64])) ZX)) ZX) x5))) x18
def t64:List (Tr Plf):=[sZ,yH]
def yQ:Tr Plf:=
 .leaf (.next 1 ([u1,(.c 0)]++us 3 8))
def Aay:Tr Plf:=
 .split x37 (.split x10 x5 (.split NL (.split NH (.split Qh (.split (.eql (.sel wT 0) (.c 1)) (.split (.lss (.mIdx [.str] .emptyL x52) (.c 0)) (.leaf (.next 2 [u0,x11,u2,u3,u4,u5,u6,u7,u8,u9,(.snoc .emptyL (rl [x38,pQ]))])) (.leaf (.next 2 [u0,x11,u2,u3,u4,u5,u6,u7,u8,u9,(.upd .emptyL (.mIdx [.str] .emptyL x52) 1 pQ)]))) x5) x5) (.leaf (.next 1 ([u0,x11]++us 2 8)))) x5)) (.leaf (.done 0 [.emptyL]))
def mP:Tr Plf:=
 .split x37 (.split x10 x5 (.split NL (.split NH (.split Qh (.split RU (.split MA (.leaf (.next 3 ([u0,x11]++us 2 8++[So]))) (.leaf (.next 3 ([u0,x11]++us 2 8++[SI])))) x5) x5) (.leaf (.next 2 ([u0,x11]++us 2 9)))) x5)) QN
def og:Tr Plf:=
 .split x37 (.split x10 x5 (.split NL (.split NH (.split Qh (.split RU (.split MA (.leaf (.next 4 ([u0,x11]++us 2 8++[So]))) (.leaf (.next 4 ([u0,x11]++us 2 8++[SI])))) x5) x5) (.leaf (.next 3 ([u0,x11]++us 2 9)))) x5)) QN
def Abk:Tr Plf:=
 .split x37 (.split x10 x5 (.split NL (.split NH (.split Qh (.split RU (.split MA (.leaf (.next 5 ([u0,x11]++us 2 8++[So]))) (.leaf (.next 5 ([u0,x11]++us 2 8++[SI])))) x5) x5) (.leaf (.next 4 ([u0,x11]++us 2 9)))) x5)) QN
def qm:Tr Plf:=
 .split x37 (.split x10 x5 (.split NL (.split NH (.split Qh (.split RU (.split MA (.leaf (.next 6 ([u0,x11]++us 2 8++[So]))) (.leaf (.next 6 ([u0,x11]++us 2 8++[SI])))) x5) x5) (.leaf (.next 5 ([u0,x11]++us 2 9)))) x5)) QN
def uj:Tr Plf:=
 .split x37 (.split x10 x5 (.split NL (.split NH (.split Qh (.split RU (.split MA (.leaf (.next 7 ([u0,x11]++us 2 8++[So]))) (.leaf (.next 7 ([u0,x11]++us 2 8++[SI])))) x5) x5) (.leaf (.next 6 ([u0,x11]++us 2 9)))) x5)) QN
def s7:Tr Plf:=
 .split x37 (.split x10 x5 (.split NL (.split NH (.split Qh (.split RU (.split MA (.leaf (.next 8 ([u0,x11]++us 2 8++[So]))) (.leaf (.next 8 ([u0,x11]++us 2 8++[SI])))) x5) x5) (.leaf (.next 7 ([u0,x11]++us 2 9)))) x5)) QN
def yR:Tr Plf:=
 .split x37 (.split x10 x5 (.split NL (.split NH (.split Qh (.split RU (.split MA (.leaf (.next 9 ([u0,x11]++us 2 8++[So]))) (.leaf (.next 9 ([u0,x11]++us 2 8++[SI])))) x5) x5) (.leaf (.next 8 ([u0,x11]++us 2 9)))) x5)) QN
def xq:Tr Plf:=
 .split x37 (.split x10 x5 (.split NL (.split NH (.split Qh (.split RU (.split MA (.leaf (.next 10 ([u0,x11]++us 2 8++[So]))) (.leaf (.next 10 ([u0,x11]++us 2 8++[SI])))) x5) x5) (.leaf (.next 9 ([u0,x11]++us 2 9)))) x5)) QN
def gU:Tr Plf:=
 .split x37 (.split x10 x5 (.split NL (.split NH x5 (.leaf (.next 10 ([u0,x11]++us 2 9)))) x5)) QN
def t65:List (Tr Plf):=[yQ,Aay,mP,og,Abk,qm,uj,s7,yR,xq,gU]
def nF:Tr Plf:=
 .split kc (.split io (.split (.eql (.sel Nw 0) (.c 1)) (.split (.eql (.sel (.app 58 HV) 0) (.c 1)) (.split qe (.split (.lss Ya (.c 0)) (.split bj Sk (.split aX (.split YD Sk (.split bk (.split (.lss jT (.c 0)) Sk (.split gZ (.split jM (.leaf (.done 0 [Xb,de,(.c 0),(.c 0)])) (.leaf (.done 0 [Xb,de,lc,(.c 0)]))) x5)) Sk)) x5)) (.split bj Sk (.split aX (.split YD Sk (.split (.lss Ya x0) (.split (.lss kI (.c 0)) Sk (.split gZ (.split jM (.leaf (.done 0 [Xb,bR,(.c 0),(.c 0)])) (.leaf (.done 0 [Xb,bR,lc,(.c 0)]))) x5)) Sk)) x5))) x5) x5) (.split (.eql (.sel Nw 0) (.c 2)) (.split (.eql (.sel cq 0) (.c 1)) (.split qe (.split (.lss Ya (.c 0)) (.split bj SL (.split aX (.split YD SL (.split bk (.split (.lss jT (.c 0)) SL (.split kY (.split kj (.leaf (.done 0 [Xu,de,(.c 0),(.c 0)])) (.leaf (.done 0 [Xu,de,ip,(.c 0)]))) x5)) SL)) x5)) (.split bj SL (.split aX (.split YD SL (.split (.lss Ya x0) (.split (.lss kI (.c 0)) SL (.split kY (.split kj (.leaf (.done 0 [Xu,bR,(.c 0),(.c 0)])) (.leaf (.done 0 [Xu,bR,ip,(.c 0)]))) x5)) SL)) x5))) x5) x5) x5)) (.leaf (.done 0 [(.c 0),(.c 0),(.c 0),(.c 2)]))) x5
def t66:List (Tr Plf):=[nF]
def yc:Tr Plf:=
 .leaf (.next 1 [u3,u4,(.c 0),u0,u1,u2])
def oT:Tr Plf:=
 .split (.lss u2 u1) (.split x24 x5 (.split aW (.split (.eqSS X3 u0) x27 (.leaf (.next 1 [u0,u1,x28,u3,u4,u5]))) x5)) x21
def t67:List (Tr Plf):=[yc,oT]
def Abc:Tr Plf:=
 .leaf (.next 1 [.nilL,(.bc true),(.c 0),u0,u1])
def ml:Tr Plf:=
 .split aW (.split x24 x5 (.split (.eql Qn (.c 7)) i4 (.split (.eql Qn (.c 8)) i4 (.split (.eql Qn (.c 12)) i4 (.leaf (.next 2 [u0,u1,u2,.nilL,(.bc true),(.c 0),u3,u4,X3,Qn,nV,tB,ya,Aac,uB,wk,zt,kJ,oK,ri,ql,xe,rI])))))) (.leaf (.done 0 [u0,u1]))
def wR:Tr Plf:=
 .split (.eql u9 (.c 9)) (.split (.lss u5 (.lenL u20)) (.split Zw x5 (.split (.lss UP Qq) (.leaf (.next 2 [u0,u1,u2,(.snoc u3 (rl [(.cell u20 u5 2)])),(.bc false),kV,u6,u7,u8,u9,u10,u11,u12,u13,u14,u15,u16,u17,u18,u19,u20,u21,u22])) x5)) Aa5) Aa5
def qd:Tr Plf:=
 .split iS (.leaf (.next 4 (us 0 6++[(.bc false),(.c 0),u6,u7]))) (.leaf (.next 1 [u0,u1,x28,u6,u7]))
def xr:Tr Plf:=
 .split (.lss u7 x14) (.split u6 (.leaf (.next 4 (us 0 6++[(.bc true),nB,u8,u9]))) (.split (.lss u7 (.c 0)) x5 (.split Zw x5 (.split iS (.leaf (.next 4 [u0,u1,u2,u3,u4,u5,(.eqSS (.cell u0 u7 0) zj),nB,u8,u9])) x5)))) (.split u6 (.leaf (.next 3 (us 0 5++[kV,u8,u9]))) (.split Zw x5 (.split iS (.split (.lss x14 Qq) (.leaf (.next 3 [(.snoc u0 (rl [zj])),(.bc false),u2,u3,u4,kV,u8,u9])) x5) x5)))
def t68:List (Tr Plf):=[Abc,ml,wR,qd,xr]
def vD:Tr Plf:=
 .split x16 x5 sL
def vY:Tr Plf:=
 .split bk x5 dM
def t69:List (Tr Plf):=[vD,vY]
def uk:Tr Plf:=
 .split x16 x5 Q9
def nh:Tr Plf:=
 .split x46 (.split x47 x5 (.split Rb (.split (.eql (.sel (.app 69 EM) 0) (.c 1)) (.split (.lss u1 (.c 1)) (.leaf (.next 1 [u0,(.c 1),u2,u3,x50,u5,u6,u7])) Hz) x5) x5)) Rt
def t70:List (Tr Plf):=[uk,nh]
def wA:Tr Plf:=
 .split x16 x5 Q9
def uC:Tr Plf:=
 .split x46 (.split x47 x5 (.split Rb (.split (.eql (.sel (.app 70 EM) 0) (.c 1)) (.split (.lss u1 (.sel (.app 70 EM) 1)) (.leaf (.next 1 [u0,(.sel (.app 70 EM) 1),u2,u3,x50,u5,u6,u7])) Hz) x5) x5)) Rt
def t71:List (Tr Plf):=[wA,uC]
def ti:Tr Plf:=
 .split x16 x5 Q9
def pp:Tr Plf:=
 .split x46 (.split x47 x5 (.split Rb (.split (.eql (.sel (.app 71 EM) 0) (.c 1)) (.split (.lss u1 (.sel (.app 71 EM) 1)) (.leaf (.next 1 [u0,(.sel (.app 71 EM) 1),u2,u3,x50,u5,u6,u7])) Hz) x5) x5)) Rt
def t72:List (Tr Plf):=[ti,pp]
def wc:Tr Plf:=
 .split x16 x5 Q9
def mj:Tr Plf:=
 .split x46 (.split x47 x5 (.split Rb (.split (.eql (.sel (.app 72 EM) 0) (.c 1)) (.split (.lss u1 (.sel (.app 72 EM) 1)) (.leaf (.next 1 [u0,(.sel (.app 72 EM) 1),u2,u3,x50,u5,u6,u7])) Hz) x5) x5)) Rt
def t73:List (Tr Plf):=[wc,mj]
def oS:Tr Plf:=
 .split x16 x5 Q9
def tD:Tr Plf:=
 .split x46 (.split x47 x5 (.split Rb (.split (.eql (.sel (.app 73 EM) 0) (.c 1)) (.split (.lss u1 (.sel (.app 73 EM) 1)) (.leaf (.next 1 [u0,(.sel (.app 73 EM) 1),u2,u3,x50,u5,u6,u7])) Hz) x5) x5)) Rt
def t74:List (Tr Plf):=[oS,tD]
def xM:Tr Plf:=
 .split x16 x5 Q9
def yu:Tr Plf:=
 .split x46 (.split x47 x5 (.split Rb (.split (.eql (.sel (.app 74 EM) 0) (.c 1)) (.split (.lss u1 (.sel (.app 74 EM) 1)) (.leaf (.next 1 [u0,(.sel (.app 74 EM) 1),u2,u3,x50,u5,u6,u7])) Hz) x5) x5)) Rt
def t75:List (Tr Plf):=[xM,yu]
def xi:Tr Plf:=
 .split x16 x5 Q9
def o0:Tr Plf:=
 .split x46 (.split x47 x5 (.split Rb (.split (.eql (.sel (.app 75 EM) 0) (.c 1)) (.split (.lss u1 (.sel (.app 75 EM) 1)) (.leaf (.next 1 [u0,(.sel (.app 75 EM) 1),u2,u3,x50,u5,u6,u7])) Hz) x5) x5)) Rt
def t76:List (Tr Plf):=[xi,o0]
def nY:Tr Plf:=
 .split x16 x5 Q9
def xA:Tr Plf:=
 .split x46 (.split x47 x5 (.split Rb (.split (.eql (.sel (.app 76 EM) 0) (.c 1)) (.split (.lss u1 (.sel (.app 76 EM) 1)) (.leaf (.next 1 [u0,(.sel (.app 76 EM) 1),u2,u3,x50,u5,u6,u7])) Hz) x5) x5)) Rt
def t77:List (Tr Plf):=[nY,xA]
def rD:Tr Plf:=
 .leaf mV
def tE:Tr Plf:=
 .split aB (.split x10 x5 (.split (.eql Th (.c 9)) (.split (.eqSS xI u0) x8 zh) zh)) x1
def mR:Tr Plf:=
 .split (.lss u2 (.lenL u13)) (.split x24 x5 (.split (.eqSS (.cell u13 u2 0) u0) x8 (.leaf (.next 2 ([u0,u1,x28]++us 3 17))))) (.leaf (.next 1 [u0,x11,u3,u4]))
def t78:List (Tr Plf):=[rD,tE,mR]
def lP:Tr Plf:=
 .leaf (.next 1 [u2,(.c 0),(.c 0),u0,u1])
def tG:Tr Plf:=
 .split (.lss u0 u2) x21 (.split aW (.split x24 x5 (.split (.lss Qn (.c 1)) dq (.split (.lss (.c 3) Qn) dq (.split (.eql (.sel nS 0) (.c 1)) (.split (.sel nS 1) (.split (.eql u2 u0) x39 (.leaf (.next 1 [u0,x11,x28,u3,u4]))) dq) x5)))) x21)
def t79:List (Tr Plf):=[lP,tG]
def qD:Tr Plf:=
 .leaf (.next 1 [(.c 0),(.c 0),u0,u1])
def Aat:Tr Plf:=
 .split aB (.split (.eql (.sel Aa0 0) (.c 1)) (.split (.lss (.sel Aa0 1) (.c 0)) ZX (.leaf (.next 1 [x12,x11,u2,u3]))) x5) x83
def t80:List (Tr Plf):=[qD,Aat]
def pP:Tr Plf:=
 .split x16 x5 sL
def uA:Tr Plf:=
 .split bk x5 (.split x4 x5 (.split (.lss u0 XT) (.split (.eql (.sel xz 0) (.c 1)) (.leaf (.done 0 [(.arith .add .i64 (.sel xz 1) (.c 0))])) x5) x5))
def t81:List (Tr Plf):=[pP,uA]
def xD:Tr Plf:=
 .split x16 x5 SY
def Aad:Tr Plf:=
 .split R9 (.split x47 x5 (.split SG (.split (.eql (.sel (.app 81 D9) 0) (.c 1)) (.split (.lss u3 (.sel (.app 81 D9) 1)) (.leaf (.next 1 [u0,u1,u2,(.sel (.app 81 D9) 1),x50,u5,u6,u7])) Hz) x5) x5)) QT
def t82:List (Tr Plf):=[xD,Aad]
def zE:Tr Plf:=
 .split x16 x5 SY
def nq:Tr Plf:=
 .split R9 (.split x47 x5 (.split SG (.split (.eql (.sel (.app 82 D9) 0) (.c 1)) (.split (.lss u3 (.sel (.app 82 D9) 1)) (.leaf (.next 1 [u0,u1,u2,(.sel (.app 82 D9) 1),x50,u5,u6,u7])) Hz) x5) x5)) QT
def t83:List (Tr Plf):=[zE,nq]
def pZ:Tr Plf:=
 .split x16 x5 SY
def zm:Tr Plf:=
 .split R9 (.split x47 x5 (.split SG (.split (.eql (.sel (.app 83 D9) 0) (.c 1)) (.split (.lss u3 (.sel (.app 83 D9) 1)) (.leaf (.next 1 [u0,u1,u2,(.sel (.app 83 D9) 1),x50,u5,u6,u7])) Hz) x5) x5)) QT
def t84:List (Tr Plf):=[pZ,zm]
def pr:Tr Plf:=
 .split x16 x5 SY
def np:Tr Plf:=
 .split R9 (.split x47 x5 (.split SG (.split (.eql (.sel (.app 84 D9) 0) (.c 1)) (.split (.lss u3 (.sel (.app 84 D9) 1)) (.leaf (.next 1 [u0,u1,u2,(.sel (.app 84 D9) 1),x50,u5,u6,u7])) Hz) x5) x5)) QT
def t85:List (Tr Plf):=[pr,np]
def px:Tr Plf:=
 .split x16 x5 SY
def xj:Tr Plf:=
 .split R9 (.split x47 x5 (.split SG (.split (.eql (.sel (.app 85 D9) 0) (.c 1)) (.split (.lss u3 (.sel (.app 85 D9) 1)) (.leaf (.next 1 [u0,u1,u2,(.sel (.app 85 D9) 1),x50,u5,u6,u7])) Hz) x5) x5)) QT
def t86:List (Tr Plf):=[px,xj]
def tI:Tr Plf:=
 .split x16 x5 SY
def pf:Tr Plf:=
 .split R9 (.split x47 x5 (.split SG (.split (.eql (.sel (.app 86 D9) 0) (.c 1)) (.split (.lss u3 (.sel (.app 86 D9) 1)) (.leaf (.next 1 [u0,u1,u2,(.sel (.app 86 D9) 1),x50,u5,u6,u7])) Hz) x5) x5)) QT
def t87:List (Tr Plf):=[tI,pf]
def nO:Tr Plf:=
 .split x16 x5 SY
def Aa1:Tr Plf:=
 .split R9 (.split x47 x5 (.split SG (.split (.eql (.sel (.app 87 D9) 0) (.c 1)) (.split (.lss u3 (.sel (.app 87 D9) 1)) (.leaf (.next 1 [u0,u1,u2,(.sel (.app 87 D9) 1),x50,u5,u6,u7])) Hz) x5) x5)) QT
def t88:List (Tr Plf):=[nO,Aa1]
def zo:Tr Plf:=
 .split x16 x5 SY
def tq:Tr Plf:=
 .split R9 (.split x47 x5 (.split SG (.split (.eql (.sel (.app 88 D9) 0) (.c 1)) (.split (.lss u3 (.sel (.app 88 D9) 1)) (.leaf (.next 1 [u0,u1,u2,(.sel (.app 88 D9) 1),x50,u5,u6,u7])) Hz) x5) x5)) QT
def t89:List (Tr Plf):=[zo,tq]
def zz:Tr Plf:=
 .split (.lss x0 (.c 1048577)) (.split Aaf (.split (.lss en (.c 0)) x5 (.split (.lss en (.lenL (.rep x0 x30))) (.leaf (.next 1 [(.upd (.rep x0 x30) en 0 (.bc true)),(.arith .sub .i64 x0 (.c 1)),u0,u1,u2])) x5)) x5) x5
def nA:Tr Plf:=
 .split x10 x83 (.split aB (.split (.eql (.sel jj 0) (.c 1)) (.leaf (.next 2 [u0,u1,(.sel jj 1),(.sel jj 2),(.c 0),u2,u3,u4])) x5) x5)
def zA:Tr Plf:=
 .split x10 x5 (.split x37 (.split x38 (.split x46 (.split x47 x5 (.split (.eql (.sel bC 0) (.c 1)) (.split (.lss (.sel bC 1) (.c 0)) x5 (.split (.lss (.sel bC 1) x14) (.leaf (.next 2 [(.upd u0 (.sel bC 1) 0 (.bc true)),u1,u2,u3,x50,u5,u6,u7])) x5)) x5)) ru) ru) x5)
def t90:List (Tr Plf):=[zz,nA,zA]
def oE:Tr Plf:=
 .split (.eql u1 (.c 1)) yq (.split (.eql u1 (.c 2)) yq (.split (.eql u1 (.c 10)) (.split (.eql u2 (.c 2)) wK (.split (.eql u2 (.c 4)) wK EC)) EC))
def tg:Tr Plf:=
 .split (.eql u3 (.c 0)) x5 (.split (.eql (.arith .rem .i64 u0 u3) (.c 0)) (.leaf (.done 0 [(.arith .rem .i64 u0 (.c 8))])) (.leaf (.next 1 ([x12]++us 1 15))))
def t91:List (Tr Plf):=[oE,tg]
def yJ:Tr Plf:=
 .leaf (.next 1 [.nilL,(.bc true),(.c 0),(.c 0),u0,u1])
def rJ:Tr Plf:=
 .split (.lss u3 gr) (.split (.lss x14 Qq) (.split x16 x5 (.split (.eql (.sel s9 0) (.c 1)) (.leaf (.next 1 [(.snoc u0 Qv),(.bc false),(.sel s9 1),x19,u4,u5])) x5)) x5) (.leaf (.done 0 [u0,u1,u2]))
def t92:List (Tr Plf):=[yJ,rJ]
def qG:Tr Plf:=
 .leaf (.next 1 [u0,u1,.nilL,(.bc true),(.c 0)])
def ug:Tr Plf:=
 .split (.lss u4 u1) (.split (.lss u4 tK) (.split (.lss x3 Qq) (.leaf (.next 1 [wI,u1,(.snoc u2 (rl [(.conv .u8 (.arith .add .i64 wz (.c 128)))])),(.bc false),x50])) x5) (.split (.lss x3 Qq) (.leaf (.next 1 [wI,u1,(.snoc u2 (rl [(.conv .u8 wz)])),(.bc false),x50])) x5)) (.leaf (.done 0 [u2,u3,lj]))
def t93:List (Tr Plf):=[qG,ug]
def Aal:Tr Plf:=
 .leaf (.next 1 [u0,.nilL,(.bc true),(.c 1)])
def rK:Tr Plf:=
 .split (.lss (.c 5) u3) kh (.split x4 kh (.split (.lss u0 x73) (.split (.eql (.sel eE 0) (.c 1)) (.split (.sel eE 3) (.split (.lss x0 Qq) (.leaf (.next 1 [u0,(.snoc u1 (rl [(.nilIs (.sel eE 1) (.sel eE 2))])),(.bc false),x19])) x5) x20) x5) kh))
def t94:List (Tr Plf):=[Aal,rK]
def oI:Tr Plf:=
 .leaf (.next 1 [u2,u3,(.c 0),u0,u1])
def xO:Tr Plf:=
 .split (.lss u2 u1) (.split x24 x5 (.split aW (.split (.eqSS X3 u0) x27 dq) x5)) x21
def t95:List (Tr Plf):=[oI,xO]
def Abu:Tr Plf:=
 .leaf (.next 1 [u2,(.c 0),u0,u1,u2,u3])
def xW:Tr Plf:=
 .split (.lss u1 gr) (.split x10 x5 (.split (.eql (.sel oU 0) (.c 1)) (.split (.lss bq (.c 0)) x5 (.split (.lss bq UP) (.split (.eql (.cell u3 bq 1) (.c 2)) (.split (.lss dj dj) lB lB) (.split (.lss dj xG) (.leaf (.next 1 [(.arith .add .i64 u0 xG),x11,u2,u3,u4,u5])) lB)) x5)) x5)) x83
def t96:List (Tr Plf):=[Abu,xW]
def tA:Tr Plf:=
 .split (.eql u3 (.c 1)) (.leaf (.done 0 [u4])) (.split (.eql u3 (.c 2)) (.leaf (.done 0 [u4])) (.split (.eql u3 (.c 3)) (.split u6 jE (.split (.lss u8 (.c 0)) EC (.split (.lss u8 x73) (.split (.eql (.sel iQ 0) (.c 1)) (.split (.lss (.c 0) (.lenL (.sel iQ 1))) (.leaf (.done 0 [(.arith .mul .i64 (.c 8) (.lenL (.cell (.sel iQ 1) (.c 0) 0)))])) x5) x5) EC))) (.split (.eql u3 (.c 4)) (.split (.eql (.sel sB 0) (.c 1)) (.leaf (.done 0 [(.arith .mul .i64 (.c 8) (.sel sB 1))])) x5) (.split (.eql u3 (.c 5)) (.leaf (.done 0 [(.arith .add .i64 sF (.c 8))])) (.split (.eql u3 (.c 6)) (.leaf (.done 0 [sF])) (.split (.eql u3 (.c 10)) (.leaf (.next 1 ([u17,(.c 0)]++us 2 15))) (.split (.eql u3 (.c 11)) (.split (.eql u15 (.c 3)) gp cu) EC)))))))
def zW:Tr Plf:=
 .split (.lss u4 (.c 8)) (.split (.eql u4 (.c 0)) x5 (.split (.eql (.arith .rem .i64 zG u4) (.c 0)) Aas dR)) (.split (.eql (.arith .rem .i64 zG (.c 8)) (.c 0)) Aas dR)
def t97:List (Tr Plf):=[tA,zW]
def qP:Tr Plf:=
 .split (.eql (.sel i9 0) (.c 1)) (.split x24 x5 (.split (.lss u2 (.lenL (.sel i9 1))) (.split x75 (.split (.eql (.sel wC 0) (.c 1)) (.split (.lss (.c 0) nM) (.leaf (.done 0 [nM])) EC) x5) x5) x5)) x5
def t98:List (Tr Plf):=[qP]
def zw:Tr Plf:=
 .split Aaf (.split (.eql (.sel (.app 77 dc) 0) (.c 1)) (.split (.eql (.sel (.app 89 dc) 0) (.c 1)) (.split (.eql (.sel (.app 90 HV) 0) (.c 1)) (.leaf (.next 1 [(.sel (.app 90 HV) 1),(.c 0),u0,u1,u2,(.c 0),(.sel (.app 77 dc) 1),(.sel (.app 89 dc) 1)])) x5) x5) x5) x5
def ry:Tr Plf:=
 .split aB (.leaf (.next 2 ([u0,u1,(.c 0)]++us 2 6))) (.leaf (.done 0 [u5,u6,u7]))
def yP:Tr Plf:=
 .split x10 x5 (.split x37 (.split x38 (.split (.lss u1 XT) (.split (.lss u2 (.lenL tY)) (.split (.eql (.sel kW 0) (.c 1)) (.split (.lss u6 (.sel kW 1)) (.leaf (.next 2 [u0,u1,x28,u3,u4,u5,(.sel kW 1),u7,u8])) (.leaf (.next 2 ([u0,u1,x28]++us 3 6)))) x5) tJ) x5) tJ) x5)
def t99:List (Tr Plf):=[zw,ry,yP]
def lh:Tr Plf:=
 .split Ab2 (.split (.eql (.sel KE 4) (.c 0)) (.split (.lss u4 u3) (.split (.lss u5 u4) (.split Zw x1 cD) (.split x47 x1 cD)) (.split (.lss u5 u3) (.split Zw x1 cD) (.split x16 x1 cD))) x1) x5
def jB:List (Tr Plf):=[lh]
def gR:Tr Plf:=
 .split (.eql (.sel (.app 0 HV) 0) (.c 1)) (.split (.sel (.app 0 HV) 1) (.split Ab2 (.split kc (.split io (.split (.eql (.sel ew 0) (.c 1)) (.leaf (.next 1 [(.sel KE 4),(.c 0),u0,u1,u2,u3,u4,u5,(.sel KE 1),(.sel KE 2),(.sel KE 3),(.sel ew 1),(.sel ew 2),(.sel ew 3)])) x5) (.split (.and (.eql (.sel KE 1) (.c 0)) (.and (.eql (.sel KE 2) (.c 0)) (.eql (.sel KE 3) (.c 0)))) (.split (.eql (.sel KE 4) (.c 2)) (.split (.eql (.sel sa 0) (.c 1)) (.split (.sel sa 1) x1 x8) x5) x1) x1)) x5) x5) x8) x5
def ib:Tr Plf:=
 .split (.lss u1 (.c 3)) (.split (.eql u1 (.c 0)) (.leaf (.next 1 [u0,x11,u2,u3,u4,(.arith .rem .i64 u5 (.c 1000)),u6,u7,u8,u9,u10,u11,u12,u13])) (.split (.eql u1 (.c 1)) (.leaf (.next 1 [u0,x11,u2,u3,u4,u5,(.arith .rem .i64 u6 (.c 1000)),u7,u8,u9,u10,u11,u12,u13])) (.split (.eql u1 (.c 2)) (.leaf (.next 1 [u0,x11,u2,u3,u4,u5,u6,(.arith .rem .i64 u7 (.c 1000)),u8,u9,u10,u11,u12,u13])) x5))) (.split (.lss (.c 0) u5) Yv (.split (.lss (.c 0) u6) Yv (.split (.lss (.c 0) u7) Yv (.split (.lss nw (.c 0)) Yv (.split (.lss tZ (.c 0)) Yv (.split vR (.split lj (.split wo (.split (.sel kX 1) (.split (.lss iF (.c 0)) x1 x8) (.split (.lss iF (.c 0)) x8 x1)) x5) x1) x1))))))
def ZP:List (Tr Plf):=[gR,ib]
def ts:List (List (Tr Plf)):=[t0,t1,t2,t3,t4,t5,t6,t7,t8,t9,t10,t11,t12,t13,t14,t15,t16,t17,t18,t19,t20,t21,t22,t23,t24,t25,t26,t27,t28,t29,t30,t31,t32,t33,t34,t35,t36,t37,t38,t39,t40,t41,t42,t43,t44,t45,t46,t47,t48,t49,t50,t51,t52,t53,t54,t55,t56,t57,t58,t59,t60,t61,t62,t63,t64,t65,t66,t67,t68,t69,t70,t71,t72,t73,t74,t75,t76,t77,t78,t79,t80,t81,t82,t83,t84,t85,t86,t87,t88,t89,t90,t91,t92,t93,t94,t95,t96,t97,t98,t99,jB,ZP]
end Mz

