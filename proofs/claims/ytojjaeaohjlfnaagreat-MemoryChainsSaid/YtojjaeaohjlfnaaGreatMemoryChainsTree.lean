/- What is stated: the trees of tests of the functions that the law MemoryChains reaches, as data. Conditions: none. -/
import Derived.Test.YtojjaeaohjlfnaaGreatBeG
set_option linter.unusedVariables false
set_option linter.unusedSectionVars false
set_option linter.unusedSimpArgs false
namespace Mc
open Go.AE
def u0:SE:=.var 0
def u1:SE:=.var 1
def u2:SE:=.var 2
def u3:SE:=.var 3
def u4:SE:=.var 4
def u5:SE:=.var 5
def u6:SE:=.var 6
def u7:SE:=.var 7
def u8:SE:=.var 8
def u9:SE:=.var 9
def u10:SE:=.var 10
def u11:SE:=.var 11
def u12:SE:=.var 12
def u13:SE:=.var 13
def u14:SE:=.var 14
def u15:SE:=.var 15
def u16:SE:=.var 16
def u17:SE:=.var 17
def u18:SE:=.var 18
def u19:SE:=.var 19
def u20:SE:=.var 20
def u21:SE:=.var 21
def u22:SE:=.var 22
def u23:SE:=.var 23
def x0:SE:=(.lenL u1)
def x1:Tr Plf:=(
 .leaf (.done 0 [(.bc false)]))
def x2:SE:=(.lenS u0)
def x3:SE:=(.lenL u2)
def x4:SE:=(.lss u0 (.c 0))
def x5:Tr Plf:=(
 .leaf .stuck)
def x6:SE:=(.cell u2 u0 1)
def x7:SE:=(.cell u2 u0 0)
def x8:Tr Plf:=(
 .leaf (.done 0 [(.bc true)]))
def x9:SE:=(.lenL u6)
def x10:SE:=(.lss u1 (.c 0))
def x11:SE:=(.arith .add .i64 u1 (.c 1))
def x12:SE:=(.arith .add .i64 u0 (.c 1))
def x13:Plf:=(.next 1 [u0,u1,u2,(.c 0)])
def x14:SE:=(.lenL u0)
def x15:SE:=(.lss u3 x14)
def x16:SE:=(.lss u3 (.c 0))
def x17:SE:=(.cell u0 u3 0)
def x18:Tr Plf:=(
 .leaf (.done 0 [u3]))
def x19:SE:=(.arith .add .i64 u3 (.c 1))
def x20:Tr Plf:=(
 .leaf (.next 1 [u0,u1,u2,x19]))
def x21:Tr Plf:=(
 .leaf (.done 0 [(.c (-1))]))
def x22:Plf:=(.next 1 [u0,u1,(.c 0)])
def x23:SE:=(.lss u2 x14)
def x24:SE:=(.lss u2 (.c 0))
def x25:SE:=(.cell u0 u2 0)
def x26:SE:=(.conv .u8 x25)
def x27:Tr Plf:=(
 .leaf (.done 0 [u2]))
def x28:SE:=(.arith .add .i64 u2 (.c 1))
def x29:Tr Plf:=(
 .leaf (.next 1 [u0,u1,x28]))
def x30:SE:=(rl [(.bc false)])
def x31:SE:=(.rcons (.bc false) x30)
def x32:SE:=(.app 1 (.rcons (.c 0) (.rcons (.snoc (.snoc .emptyL (rl [(.neg (.lss x2 (.c 1)))])) (rl [(.neg (.lss (.c 32) x2))])) x31)))
def x33:SE:=(.strAt u0 (.c 0))
def x34:SE:=(.app 2 (.rcons (.c 0) (.rcons (.bytes u0) x30)))
def x35:Tr Plf:=(
 .split (.eql (.sel x34 0) (.c 1)) (
 .leaf (.done 0 [(.lss (.sel x34 1) (.c 0))])) x5)
def x36:Plf:=(.next 1 [u0,(.c 0),u1])
def x37:SE:=(.lss u1 x14)
def x38:SE:=(.cell u0 u1 0)
def x39:Tr Plf:=(
 .leaf (.done 0 [u1]))
def x40:Tr Plf:=(
 .leaf (.next 1 [u0,x11,u2]))
def x41:Tr Plf:=(
 .split x10 x5 (
 .split (.eqSS x38 u2) x39 x40))
def x42:SE:=(.lss u3 x0)
def x43:SE:=(.cell u1 u3 0)
def x44:SE:=(.cell u0 u3 1)
def x45:SE:=(.cell u1 u3 1)
def x46:SE:=(.lss u4 x3)
def x47:SE:=(.lss u4 (.c 0))
def x48:SE:=(.cell u2 u4 0)
def x49:Tr Plf:=(
 .leaf (.done 0 [u8,u9]))
def x50:SE:=(.arith .add .i64 u4 (.c 1))
def x51:Tr Plf:=(
 .leaf (.done 1 []))
def x52:SE:=(rl [x38])
def x53:SE:=(.mIdx [.str] u2 x52)
def x54:SE:=(.lss x53 (.c 0))
def x55:SE:=(.app 3 (.rcons (.c 0) x52))
def x56:SE:=(.cell u0 u1 1)
def x57:SE:=(.snoc .emptyL (rl [(.sel x55 1)]))
def x58:SE:=(rl [(.bc true)])
def x59:SE:=(.app 1 (.rcons (.c 0) (.rcons (.snoc (.snoc x57 x58) x30) x31)))
def x60:SE:=(.snoc u2 (.rcons x38 x58))
def x61:Tr Plf:=(
 .leaf (.next 1 [u0,x11,x60]))
def x62:Tr Plf:=(
 .leaf (.done 0 [u1,x60]))
def x63:SE:=(.app 1 (.rcons (.c 0) (.rcons (.snoc (.snoc x57 (rl [(.neg (.eql x56 (.c 0)))])) (rl [(.neg (.lss (.c 1048576) x56))])) x31)))
def x64:SE:=(.cell u2 x53 1)
def x65:SE:=(.upd u2 x53 1 (.bc true))
def x66:Tr Plf:=(
 .leaf (.done 0 [u1,x65]))
def x67:Tr Plf:=(
 .leaf (.next 1 [u0,x11,x65]))
def x68:SE:=(.cell u0 u1 5)
def x69:SE:=(.cell u0 u1 6)
def x70:Tr Plf:=(
 .split x54 (
 .leaf (.next 1 [u0,x11,(.snoc u2 (rl [x38,x68,x69]))])) (
 .leaf (.next 1 [u0,x11,(.upd (.upd u2 x53 1 x68) x53 2 x69)])))
def x71:SE:=(.mIdx [.str] u4 (rl [x25]))
def x72:Tr Plf:=(
 .leaf (.next 1 [u0,u1,x28,u3,u4,u5,u6]))
def x73:SE:=(.app 1 (.rcons (.c 0) (.rcons (.snoc (.snoc (.snoc .emptyL (rl [(.neg (.lss (.cell u4 x71 1) (.c 0)))])) (rl [(.neg (.lss (.cell u4 x71 2) (.cell u4 x71 1)))])) (rl [(.lss (.cell u4 x71 2) (.c 34359738368))])) x31)))
def x74:SE:=(.lss u2 x0)
def x75:SE:=(.cell u1 u2 0)
def x76:SE:=(.mIdx [.str] u3 (rl [x75]))
def x77:SE:=(.cell u1 u2 1)
def x78:SE:=(.lss (.c 0) x77)
def x79:Tr Plf:=(
 .leaf (.next 1 [(.arith .add .i64 u0 (.arith .mul .i64 x77 (.c 0))),u1,x28,u3,u4]))
def x80:Tr Plf:=(
 .leaf (.next 1 [(.arith .add .i64 u0 (.arith .mul .i64 x77 (.cell u3 x76 1))),u1,x28,u3,u4]))
def x81:Tr Plf:=(
 .leaf (.next 1 [(.arith .add .i64 u0 (.arith .mul .i64 x77 (.cell u3 x76 2))),u1,x28,u3,u4]))
def x82:Tr Plf:=(
 .leaf (.done 0 [u0]))
def x83:Tr Plf:=(
 .leaf (.done 0 [u5,u6,(.c 9)]))
def x84:SE:=(.lenL u17)
def x85:SE:=(.app 1 (.rcons (.c 0) (.rcons (.snoc (.snoc .emptyL (rl [(.neg (.lss (.c 1048576) u16))])) (rl [(.neg (.lss (.c 4) x84))])) x31)))
def x86:SE:=(.app 8 (rl [(.c 0),u17,.emptyL]))
def x87:SE:=(.lss u6 (.c 0))
def x88:SE:=(.lenL u8)
def x89:SE:=(.lss x88 u6)
def x90:SE:=(.sub u8 (.c 0) u6)
def x91:SE:=(.app 9 (rl [(.c 0),x90]))
def x92:SE:=(.rcons .nilL x58)
def x93:SE:=(.app 10 (.rcons (.c 0) (.rcons u0 (.rcons u1 (.rcons u2 (.rcons u3 (.rcons u4 (.rcons u5 (.rcons u6 (.rcons u7 (.rcons u8 (.rcons (.sel x91 1) x92))))))))))))
def x94:SE:=(.rcons (.c 0) (.rcons (.bc false) x92))
def x95:SE:=(.app 11 (.rcons (.c 0) (.rcons (.strc 0 0) (.rcons (.sel x91 1) x94))))
def x96:SE:=(.app 12 (.rcons (.c 0) (.rcons u16 (.rcons u17 (.rcons (.sel x91 1) x58)))))
def x97:SE:=(.app 12 (.rcons (.c 0) (.rcons u16 (.rcons u17 (.rcons (.sel x91 1) x30)))))
def x98:Tr Plf:=(
 .split (.eql (.sel x96 0) (.c 1)) (
 .split (.eql (.sel x97 0) (.c 1)) (
 .split (.lss (.sel x96 1) (.c 0)) x83 (
 .split (.lss (.c 1048576) (.sel x97 1)) x83 x51)) x5) x5)
def x99:SE:=(rl [(.cat .emptyL u17),(.and (.bc false) (.eql x84 (.c 0)))])
def Aa6:SE:=(.sel (.app 10 (.rcons (.c 0) (.rcons u0 (.rcons u1 (.rcons u2 (.rcons u3 (.rcons u4 (.rcons u5 (.rcons u6 (.rcons u7 (.rcons u8 (.rcons (.sel x91 1) x99)))))))))))) 0)
def xA:SE:=(.app 10 (.rcons (.c 0) (.rcons u0 (.rcons u1 (.rcons u2 (.rcons u3 (.rcons u4 (.rcons u5 (.rcons u6 (.rcons u7 (.rcons u8 (.rcons (.sel x91 1) (.rcons (.cat .emptyL u17) x30)))))))))))))
def iW:SE:=(.app 11 (.rcons (.c 0) (.rcons (.strc 0 0) (.rcons (.sel x91 1) (.rcons (.c 0) (.rcons (.bc false) x99))))))
def kX:SE:=(.eql x56 (.c 9))
def lq:SE:=(.cell u0 u1 10)
def vf:Tr Plf:=(
 .leaf (.next 1 ([u0,x11]++us 2 15)))
def li:SE:=(.mIdx [.str] (.sel x91 1) (rl [u19]))
def vR:SE:=(rl (us 9 15))
def Ab0:SE:=(.app 14 (.rcons (.c 0) (.rcons x90 vR)))
def nK:SE:=(.eql (.sel Ab0 0) (.c 1))
def TZ:Tr Plf:=(
 .leaf (.done 0 [u5,u6,(.c 8)]))
def xp:Tr Plf:=(
 .leaf (.done 0 [u5,u6,(.c 3)]))
def tD:SE:=(.cell (.sel x91 1) li 1)
def aO:SE:=(.app 7 (.rcons (.c 0) (.rcons u3 (.rcons u4 (.rcons u5 (.rcons u10 (.rcons u11 (.rcons u6 (.rcons u7 (.rcons u8 (.rcons u9 (.rcons u0 (.rcons u13 (.rcons (.snoc (.snoc .emptyL (rl [x75])) (rl [x77])) x30))))))))))))))
def SX:SE:=(.cell u1 u2 2)
def Qk:SE:=(rl [u9])
def iw:SE:=(.app 3 (.rcons (.c 0) Qk))
def nh:SE:=(.eql (.sel iw 0) (.c 1))
def tR:SE:=(.app 4 (.rcons (.c 0) (.rcons x90 Qk)))
def K7:SE:=(.eqSS u9 u9)
def P5:SE:=(.eqSS u18 (.strc 0 0))
def Np:SE:=(.eqSS u19 (.strc 0 0))
def PB:SE:=(.eqSS u20 (.strc 0 0))
def NA:SE:=(.eql u10 u10)
def dg:SE:=(.eql u16 (.c 0))
def XC:SE:=(.eql u22 (.c 0))
def iR:SE:=(.eql u23 (.c 0))
def dw:SE:=(.neg (.bc false))
def um:SE:=(.neg (.and (.neg (.and (.bc false) (.bc false))) (.neg (.and dw dw))))
def zw:SE:=(.and u13 (.bc true))
def jD:SE:=(.neg (.and (.neg (.and zw (.bc false))) (.neg (.and (.neg zw) dw))))
def vV:SE:=(.and dg (.and XC (.and iR (.and um jD))))
def vK:SE:=(.app 5 (.rcons (.c 0) (.rcons u17 x92)))
def Qw:SE:=(.eql (.sel vK 0) (.c 1))
def P2:SE:=(.sel vK 1)
def xd:SE:=(.app 6 (.rcons (.c 0) (.rcons u21 x92)))
def L8:SE:=(.eql (.sel xd 0) (.c 1))
def ME:SE:=(.sel xd 1)
def Md:Tr Plf:=(
 .leaf (.done 0 [u5,u6,(.c 6)]))
def lU:SE:=(.eql (.arith .rem .i64 u11 (.c 8)) (.c 0))
def oM:SE:=(.arith .sub .i64 (.arith .shl .i64 (.c 1) u11) (.c 1))
def TM:SE:=(rl [u14])
def Ub:SE:=(rl [u15])
def tF:SE:=(.rcons (.snoc (.snoc .emptyL TM) Ub) x30)
def cq:SE:=(.app 7 (.rcons (.c 0) (.rcons u0 (.rcons u1 (.rcons u2 (.rcons u3 (.rcons u4 (.rcons u5 (.rcons u6 (.rcons u7 (.rcons u8 (.rcons (.c 0) (.rcons oM tF)))))))))))))
def yi:Tr Plf:=(
 .split (.eql (.sel cq 0) (.c 1)) (
 .leaf (.done 0 [(.sel cq 1),(.sel cq 2),(.c 7)])) (
 .split (.eql (.sel cq 0) (.c 2)) x51 x5))
def Cx:Tr Plf:=(
 .leaf (.done 0 [u5,u6,(.c 5)]))
def Y6:SE:=(.eql u15 (.c 0))
def tc:SE:=(.rcons (.snoc .emptyL TM) x30)
def cj:SE:=(.app 7 (.rcons (.c 0) (.rcons u0 (.rcons u1 (.rcons u2 (.rcons u3 (.rcons u4 (.rcons u5 (.rcons u6 (.rcons u7 (.rcons u8 (.rcons (.c 0) (.rcons oM tc)))))))))))))
def rC:Tr Plf:=(
 .split (.eql (.sel cj 0) (.c 1)) (
 .leaf (.done 0 [(.sel cj 1),(.sel cj 2),(.c 7)])) (
 .split (.eql (.sel cj 0) (.c 2)) x51 x5))
def UJ:SE:=(.eql u11 (.c 0))
def oq:SE:=(.and u12 (.bc true))
def lG:SE:=(.neg (.and (.neg (.and oq (.bc false))) (.neg (.and (.neg oq) dw))))
def wE:SE:=(.and (.bc true) (.and dg (.and XC (.and iR (.and lG um)))))
def cG:SE:=(.app 7 (.rcons (.c 0) (.rcons u0 (.rcons u1 (.rcons u2 (.rcons u3 (.rcons u4 (.rcons u5 (.rcons u6 (.rcons u7 (.rcons u8 (.rcons (.c 0) (.rcons (.c 34359738367) tF)))))))))))))
def aw:SE:=(.eql u14 (.c 0))
def jV:SE:=(.and iR (.and lG jD))
def qY:SE:=(.and Np (.and PB (.and NA (.and UJ (.and aw (.and Y6 (.and (.bc true) (.and XC jV))))))))
def rX:SE:=(.rcons (.c 0) (.rcons u0 (.rcons u1 (.rcons u2 (.rcons u3 (.rcons u4 (.rcons u5 (.rcons u6 (.rcons u7 (.rcons u8 vR))))))))))
def Yd:SE:=(.app 13 rX)
def jI:Tr Plf:=(
 .split (.eql (.sel Yd 0) (.c 1)) (
 .leaf (.done 0 [(.sel Yd 1),(.sel Yd 2),(.sel Yd 3)])) (
 .split (.eql (.sel Yd 0) (.c 2)) x51 x5))
def ui:SE:=(.and dg (.and XC jV))
def bF:SE:=(.app 7 (.rcons (.c 0) (.rcons u0 (.rcons u1 (.rcons u2 (.rcons u3 (.rcons u4 (.rcons u5 (.rcons u6 (.rcons u7 (.rcons u8 (.rcons (.c 0) (.rcons (.c 255) tc)))))))))))))
def yy:SE:=(.rcons (.c 1048576) (.rcons (.snoc .emptyL Ub) x30))
def bR:SE:=(.app 7 (.rcons (.c 0) (.rcons u0 (.rcons u1 (.rcons u2 (.rcons u3 (.rcons u4 (.rcons u5 (.rcons u6 (.rcons u7 (.rcons u8 (.rcons (.c 0) yy))))))))))))
def bS:SE:=(.app 7 (.rcons (.c 0) (.rcons u0 (.rcons u1 (.rcons u2 (.rcons u3 (.rcons u4 (.rcons u5 (.rcons u6 (.rcons u7 (.rcons u8 (.rcons (.c 2) yy))))))))))))
def XM:SE:=(.eqSS (.strc 0 0) (.strc 0 0))
def rM:SE:=(.lss (.mIdx [.str] u3 (rl [u18])) (.c 0))
def oQ:SE:=(.and aw (.and Y6 ui))
def yd:SE:=(.and PB (.and NA (.and UJ oQ)))
def ZO:SE:=(.app 15 rX)
def dj:SE:=(.app 7 (.rcons (.c 0) (.rcons u0 (.rcons u1 (.rcons u2 (.rcons u3 (.rcons u4 (.rcons u5 (.rcons u6 (.rcons u7 (.rcons u8 (.rcons (.c 1) (.rcons (.c 3) (.rcons (.snoc .emptyL (rl [u22])) x30))))))))))))))
def tS:SE:=(.app 4 (rl [(.c 0),x90,u20]))
def dO:SE:=(.app 7 (.rcons (.c 0) (.rcons u0 (.rcons u1 (.rcons u2 (.rcons u3 (.rcons u4 (.rcons u5 (.rcons u6 (.rcons u7 (.rcons u8 (.rcons (.c 0) (.rcons (.c 4294967295) (.rcons (.snoc .emptyL (rl [u23])) x30))))))))))))))
def xK:SE:=(.mIdx [.str] u4 (rl [u18]))
def Xh:SE:=(.c 1073741824)
def rK:SE:=(.cell u0 u1 9)
def gx:Tr Plf:=(
 .split (.lss x3 Xh) (
 .leaf (.next 1 [u0,x11,(.snoc u2 (rl [rK])),(.bc false)])) x5)
def j5:SE:=(.cell u0 u1 12)
def Xt:Tr Plf:=(
 .leaf (.next 1 [u0,x11,u2,u3]))
def Ld:SE:=(.lss x14 u1)
def tT:SE:=(.app 18 (.rcons (.c 0) (.rcons (.sub u0 (.c 0) u1) x52)))
def Lb:SE:=(.eql (.sel tT 0) (.c 1))
def Lg:SE:=(.lss (.sel tT 1) (.c 0))
def tv:SE:=(.mIdx [.str] u9 x52)
def jN:SE:=(.mIdx [.str] u10 x52)
def Mn:SE:=(.lss jN (.c 0))
def rn:Tr Plf:=(
 .leaf (.next 1 ([u0,x11]++us 2 9++[(.bc false),(.c 0)])))
def ge:SE:=(.cell u10 jN 1)
def nT:Tr Plf:=(
 .leaf (.next 1 ([u0,x11]++us 2 9++[(.bc false),u12])))
def wa:Tr Plf:=(
 .split u11 (
 .split Mn nT (
 .leaf (.next 1 ([u0,x11]++us 2 9++[ge,u12])))) nT)
def jE:SE:=(.cell u9 tv 1)
def qG:Tr Plf:=(
 .leaf (.next 1 ([u0,x11]++us 2 9++[(.bc false),jE])))
def yD:Tr Plf:=(
 .leaf (.done 0 [u5,(.c (-1)),(.c 3),(.c (-1)),u9,u10,u3,u4]))
def vh:SE:=(.cell u0 u1 3)
def Aa4:SE:=(.cell u0 u1 4)
def oS:SE:=(.cell u0 u1 8)
def rq:SE:=(.cell u0 u1 11)
def YU:SE:=(.app 16 (rl [(.c 0),u2,u3,u4,u8,u9,u5,u1,u7,u0,x38,x56,(.cell u0 u1 2),vh,Aa4,x68,x69,(.cell u0 u1 7),oS,rK,lq,rq,j5,(.cell u0 u1 13),(.cell u0 u1 14)]))
def UA:SE:=(rl [u0])
def qN:SE:=(.app 17 (.rcons (.c 0) (.rcons u7 UA)))
def aJ:SE:=(.app 19 (rl [(.c 0),u2,u3,u4,u8,u9,u5,(.c (-1)),u7,u0,u10,(.c 0),(.sel qN 1)]))
def WO:SE:=(rl [(.c 0)])
def Aas:SE:=(.upd (.snoc u8 (.rcons u7 WO)) x88 1 (.arith .add .i64 (.sel aJ 2) (.c 1)))
def ko:SE:=(.lenL u9)
def np:SE:=(.upd (.snoc u9 (.rcons u7 x30)) ko 1 (.sel aJ 1))
def ej:SE:=(.rcons (.c 0) UA)
def rO:Tr Plf:=(
 .leaf (.done 0 [(.c 3),u0,u1,u2]))
def wX:SE:=(rl [x38,x56])
def IQ:SE:=(.app 20 (.rcons (.c 0) (.rcons u2 (.rcons u0 (.rcons u3 (.rcons u7 (.rcons u8 (.rcons u1 (.rcons (.c (-1)) (.rcons u5 (.rcons u6 wX)))))))))))
def MT:SE:=(rl [u2])
def ir:SE:=(.rcons u0 (.rcons u1 MT))
def HT:SE:=(.rcons (.c 0) ir)
def QH:SE:=(.app 21 HT)
def aq:SE:=(.eql (.sel QH 0) (.c 1))
def ae:SE:=(.eql (.sel QH 0) (.c 2))
def X9:SE:=(.sel QH 4)
def nD:SE:=(.arith .add .i64 u0 SX)
def nM:SE:=(.arith .rem .i64 nD (.c 8))
def nL:Tr Plf:=(
 .leaf (.next 1 [nM,u1,x28,u3,u4]))
def sx:SE:=(.arith .rem .i64 (.arith .mul .i64 (.arith .quo .i64 (.arith .sub .i64 nD (.c 1)) SX) SX) (.c 8))
def jP:SE:=(.app 4 (rl [(.c 0),u0,rq]))
def vN:SE:=(.eql (.sel jP 0) (.c 1))
def yO:SE:=(.lss (.sel jP 1) (.c 0))
def jW:SE:=(.app 23 (.rcons (.c 0) (.rcons (.c 0) ej)))
def jr:SE:=(.app 23 (.rcons (.c 0) (.rcons (.sel jP 1) ej)))
def lZ:Tr Plf:=(
 .split vh x8 (
 .split vN (
 .split yO x1 x1) x5))
def oA:SE:=(.app 24 (.rcons (.c 0) (.rcons u9 (.rcons u2 UA))))
def WB:SE:=(.sel oA 1)
def uV:Tr Plf:=(
 .leaf (.next 1 [nM,u1,x28,u3,u4,u5,WB,u7,u8,u9]))
def xl:SE:=(.app 24 (.rcons (.c 0) (.rcons u9 (.rcons x0 UA))))
def cC:SE:=(.sel xl 1)
def TN:SE:=(.app 22 HT)
def E3:SE:=(.sel TN 1)
def EZ:SE:=(.sel TN 2)
def E2:SE:=(.sel TN 3)
def Abd:Tr Plf:=(
 .leaf (.done 0 [E3,EZ,E2,(.sel TN 4)]))
def EJ:SE:=(.lss (.c 0) x0)
def jy:SE:=(.cell u1 (.c 0) 0)
def xw:SE:=(rl [(.cell u1 (.c 0) 1)])
def Ui:SE:=(.app 25 (.rcons (.c 0) (.rcons E3 (.rcons EZ (.rcons E2 (.rcons (.sel TN 4) (.rcons (.c 0) (.rcons jy (.rcons (.cell u1 (.c 0) 1) xw)))))))))
def T3:SE:=(.app 25 (rl [(.c 0),E3,EZ,E2,(.sel Ui 1),(.c 1),(.cell u1 (.c 1) 0),(.cell u1 (.c 1) 1),(.cell u1 (.c 1) 1)]))
def Uz:SE:=(.app 25 (rl [(.c 0),E3,EZ,E2,(.sel T3 1),(.c 2),(.cell u1 (.c 2) 0),(.cell u1 (.c 2) 1),(.cell u1 (.c 2) 1)]))
def Uf:SE:=(.app 25 (rl [(.c 0),E3,EZ,E2,(.sel Uz 1),(.c 3),(.cell u1 (.c 3) 0),(.cell u1 (.c 3) 1),(.cell u1 (.c 3) 1)]))
def S3:SE:=(.app 25 (rl [(.c 0),E3,EZ,E2,(.sel Uf 1),(.c 4),(.cell u1 (.c 4) 0),(.cell u1 (.c 4) 1),(.cell u1 (.c 4) 1)]))
def TW:SE:=(.app 25 (rl [(.c 0),E3,EZ,E2,(.sel S3 1),(.c 5),(.cell u1 (.c 5) 0),(.cell u1 (.c 5) 1),(.cell u1 (.c 5) 1)]))
def S4:SE:=(.app 25 (rl [(.c 0),E3,EZ,E2,(.sel TW 1),(.c 6),(.cell u1 (.c 6) 0),(.cell u1 (.c 6) 1),(.cell u1 (.c 6) 1)]))
def T9:SE:=(.app 25 (rl [(.c 0),E3,EZ,E2,(.sel S4 1),(.c 7),(.cell u1 (.c 7) 0),(.cell u1 (.c 7) 1),(.cell u1 (.c 7) 1)]))
def Ux:SE:=(.app 25 (rl [(.c 0),E3,EZ,E2,(.sel T9 1),(.c 8),(.cell u1 (.c 8) 0),(.cell u1 (.c 8) 1),(.cell u1 (.c 8) 1)]))
def Xf:SE:=(.app 25 (rl [(.c 0),E3,EZ,E2,(.sel Ux 1),(.c 9),(.cell u1 (.c 9) 0),(.cell u1 (.c 9) 1),(.cell u1 (.c 9) 1)]))
def Wy:SE:=(.lenL u3)
def jB:SE:=(.lss u1 Wy)
def Xl:SE:=(.cell u3 u1 1)
def pV:SE:=(.upd u3 u1 1 .nilL)
def jz:SE:=(.cell u8 u3 8)
def dQ:SE:=(.cell u8 u3 12)
def mh:SE:=(.upd u8 u3 8 .nilL)
def od:SE:=(.lss (.lenL dQ) (.c 1048576))
def zy:SE:=(.nilIs (.cat .emptyL dQ) (.bc false))
def nI:SE:=(.upd u8 u3 8 (.nilIs (.cat .emptyL jz) (.bc false)))
def X2:SE:=(.lenL u4)
def Ql:Plf:=(.next 1 [u4,(.c 0),u0,u1,u2,u3])
def Pq:Tr Plf:=(
 .leaf (.next 1 [u0,x11,u2,u3,u4,u5]))
def il:Tr Plf:=(
 .leaf (.done 0 []))
def iB:SE:=(.mIdx [.str] u1 UA)
def Pk:SE:=(.lss iB (.c 0))
def Aaf:SE:=(.app 30 (.rcons (.c 0) (.rcons u3 UA)))
def Gz:SE:=(.eql (.sel Aaf 0) (.c 1))
def aQ:SE:=(.sel Aaf 1)
def GA:SE:=(.lss aQ (.c 0))
def Gw:SE:=(.lss (.c 0) Wy)
def uL:SE:=(.app 17 (rl [(.c 0),(.cell u3 (.c 0) 0),(.cell u3 (.c 0) 1)]))
def Gy:SE:=(.eql (.sel uL 0) (.c 1))
def cr:SE:=(.snoc u1 (.rcons u0 x58))
def uD:SE:=(rl [u2,u3,u4,(.sel uL 1)])
def G2:SE:=(.rcons (.c 0) (.rcons cr uD))
def Gx:SE:=(.lss aQ Wy)
def qt:SE:=(.app 17 (rl [(.c 0),(.cell u3 aQ 0),(.cell u3 aQ 1)]))
def GC:SE:=(.eql (.sel qt 0) (.c 1))
def zF:SE:=(rl [u2,u3,u4,(.sel qt 1)])
def G9:SE:=(.rcons (.c 0) (.rcons cr zF))
def Qt:SE:=(.cell u1 iB 1)
def bG:SE:=(.upd u1 iB 1 (.bc true))
def G3:SE:=(.rcons (.c 0) (.rcons bG uD))
def GZ:SE:=(.rcons (.c 0) (.rcons bG zF))
def zS:SE:=(rl [u3,u4,u5])
def HC:SE:=(.rcons (.c 0) (.rcons x38 (.rcons u2 zS)))
def pa:SE:=(rl [u4,u5,u6])
def tV:SE:=(.app 48 (.rcons (.c 0) (.rcons x25 (.rcons u3 pa))))
def qo:SE:=(.app 50 (.rcons (.c 0) Qk))
def W0:SE:=(rl [u11])
def jc:SE:=(.app 29 (.rcons (.c 0) (.rcons u0 (.rcons u1 (.rcons u2 (.rcons u3 (.rcons u4 (.rcons u5 (.rcons u6 (.rcons u7 (.rcons u8 (.rcons (.sel qo 1) (.rcons u8 (.rcons u10 (.rcons (.c (-1)) (.rcons (.c (-1)) W0))))))))))))))))
def kM:SE:=(.app 51 (rl ([(.c 0)]++us 0 9++[(.c 7),u9,(.c (-1))])))
def vQ:SE:=(.mIdx [.str] u9 (rl [SX]))
def XN:SE:=(.app 51 (.rcons (.c 0) (.rcons u3 (.rcons u4 (.rcons u5 (.rcons u6 (.rcons u7 (.rcons u8 (.rcons u9 (.rcons u10 (.rcons u11 (.rcons (.c 8) (.rcons u0 WO)))))))))))))
def gK:SE:=(.arith .sub .i64 (.lenL (.sel XN 1)) (.c 1))
def YX:SE:=(.app 51 (rl [(.c 0),u3,u4,u5,u6,u7,u8,u9,u10,u11,(.c 8),u0,(.cell u9 vQ 1)]))
def lY:SE:=(.arith .sub .i64 (.lenL (.sel YX 1)) (.c 1))
def xq:SE:=(.app 53 (.rcons (.c 0) (.rcons oS MT)))
def pL:Tr Plf:=(
 .split (.eql (.sel xq 0) (.c 1)) (
 .split (.lss (.sel xq 1) (.c 0)) x40 x39) x5)
def bx:SE:=(.rcons (.c 0) (.rcons u1 MT))
def aY:SE:=(.eql (.sel (.app 27 HT) 0) (.c 1))
def aI:SE:=(.sel (.app 27 HT) 1)
def RB:SE:=(.app 28 HT)
def uW:SE:=(.app 49 (.rcons (.c 0) (.rcons u0 (.rcons u1 (.rcons u2 (.rcons (.snoc .emptyL (rl [(.sel RB 4)])) x30))))))
def Xs:SE:=(rl [(.c (-1)),(.c (-1))])
def pz:SE:=(.rcons (.c (-1)) (.rcons (.c (-1)) (.rcons (.c (-1)) Xs)))
def ku:SE:=(rl [x17])
def xB:SE:=(.mIdx [.str] u10 ku)
def xz:Tr Plf:=(
 .leaf (.next 1 ([u0,u1,u2,x19]++us 4 9)))
def aL:SE:=(.lenL u11)
def bN:SE:=(.lenL u7)
def Aao:SE:=(.upd (.snoc u11 (.rcons x17 WO)) aL 1 bN)
def tu:SE:=(.upd (.snoc u12 (.rcons x17 WO)) (.lenL u12) 1 (.c 0))
def lN:SE:=(.app 51 (.rcons (.c 0) (.rcons u4 (.rcons u0 (.rcons u5 (.rcons u6 (.rcons u7 (.rcons u8 (.rcons Aao (.rcons tu (.rcons u3 (.rcons (.c 3) Xs))))))))))))
def sK:SE:=(.mIdx [.str] u11 (rl [u6]))
def Rw:SE:=(.cell u4 u6 1)
def uY:SE:=(.cell u4 u6 9)
def oc:SE:=(.mIdx [.str] u18 (rl [uY]))
def jG:SE:=(.lss oc (.c 0))
def lJ:SE:=(.rcons u6 WO)
def gR:SE:=(.app 51 (.rcons (.c 0) (.rcons u7 (.rcons u0 (.rcons u8 (.rcons u9 (.rcons u10 (.rcons u11 (.rcons u18 (.rcons u19 (.rcons u14 (.rcons (.c 5) lJ))))))))))))
def Nw:SE:=(.arith .add .i64 u6 (.c 1))
def je:SE:=(rl [u6,(.cell u18 oc 1)])
def kZ:SE:=(.app 51 (.rcons (.c 0) (.rcons u7 (.rcons u0 (.rcons u8 (.rcons u9 (.rcons u10 (.rcons u11 (.rcons u18 (.rcons u19 (.rcons u14 (.rcons (.c 5) je))))))))))))
def jQ:SE:=(.app 51 (.rcons (.c 0) (.rcons u7 (.rcons u0 (.rcons u8 (.rcons u9 (.rcons u10 (.rcons u11 (.rcons u18 (.rcons u19 (.rcons u15 (.rcons (.c 6) lJ))))))))))))
def iP:SE:=(.app 51 (.rcons (.c 0) (.rcons u7 (.rcons u0 (.rcons u8 (.rcons u9 (.rcons u10 (.rcons u11 (.rcons u18 (.rcons u19 (.rcons u15 (.rcons (.c 6) je))))))))))))
def kg:SE:=(.app 51 (.rcons (.c 0) (.rcons u7 (.rcons u0 (.rcons u8 (.rcons u9 (.rcons u10 (.rcons u11 (.rcons u18 (.rcons u19 (.rcons u16 (.rcons (.c 9) lJ))))))))))))
def ia:SE:=(.app 51 (.rcons (.c 0) (.rcons u7 (.rcons u0 (.rcons u8 (.rcons u9 (.rcons u10 (.rcons u11 (.rcons u18 (.rcons u19 (.rcons u16 (.rcons (.c 9) je))))))))))))
def sP:SE:=(.cell u4 u6 0)
def im:SE:=(.app 52 (rl [(.c 0),u7,u0,u8,u9,u10,u11,u18,u19,u17,u6,sP,Rw,(.cell u4 u6 2),(.cell u4 u6 3),(.cell u4 u6 4),(.cell u4 u6 5),(.cell u4 u6 6),(.cell u4 u6 7),(.cell u4 u6 8),uY,(.cell u4 u6 10),(.cell u4 u6 11),(.cell u4 u6 12),(.cell u4 u6 13),(.cell u4 u6 14)]))
def bL:SE:=(.app 50 (rl [(.c 0),(.c 4)]))
def gt:SE:=(.cell u0 u12 0)
def tw:SE:=(.app 55 (rl [(.c 0),gt,(.cell u0 u12 1),sP]))
def bX:SE:=(.mIdx [.str] u19 (rl [gt]))
def yK:SE:=(.snoc u19 (rl [gt,(.c 1)]))
def jo:SE:=(.app 29 (.rcons (.c 0) (.rcons u7 (.rcons u0 (.rcons u8 (.rcons u9 (.rcons u10 (.rcons u11 (.rcons u18 (.rcons yK (.rcons u12 (.rcons (.sel bL 1) (.rcons u12 (.rcons u6 (.rcons (.c 0) Xs)))))))))))))))
def qi:SE:=(.upd u19 bX 1 (.arith .add .i64 (.cell u19 bX 1) (.c 1)))
def jJ:SE:=(.app 29 (.rcons (.c 0) (.rcons u7 (.rcons u0 (.rcons u8 (.rcons u9 (.rcons u10 (.rcons u11 (.rcons u18 (.rcons qi (.rcons u12 (.rcons (.sel bL 1) (.rcons u12 (.rcons u6 (.rcons (.cell u19 bX 1) Xs)))))))))))))))
def kP:SE:=(.app 29 (.rcons (.c 0) (.rcons u7 (.rcons u0 (.rcons u8 (.rcons u9 (.rcons u10 (.rcons u11 (.rcons u18 (.rcons u19 (.rcons u12 (.rcons (.sel bL 1) (.rcons u12 (.rcons u6 (.rcons (.c (-1)) Xs)))))))))))))))
def vm:Tr Plf:=(
 .split (.eql (.sel kP 0) (.c 1)) (
 .leaf (.next 2 [u0,u1,u2,u3,u4,u5,Nw,u7,u8,u9,(.sel kP 1),(.sel kP 2),u12,u13,u14,u15,u16,u17,u18,u19])) x5)
def kT:Tr Plf:=(
 .split (.eql (.sel tw 0) (.c 1)) (
 .split (.sel tw 1) (
 .split (.lss bX (.c 0)) (
 .split (.eql (.sel jo 0) (.c 1)) (
 .leaf (.next 2 [u0,u1,u2,u3,u4,u5,Nw,u7,u8,u9,(.sel jo 1),(.sel jo 2),u12,u13,u14,u15,u16,u17,u18,yK])) x5) (
 .split (.eql (.sel jJ 0) (.c 1)) (
 .leaf (.next 2 [u0,u1,u2,u3,u4,u5,Nw,u7,u8,u9,(.sel jJ 1),(.sel jJ 2),u12,u13,u14,u15,u16,u17,u18,qi])) x5)) vm) x5)
def gp:SE:=(.app 51 (.rcons (.c 0) (.rcons u7 (.rcons u0 (.rcons u8 (.rcons u9 (.rcons u10 (.rcons u11 (.rcons u18 (.rcons u19 (.rcons u12 (.rcons (.c 10) Xs))))))))))))
def ri:SE:=(.mIdx [.str] u7 (rl [u8]))
def Abo:Plf:=(.next 1 [u2,(.c 0),u0,u1])
def aP:SE:=(.app 59 (.rcons (.c 0) (.rcons u2 (.rcons u3 (.rcons u4 (.rcons u5 (.rcons u6 (.rcons u7 (.rcons u8 (.rcons u9 x52))))))))))
def Nh:SE:=(.eql (.sel aP 0) (.c 1))
def Nt:SE:=(.eql (.sel aP 2) (.c 0))
def wD:SE:=(.app 17 (.rcons (.c 0) wX))
def O1:SE:=(.eql (.sel wD 0) (.c 1))
def yG:SE:=(rl [(.c 0),(.sel wD 1)])
def so:SE:=(.app 60 (.rcons (.c 0) (.rcons .emptyL yG)))
def yH:SE:=(.arith .add .i64 (.sel aP 1) (.sel so 1))
def yZ:SE:=(.app 60 (.rcons (.c 0) (.rcons u10 yG)))
def QF:SE:=(.eql (.sel yZ 0) (.c 1))
def mD:SE:=(.arith .add .i64 (.sel aP 1) (.sel yZ 1))
def QL:SE:=(.snoc u10 (rl [x38,mD]))
def Q3:SE:=(.upd u10 jN 1 mD)
def PG:Tr Plf:=(
 .leaf (.done 0 [u10]))
def lr:Tr Plf:=(
 .leaf (.next 1 [u0,x11,u2,u3,u4]))
def DQ:SE:=(.app 56 HT)
def jq:SE:=(.eql (.sel DQ 0) (.c 1))
def sj:SE:=(.eql (.sel (.app 58 HT) 0) (.c 1))
def gO:SE:=(.eql (.sel DQ 0) (.c 2))
def mN:SE:=(.app 61 (rl [(.c 0),u0,u1,u2,(.sel DQ 1),(.sel DQ 2),(.sel DQ 3),(.sel DQ 4),(.sel DQ 5),(.sel DQ 6),(.sel DQ 7),(.sel DQ 8)]))
def wO:SE:=(.eql (.sel mN 0) (.c 1))
def Ye:SE:=(.sel mN 1)
def xM:Tr Plf:=(
 .leaf (.done 0 [.nilL,(.bc true),(.c 0)]))
def bg:SE:=(.eql (.sel (.app 30 bx) 0) (.c 1))
def X5:SE:=(.sel (.app 30 bx) 1)
def cy:SE:=(.lss X5 (.c 0))
def bb:SE:=(.snoc .emptyL MT)
def Wt:Tr Plf:=(
 .leaf (.done 0 [bb,(.bc false),(.c 0)]))
def sD:Tr Plf:=(
 .split (.eql (.sel (.app 57 (.rcons (.c 0) MT)) 0) (.c 1)) Wt x5)
def lw:SE:=(.app 59 (.rcons (.c 0) (.rcons u3 (.rcons u4 (.rcons u5 (.rcons u6 (.rcons u7 (.rcons u8 (.rcons u9 (.rcons u10 MT))))))))))
def vi:SE:=(.eql (.sel lw 0) (.c 1))
def gc:SE:=(.mIdx [.str] u11 MT)
def cY:SE:=(.arith .sub .i64 (.c 0) (.sel lw 1))
def Aah:SE:=(.app 17 (.rcons (.c 0) (.rcons jy xw)))
def Gv:SE:=(.eql (.sel Aah 0) (.c 1))
def GB:SE:=(rl [(.sel Aah 1)])
def f9:SE:=(.app 62 (.rcons (.c 0) (.rcons u11 (.rcons (.strc 0 0) (.rcons cY GB)))))
def bH:Tr Plf:=(
 .leaf (.next 3 [u0,u1,u2,u3,u4,u5,u6,u7,u8,(.strc 0 0),u9,u10,u11]))
def dc:SE:=(.arith .sub .i64 (.cell u11 gc 1) (.sel lw 1))
def jx:SE:=(.app 62 (.rcons (.c 0) (.rcons u11 (.rcons (.strc 0 0) (.rcons dc GB)))))
def eo:SE:=(.lss X5 x0)
def zU:SE:=(.app 17 (rl [(.c 0),(.cell u1 X5 0),(.cell u1 X5 1)]))
def xh:SE:=(.eql (.sel zU 0) (.c 1))
def nr:SE:=(rl [(.sel zU 1)])
def iO:SE:=(.app 62 (.rcons (.c 0) (.rcons u11 (.rcons (.strc 0 0) (.rcons cY nr)))))
def f6:SE:=(.app 62 (.rcons (.c 0) (.rcons u11 (.rcons (.strc 0 0) (.rcons dc nr)))))
def wG:SE:=(.app 30 (.rcons (.c 0) (.rcons u1 Qk)))
def XB:SE:=(.sel wG 1)
def km:SE:=(.app 59 (.rcons (.c 0) (.rcons u3 (.rcons u4 (.rcons u5 (.rcons u6 (.rcons u7 (.rcons u8 (.rcons u10 (.rcons u11 Qk))))))))))
def nB:SE:=(.eql (.sel km 0) (.c 1))
def ky:SE:=(.mIdx [.str] u12 Qk)
def dn:SE:=(.arith .sub .i64 (.c 0) (.sel km 1))
def Ze:Tr Plf:=(
 .leaf (.done 0 [(.snoc bb Qk),(.bc false),(.c 0)]))
def iu:SE:=(.app 62 (.rcons (.c 0) (.rcons u12 (.rcons (.strc 0 0) (.rcons dn GB)))))
def cT:Tr Plf:=(
 .leaf (.next 4 [u0,u1,u2,u3,u4,u5,u6,u7,u8,u9,(.strc 0 0),u10,u11,u12]))
def cR:SE:=(.arith .sub .i64 (.cell u12 ky 1) (.sel km 1))
def ki:SE:=(.app 62 (.rcons (.c 0) (.rcons u12 (.rcons (.strc 0 0) (.rcons cR GB)))))
def qk:SE:=(.app 17 (rl [(.c 0),(.cell u1 XB 0),(.cell u1 XB 1)]))
def tY:SE:=(.eql (.sel qk 0) (.c 1))
def uG:SE:=(rl [(.sel qk 1)])
def iS:SE:=(.app 62 (.rcons (.c 0) (.rcons u12 (.rcons (.strc 0 0) (.rcons dn uG)))))
def kA:SE:=(.app 62 (.rcons (.c 0) (.rcons u12 (.rcons (.strc 0 0) (.rcons cR uG)))))
def dK:SE:=(rl [u10])
def Aba:SE:=(.app 30 (.rcons (.c 0) (.rcons u1 dK)))
def Yc:SE:=(.sel Aba 1)
def ig:SE:=(.app 59 (.rcons (.c 0) (.rcons u3 (.rcons u4 (.rcons u5 (.rcons u6 (.rcons u7 (.rcons u8 (.rcons u11 (.rcons u12 dK))))))))))
def mV:SE:=(.eql (.sel ig 0) (.c 1))
def lW:SE:=(.mIdx [.str] u13 dK)
def bh:SE:=(.arith .sub .i64 (.c 0) (.sel ig 1))
def lO:SE:=(.snoc (.snoc bb Qk) dK)
def Zg:Tr Plf:=(
 .leaf (.done 0 [lO,(.bc false),(.c 0)]))
def gM:SE:=(.app 62 (.rcons (.c 0) (.rcons u13 (.rcons (.strc 0 0) (.rcons bh GB)))))
def dF:Tr Plf:=(
 .leaf (.next 5 [u0,u1,u2,u3,u4,u5,u6,u7,u8,u9,u10,(.strc 0 0),u11,u12,u13]))
def de:SE:=(.arith .sub .i64 (.cell u13 lW 1) (.sel ig 1))
def j0:SE:=(.app 62 (.rcons (.c 0) (.rcons u13 (.rcons (.strc 0 0) (.rcons de GB)))))
def wm:SE:=(.app 17 (rl [(.c 0),(.cell u1 Yc 0),(.cell u1 Yc 1)]))
def vk:SE:=(.eql (.sel wm 0) (.c 1))
def yM:SE:=(rl [(.sel wm 1)])
def hI:SE:=(.app 62 (.rcons (.c 0) (.rcons u13 (.rcons (.strc 0 0) (.rcons bh yM)))))
def iz:SE:=(.app 62 (.rcons (.c 0) (.rcons u13 (.rcons (.strc 0 0) (.rcons de yM)))))
def yw:SE:=(.app 30 (.rcons (.c 0) (.rcons u1 W0)))
def Z3:SE:=(.sel yw 1)
def gd:SE:=(.app 59 (.rcons (.c 0) (.rcons u3 (.rcons u4 (.rcons u5 (.rcons u6 (.rcons u7 (.rcons u8 (.rcons u12 (.rcons u13 W0))))))))))
def xQ:SE:=(.eql (.sel gd 0) (.c 1))
def jk:SE:=(.mIdx [.str] u14 W0)
def bB:SE:=(.arith .sub .i64 (.c 0) (.sel gd 1))
def ag:Tr Plf:=(
 .leaf (.done 0 [(.snoc lO W0),(.bc false),(.c 0)]))
def f7:SE:=(.app 62 (.rcons (.c 0) (.rcons u14 (.rcons (.strc 0 0) (.rcons bB GB)))))
def dq:Tr Plf:=(
 .leaf (.next 6 [u0,u1,u2,u3,u4,u5,u6,u7,u8,u9,u10,u11,(.strc 0 0),u12,u13,u14]))
def aZ:SE:=(.arith .sub .i64 (.cell u14 jk 1) (.sel gd 1))
def ji:SE:=(.app 62 (.rcons (.c 0) (.rcons u14 (.rcons (.strc 0 0) (.rcons aZ GB)))))
def yk:SE:=(.app 17 (rl [(.c 0),(.cell u1 Z3 0),(.cell u1 Z3 1)]))
def Aal:SE:=(.eql (.sel yk 0) (.c 1))
def uH:SE:=(rl [(.sel yk 1)])
def jS:SE:=(.app 62 (.rcons (.c 0) (.rcons u14 (.rcons (.strc 0 0) (.rcons bB uH)))))
def lu:SE:=(.app 62 (.rcons (.c 0) (.rcons u14 (.rcons (.strc 0 0) (.rcons aZ uH)))))
def bl:SE:=(rl [u12])
def rt:SE:=(.app 30 (.rcons (.c 0) (.rcons u1 bl)))
def Yf:SE:=(.sel rt 1)
def kx:SE:=(.app 59 (.rcons (.c 0) (.rcons u3 (.rcons u4 (.rcons u5 (.rcons u6 (.rcons u7 (.rcons u8 (.rcons u13 (.rcons u14 bl))))))))))
def rW:SE:=(.eql (.sel kx 0) (.c 1))
def i4:SE:=(.mIdx [.str] u15 bl)
def cA:SE:=(.arith .sub .i64 (.c 0) (.sel kx 1))
def lh:SE:=(.snoc (.snoc lO W0) bl)
def az:Tr Plf:=(
 .leaf (.done 0 [lh,(.bc false),(.c 0)]))
def iQ:SE:=(.app 62 (.rcons (.c 0) (.rcons u15 (.rcons (.strc 0 0) (.rcons cA GB)))))
def aU:Tr Plf:=(
 .leaf (.next 7 [u0,u1,u2,u3,u4,u5,u6,u7,u8,u9,u10,u11,u12,(.strc 0 0),u13,u14,u15]))
def dG:SE:=(.arith .sub .i64 (.cell u15 i4 1) (.sel kx 1))
def gy:SE:=(.app 62 (.rcons (.c 0) (.rcons u15 (.rcons (.strc 0 0) (.rcons dG GB)))))
def vU:SE:=(.app 17 (rl [(.c 0),(.cell u1 Yf 0),(.cell u1 Yf 1)]))
def sW:SE:=(.eql (.sel vU 0) (.c 1))
def po:SE:=(rl [(.sel vU 1)])
def kU:SE:=(.app 62 (.rcons (.c 0) (.rcons u15 (.rcons (.strc 0 0) (.rcons cA po)))))
def hX:SE:=(.app 62 (.rcons (.c 0) (.rcons u15 (.rcons (.strc 0 0) (.rcons dG po)))))
def af:SE:=(rl [u13])
def pk:SE:=(.app 30 (.rcons (.c 0) (.rcons u1 af)))
def Yx:SE:=(.sel pk 1)
def kG:SE:=(.app 59 (.rcons (.c 0) (.rcons u3 (.rcons u4 (.rcons u5 (.rcons u6 (.rcons u7 (.rcons u8 (.rcons u14 (.rcons u15 af))))))))))
def sa:SE:=(.eql (.sel kG 0) (.c 1))
def lm:SE:=(.mIdx [.str] u16 af)
def cS:SE:=(.arith .sub .i64 (.c 0) (.sel kG 1))
def XR:Tr Plf:=(
 .leaf (.done 0 [(.snoc lh af),(.bc false),(.c 0)]))
def lR:SE:=(.app 62 (.rcons (.c 0) (.rcons u16 (.rcons (.strc 0 0) (.rcons cS GB)))))
def di:Tr Plf:=(
 .leaf (.next 8 [u0,u1,u2,u3,u4,u5,u6,u7,u8,u9,u10,u11,u12,u13,(.strc 0 0),u14,u15,u16]))
def ek:SE:=(.arith .sub .i64 (.cell u16 lm 1) (.sel kG 1))
def jU:SE:=(.app 62 (.rcons (.c 0) (.rcons u16 (.rcons (.strc 0 0) (.rcons ek GB)))))
def pT:SE:=(.app 17 (rl [(.c 0),(.cell u1 Yx 0),(.cell u1 Yx 1)]))
def zu:SE:=(.eql (.sel pT 0) (.c 1))
def wp:SE:=(rl [(.sel pT 1)])
def lj:SE:=(.app 62 (.rcons (.c 0) (.rcons u16 (.rcons (.strc 0 0) (.rcons cS wp)))))
def gi:SE:=(.app 62 (.rcons (.c 0) (.rcons u16 (.rcons (.strc 0 0) (.rcons ek wp)))))
def Aaa:SE:=(.app 30 (.rcons (.c 0) (.rcons u1 TM)))
def aj:SE:=(.sel Aaa 1)
def lF:SE:=(.app 59 (.rcons (.c 0) (.rcons u3 (.rcons u4 (.rcons u5 (.rcons u6 (.rcons u7 (.rcons u8 (.rcons u15 (.rcons u16 TM))))))))))
def ug:SE:=(.eql (.sel lF 0) (.c 1))
def f4:SE:=(.mIdx [.str] u17 TM)
def cw:SE:=(.arith .sub .i64 (.c 0) (.sel lF 1))
def iG:SE:=(.snoc (.snoc lh af) TM)
def ZV:Tr Plf:=(
 .leaf (.done 0 [iG,(.bc false),(.c 0)]))
def kf:SE:=(.app 62 (.rcons (.c 0) (.rcons u17 (.rcons (.strc 0 0) (.rcons cw GB)))))
def ci:Tr Plf:=(
 .leaf (.next 9 [u0,u1,u2,u3,u4,u5,u6,u7,u8,u9,u10,u11,u12,u13,u14,(.strc 0 0),u15,u16,u17]))
def cX:SE:=(.arith .sub .i64 (.cell u17 f4 1) (.sel lF 1))
def jZ:SE:=(.app 62 (.rcons (.c 0) (.rcons u17 (.rcons (.strc 0 0) (.rcons cX GB)))))
def zZ:SE:=(.app 17 (rl [(.c 0),(.cell u1 aj 0),(.cell u1 aj 1)]))
def xr:SE:=(.eql (.sel zZ 0) (.c 1))
def Abk:SE:=(rl [(.sel zZ 1)])
def gZ:SE:=(.app 62 (.rcons (.c 0) (.rcons u17 (.rcons (.strc 0 0) (.rcons cw Abk)))))
def lS:SE:=(.app 62 (.rcons (.c 0) (.rcons u17 (.rcons (.strc 0 0) (.rcons cX Abk)))))
def ve:SE:=(.app 30 (.rcons (.c 0) (.rcons u1 Ub)))
def Zf:SE:=(.sel ve 1)
def lV:SE:=(.app 59 (.rcons (.c 0) (.rcons u3 (.rcons u4 (.rcons u5 (.rcons u6 (.rcons u7 (.rcons u8 (.rcons u16 (.rcons u17 Ub))))))))))
def xS:SE:=(.eql (.sel lV 0) (.c 1))
def iL:SE:=(.mIdx [.str] u18 Ub)
def bY:SE:=(.arith .sub .i64 (.c 0) (.sel lV 1))
def YF:Tr Plf:=(
 .leaf (.done 0 [(.snoc iG Ub),(.bc false),(.c 0)]))
def lx:SE:=(.app 62 (.rcons (.c 0) (.rcons u18 (.rcons (.strc 0 0) (.rcons bY GB)))))
def cF:Tr Plf:=(
 .leaf (.next 10 [u0,u1,u2,u3,u4,u5,u6,u7,u8,u9,u10,u11,u12,u13,u14,u15,(.strc 0 0),u16,u17,u18]))
def dW:SE:=(.arith .sub .i64 (.cell u18 iL 1) (.sel lV 1))
def ja:SE:=(.app 62 (.rcons (.c 0) (.rcons u18 (.rcons (.strc 0 0) (.rcons dW GB)))))
def Aa8:SE:=(.app 17 (rl [(.c 0),(.cell u1 Zf 0),(.cell u1 Zf 1)]))
def wL:SE:=(.eql (.sel Aa8 0) (.c 1))
def oh:SE:=(rl [(.sel Aa8 1)])
def l5:SE:=(.app 62 (.rcons (.c 0) (.rcons u18 (.rcons (.strc 0 0) (.rcons bY oh)))))
def jm:SE:=(.app 62 (.rcons (.c 0) (.rcons u18 (.rcons (.strc 0 0) (.rcons dW oh)))))
def dz:SE:=(rl [u16])
def tP:SE:=(.app 30 (.rcons (.c 0) (.rcons u1 dz)))
def au:SE:=(.sel tP 1)
def l4:SE:=(.app 59 (.rcons (.c 0) (.rcons u3 (.rcons u4 (.rcons u5 (.rcons u6 (.rcons u7 (.rcons u8 (.rcons u17 (.rcons u18 dz))))))))))
def sy:SE:=(.eql (.sel l4 0) (.c 1))
def lQ:SE:=(.mIdx [.str] u19 dz)
def bU:SE:=(.arith .sub .i64 (.c 0) (.sel l4 1))
def vW:SE:=(.snoc (.snoc iG Ub) dz)
def XL:Tr Plf:=(
 .leaf (.done 0 [vW,(.bc false),(.c 0)]))
def jn:SE:=(.app 62 (.rcons (.c 0) (.rcons u19 (.rcons (.strc 0 0) (.rcons bU GB)))))
def bM:Tr Plf:=(
 .leaf (.next 11 [u0,u1,u2,u3,u4,u5,u6,u7,u8,u9,u10,u11,u12,u13,u14,u15,u16,(.strc 0 0),u17,u18,u19]))
def dA:SE:=(.arith .sub .i64 (.cell u19 lQ 1) (.sel l4 1))
def jT:SE:=(.app 62 (.rcons (.c 0) (.rcons u19 (.rcons (.strc 0 0) (.rcons dA GB)))))
def pB:SE:=(.app 17 (rl [(.c 0),(.cell u1 au 0),(.cell u1 au 1)]))
def sI:SE:=(.eql (.sel pB 0) (.c 1))
def nQ:SE:=(rl [(.sel pB 1)])
def gA:SE:=(.app 62 (.rcons (.c 0) (.rcons u19 (.rcons (.strc 0 0) (.rcons bU nQ)))))
def lP:SE:=(.app 62 (.rcons (.c 0) (.rcons u19 (.rcons (.strc 0 0) (.rcons dA nQ)))))
def dC:SE:=(rl [u17])
def mB:SE:=(.app 30 (.rcons (.c 0) (.rcons u1 dC)))
def lD:SE:=(.app 59 (.rcons (.c 0) (.rcons u3 (.rcons u4 (.rcons u5 (.rcons u6 (.rcons u7 (.rcons u8 (.rcons u18 (.rcons u19 dC))))))))))
def wk:SE:=(.mIdx [.str] u20 dC)
def nF:Tr Plf:=(
 .leaf (.done 0 [(.snoc vW dC),(.bc false),(.c 0)]))
def ye:Tr Plf:=(
 .split (.eql (.sel lD 0) (.c 1)) (
 .split (.lss wk (.c 0)) (
 .split (.eql (.arith .sub .i64 (.c 0) (.sel lD 1)) (.c 0)) nF x5) (
 .split (.eql (.arith .sub .i64 (.cell u20 wk 1) (.sel lD 1)) (.c 0)) nF x5)) x5)
def cH:SE:=(.lss u2 X2)
def aT:SE:=(.cell u4 u2 0)
def PF:SE:=(.cell u4 u2 1)
def iD:SE:=(.cell u4 u2 9)
def qW:SE:=(.cell u4 u2 2)
def yJ:SE:=(.cell u4 u2 3)
def uI:SE:=(.cell u4 u2 4)
def wx:SE:=(.cell u4 u2 5)
def rz:SE:=(.cell u4 u2 6)
def te:SE:=(.cell u4 u2 7)
def om:SE:=(.cell u4 u2 8)
def mc:SE:=(.cell u4 u2 10)
def xc:SE:=(.cell u4 u2 11)
def qM:SE:=(.cell u4 u2 12)
def zA:SE:=(.cell u4 u2 13)
def se:SE:=(.cell u4 u2 14)
def jf:Tr Plf:=(
 .leaf (.next 2 [u0,u1,u2,(.snoc .emptyL (rl [iD])),(.bc false),(.c 0),u3,u4,aT,PF,qW,yJ,uI,wx,rz,te,om,iD,mc,xc,qM,zA,se]))
def aH:SE:=(.lss u5 (.c 0))
def bk:SE:=(.arith .add .i64 u5 (.c 1))
def xJ:Tr Plf:=(
 .leaf (.next 3 (us 0 5++[(.c 0),u6,u7])))
def bT:SE:=(.lss u5 Wy)
def Aa7:SE:=(.arith .add .i64 u7 (.c 1))
def gH:SE:=(.cell u3 u5 0)
def oX:SE:=(.snoc u0 (rl [gH]))
def o0:SE:=(.cell u3 u1 10)
def uo:Tr Plf:=(
 .leaf (.next 2 [u0,u1,(.c 0),u2,u3,(.cell u3 u1 0),Xl,(.cell u3 u1 2),(.cell u3 u1 3),(.cell u3 u1 4),(.cell u3 u1 5),(.cell u3 u1 6),(.cell u3 u1 7),(.cell u3 u1 8),(.cell u3 u1 9),o0,(.cell u3 u1 11),(.cell u3 u1 12),(.cell u3 u1 13),(.cell u3 u1 14)]))
def kh:Tr Plf:=(
 .leaf (.next 1 [u0,u1,x28,u3,u4]))
def wH:SE:=(.app 66 (rl [(.c 0),u3,u4,aT]))
def Aap:SE:=(.app 67 (rl [(.c 0),u2,u3,u1]))
def Y3:SE:=(.app 65 (rl [(.c 0),x43,x45]))
def oi:SE:=(.eql (.sel Y3 0) (.c 1))
def xe:SE:=(.app 68 (rl [(.c 0),(.cell u4 u0 0),(.cell u4 u0 1)]))
def Se:Tr Plf:=(
 .split x42 (
 .split oi (
 .leaf (.next 1 [u3,(.sel Y3 1),(.sel Y3 2),(.c 0),(.c 0),u0,u1,u2])) x5) x5)
def Sa:SE:=(.lss u4 x0)
def vC:SE:=(.app 64 (rl [(.c 0),u5,u6,u7,(.cell u1 u4 0),x9]))
def Q5:SE:=(.eql (.sel vC 0) (.c 1))
def D9:SE:=(rl [(.c 0),u5,u6,u7,(.sel vC 1)])
def RV:Tr Plf:=(
 .leaf (.next 1 [u0,u1,u2,u3,x50,u5,u6,u7]))
def xC:SE:=(.app 68 (rl [(.c 0),(.cell u6 u0 0),(.cell u6 u0 1)]))
def RW:Tr Plf:=(
 .split x4 x5 (
 .split (.lss u0 x9) (
 .split (.eql (.sel xC 0) (.c 1)) (
 .leaf (.done 0 [(.arith .add .i64 (.sel xC 1) u3)])) x5) x5))
def oJ:SE:=(.app 64 (rl [(.c 0),u0,u1,u2,u2,x0]))
def pG:SE:=(.app 77 (.rcons (.c 0) (.rcons u2 (.rcons u3 (.rcons u4 UA)))))
def Y1:SE:=(rl [(.c 0),(.cell u3 u0 0),(.cell u3 u0 1)])
def sH:SE:=(.arith .sub .i64 (.sel pG 1) (.sel (.app 68 Y1) 1))
def gP:SE:=(.app 64 (rl [(.c 0),u6,u7,u8,gH,bN]))
def pP:SE:=(.app 77 (rl [(.c 0),u6,u7,u8,(.sel gP 1)]))
def qP:SE:=(.cell u0 u4 0)
def GM:Tr Plf:=(
 .leaf (.done 0 [(.c 0)]))
def wy:SE:=(.arith .shr .i64 u9 (.c 7))
def io:Tr Plf:=(
 .leaf (.done 0 [(.c 16)]))
def uE:SE:=(.arith .shr .i64 wy (.c 7))
def vX:SE:=(.arith .shr .i64 uE (.c 7))
def rE:SE:=(.app 9 (rl [(.c 0),u1]))
def Aae:SE:=(.snoc .emptyL (rl [(.neg (.lss (.c 1048576) u10))]))
def uS:SE:=(.app 1 (.rcons (.c 0) (.rcons (.snoc Aae (rl [(.neg (.lss (.c 4) aL))])) x31)))
def zn:SE:=(.app 8 (rl [(.c 0),u11,.emptyL]))
def cJ:SE:=(.sel rE 1)
def jp:SE:=(.app 11 (.rcons (.c 0) (.rcons (.strc 0 0) (.rcons cJ x94))))
def l7:SE:=(.app 12 (.rcons (.c 0) (.rcons u10 (.rcons u11 (.rcons cJ x30)))))
def wR:Tr Plf:=(
 .split (.eql (.sel (.app 12 (.rcons (.c 0) (.rcons u10 (.rcons u11 (.rcons cJ x58))))) 0) (.c 1)) (
 .split (.eql (.sel l7 0) (.c 1)) (
 .leaf (.done 0 [(.arith .mul .i64 (.c 8) (.sel l7 1))])) x5) x5)
def gn:SE:=(.app 11 (rl [(.c 0),(.strc 0 0),cJ,(.c 0),(.bc false),(.cat .emptyL u11),(.and (.bc false) (.eql aL (.c 0)))]))
def qg:SE:=(.app 1 (.rcons (.c 0) (.rcons (.snoc Aae x30) x31)))
def cI:SE:=(.arith .sub .i64 u5 (.c 8))
def gE:SE:=(.lss (.c 0) cI)
def ZD:Tr Plf:=(
 .split gE (
 .leaf (.done 0 [(.arith .add .i64 (.c 0) cI)])) GM)
def xD:SE:=(.lss (.c 335544320) u18)
def tp:SE:=(.arith .sub .i64 (.arith .mul .i64 (.arith .quo .i64 (.arith .sub .i64 (.arith .add .i64 u18 u5) (.c 1)) u5) u5) u18)
def qH:Tr Plf:=(
 .split (.lss u18 (.c 0)) ZD (
 .split xD ZD (
 .split gE (
 .leaf (.done 0 [(.arith .add .i64 tp cI)])) (
 .leaf (.done 0 [(.arith .add .i64 tp (.c 0))])))))
def uc:SE:=(.arith .sub .i64 (.arith .mul .i64 (.arith .quo .i64 (.arith .sub .i64 (.arith .add .i64 u18 (.c 8)) (.c 1)) (.c 8)) (.c 8)) u18)
def f8:SE:=(.arith .sub .i64 u16 (.c 1))
def yt:SE:=(.app 22 (.rcons (.c 0) zS))
def oH:SE:=(.cell u1 u6 0)
def tH:SE:=(.cell u1 u6 1)
def oz:SE:=(.cell u1 u6 2)
def pY:SE:=(.cell u1 u6 3)
def tW:SE:=(.cell u1 u6 4)
def ww:SE:=(.cell u1 u6 5)
def yl:SE:=(.cell u1 u6 6)
def yI:SE:=(.cell u1 u6 7)
def Aat:SE:=(.cell u1 u6 8)
def wS:SE:=(.cell u1 u6 9)
def wb:SE:=(.cell u1 u6 10)
def rB:SE:=(.cell u1 u6 11)
def Abb:SE:=(.cell u1 u6 12)
def th:SE:=(.cell u1 u6 13)
def qu:SE:=(.cell u1 u6 14)
def uq:SE:=(.app 80 (.rcons (.c 0) (.rcons u0 (.rcons u1 (.rcons u2 (.rcons oH (.rcons tH (.rcons oz (.rcons pY (.rcons tW (.rcons ww (.rcons yl (.rcons yI (.rcons Aat (.rcons wS (.rcons wb (.rcons rB (.rcons Abb (.rcons th (.rcons qu WO))))))))))))))))))))
def rY:SE:=(.arith .sub .i64 (.arith .quo .i64 (.arith .sub .i64 (.arith .add .i64 (.arith .add .i64 (.c 0) (.sel uq 1)) (.c 8)) (.c 1)) (.c 8)) (.c 1))
def fX:Tr Plf:=(
 .split (.lss u6 x0) (
 .split (.eql (.sel uq 0) (.c 1)) (
 .split (.lss (.c 0) rY) (
 .leaf (.done 0 [rY])) GM) x5) x5)
def kz:Tr Plf:=(
 .split x87 x5 fX)
def cZ:SE:=(.app 23 (rl [(.c 0),u6,(.c 0),PF]))
def xP:SE:=(.app 80 (rl [(.c 0),u0,u1,u2,oH,tH,oz,pY,tW,ww,yl,yI,Aat,wS,wb,rB,Abb,th,qu,(.sel cZ 1)]))
def yr:SE:=(.arith .sub .i64 (.arith .quo .i64 (.arith .sub .i64 (.arith .add .i64 (.arith .add .i64 (.sel cZ 1) (.sel xP 1)) (.c 8)) (.c 1)) (.c 8)) (.c 1))
def lz:SE:=(.app 81 (.rcons (.c 0) (.rcons u3 (.rcons u4 (.rcons u5 (.rcons u6 (.rcons u7 (.rcons u8 MT))))))))
def kB:SE:=(.app 82 (.rcons (.c 0) (.rcons x77 (.rcons x75 (.rcons x77 (.rcons u2 pa))))))
def tG:SE:=(.app 83 (.rcons (.c 0) (.rcons u1 (.rcons .emptyL ir))))
def kj:SE:=(.eql (.sel tG 0) (.c 1))
def Abf:SE:=(.mIdx [.str] .emptyL MT)
def ii:SE:=(.lss Abf (.c 0))
def Xg:SE:=(.sel tG 1)
def hZ:SE:=(.cell .emptyL Abf 1)
def QT:Tr Plf:=(
 .split kj (
 .split ii (
 .leaf (.done 0 [Xg,(.c 0),(.c 0),(.c 0)])) (
 .leaf (.done 0 [Xg,(.c 0),hZ,(.c 0)]))) x5)
def aX:SE:=(.sel QH 12)
def ib:SE:=(.mIdx [.str] aX (rl [jy]))
def dt:SE:=(.cell aX ib 1)
def gq:SE:=(.mIdx [.str] aX (rl [(.cell u1 X5 0)]))
def bz:SE:=(.cell aX gq 1)
def ur:SE:=(.app 83 (.rcons (.c 0) (.rcons u1 (.rcons Ye ir))))
def iy:SE:=(.eql (.sel ur 0) (.c 1))
def iY:SE:=(.lss (.mIdx [.str] Ye MT) (.c 0))
def WR:SE:=(.sel ur 1)
def hU:SE:=(.cell Ye (.mIdx [.str] Ye MT) 1)
def QV:Tr Plf:=(
 .split iy (
 .split iY (
 .leaf (.done 0 [WR,(.c 0),(.c 0),(.c 0)])) (
 .leaf (.done 0 [WR,(.c 0),hU,(.c 0)]))) x5)
def Uc:SE:=(.app 63 HT)
def aM:SE:=(.sel Uc 1)
def oT:SE:=(.app 79 (.rcons (.c 0) (.rcons aM (.rcons (.sel Uc 2) (.rcons (.sel (.app 78 HT) 1) x30)))))
def O4:SE:=(.app 84 HT)
def qA:SE:=(.eql (.sel O4 0) (.c 1))
def fY:SE:=(.app 59 (rl ([(.c 0)]++us 5 6++[u14,u15,qP])))
def Adb:Tr Plf:=
 .split (.lss (.c 9) x0) x1 (
 .split (.lss (.c 100) x2) x1 (
 .split (.lss (.c 100) (.lenS u2)) x1 (
 .leaf (.next 1 [(.c 0),u0,u1,u2]))))
def Ac5:Tr Plf:=
 .split (.lss u0 x3) (
 .split x4 x5 (
 .split (.lss (.c 16) (.lenL x6)) x1 (
 .split (.lss (.c 100) (.lenS x7)) x1 (
 .leaf (.next 2 [u0,(.c 0),u1,u2,u3,x7,x6]))))) x8
def Adp:Tr Plf:=
 .split (.lss u1 x9) (
 .split x10 x5 (
 .split (.lss (.c 100) (.lenS (.cell u6 u1 0))) x1 (
 .split (.lss (.c 10) (.lenL (.cell u6 u1 12))) x1 (
 .split (.lss (.c 6) (.lenL (.cell u6 u1 8))) x1 (
 .leaf (.next 2 ([u0,x11]++us 2 5))))))) (
 .leaf (.next 1 [x12,u2,u3,u4]))
def t0:List (Tr Plf):=[Adb,Ac5,Adp]
def Acj:Tr Plf:=
 .leaf x13
def Ad4:Tr Plf:=
 .split x15 (
 .split x16 x5 (
 .split u2 (
 .split x17 x18 x20) (
 .split x17 x20 x18))) x21
def t1:List (Tr Plf):=[Acj,Ad4]
def Acf:Tr Plf:=
 .leaf x22
def Ab4:Tr Plf:=
 .split x23 (
 .split x24 x5 (
 .split (.lss x26 (.c 65)) (
 .split (.lss x26 (.c 48)) x27 (
 .split (.lss (.c 57) x26) x27 x29)) (
 .split (.lss (.c 90) x26) (
 .split (.lss x26 (.c 97)) (
 .split (.eql x26 (.c 95)) x29 x27) (
 .split (.lss (.c 122) x26) x27 x29)) x29))) x21
def t2:List (Tr Plf):=[Acf,Ab4]
def Ads:Tr Plf:=
 .split (.eql (.sel x32 0) (.c 1)) (
 .split (.lss (.sel x32 1) (.c 0)) (
 .split (.lss (.c 0) x2) (
 .split (.lss x33 (.c 65)) x1 (
 .split (.lss (.c 90) x33) (
 .split (.lss x33 (.c 97)) x1 (
 .split (.lss (.c 122) x33) x1 x35)) x35)) x5) x1) x5
def t3:List (Tr Plf):=[Ads]
def Ac1:Tr Plf:=
 .leaf x36
def Ac7:Tr Plf:=
 .split x37 x41 x21
def t4:List (Tr Plf):=[Ac1,Ac7]
def Ady:Tr Plf:=
 .split (.eql x14 x0) (
 .leaf x13) x1
def Acz:Tr Plf:=
 .split x15 (
 .split x16 x5 (
 .split x42 (
 .split (.and (.eqSS x17 x43) (.eql x44 x45)) x20 x1) x5)) x8
def t5:List (Tr Plf):=[Ady,Acz]
def Adc:Tr Plf:=
 .split (.eql x14 x0) (
 .leaf x13) x1
def Adi:Tr Plf:=
 .split x15 (
 .split x16 x5 (
 .split x42 (
 .split (.and (.eql x17 x43) (.and (.eql x44 x45) (.eqSS (.cell u0 u3 2) (.cell u1 u3 2)))) x20 x1) x5)) x8
def t6:List (Tr Plf):=[Adc,Adi]
def Acr:Tr Plf:=
 .leaf (.next 1 [u9,u10,u11,u12,(.c 0),u0,u1,u2,u5,u6,u7,u8,u3,u4])
def Acd:Tr Plf:=
 .split x46 (
 .split x47 x5 (
 .split (.lss x48 u0) x49 (
 .split (.lss u1 x48) x49 (
 .leaf (.next 1 ([x48,u1,u2,u3,x50]++us 5 9)))))) x51
def t7:List (Tr Plf):=[Acr,Acd]
def Ac9:Tr Plf:=
 .leaf x36
def Ac6:Tr Plf:=
 .split x37 (
 .split x10 x5 (
 .split x54 (
 .split (.eql (.sel x55 0) (.c 1)) (
 .split (.lss x56 (.c (-1048576))) (
 .split (.eql (.sel x59 0) (.c 1)) (
 .split (.lss (.sel x59 1) (.c 0)) x61 x62) x5) (
 .split (.eql (.sel x63 0) (.c 1)) (
 .split (.lss (.sel x63 1) (.c 0)) x61 x62) x5)) x5) (
 .split x64 x66 (
 .split (.eql (.sel x55 0) (.c 1)) (
 .split (.lss x56 (.c (-1048576))) (
 .split (.eql (.sel x59 0) (.c 1)) (
 .split (.lss (.sel x59 1) (.c 0)) x67 x66) x5) (
 .split (.eql (.sel x63 0) (.c 1)) (
 .split (.lss (.sel x63 1) (.c 0)) x67 x66) x5)) x5)))) (
 .leaf (.done 0 [(.c (-1)),u2]))
def t8:List (Tr Plf):=[Ac9,Ac6]
def Ad1:Tr Plf:=
 .leaf (.next 1 [u0,(.c 0),.emptyL])
def Ac4:Tr Plf:=
 .split x37 (
 .split x10 x5 (
 .split (.eql x56 (.c 1)) x70 (
 .split (.eql x56 (.c 2)) (
 .split x54 (
 .leaf (.next 1 [u0,x11,(.snoc u2 (rl [x38,x68,x68]))])) (
 .leaf (.next 1 [u0,x11,(.upd (.upd u2 x53 1 x68) x53 2 x68)]))) (
 .split (.eql x56 (.c 3)) x70 x40)))) x27
def t9:List (Tr Plf):=[Ad1,Ac4]
def me:Tr Plf:=
 .leaf (.next 1 [u10,u11,(.c 0),u0,u1,u2,u5,u6,u7,u8,u3,u4,u9])
def xZ:Tr Plf:=
 .split x23 (
 .split x24 x5 (
 .split (.lss (.mIdx [.str] u12 (rl [x25])) (.c 0)) (
 .leaf (.done 0 [u6,u7])) (
 .leaf (.next 1 ([u0,u1,x28]++us 3 10))))) x51
def t10:List (Tr Plf):=[me,xZ]
def mC:Tr Plf:=
 .leaf (.next 1 [u4,u5,(.c 0),u0,u1,u2,u3])
def mW:Tr Plf:=
 .split x23 (
 .split x24 x5 (
 .split (.lss x71 (.c 0)) (
 .split (.eqSS x25 u3) x72 (
 .leaf (.next 1 [u0,u1,x28,u3,u4,u5,(.bc true)]))) (
 .split (.eqSS x25 u3) x72 (
 .split (.eql (.sel x73 0) (.c 1)) (
 .split (.lss (.sel x73 1) (.c 0)) x72 (
 .leaf (.done 0 [u6]))) x5)))) (
 .leaf (.done 1 [u6]))
def t11:List (Tr Plf):=[mC,mW]
def zG:Tr Plf:=
 .leaf (.next 1 [u0,u1,(.c 0),u2,u3])
def yF:Tr Plf:=
 .split x74 (
 .split x24 x5 (
 .split (.lss x76 (.c 0)) (
 .split u4 (
 .split x78 x79 x79) (
 .split x78 x79 x79)) (
 .split u4 (
 .split x78 x80 x81) (
 .split x78 x81 x80)))) x82
def t12:List (Tr Plf):=[zG,yF]
def yC:Tr Plf:=
 .split (.lss u16 (.c (-1048576))) x83 (
 .split (.eql (.sel x85 0) (.c 1)) (
 .split (.lss (.sel x85 1) (.c 0)) (
 .split (.eql (.sel x86 0) (.c 1)) (
 .split (.lss (.sel x86 1) (.c 0)) (
 .split x87 x5 (
 .split x89 x5 (
 .split (.eql (.sel x91 0) (.c 1)) (
 .split (.isNil u17) (
 .split (.eql (.sel x93 0) (.c 1)) (
 .leaf (.done 0 [(.sel x93 1),(.sel x93 2),(.c 8)])) (
 .split (.eql (.sel x93 0) (.c 2)) (
 .split (.eql (.sel x95 0) (.c 1)) x83 (
 .split (.eql (.sel x95 0) (.c 2)) (
 .split (.sel x95 1) x83 x98) x5)) x5)) (
 .split (.lss x84 (.c 1048576)) (
 .split (.eql Aa6 (.c 1)) (
 .leaf (.done 0 [(.sel xA 1),(.sel xA 2),(.c 8)])) (
 .split (.eql Aa6 (.c 2)) (
 .split (.eql (.sel iW 0) (.c 1)) x83 (
 .split (.eql (.sel iW 0) (.c 2)) (
 .split (.sel iW 1) x83 x98) x5)) x5)) x5)) x5))) x83) x5) x83) x5)
def t13:List (Tr Plf):=[yC]
def sX:Tr Plf:=
 .leaf (.next 1 ([u0,(.c 0)]++us 1 15))
def zI:Tr Plf:=
 .split x37 (
 .split x10 x5 (
 .split kX (
 .split (.eqSS lq u12) x39 vf) vf)) x21
def t14:List (Tr Plf):=[sX,zI]
def pD:Tr Plf:=
 .split x87 x5 (
 .split x89 x5 (
 .split (.eql (.sel x91 0) (.c 1)) (
 .split (.lss li (.c 0)) (
 .split nK TZ x5) (
 .split nK (
 .split (.lss (.sel Ab0 1) (.c 0)) (
 .split (.lss (.lenL u21) (.c 1)) xp (
 .split (.lss (.c 40) (.lenL u21)) xp (
 .leaf (.next 1 [tD,u21,(.c 0),u0,u1,u2,u5,u6,u7,u8,u3,u4,tD,(.cell (.sel x91 1) li 2)])))) TZ) x5)) x5))
def rm:Tr Plf:=
 .split x74 (
 .split x24 x5 (
 .split (.eql (.sel aO 0) (.c 1)) (
 .leaf (.done 0 [(.sel aO 1),(.sel aO 2),(.c 7)])) (
 .split (.eql (.sel aO 0) (.c 2)) (
 .split (.lss (.mIdx [.str] u10 (rl [SX])) (.c 0)) (
 .leaf (.done 0 [u6,u7,(.c 8)])) (
 .leaf (.next 1 [(.arith .add .i64 x77 (.c 1)),u1,x28,u3,u4,u5,u6,u7,u8,u9,u10,u11,u12,u13]))) x5))) x51
def t15:List (Tr Plf):=[pD,rm]
def yY:Tr Plf:=
 .split nh (
 .split (.sel iw 1) (
 .split x87 x5 (
 .split x89 x5 (
 .split (.eql (.sel tR 0) (.c 1)) (
 .split (.lss (.sel tR 1) (.c 0)) (
 .split (.eql u10 (.c 1)) (
 .split (.and K7 (.and P5 (.and Np (.and PB (.and NA (.and (.bc true) (.and (.bc true) (.and (.bc true) vV)))))))) (
 .split Qw (
 .split P2 (
 .split L8 (
 .split ME (
 .split (.lss u11 (.c 1)) Md (
 .split (.lss (.c 32) u11) Md (
 .split u12 (
 .split (.lss (.c 8) u11) (
 .split lU yi Md) Md) yi))) Cx) x5) Cx) x5) Cx) (
 .split (.eql u10 (.c 2)) (
 .split (.and K7 (.and P5 (.and Np (.and PB (.and NA (.and (.bc true) (.and (.bc true) (.and Y6 vV)))))))) (
 .split Qw (
 .split P2 (
 .split L8 (
 .split ME (
 .split (.lss u11 (.c 1)) Md (
 .split (.lss (.c 32) u11) Md (
 .split u12 (
 .split (.lss (.c 8) u11) (
 .split lU rC Md) Md) rC))) Cx) x5) Cx) x5) Cx) (
 .split (.eql u10 (.c 3)) (
 .split (.and K7 (.and P5 (.and Np (.and PB (.and NA (.and UJ (.and (.bc true) wE))))))) (
 .split Qw (
 .split P2 (
 .split L8 (
 .split ME (
 .split (.eql (.sel cG 0) (.c 1)) (
 .leaf (.done 0 [(.sel cG 1),(.sel cG 2),(.c 7)])) (
 .split (.eql (.sel cG 0) (.c 2)) x51 x5)) Cx) x5) Cx) x5) Cx) (
 .split (.eql u10 (.c 4)) (
 .split (.and K7 (.and P5 qY)) (
 .split L8 (
 .split ME jI Cx) x5) Cx) (
 .split (.eql u10 (.c 5)) (
 .split (.and K7 (.and P5 (.and Np (.and PB (.and NA (.and UJ (.and (.bc true) (.and (.bc true) ui)))))))) (
 .split Qw (
 .split P2 (
 .split L8 (
 .split ME (
 .split (.eql (.sel bF 0) (.c 1)) (
 .leaf (.done 0 [(.sel bF 1),(.sel bF 2),(.c 7)])) (
 .split (.eql (.sel bF 0) (.c 2)) (
 .split (.eql (.sel bR 0) (.c 1)) (
 .leaf (.done 0 [(.sel bR 1),(.sel bR 2),(.c 7)])) (
 .split (.eql (.sel bR 0) (.c 2)) x51 x5)) x5)) Cx) x5) Cx) x5) Cx) (
 .split (.eql u10 (.c 6)) (
 .split (.and K7 (.and P5 (.and Np (.and PB (.and NA (.and UJ (.and aw wE))))))) (
 .split Qw (
 .split P2 (
 .split L8 (
 .split ME (
 .split (.eql (.sel bS 0) (.c 1)) (
 .leaf (.done 0 [(.sel bS 1),(.sel bS 2),(.c 7)])) (
 .split (.eql (.sel bS 0) (.c 2)) x51 x5)) Cx) x5) Cx) x5) Cx) (
 .split (.eql u10 (.c 7)) (
 .split (.and K7 (.and XM qY)) (
 .split L8 (
 .split ME (
 .split rM TZ jI) Cx) x5) Cx) (
 .split (.eql u10 (.c 8)) (
 .split (.and K7 (.and XM (.and Np yd))) (
 .split Qw (
 .split P2 (
 .split L8 (
 .split ME (
 .split rM TZ x51) Cx) x5) Cx) x5) Cx) (
 .split (.eql u10 (.c 9)) (
 .split (.and K7 (.and P5 (.and XM yd))) (
 .split Qw (
 .split P2 (
 .split (.eql (.sel ZO 0) (.c 1)) (
 .leaf (.done 0 [(.sel ZO 1),(.sel ZO 2),(.sel ZO 3)])) (
 .split (.eql (.sel ZO 0) (.c 2)) x51 x5)) Cx) x5) Cx) (
 .split (.eql u10 (.c 10)) (
 .split (.and K7 (.and P5 (.and Np (.and PB (.and NA (.and (.bc true) oQ)))))) (
 .split Qw (
 .split P2 (
 .split L8 (
 .split ME (
 .split (.eql u11 (.c 2)) x51 (
 .split (.eql u11 (.c 4)) x51 (
 .split (.lss u11 (.c 8)) Md (
 .split (.lss (.c 512) u11) Md (
 .split lU x51 Md))))) Cx) x5) Cx) x5) Cx) (
 .split (.eql u10 (.c 11)) (
 .split (.and K7 (.and P5 (.and Np (.and XM (.and NA (.and UJ (.and aw (.and Y6 (.and dg (.and (.bc true) jV)))))))))) (
 .split Qw (
 .split P2 (
 .split L8 (
 .split ME (
 .split (.eql (.sel dj 0) (.c 1)) (
 .leaf (.done 0 [(.sel dj 1),(.sel dj 2),(.c 7)])) (
 .split (.eql (.sel dj 0) (.c 2)) (
 .split (.eql (.sel tS 0) (.c 1)) (
 .split (.lss (.sel tS 1) (.c 0)) TZ x51) x5) x5)) Cx) x5) Cx) x5) Cx) (
 .split (.eql u10 (.c 12)) (
 .split (.and K7 (.and XM (.and Np (.and PB (.and NA (.and UJ (.and aw (.and Y6 (.and (.bc true) (.and XC (.and (.bc true) (.and lG jD)))))))))))) (
 .split L8 (
 .split ME (
 .split (.eql (.sel dO 0) (.c 1)) (
 .leaf (.done 0 [(.sel dO 1),(.sel dO 2),(.c 7)])) (
 .split (.eql (.sel dO 0) (.c 2)) (
 .split (.lss xK (.c 0)) TZ (
 .split (.cell u4 xK 1) jI TZ)) x5)) Cx) x5) Cx) (
 .leaf (.done 0 [u5,u6,(.c 4)])))))))))))))) (
 .leaf (.done 0 [u5,u6,(.c 2)]))) x5))) (
 .leaf (.done 0 [u5,u6,(.c 1)]))) x5
def t16:List (Tr Plf):=[yY]
def nC:Tr Plf:=
 .leaf (.next 1 [u1,(.c 0),.nilL,(.bc true)])
def yB:Tr Plf:=
 .split x37 (
 .split x10 x5 (
 .split (.eql x56 (.c 7)) gx (
 .split (.eql x56 (.c 8)) gx (
 .split (.eql x56 (.c 12)) gx (
 .split kX (
 .leaf (.next 2 [u0,u1,j5,(.lenL j5),(.c 0),u2,u3])) Xt))))) (
 .leaf (.done 0 [(.nilIs u2 u3)]))
def xH:Tr Plf:=
 .split (.lss u4 u3) (
 .split x47 x5 (
 .split x46 (
 .split (.lss (.lenL u5) Xh) (
 .leaf (.next 2 [u0,u1,u2,u3,x50,(.snoc u5 (rl [(.cell u2 u4 2)])),(.bc false)])) x5) x5)) (
 .leaf (.next 1 [u0,x11,u5,u6]))
def t17:List (Tr Plf):=[nC,yB,xH]
def mu:Tr Plf:=
 .leaf x22
def wt:Tr Plf:=
 .split x23 (
 .split x24 x5 (
 .split (.eqSS u1 x25) x27 x29)) x21
def t18:List (Tr Plf):=[mu,wt]
def Aay:Tr Plf:=
 .leaf (.next 1 [u11,(.c 0),u0,u1,u2,u5,u6,u7,u8,u3,u4,u9,u10])
def Abv:Tr Plf:=
 .split x37 (
 .split x10 x5 (
 .split Ld x5 (
 .split Lb (
 .split Lg (
 .split (.lss tv (.c 0)) (
 .split (.lss u12 (.c 0)) (
 .split u11 (
 .split Mn rn (
 .leaf (.next 1 ([u0,x11]++us 2 9++[ge,(.c 0)])))) rn) wa) (
 .split (.lss u12 jE) (
 .split u11 (
 .split Mn qG (
 .leaf (.next 1 ([u0,x11]++us 2 9++[ge,jE])))) qG) wa)) (
 .leaf (.next 1 ([u0,x11]++us 2 11)))) x5))) (
 .leaf (.done 0 [u11,u12]))
def t19:List (Tr Plf):=[Aay,Abv]
def yq:Tr Plf:=
 .split nh (
 .split (.sel iw 1) (
 .split (.lss (.mIdx [.str] u3 Qk) (.c 0)) (
 .split (.lss (.lenL u10) (.c 1)) yD (
 .split (.lss (.c 40) (.lenL u10)) yD (
 .leaf (.next 1 [u10,(.c 0),u0,u1,u2,u5,(.c (-1)),u9,u3,u4,(.bc true)])))) (
 .leaf (.done 0 [u5,(.c (-1)),(.c 2),(.c (-1)),u9,u10,u3,u4]))) (
 .leaf (.done 0 [u5,(.c (-1)),(.c 1),(.c (-1)),u9,u10,u3,u4]))) x5
def zC:Tr Plf:=
 .split x37 (
 .split x10 x5 (
 .split (.eql (.sel YU 0) (.c 1)) (
 .leaf (.done 0 [(.sel YU 1),(.sel YU 2),(.sel YU 3),u1,u7,u0,u8,u9])) (
 .split (.eql (.sel YU 0) (.c 2)) (
 .split u10 (
 .leaf (.next 1 [u0,x11,u2,u3,u4,u5,u1,u7,u8,u9,(.neg Aa4)])) (
 .leaf (.next 1 [u0,x11,u2,u3,u4,u5,u1,u7,u8,u9,(.bc false)]))) x5))) (
 .split (.eql (.sel qN 0) (.c 1)) (
 .split (.eql (.sel aJ 0) (.c 1)) (
 .split (.lss (.mIdx [.str] u8 (rl [u7])) (.c 0)) (
 .split (.lss (.mIdx [.str] u9 (rl [u7])) (.c 0)) (
 .split (.lss (.sel aJ 2) (.c 16)) (
 .leaf (.done 1 [u7,u0,Aas,np])) (
 .leaf (.done 0 [u5,(.c (-1)),(.c 10),(.c (-1)),u7,u0,Aas,np]))) x5) x5) x5) x5)
def t20:List (Tr Plf):=[yq,zC]
def wW:Tr Plf:=
 .split (.eql (.sel (.app 3 ej) 0) (.c 1)) (
 .split (.sel (.app 3 ej) 1) (
 .split (.lss x0 (.c 1)) rO (
 .split (.lss (.c 60) x0) rO (
 .leaf (.next 1 [u1,(.c 0),u0,u2,(.c (-1)),(.strc 0 0),.nilL,.emptyL,.emptyL])))) (
 .leaf (.done 0 [(.c 1),u0,u1,u2]))) x5
def Aak:Tr Plf:=
 .split x37 (
 .split x10 x5 (
 .split (.eql (.sel IQ 0) (.c 1)) (
 .leaf (.done 1 [(.sel IQ 1),(.sel IQ 2),(.sel IQ 3),(.bc true),u2,u0,u3,u1,(.sel IQ 4),(.sel IQ 5),(.sel IQ 6),(.sel IQ 7),(.sel IQ 8)])) (
 .split (.eql (.sel IQ 0) (.c 2)) (
 .leaf (.next 1 [u0,x11,u2,u3,u1,(.sel IQ 1),(.sel IQ 2),(.sel IQ 3),(.sel IQ 4)])) x5))) (
 .split (.lss (.mIdx [.str] u7 (rl [u3])) (.c 0)) (
 .leaf (.done 1 [(.c (-1)),(.c (-1)),(.c 11),(.bc true),u2,u0,u3,(.c (-1)),(.c (-1)),u5,u6,u7,u8])) (
 .leaf (.done 1 [(.c 0),(.c 0),(.c 0),(.bc false),u2,u0,u3,(.c (-1)),(.c (-1)),u5,u6,u7,u8])))
def t21:List (Tr Plf):=[wW,Aak]
def xj:Tr Plf:=
 .split aq (
 .leaf (.done 0 [(.c (-1)),(.c (-1)),(.sel QH 1),(.bc true)])) (
 .split ae (
 .leaf (.done 0 [(.sel QH 1),(.sel QH 2),(.sel QH 3),X9])) x5)
def t22:List (Tr Plf):=[xj]
def qU:Tr Plf:=
 .leaf (.next 1 [(.c 0),u2,(.c 0),u0,u1])
def nZ:Tr Plf:=
 .split x74 (
 .split x24 x5 (
 .split (.eql u2 u3) x82 (
 .split (.eql x77 (.c 1)) nL (
 .split (.eql x77 (.c 2)) nL (
 .split (.eql x77 (.c 10)) (
 .split (.eql SX (.c 0)) x5 (
 .leaf (.next 1 [sx,u1,x28,u3,u4]))) (
 .leaf (.next 1 [(.c 0),u1,x28,u3,u4]))))))) (
 .split (.eql x0 u3) x82 x51)
def t23:List (Tr Plf):=[qU,nZ]
def sU:Tr Plf:=
 .split (.eql u1 x14) (
 .leaf (.done 0 [(.neg (.eql u2 (.c 0)))])) (
 .split x10 x5 (
 .split x37 (
 .split (.eql u2 (.c 0)) (
 .split vN (
 .split yO (
 .split (.eql x56 (.c 11)) (
 .split (.eql (.sel jW 0) (.c 1)) (
 .split (.eql (.sel jW 1) (.c 0)) x1 x8) (
 .split (.eql (.sel jW 0) (.c 2)) x1 x5)) x1) (
 .split (.eql x56 (.c 11)) (
 .split (.eql (.sel jr 0) (.c 1)) (
 .split (.eql (.sel jr 1) (.c 0)) x1 x8) (
 .split (.eql (.sel jr 0) (.c 2)) x1 x5)) x1)) x5) (
 .split (.eql x56 (.c 1)) lZ (
 .split (.eql x56 (.c 2)) lZ (
 .split (.eql x56 (.c 10)) lZ x8)))) x5))
def t24:List (Tr Plf):=[sU]
def xT:Tr Plf:=
 .leaf (.next 1 ([(.c 0),u7,(.c 0)]++us 0 7))
def ot:Tr Plf:=
 .split x74 (
 .split x24 x5 (
 .split (.eql (.sel oA 0) (.c 1)) (
 .split WB (
 .split (.eql u2 ko) (
 .leaf (.done 0 [u7,(.c (-1)),WB])) (
 .leaf (.done 0 [u7,u2,WB]))) (
 .split (.eql x77 (.c 1)) uV (
 .split (.eql x77 (.c 2)) uV (
 .split (.eql x77 (.c 10)) (
 .split (.eql SX (.c 0)) x5 (
 .leaf (.next 1 [sx,u1,x28,u3,u4,u5,WB,u7,u8,u9]))) (
 .leaf (.next 1 [(.c 0),u1,x28,u3,u4,u5,WB,u7,u8,u9])))))) x5)) (
 .split (.eql (.sel xl 0) (.c 1)) (
 .split cC (
 .split (.eql x0 ko) (
 .leaf (.done 0 [u7,(.c (-1)),cC])) (
 .leaf (.done 0 [u7,x0,cC]))) (
 .leaf (.done 1 [cC]))) x5)
def t25:List (Tr Plf):=[xT,ot]
def mr:Tr Plf:=
 .split (.eql (.sel TN 0) (.c 1)) (
 .split (.sel TN 4) Abd (
 .split EJ (
 .split (.eql (.sel Ui 0) (.c 1)) (
 .leaf (.done 0 [(.sel Ui 1),(.sel Ui 2),(.c 12),(.sel Ui 3)])) (
 .split (.eql (.sel Ui 0) (.c 2)) (
 .split (.lss (.c 1) x0) (
 .split (.eql (.sel T3 0) (.c 1)) (
 .leaf (.done 0 [(.sel T3 1),(.sel T3 2),(.c 12),(.sel T3 3)])) (
 .split (.eql (.sel T3 0) (.c 2)) (
 .split (.lss (.c 2) x0) (
 .split (.eql (.sel Uz 0) (.c 1)) (
 .leaf (.done 0 [(.sel Uz 1),(.sel Uz 2),(.c 12),(.sel Uz 3)])) (
 .split (.eql (.sel Uz 0) (.c 2)) (
 .split (.lss (.c 3) x0) (
 .split (.eql (.sel Uf 0) (.c 1)) (
 .leaf (.done 0 [(.sel Uf 1),(.sel Uf 2),(.c 12),(.sel Uf 3)])) (
 .split (.eql (.sel Uf 0) (.c 2)) (
 .split (.lss (.c 4) x0) (
 .split (.eql (.sel S3 0) (.c 1)) (
 .leaf (.done 0 [(.sel S3 1),(.sel S3 2),(.c 12),(.sel S3 3)])) (
 .split (.eql (.sel S3 0) (.c 2)) (
 .split (.lss (.c 5) x0) (
 .split (.eql (.sel TW 0) (.c 1)) (
 .leaf (.done 0 [(.sel TW 1),(.sel TW 2),(.c 12),(.sel TW 3)])) (
 .split (.eql (.sel TW 0) (.c 2)) (
 .split (.lss (.c 6) x0) (
 .split (.eql (.sel S4 0) (.c 1)) (
 .leaf (.done 0 [(.sel S4 1),(.sel S4 2),(.c 12),(.sel S4 3)])) (
 .split (.eql (.sel S4 0) (.c 2)) (
 .split (.lss (.c 7) x0) (
 .split (.eql (.sel T9 0) (.c 1)) (
 .leaf (.done 0 [(.sel T9 1),(.sel T9 2),(.c 12),(.sel T9 3)])) (
 .split (.eql (.sel T9 0) (.c 2)) (
 .split (.lss (.c 8) x0) (
 .split (.eql (.sel Ux 0) (.c 1)) (
 .leaf (.done 0 [(.sel Ux 1),(.sel Ux 2),(.c 12),(.sel Ux 3)])) (
 .split (.eql (.sel Ux 0) (.c 2)) (
 .split (.lss (.c 9) x0) (
 .split (.eql (.sel Xf 0) (.c 1)) (
 .leaf (.done 0 [(.sel Xf 1),(.sel Xf 2),(.c 12),(.sel Xf 3)])) (
 .split (.eql (.sel Xf 0) (.c 2)) (
 .split (.lss (.c 10) x0) x5 (
 .leaf (.done 0 [E3,EZ,E2,(.sel Xf 1)]))) x5)) (
 .leaf (.done 0 [E3,EZ,E2,(.sel Ux 1)]))) x5)) (
 .leaf (.done 0 [E3,EZ,E2,(.sel T9 1)]))) x5)) (
 .leaf (.done 0 [E3,EZ,E2,(.sel S4 1)]))) x5)) (
 .leaf (.done 0 [E3,EZ,E2,(.sel TW 1)]))) x5)) (
 .leaf (.done 0 [E3,EZ,E2,(.sel S3 1)]))) x5)) (
 .leaf (.done 0 [E3,EZ,E2,(.sel Uf 1)]))) x5)) (
 .leaf (.done 0 [E3,EZ,E2,(.sel Uz 1)]))) x5)) (
 .leaf (.done 0 [E3,EZ,E2,(.sel T3 1)]))) x5)) (
 .leaf (.done 0 [E3,EZ,E2,(.sel Ui 1)]))) x5)) Abd)) x5
def t26:List (Tr Plf):=[mr]
def l6:Tr Plf:=
 .split (.eql (.sel (.app 26 HT) 0) (.c 1)) (
 .leaf (.done 0 [(.neg (.sel (.app 26 HT) 4))])) x5
def t27:List (Tr Plf):=[l6]
def wv:Tr Plf:=
 .split (.isNil u1) (
 .leaf (.next 1 [(.c 0),(.c 0),u0,.nilL,(.bc true),u2])) (
 .split (.lss x0 (.c 1048576)) (
 .leaf (.next 1 [x0,(.c 0),u0,(.cat .emptyL u1),(.bc false),u2])) x5)
def wY:Tr Plf:=
 .split (.lss u1 u0) (
 .split x10 x5 (
 .split jB (
 .split (.isNil Xl) (
 .leaf (.next 2 [u1,u0,(.lenL (.cell pV u1 1)),u2,pV,u4,u5])) (
 .split (.lss (.lenL Xl) (.c 1048576)) (
 .leaf (.next 3 [u1,u0,(.lenL Xl),(.c 0),u2,u3,u4,u5,(.cat .emptyL Xl),(.bc false)])) x5)) x5)) (
 .leaf (.done 0 [u2,u3,u4,u5]))
def sF:Tr Plf:=
 .split (.lss (.c 0) u2) x5 (
 .leaf (.next 1 [u1,x12,u3,u4,u5,u6]))
def Aar:Tr Plf:=
 .split (.lss u3 u2) (
 .split x16 x5 (
 .split (.lss u3 x88) (
 .split (.isNil jz) (
 .split (.isNil dQ) (
 .leaf (.next 3 [u0,u1,u2,x19,u4,u5,u6,u7,(.upd mh u3 12 .nilL),u9])) (
 .split od (
 .leaf (.next 3 [u0,u1,u2,x19,u4,u5,u6,u7,(.upd mh u3 12 zy),u9])) x5)) (
 .split (.lss (.lenL jz) (.c 1048576)) (
 .split (.isNil dQ) (
 .leaf (.next 3 [u0,u1,u2,x19,u4,u5,u6,u7,(.upd nI u3 12 .nilL),u9])) (
 .split od (
 .leaf (.next 3 [u0,u1,u2,x19,u4,u5,u6,u7,(.upd nI u3 12 zy),u9])) x5)) x5)) x5)) (
 .leaf (.next 1 [u1,x12,u4,(.upd u5 u0 1 (.nilIs u8 u9)),u6,u7]))
def t28:List (Tr Plf):=[wv,wY,sF,Aar]
def sc:Tr Plf:=
 .split (.lss X2 Xh) (
 .leaf (.done 0 [(.snoc u4 (.rcons u9 (.rcons u10 (.rcons u11 (.rcons u12 (.rcons u13 TM)))))),(.bc false)])) x5
def t29:List (Tr Plf):=[sc]
def wz:Tr Plf:=
 .leaf x36
def uy:Tr Plf:=
 .split x37 x41 x21
def t30:List (Tr Plf):=[wz,uy]
def sE:Tr Plf:=
 .leaf Ql
def vP:Tr Plf:=
 .split x37 (
 .split x10 x5 (
 .split Ld x5 (
 .split Lb (
 .split Lg x5 Pq) x5))) il
def t31:List (Tr Plf):=[sE,vP]
def rR:Tr Plf:=
 .split Pk (
 .split Gz (
 .split GA (
 .split Gw (
 .split Gy (
 .split (.eql (.sel (.app 31 G2) 0) (.c 1)) (
 .leaf (.done 0 [cr])) x5) x5) x5) (
 .split Gx (
 .split GC (
 .split (.eql (.sel (.app 31 G9) 0) (.c 1)) (
 .leaf (.done 0 [cr])) x5) x5) x5)) x5) (
 .split Qt x39 (
 .split Gz (
 .split GA (
 .split Gw (
 .split Gy (
 .split (.eql (.sel (.app 31 G3) 0) (.c 1)) (
 .leaf (.done 0 [bG])) x5) x5) x5) (
 .split Gx (
 .split GC (
 .split (.eql (.sel (.app 31 GZ) 0) (.c 1)) (
 .leaf (.done 0 [bG])) x5) x5) x5)) x5))
def t32:List (Tr Plf):=[rR]
def tj:Tr Plf:=
 .leaf Ql
def pQ:Tr Plf:=
 .split x37 (
 .split x10 x5 (
 .split Ld x5 (
 .split Lb (
 .split Lg (
 .split (.eql (.sel (.app 32 HC) 0) (.c 1)) (
 .leaf (.next 1 [u0,x11,(.sel (.app 32 HC) 1),u3,u4,u5])) x5) Pq) x5))) x27
def t33:List (Tr Plf):=[tj,pQ]
def zj:Tr Plf:=
 .split Pk (
 .split Gz (
 .split GA (
 .split Gw (
 .split Gy (
 .split (.eql (.sel (.app 33 G2) 0) (.c 1)) (
 .leaf (.done 0 [(.sel (.app 33 G2) 1)])) x5) x5) x5) (
 .split Gx (
 .split GC (
 .split (.eql (.sel (.app 33 G9) 0) (.c 1)) (
 .leaf (.done 0 [(.sel (.app 33 G9) 1)])) x5) x5) x5)) x5) (
 .split Qt x39 (
 .split Gz (
 .split GA (
 .split Gw (
 .split Gy (
 .split (.eql (.sel (.app 33 G3) 0) (.c 1)) (
 .leaf (.done 0 [(.sel (.app 33 G3) 1)])) x5) x5) x5) (
 .split Gx (
 .split GC (
 .split (.eql (.sel (.app 33 GZ) 0) (.c 1)) (
 .leaf (.done 0 [(.sel (.app 33 GZ) 1)])) x5) x5) x5)) x5))
def t34:List (Tr Plf):=[zj]
def pf:Tr Plf:=
 .leaf Ql
def uB:Tr Plf:=
 .split x37 (
 .split x10 x5 (
 .split Ld x5 (
 .split Lb (
 .split Lg (
 .split (.eql (.sel (.app 34 HC) 0) (.c 1)) (
 .leaf (.next 1 [u0,x11,(.sel (.app 34 HC) 1),u3,u4,u5])) x5) Pq) x5))) x27
def t35:List (Tr Plf):=[pf,uB]
def qx:Tr Plf:=
 .split Pk (
 .split Gz (
 .split GA (
 .split Gw (
 .split Gy (
 .split (.eql (.sel (.app 35 G2) 0) (.c 1)) (
 .leaf (.done 0 [(.sel (.app 35 G2) 1)])) x5) x5) x5) (
 .split Gx (
 .split GC (
 .split (.eql (.sel (.app 35 G9) 0) (.c 1)) (
 .leaf (.done 0 [(.sel (.app 35 G9) 1)])) x5) x5) x5)) x5) (
 .split Qt x39 (
 .split Gz (
 .split GA (
 .split Gw (
 .split Gy (
 .split (.eql (.sel (.app 35 G3) 0) (.c 1)) (
 .leaf (.done 0 [(.sel (.app 35 G3) 1)])) x5) x5) x5) (
 .split Gx (
 .split GC (
 .split (.eql (.sel (.app 35 GZ) 0) (.c 1)) (
 .leaf (.done 0 [(.sel (.app 35 GZ) 1)])) x5) x5) x5)) x5))
def t36:List (Tr Plf):=[qx]
def uO:Tr Plf:=
 .leaf Ql
def zz:Tr Plf:=
 .split x37 (
 .split x10 x5 (
 .split Ld x5 (
 .split Lb (
 .split Lg (
 .split (.eql (.sel (.app 36 HC) 0) (.c 1)) (
 .leaf (.next 1 [u0,x11,(.sel (.app 36 HC) 1),u3,u4,u5])) x5) Pq) x5))) x27
def t37:List (Tr Plf):=[uO,zz]
def Aag:Tr Plf:=
 .split Pk (
 .split Gz (
 .split GA (
 .split Gw (
 .split Gy (
 .split (.eql (.sel (.app 37 G2) 0) (.c 1)) (
 .leaf (.done 0 [(.sel (.app 37 G2) 1)])) x5) x5) x5) (
 .split Gx (
 .split GC (
 .split (.eql (.sel (.app 37 G9) 0) (.c 1)) (
 .leaf (.done 0 [(.sel (.app 37 G9) 1)])) x5) x5) x5)) x5) (
 .split Qt x39 (
 .split Gz (
 .split GA (
 .split Gw (
 .split Gy (
 .split (.eql (.sel (.app 37 G3) 0) (.c 1)) (
 .leaf (.done 0 [(.sel (.app 37 G3) 1)])) x5) x5) x5) (
 .split Gx (
 .split GC (
 .split (.eql (.sel (.app 37 GZ) 0) (.c 1)) (
 .leaf (.done 0 [(.sel (.app 37 GZ) 1)])) x5) x5) x5)) x5))
def t38:List (Tr Plf):=[Aag]
def l9:Tr Plf:=
 .leaf Ql
def tM:Tr Plf:=
 .split x37 (
 .split x10 x5 (
 .split Ld x5 (
 .split Lb (
 .split Lg (
 .split (.eql (.sel (.app 38 HC) 0) (.c 1)) (
 .leaf (.next 1 [u0,x11,(.sel (.app 38 HC) 1),u3,u4,u5])) x5) Pq) x5))) x27
def t39:List (Tr Plf):=[l9,tM]
def pp:Tr Plf:=
 .split Pk (
 .split Gz (
 .split GA (
 .split Gw (
 .split Gy (
 .split (.eql (.sel (.app 39 G2) 0) (.c 1)) (
 .leaf (.done 0 [(.sel (.app 39 G2) 1)])) x5) x5) x5) (
 .split Gx (
 .split GC (
 .split (.eql (.sel (.app 39 G9) 0) (.c 1)) (
 .leaf (.done 0 [(.sel (.app 39 G9) 1)])) x5) x5) x5)) x5) (
 .split Qt x39 (
 .split Gz (
 .split GA (
 .split Gw (
 .split Gy (
 .split (.eql (.sel (.app 39 G3) 0) (.c 1)) (
 .leaf (.done 0 [(.sel (.app 39 G3) 1)])) x5) x5) x5) (
 .split Gx (
 .split GC (
 .split (.eql (.sel (.app 39 GZ) 0) (.c 1)) (
 .leaf (.done 0 [(.sel (.app 39 GZ) 1)])) x5) x5) x5)) x5))
def t40:List (Tr Plf):=[pp]
def oI:Tr Plf:=
 .leaf Ql
def mU:Tr Plf:=
 .split x37 (
 .split x10 x5 (
 .split Ld x5 (
 .split Lb (
 .split Lg (
 .split (.eql (.sel (.app 40 HC) 0) (.c 1)) (
 .leaf (.next 1 [u0,x11,(.sel (.app 40 HC) 1),u3,u4,u5])) x5) Pq) x5))) x27
def t41:List (Tr Plf):=[oI,mU]
def Aaw:Tr Plf:=
 .split Pk (
 .split Gz (
 .split GA (
 .split Gw (
 .split Gy (
 .split (.eql (.sel (.app 41 G2) 0) (.c 1)) (
 .leaf (.done 0 [(.sel (.app 41 G2) 1)])) x5) x5) x5) (
 .split Gx (
 .split GC (
 .split (.eql (.sel (.app 41 G9) 0) (.c 1)) (
 .leaf (.done 0 [(.sel (.app 41 G9) 1)])) x5) x5) x5)) x5) (
 .split Qt x39 (
 .split Gz (
 .split GA (
 .split Gw (
 .split Gy (
 .split (.eql (.sel (.app 41 G3) 0) (.c 1)) (
 .leaf (.done 0 [(.sel (.app 41 G3) 1)])) x5) x5) x5) (
 .split Gx (
 .split GC (
 .split (.eql (.sel (.app 41 GZ) 0) (.c 1)) (
 .leaf (.done 0 [(.sel (.app 41 GZ) 1)])) x5) x5) x5)) x5))
def t42:List (Tr Plf):=[Aaw]
def my:Tr Plf:=
 .leaf Ql
def mf:Tr Plf:=
 .split x37 (
 .split x10 x5 (
 .split Ld x5 (
 .split Lb (
 .split Lg (
 .split (.eql (.sel (.app 42 HC) 0) (.c 1)) (
 .leaf (.next 1 [u0,x11,(.sel (.app 42 HC) 1),u3,u4,u5])) x5) Pq) x5))) x27
def t43:List (Tr Plf):=[my,mf]
def tB:Tr Plf:=
 .split Pk (
 .split Gz (
 .split GA (
 .split Gw (
 .split Gy (
 .split (.eql (.sel (.app 43 G2) 0) (.c 1)) (
 .leaf (.done 0 [(.sel (.app 43 G2) 1)])) x5) x5) x5) (
 .split Gx (
 .split GC (
 .split (.eql (.sel (.app 43 G9) 0) (.c 1)) (
 .leaf (.done 0 [(.sel (.app 43 G9) 1)])) x5) x5) x5)) x5) (
 .split Qt x39 (
 .split Gz (
 .split GA (
 .split Gw (
 .split Gy (
 .split (.eql (.sel (.app 43 G3) 0) (.c 1)) (
 .leaf (.done 0 [(.sel (.app 43 G3) 1)])) x5) x5) x5) (
 .split Gx (
 .split GC (
 .split (.eql (.sel (.app 43 GZ) 0) (.c 1)) (
 .leaf (.done 0 [(.sel (.app 43 GZ) 1)])) x5) x5) x5)) x5))
def t44:List (Tr Plf):=[tB]
def yS:Tr Plf:=
 .leaf Ql
def qb:Tr Plf:=
 .split x37 (
 .split x10 x5 (
 .split Ld x5 (
 .split Lb (
 .split Lg (
 .split (.eql (.sel (.app 44 HC) 0) (.c 1)) (
 .leaf (.next 1 [u0,x11,(.sel (.app 44 HC) 1),u3,u4,u5])) x5) Pq) x5))) x27
def t45:List (Tr Plf):=[yS,qb]
def vu:Tr Plf:=
 .split Pk (
 .split Gz (
 .split GA (
 .split Gw (
 .split Gy (
 .split (.eql (.sel (.app 45 G2) 0) (.c 1)) (
 .leaf (.done 0 [(.sel (.app 45 G2) 1)])) x5) x5) x5) (
 .split Gx (
 .split GC (
 .split (.eql (.sel (.app 45 G9) 0) (.c 1)) (
 .leaf (.done 0 [(.sel (.app 45 G9) 1)])) x5) x5) x5)) x5) (
 .split Qt x39 (
 .split Gz (
 .split GA (
 .split Gw (
 .split Gy (
 .split (.eql (.sel (.app 45 G3) 0) (.c 1)) (
 .leaf (.done 0 [(.sel (.app 45 G3) 1)])) x5) x5) x5) (
 .split Gx (
 .split GC (
 .split (.eql (.sel (.app 45 GZ) 0) (.c 1)) (
 .leaf (.done 0 [(.sel (.app 45 GZ) 1)])) x5) x5) x5)) x5))
def t46:List (Tr Plf):=[vu]
def uj:Tr Plf:=
 .leaf Ql
def Aan:Tr Plf:=
 .split x37 (
 .split x10 x5 (
 .split Ld x5 (
 .split Lb (
 .split Lg (
 .split (.eql (.sel (.app 46 HC) 0) (.c 1)) (
 .leaf (.next 1 [u0,x11,(.sel (.app 46 HC) 1),u3,u4,u5])) x5) Pq) x5))) x27
def t47:List (Tr Plf):=[uj,Aan]
def Aa2:Tr Plf:=
 .split Pk (
 .split Gz (
 .split GA (
 .split Gw (
 .split Gy (
 .split (.eql (.sel (.app 47 G2) 0) (.c 1)) (
 .leaf (.done 0 [(.sel (.app 47 G2) 1)])) x5) x5) x5) (
 .split Gx (
 .split GC (
 .split (.eql (.sel (.app 47 G9) 0) (.c 1)) (
 .leaf (.done 0 [(.sel (.app 47 G9) 1)])) x5) x5) x5)) x5) (
 .split Qt x39 (
 .split Gz (
 .split GA (
 .split Gw (
 .split Gy (
 .split (.eql (.sel (.app 47 G3) 0) (.c 1)) (
 .leaf (.done 0 [(.sel (.app 47 G3) 1)])) x5) x5) x5) (
 .split Gx (
 .split GC (
 .split (.eql (.sel (.app 47 GZ) 0) (.c 1)) (
 .leaf (.done 0 [(.sel (.app 47 GZ) 1)])) x5) x5) x5)) x5))
def t48:List (Tr Plf):=[Aa2]
def vD:Tr Plf:=
 .leaf (.next 1 [u3,u4,(.c 0),.emptyL,u0,u1,u2])
def vL:Tr Plf:=
 .split x23 (
 .split x24 x5 (
 .split (.eql (.sel tV 0) (.c 1)) (
 .leaf (.next 1 [u0,u1,x28,(.sel tV 1),u4,u5,u6])) x5)) x18
def t49:List (Tr Plf):=[vD,vL]
def uQ:Tr Plf:=
 .leaf (.done 0 [u0])
def t50:List (Tr Plf):=[uQ]
def ph:Tr Plf:=
 .split (.eql (.sel qo 0) (.c 1)) (
 .split (.eql (.sel jc 0) (.c 1)) (
 .leaf (.done 0 [(.sel jc 1),(.sel jc 2)])) x5) x5
def t51:List (Tr Plf):=[ph]
def uf:Tr Plf:=
 .split (.eql (.sel kM 0) (.c 1)) (
 .leaf (.next 1 [u9,u22,(.c 0),u0,u1,u2,u3,(.sel kM 1),(.sel kM 2),u6,u7,u8])) x5
def wJ:Tr Plf:=
 .split x74 (
 .split x24 x5 (
 .split (.lss vQ (.c 0)) (
 .split (.eql (.sel XN 0) (.c 1)) (
 .split (.lss gK (.c 0)) x5 (
 .split (.lss gK (.lenL (.sel XN 1))) (
 .leaf (.next 1 [u0,u1,x28,u3,u4,u5,u6,(.upd (.sel XN 1) gK 4 u2),(.sel XN 2),u9,u10,u11])) x5)) x5) (
 .split (.eql (.sel YX 0) (.c 1)) (
 .split (.lss lY (.c 0)) x5 (
 .split (.lss lY (.lenL (.sel YX 1))) (
 .leaf (.next 1 [u0,u1,x28,u3,u4,u5,u6,(.upd (.sel YX 1) lY 4 u2),(.sel YX 2),u9,u10,u11])) x5)) x5))) (
 .leaf (.done 0 [u7,u8]))
def t52:List (Tr Plf):=[uf,wJ]
def xk:Tr Plf:=
 .leaf x36
def zp:Tr Plf:=
 .split x37 x41 x21
def t53:List (Tr Plf):=[xk,zp]
def vY:Tr Plf:=
 .leaf x36
def pd:Tr Plf:=
 .split x37 (
 .split x10 x5 (
 .split kX (
 .split (.eqSS lq u2) x39 pL) pL)) x21
def t54:List (Tr Plf):=[vY,pd]
def ru:Tr Plf:=
 .split (.eql (.sel (.app 54 bx) 0) (.c 1)) (
 .leaf (.done 0 [(.neg (.lss (.sel (.app 54 bx) 1) (.c 0)))])) x5
def t55:List (Tr Plf):=[ru]
def Aa1:Tr Plf:=
 .split aY (
 .split aI (
 .split (.eql (.sel RB 0) (.c 1)) (
 .split (.eql (.sel uW 0) (.c 1)) (
 .leaf (.next 1 [(.sel RB 2),(.sel RB 3),(.lenL (.sel RB 2)),(.c 0),(.sel RB 1),(.sel RB 3),(.sel RB 4),(.snoc (.snoc .emptyL (.rcons (.c 1) pz)) (.rcons (.c 2) pz)),(.bc false),(.c 0),(.sel uW 1),.emptyL,.emptyL])) x5) x5) il) x5
def sQ:Tr Plf:=
 .split (.lss u3 u2) (
 .split x16 x5 (
 .split x15 (
 .split (.lss xB (.c 0)) xz (
 .split (.cell u10 xB 1) (
 .split (.lss (.mIdx [.str] u11 ku) (.c 0)) (
 .split (.lss (.mIdx [.str] u12 ku) (.c 0)) (
 .split (.eql (.sel lN 0) (.c 1)) (
 .leaf (.next 2 [u0,u1,u2,u3,x44,(.lenL x44),(.c 0),u4,u5,u6,(.sel lN 1),(.sel lN 2),u3,u10,u3,u3,u3,u3,Aao,tu])) x5) x5) x5) xz)) x5)) (
 .split (.lss sK (.c 0)) (
 .split (.lss (.c 0) bN) (
 .leaf (.done 1 [u4,u0,u5,u6,(.upd u7 (.c 0) 5 (.c 0)),u8,u11,u12])) x5) (
 .split (.lss (.c 0) bN) (
 .leaf (.done 1 [u4,u0,u5,u6,(.upd u7 (.c 0) 5 (.cell u11 sK 1)),u8,u11,u12])) x5))
def tZ:Tr Plf:=
 .split (.lss u6 u5) (
 .split x87 x5 (
 .split (.lss u6 X2) (
 .split (.eql Rw (.c 8)) (
 .split jG (
 .split (.eql (.sel gR 0) (.c 1)) (
 .leaf (.next 2 [u0,u1,u2,u3,u4,u5,Nw,u7,u8,u9,(.sel gR 1),(.sel gR 2),u12,u13,u14,u15,u16,u17,u18,u19])) x5) (
 .split (.eql (.sel kZ 0) (.c 1)) (
 .leaf (.next 2 [u0,u1,u2,u3,u4,u5,Nw,u7,u8,u9,(.sel kZ 1),(.sel kZ 2),u12,u13,u14,u15,u16,u17,u18,u19])) x5)) (
 .split (.eql Rw (.c 7)) (
 .split jG (
 .split (.eql (.sel jQ 0) (.c 1)) (
 .leaf (.next 2 [u0,u1,u2,u3,u4,u5,Nw,u7,u8,u9,(.sel jQ 1),(.sel jQ 2),u12,u13,u14,u15,u16,u17,u18,u19])) x5) (
 .split (.eql (.sel iP 0) (.c 1)) (
 .leaf (.next 2 [u0,u1,u2,u3,u4,u5,Nw,u7,u8,u9,(.sel iP 1),(.sel iP 2),u12,u13,u14,u15,u16,u17,u18,u19])) x5)) (
 .split (.eql Rw (.c 12)) (
 .split jG (
 .split (.eql (.sel kg 0) (.c 1)) (
 .leaf (.next 2 [u0,u1,u2,u3,u4,u5,Nw,u7,u8,u9,(.sel kg 1),(.sel kg 2),u12,u13,u14,u15,u16,u17,u18,u19])) x5) (
 .split (.eql (.sel ia 0) (.c 1)) (
 .leaf (.next 2 [u0,u1,u2,u3,u4,u5,Nw,u7,u8,u9,(.sel ia 1),(.sel ia 2),u12,u13,u14,u15,u16,u17,u18,u19])) x5)) (
 .split (.eql Rw (.c 9)) (
 .split (.eql (.sel im 0) (.c 1)) (
 .leaf (.next 2 [u0,u1,u2,u3,u4,u5,Nw,u7,u8,u9,(.sel im 1),(.sel im 2),u12,u13,u14,u15,u16,u17,u18,u19])) x5) (
 .split (.eql (.sel bL 0) (.c 1)) (
 .split (.lss u12 (.c 0)) x5 (
 .split (.lss u12 x14) (
 .split (.eql Rw (.c 1)) kT (
 .split (.eql Rw (.c 2)) kT (
 .split (.eql Rw (.c 3)) kT vm))) x5)) x5))))) x5)) (
 .split (.eql (.sel gp 0) (.c 1)) (
 .leaf (.next 1 [u0,u1,u2,x19,u7,u8,u9,(.sel gp 1),(.sel gp 2),u12,u13,u18,u19])) x5)
def t56:List (Tr Plf):=[Aa1,sQ,tZ]
def Aa3:Tr Plf:=
 .leaf (.done 0 [])
def t57:List (Tr Plf):=[Aa3]
def xI:Tr Plf:=
 .leaf (.next 1 [u1,(.c 0)])
def mP:Tr Plf:=
 .split x37 (
 .split x10 x5 (
 .split (.eql (.sel (.app 57 (.rcons (.c 0) x52)) 0) (.c 1)) (
 .leaf (.next 1 [u0,x11])) x5)) il
def t58:List (Tr Plf):=[xI,mP]
def rS:Tr Plf:=
 .split (.eql X2 (.c 0)) (
 .leaf (.done 0 [(.c 0),(.c 1)])) (
 .split (.lss ri (.c 0)) (
 .leaf (.done 0 [(.c 0),(.c 9)])) (
 .leaf (.done 0 [(.cell u7 ri 1),(.c 0)])))
def t59:List (Tr Plf):=[rS]
def zV:Tr Plf:=
 .leaf Abo
def nX:Tr Plf:=
 .split x37 (
 .split x10 x5 (
 .split Ld x5 (
 .split Lb (
 .split Lg (
 .split x54 (
 .split x16 (
 .leaf (.next 1 [u0,x11,u2,(.c 0)])) Xt) (
 .split (.lss u3 x64) (
 .leaf (.next 1 [u0,x11,u2,x64])) Xt)) Xt) x5))) x18
def t60:List (Tr Plf):=[zV,nX]
def oC:Tr Plf:=
 .leaf (.next 1 ([u1,(.c 0)]++us 3 8))
def mw:Tr Plf:=
 .split x37 (
 .split x10 x5 (
 .split Nh (
 .split Nt (
 .split O1 (
 .split (.eql (.sel so 0) (.c 1)) (
 .split (.lss (.mIdx [.str] .emptyL x52) (.c 0)) (
 .leaf (.next 2 [u0,x11,u2,u3,u4,u5,u6,u7,u8,u9,(.snoc .emptyL (rl [x38,yH]))])) (
 .leaf (.next 2 [u0,x11,u2,u3,u4,u5,u6,u7,u8,u9,(.upd .emptyL (.mIdx [.str] .emptyL x52) 1 yH)]))) x5) x5) (
 .leaf (.next 1 ([u0,x11]++us 2 8)))) x5)) (
 .leaf (.done 0 [.emptyL]))
def Abl:Tr Plf:=
 .split x37 (
 .split x10 x5 (
 .split Nh (
 .split Nt (
 .split O1 (
 .split QF (
 .split Mn (
 .leaf (.next 3 ([u0,x11]++us 2 8++[QL]))) (
 .leaf (.next 3 ([u0,x11]++us 2 8++[Q3])))) x5) x5) (
 .leaf (.next 2 ([u0,x11]++us 2 9)))) x5)) PG
def vH:Tr Plf:=
 .split x37 (
 .split x10 x5 (
 .split Nh (
 .split Nt (
 .split O1 (
 .split QF (
 .split Mn (
 .leaf (.next 4 ([u0,x11]++us 2 8++[QL]))) (
 .leaf (.next 4 ([u0,x11]++us 2 8++[Q3])))) x5) x5) (
 .leaf (.next 3 ([u0,x11]++us 2 9)))) x5)) PG
def ma:Tr Plf:=
 .split x37 (
 .split x10 x5 (
 .split Nh (
 .split Nt (
 .split O1 (
 .split QF (
 .split Mn (
 .leaf (.next 5 ([u0,x11]++us 2 8++[QL]))) (
 .leaf (.next 5 ([u0,x11]++us 2 8++[Q3])))) x5) x5) (
 .leaf (.next 4 ([u0,x11]++us 2 9)))) x5)) PG
def uR:Tr Plf:=
 .split x37 (
 .split x10 x5 (
 .split Nh (
 .split Nt (
 .split O1 (
 .split QF (
 .split Mn (
 .leaf (.next 6 ([u0,x11]++us 2 8++[QL]))) (
 .leaf (.next 6 ([u0,x11]++us 2 8++[Q3])))) x5) x5) (
 .leaf (.next 5 ([u0,x11]++us 2 9)))) x5)) PG
def mY:Tr Plf:=
 .split x37 (
 .split x10 x5 (
 .split Nh (
 .split Nt (
 .split O1 (
 .split QF (
 .split Mn (
 .leaf (.next 7 ([u0,x11]++us 2 8++[QL]))) (
 .leaf (.next 7 ([u0,x11]++us 2 8++[Q3])))) x5) x5) (
 .leaf (.next 6 ([u0,x11]++us 2 9)))) x5)) PG
def tN:Tr Plf:=
 .split x37 (
 .split x10 x5 (
 .split Nh (
 .split Nt (
 .split O1 (
 .split QF (
 .split Mn (
 .leaf (.next 8 ([u0,x11]++us 2 8++[QL]))) (
 .leaf (.next 8 ([u0,x11]++us 2 8++[Q3])))) x5) x5) (
 .leaf (.next 7 ([u0,x11]++us 2 9)))) x5)) PG
def wC:Tr Plf:=
 .split x37 (
 .split x10 x5 (
 .split Nh (
 .split Nt (
 .split O1 (
 .split QF (
 .split Mn (
 .leaf (.next 9 ([u0,x11]++us 2 8++[QL]))) (
 .leaf (.next 9 ([u0,x11]++us 2 8++[Q3])))) x5) x5) (
 .leaf (.next 8 ([u0,x11]++us 2 9)))) x5)) PG
def tX:Tr Plf:=
 .split x37 (
 .split x10 x5 (
 .split Nh (
 .split Nt (
 .split O1 (
 .split QF (
 .split Mn (
 .leaf (.next 10 ([u0,x11]++us 2 8++[QL]))) (
 .leaf (.next 10 ([u0,x11]++us 2 8++[Q3])))) x5) x5) (
 .leaf (.next 9 ([u0,x11]++us 2 9)))) x5)) PG
def kR:Tr Plf:=
 .split x37 (
 .split x10 x5 (
 .split Nh (
 .split Nt x5 (
 .leaf (.next 10 ([u0,x11]++us 2 9)))) x5)) PG
def t61:List (Tr Plf):=[oC,mw,Abl,vH,ma,uR,mY,tN,wC,tX,kR]
def qm:Tr Plf:=
 .leaf (.next 1 [u3,(.c 0),u0,u1,u2])
def yb:Tr Plf:=
 .split x37 (
 .split x10 x5 (
 .split Ld x5 (
 .split Lb (
 .split Lg (
 .split x54 (
 .split (.eql (.c 0) u4) (
 .leaf (.done 0 [x38])) lr) (
 .split (.eql x64 u4) (
 .leaf (.done 0 [x38])) lr)) lr) x5))) x51
def t62:List (Tr Plf):=[qm,yb]
def mO:Tr Plf:=
 .split aY (
 .split aI (
 .split jq (
 .split sj (
 .leaf (.next 1 [u0,u1,u2])) x5) (
 .split gO (
 .split wO (
 .leaf (.next 2 [u0,u1,u2,(.sel DQ 1),(.sel DQ 2),(.sel DQ 3),(.sel DQ 4),(.sel DQ 5),(.sel DQ 6),(.sel DQ 7),(.sel DQ 8),Ye])) x5) x5)) (
 .leaf (.done 0 [.nilL,(.bc true),(.c 2)]))) x5
def wn:Tr Plf:=
 .split (.eqS u2 0 0) xM (
 .split bg (
 .split cy sD sD) x5)
def rQ:Tr Plf:=
 .split (.eqS u2 0 0) xM (
 .split bg (
 .split cy (
 .split vi (
 .split (.lss gc (.c 0)) (
 .split (.eql cY (.c 0)) Wt (
 .split EJ (
 .split Gv (
 .split (.eql (.sel f9 0) (.c 1)) (
 .leaf (.next 3 [u0,u1,u2,u3,u4,u5,u6,u7,u8,(.sel f9 1),u9,u10,u11])) (
 .split (.eql (.sel f9 0) (.c 2)) bH x5)) x5) x5)) (
 .split (.eql dc (.c 0)) Wt (
 .split EJ (
 .split Gv (
 .split (.eql (.sel jx 0) (.c 1)) (
 .leaf (.next 3 [u0,u1,u2,u3,u4,u5,u6,u7,u8,(.sel jx 1),u9,u10,u11])) (
 .split (.eql (.sel jx 0) (.c 2)) bH x5)) x5) x5))) x5) (
 .split vi (
 .split (.lss gc (.c 0)) (
 .split (.eql cY (.c 0)) Wt (
 .split eo (
 .split xh (
 .split (.eql (.sel iO 0) (.c 1)) (
 .leaf (.next 3 [u0,u1,u2,u3,u4,u5,u6,u7,u8,(.sel iO 1),u9,u10,u11])) (
 .split (.eql (.sel iO 0) (.c 2)) bH x5)) x5) x5)) (
 .split (.eql dc (.c 0)) Wt (
 .split eo (
 .split xh (
 .split (.eql (.sel f6 0) (.c 1)) (
 .leaf (.next 3 [u0,u1,u2,u3,u4,u5,u6,u7,u8,(.sel f6 1),u9,u10,u11])) (
 .split (.eql (.sel f6 0) (.c 2)) bH x5)) x5) x5))) x5)) x5)
def n8:Tr Plf:=
 .split (.eqS u9 0 0) Wt (
 .split (.eql (.sel wG 0) (.c 1)) (
 .split (.lss XB (.c 0)) (
 .split nB (
 .split (.lss ky (.c 0)) (
 .split (.eql dn (.c 0)) Ze (
 .split EJ (
 .split Gv (
 .split (.eql (.sel iu 0) (.c 1)) (
 .leaf (.next 4 [u0,u1,u2,u3,u4,u5,u6,u7,u8,u9,(.sel iu 1),u10,u11,u12])) (
 .split (.eql (.sel iu 0) (.c 2)) cT x5)) x5) x5)) (
 .split (.eql cR (.c 0)) Ze (
 .split EJ (
 .split Gv (
 .split (.eql (.sel ki 0) (.c 1)) (
 .leaf (.next 4 [u0,u1,u2,u3,u4,u5,u6,u7,u8,u9,(.sel ki 1),u10,u11,u12])) (
 .split (.eql (.sel ki 0) (.c 2)) cT x5)) x5) x5))) x5) (
 .split nB (
 .split (.lss ky (.c 0)) (
 .split (.eql dn (.c 0)) Ze (
 .split (.lss XB x0) (
 .split tY (
 .split (.eql (.sel iS 0) (.c 1)) (
 .leaf (.next 4 [u0,u1,u2,u3,u4,u5,u6,u7,u8,u9,(.sel iS 1),u10,u11,u12])) (
 .split (.eql (.sel iS 0) (.c 2)) cT x5)) x5) x5)) (
 .split (.eql cR (.c 0)) Ze (
 .split (.lss XB x0) (
 .split tY (
 .split (.eql (.sel kA 0) (.c 1)) (
 .leaf (.next 4 [u0,u1,u2,u3,u4,u5,u6,u7,u8,u9,(.sel kA 1),u10,u11,u12])) (
 .split (.eql (.sel kA 0) (.c 2)) cT x5)) x5) x5))) x5)) x5)
def px:Tr Plf:=
 .split (.eqS u10 0 0) Ze (
 .split (.eql (.sel Aba 0) (.c 1)) (
 .split (.lss Yc (.c 0)) (
 .split mV (
 .split (.lss lW (.c 0)) (
 .split (.eql bh (.c 0)) Zg (
 .split EJ (
 .split Gv (
 .split (.eql (.sel gM 0) (.c 1)) (
 .leaf (.next 5 [u0,u1,u2,u3,u4,u5,u6,u7,u8,u9,u10,(.sel gM 1),u11,u12,u13])) (
 .split (.eql (.sel gM 0) (.c 2)) dF x5)) x5) x5)) (
 .split (.eql de (.c 0)) Zg (
 .split EJ (
 .split Gv (
 .split (.eql (.sel j0 0) (.c 1)) (
 .leaf (.next 5 [u0,u1,u2,u3,u4,u5,u6,u7,u8,u9,u10,(.sel j0 1),u11,u12,u13])) (
 .split (.eql (.sel j0 0) (.c 2)) dF x5)) x5) x5))) x5) (
 .split mV (
 .split (.lss lW (.c 0)) (
 .split (.eql bh (.c 0)) Zg (
 .split (.lss Yc x0) (
 .split vk (
 .split (.eql (.sel hI 0) (.c 1)) (
 .leaf (.next 5 [u0,u1,u2,u3,u4,u5,u6,u7,u8,u9,u10,(.sel hI 1),u11,u12,u13])) (
 .split (.eql (.sel hI 0) (.c 2)) dF x5)) x5) x5)) (
 .split (.eql de (.c 0)) Zg (
 .split (.lss Yc x0) (
 .split vk (
 .split (.eql (.sel iz 0) (.c 1)) (
 .leaf (.next 5 [u0,u1,u2,u3,u4,u5,u6,u7,u8,u9,u10,(.sel iz 1),u11,u12,u13])) (
 .split (.eql (.sel iz 0) (.c 2)) dF x5)) x5) x5))) x5)) x5)
def yA:Tr Plf:=
 .split (.eqS u11 0 0) Zg (
 .split (.eql (.sel yw 0) (.c 1)) (
 .split (.lss Z3 (.c 0)) (
 .split xQ (
 .split (.lss jk (.c 0)) (
 .split (.eql bB (.c 0)) ag (
 .split EJ (
 .split Gv (
 .split (.eql (.sel f7 0) (.c 1)) (
 .leaf (.next 6 [u0,u1,u2,u3,u4,u5,u6,u7,u8,u9,u10,u11,(.sel f7 1),u12,u13,u14])) (
 .split (.eql (.sel f7 0) (.c 2)) dq x5)) x5) x5)) (
 .split (.eql aZ (.c 0)) ag (
 .split EJ (
 .split Gv (
 .split (.eql (.sel ji 0) (.c 1)) (
 .leaf (.next 6 [u0,u1,u2,u3,u4,u5,u6,u7,u8,u9,u10,u11,(.sel ji 1),u12,u13,u14])) (
 .split (.eql (.sel ji 0) (.c 2)) dq x5)) x5) x5))) x5) (
 .split xQ (
 .split (.lss jk (.c 0)) (
 .split (.eql bB (.c 0)) ag (
 .split (.lss Z3 x0) (
 .split Aal (
 .split (.eql (.sel jS 0) (.c 1)) (
 .leaf (.next 6 [u0,u1,u2,u3,u4,u5,u6,u7,u8,u9,u10,u11,(.sel jS 1),u12,u13,u14])) (
 .split (.eql (.sel jS 0) (.c 2)) dq x5)) x5) x5)) (
 .split (.eql aZ (.c 0)) ag (
 .split (.lss Z3 x0) (
 .split Aal (
 .split (.eql (.sel lu 0) (.c 1)) (
 .leaf (.next 6 [u0,u1,u2,u3,u4,u5,u6,u7,u8,u9,u10,u11,(.sel lu 1),u12,u13,u14])) (
 .split (.eql (.sel lu 0) (.c 2)) dq x5)) x5) x5))) x5)) x5)
def rN:Tr Plf:=
 .split (.eqS u12 0 0) ag (
 .split (.eql (.sel rt 0) (.c 1)) (
 .split (.lss Yf (.c 0)) (
 .split rW (
 .split (.lss i4 (.c 0)) (
 .split (.eql cA (.c 0)) az (
 .split EJ (
 .split Gv (
 .split (.eql (.sel iQ 0) (.c 1)) (
 .leaf (.next 7 [u0,u1,u2,u3,u4,u5,u6,u7,u8,u9,u10,u11,u12,(.sel iQ 1),u13,u14,u15])) (
 .split (.eql (.sel iQ 0) (.c 2)) aU x5)) x5) x5)) (
 .split (.eql dG (.c 0)) az (
 .split EJ (
 .split Gv (
 .split (.eql (.sel gy 0) (.c 1)) (
 .leaf (.next 7 [u0,u1,u2,u3,u4,u5,u6,u7,u8,u9,u10,u11,u12,(.sel gy 1),u13,u14,u15])) (
 .split (.eql (.sel gy 0) (.c 2)) aU x5)) x5) x5))) x5) (
 .split rW (
 .split (.lss i4 (.c 0)) (
 .split (.eql cA (.c 0)) az (
 .split (.lss Yf x0) (
 .split sW (
 .split (.eql (.sel kU 0) (.c 1)) (
 .leaf (.next 7 [u0,u1,u2,u3,u4,u5,u6,u7,u8,u9,u10,u11,u12,(.sel kU 1),u13,u14,u15])) (
 .split (.eql (.sel kU 0) (.c 2)) aU x5)) x5) x5)) (
 .split (.eql dG (.c 0)) az (
 .split (.lss Yf x0) (
 .split sW (
 .split (.eql (.sel hX 0) (.c 1)) (
 .leaf (.next 7 [u0,u1,u2,u3,u4,u5,u6,u7,u8,u9,u10,u11,u12,(.sel hX 1),u13,u14,u15])) (
 .split (.eql (.sel hX 0) (.c 2)) aU x5)) x5) x5))) x5)) x5)
def mq:Tr Plf:=
 .split (.eqS u13 0 0) az (
 .split (.eql (.sel pk 0) (.c 1)) (
 .split (.lss Yx (.c 0)) (
 .split sa (
 .split (.lss lm (.c 0)) (
 .split (.eql cS (.c 0)) XR (
 .split EJ (
 .split Gv (
 .split (.eql (.sel lR 0) (.c 1)) (
 .leaf (.next 8 [u0,u1,u2,u3,u4,u5,u6,u7,u8,u9,u10,u11,u12,u13,(.sel lR 1),u14,u15,u16])) (
 .split (.eql (.sel lR 0) (.c 2)) di x5)) x5) x5)) (
 .split (.eql ek (.c 0)) XR (
 .split EJ (
 .split Gv (
 .split (.eql (.sel jU 0) (.c 1)) (
 .leaf (.next 8 [u0,u1,u2,u3,u4,u5,u6,u7,u8,u9,u10,u11,u12,u13,(.sel jU 1),u14,u15,u16])) (
 .split (.eql (.sel jU 0) (.c 2)) di x5)) x5) x5))) x5) (
 .split sa (
 .split (.lss lm (.c 0)) (
 .split (.eql cS (.c 0)) XR (
 .split (.lss Yx x0) (
 .split zu (
 .split (.eql (.sel lj 0) (.c 1)) (
 .leaf (.next 8 [u0,u1,u2,u3,u4,u5,u6,u7,u8,u9,u10,u11,u12,u13,(.sel lj 1),u14,u15,u16])) (
 .split (.eql (.sel lj 0) (.c 2)) di x5)) x5) x5)) (
 .split (.eql ek (.c 0)) XR (
 .split (.lss Yx x0) (
 .split zu (
 .split (.eql (.sel gi 0) (.c 1)) (
 .leaf (.next 8 [u0,u1,u2,u3,u4,u5,u6,u7,u8,u9,u10,u11,u12,u13,(.sel gi 1),u14,u15,u16])) (
 .split (.eql (.sel gi 0) (.c 2)) di x5)) x5) x5))) x5)) x5)
def nq:Tr Plf:=
 .split (.eqS u14 0 0) XR (
 .split (.eql (.sel Aaa 0) (.c 1)) (
 .split (.lss aj (.c 0)) (
 .split ug (
 .split (.lss f4 (.c 0)) (
 .split (.eql cw (.c 0)) ZV (
 .split EJ (
 .split Gv (
 .split (.eql (.sel kf 0) (.c 1)) (
 .leaf (.next 9 [u0,u1,u2,u3,u4,u5,u6,u7,u8,u9,u10,u11,u12,u13,u14,(.sel kf 1),u15,u16,u17])) (
 .split (.eql (.sel kf 0) (.c 2)) ci x5)) x5) x5)) (
 .split (.eql cX (.c 0)) ZV (
 .split EJ (
 .split Gv (
 .split (.eql (.sel jZ 0) (.c 1)) (
 .leaf (.next 9 [u0,u1,u2,u3,u4,u5,u6,u7,u8,u9,u10,u11,u12,u13,u14,(.sel jZ 1),u15,u16,u17])) (
 .split (.eql (.sel jZ 0) (.c 2)) ci x5)) x5) x5))) x5) (
 .split ug (
 .split (.lss f4 (.c 0)) (
 .split (.eql cw (.c 0)) ZV (
 .split (.lss aj x0) (
 .split xr (
 .split (.eql (.sel gZ 0) (.c 1)) (
 .leaf (.next 9 [u0,u1,u2,u3,u4,u5,u6,u7,u8,u9,u10,u11,u12,u13,u14,(.sel gZ 1),u15,u16,u17])) (
 .split (.eql (.sel gZ 0) (.c 2)) ci x5)) x5) x5)) (
 .split (.eql cX (.c 0)) ZV (
 .split (.lss aj x0) (
 .split xr (
 .split (.eql (.sel lS 0) (.c 1)) (
 .leaf (.next 9 [u0,u1,u2,u3,u4,u5,u6,u7,u8,u9,u10,u11,u12,u13,u14,(.sel lS 1),u15,u16,u17])) (
 .split (.eql (.sel lS 0) (.c 2)) ci x5)) x5) x5))) x5)) x5)
def uu:Tr Plf:=
 .split (.eqS u15 0 0) ZV (
 .split (.eql (.sel ve 0) (.c 1)) (
 .split (.lss Zf (.c 0)) (
 .split xS (
 .split (.lss iL (.c 0)) (
 .split (.eql bY (.c 0)) YF (
 .split EJ (
 .split Gv (
 .split (.eql (.sel lx 0) (.c 1)) (
 .leaf (.next 10 [u0,u1,u2,u3,u4,u5,u6,u7,u8,u9,u10,u11,u12,u13,u14,u15,(.sel lx 1),u16,u17,u18])) (
 .split (.eql (.sel lx 0) (.c 2)) cF x5)) x5) x5)) (
 .split (.eql dW (.c 0)) YF (
 .split EJ (
 .split Gv (
 .split (.eql (.sel ja 0) (.c 1)) (
 .leaf (.next 10 [u0,u1,u2,u3,u4,u5,u6,u7,u8,u9,u10,u11,u12,u13,u14,u15,(.sel ja 1),u16,u17,u18])) (
 .split (.eql (.sel ja 0) (.c 2)) cF x5)) x5) x5))) x5) (
 .split xS (
 .split (.lss iL (.c 0)) (
 .split (.eql bY (.c 0)) YF (
 .split (.lss Zf x0) (
 .split wL (
 .split (.eql (.sel l5 0) (.c 1)) (
 .leaf (.next 10 [u0,u1,u2,u3,u4,u5,u6,u7,u8,u9,u10,u11,u12,u13,u14,u15,(.sel l5 1),u16,u17,u18])) (
 .split (.eql (.sel l5 0) (.c 2)) cF x5)) x5) x5)) (
 .split (.eql dW (.c 0)) YF (
 .split (.lss Zf x0) (
 .split wL (
 .split (.eql (.sel jm 0) (.c 1)) (
 .leaf (.next 10 [u0,u1,u2,u3,u4,u5,u6,u7,u8,u9,u10,u11,u12,u13,u14,u15,(.sel jm 1),u16,u17,u18])) (
 .split (.eql (.sel jm 0) (.c 2)) cF x5)) x5) x5))) x5)) x5)
def j4:Tr Plf:=
 .split (.eqS u16 0 0) YF (
 .split (.eql (.sel tP 0) (.c 1)) (
 .split (.lss au (.c 0)) (
 .split sy (
 .split (.lss lQ (.c 0)) (
 .split (.eql bU (.c 0)) XL (
 .split EJ (
 .split Gv (
 .split (.eql (.sel jn 0) (.c 1)) (
 .leaf (.next 11 [u0,u1,u2,u3,u4,u5,u6,u7,u8,u9,u10,u11,u12,u13,u14,u15,u16,(.sel jn 1),u17,u18,u19])) (
 .split (.eql (.sel jn 0) (.c 2)) bM x5)) x5) x5)) (
 .split (.eql dA (.c 0)) XL (
 .split EJ (
 .split Gv (
 .split (.eql (.sel jT 0) (.c 1)) (
 .leaf (.next 11 [u0,u1,u2,u3,u4,u5,u6,u7,u8,u9,u10,u11,u12,u13,u14,u15,u16,(.sel jT 1),u17,u18,u19])) (
 .split (.eql (.sel jT 0) (.c 2)) bM x5)) x5) x5))) x5) (
 .split sy (
 .split (.lss lQ (.c 0)) (
 .split (.eql bU (.c 0)) XL (
 .split (.lss au x0) (
 .split sI (
 .split (.eql (.sel gA 0) (.c 1)) (
 .leaf (.next 11 [u0,u1,u2,u3,u4,u5,u6,u7,u8,u9,u10,u11,u12,u13,u14,u15,u16,(.sel gA 1),u17,u18,u19])) (
 .split (.eql (.sel gA 0) (.c 2)) bM x5)) x5) x5)) (
 .split (.eql dA (.c 0)) XL (
 .split (.lss au x0) (
 .split sI (
 .split (.eql (.sel lP 0) (.c 1)) (
 .leaf (.next 11 [u0,u1,u2,u3,u4,u5,u6,u7,u8,u9,u10,u11,u12,u13,u14,u15,u16,(.sel lP 1),u17,u18,u19])) (
 .split (.eql (.sel lP 0) (.c 2)) bM x5)) x5) x5))) x5)) x5)
def j8:Tr Plf:=
 .split (.eqS u17 0 0) XL (
 .split (.eql (.sel mB 0) (.c 1)) (
 .split (.lss (.sel mB 1) (.c 0)) ye ye) x5)
def t63:List (Tr Plf):=[mO,wn,rQ,n8,px,yA,rN,mq,nq,uu,j4,j8]
def tf:Tr Plf:=
 .leaf (.next 1 [u3,u4,(.c 0),u0,u1,u2])
def za:Tr Plf:=
 .split (.lss u2 u1) (
 .split x24 x5 (
 .split cH (
 .split (.eqSS aT u0) x27 (
 .leaf (.next 1 [u0,u1,x28,u3,u4,u5]))) x5)) x21
def t64:List (Tr Plf):=[tf,za]
def zh:Tr Plf:=
 .leaf (.next 1 [.nilL,(.bc true),(.c 0),u0,u1])
def Aaz:Tr Plf:=
 .split cH (
 .split x24 x5 (
 .split (.eql PF (.c 7)) jf (
 .split (.eql PF (.c 8)) jf (
 .split (.eql PF (.c 12)) jf (
 .leaf (.next 2 [u0,u1,u2,.nilL,(.bc true),(.c 0),u3,u4,aT,PF,qW,yJ,uI,wx,rz,te,om,iD,mc,xc,qM,zA,se])))))) (
 .leaf (.done 0 [u0,u1]))
def ns:Tr Plf:=
 .split (.eql u9 (.c 9)) (
 .split (.lss u5 (.lenL u20)) (
 .split aH x5 (
 .split (.lss Wy Xh) (
 .leaf (.next 2 [u0,u1,u2,(.snoc u3 (rl [(.cell u20 u5 2)])),(.bc false),bk,u6,u7,u8,u9,u10,u11,u12,u13,u14,u15,u16,u17,u18,u19,u20,u21,u22])) x5)) xJ) xJ
def oF:Tr Plf:=
 .split bT (
 .leaf (.next 4 (us 0 6++[(.bc false),(.c 0),u6,u7]))) (
 .leaf (.next 1 [u0,u1,x28,u6,u7]))
def Abj:Tr Plf:=
 .split (.lss u7 x14) (
 .split u6 (
 .leaf (.next 4 (us 0 6++[(.bc true),Aa7,u8,u9]))) (
 .split (.lss u7 (.c 0)) x5 (
 .split aH x5 (
 .split bT (
 .leaf (.next 4 [u0,u1,u2,u3,u4,u5,(.eqSS (.cell u0 u7 0) gH),Aa7,u8,u9])) x5)))) (
 .split u6 (
 .leaf (.next 3 (us 0 5++[bk,u8,u9]))) (
 .split aH x5 (
 .split bT (
 .split (.lss x14 Xh) (
 .leaf (.next 3 [oX,(.bc false),u2,u3,u4,bk,u8,u9])) x5) x5)))
def t65:List (Tr Plf):=[zh,Aaz,ns,oF,Abj]
def nY:Tr Plf:=
 .leaf Abo
def sM:Tr Plf:=
 .split jB (
 .split x10 x5 (
 .split (.eql Xl (.c 9)) (
 .split (.eqSS o0 u0) x8 uo) uo)) x1
def zY:Tr Plf:=
 .split (.lss u2 (.lenL u13)) (
 .split x24 x5 (
 .split (.eqSS (.cell u13 u2 0) u0) x8 (
 .leaf (.next 2 ([u0,u1,x28]++us 3 17))))) (
 .leaf (.next 1 [u0,x11,u3,u4]))
def t66:List (Tr Plf):=[nY,sM,zY]
def ym:Tr Plf:=
 .leaf (.next 1 [u2,(.c 0),(.c 0),u0,u1])
def pw:Tr Plf:=
 .split (.lss u0 u2) x21 (
 .split cH (
 .split x24 x5 (
 .split (.lss PF (.c 1)) kh (
 .split (.lss (.c 3) PF) kh (
 .split (.eql (.sel wH 0) (.c 1)) (
 .split (.sel wH 1) (
 .split (.eql u2 u0) x39 (
 .leaf (.next 1 [u0,x11,x28,u3,u4]))) kh) x5)))) x21)
def t67:List (Tr Plf):=[ym,pw]
def Aa9:Tr Plf:=
 .leaf (.next 1 [(.c 0),(.c 0),u0,u1])
def mG:Tr Plf:=
 .split jB (
 .split (.eql (.sel Aap 0) (.c 1)) (
 .split (.lss (.sel Aap 1) (.c 0)) Xt (
 .leaf (.next 1 [x12,x11,u2,u3]))) x5) x82
def t68:List (Tr Plf):=[Aa9,mG]
def vG:Tr Plf:=
 .split x16 x5 (
 .split x42 (
 .split oi (
 .leaf (.next 1 [u3,(.sel Y3 1),(.sel Y3 2),u0,u1,u2])) x5) x5)
def wg:Tr Plf:=
 .split EJ x5 (
 .split x4 x5 (
 .split (.lss u0 X2) (
 .split (.eql (.sel xe 0) (.c 1)) (
 .leaf (.done 0 [(.arith .add .i64 (.sel xe 1) (.c 0))])) x5) x5))
def t69:List (Tr Plf):=[vG,wg]
def ul:Tr Plf:=
 .split x16 x5 Se
def nN:Tr Plf:=
 .split Sa (
 .split x47 x5 (
 .split Q5 (
 .split (.eql (.sel (.app 69 D9) 0) (.c 1)) (
 .split (.lss u3 (.sel (.app 69 D9) 1)) (
 .leaf (.next 1 [u0,u1,u2,(.sel (.app 69 D9) 1),x50,u5,u6,u7])) RV) x5) x5)) RW
def t70:List (Tr Plf):=[ul,nN]
def wI:Tr Plf:=
 .split x16 x5 Se
def uK:Tr Plf:=
 .split Sa (
 .split x47 x5 (
 .split Q5 (
 .split (.eql (.sel (.app 70 D9) 0) (.c 1)) (
 .split (.lss u3 (.sel (.app 70 D9) 1)) (
 .leaf (.next 1 [u0,u1,u2,(.sel (.app 70 D9) 1),x50,u5,u6,u7])) RV) x5) x5)) RW
def t71:List (Tr Plf):=[wI,uK]
def tq:Tr Plf:=
 .split x16 x5 Se
def pK:Tr Plf:=
 .split Sa (
 .split x47 x5 (
 .split Q5 (
 .split (.eql (.sel (.app 71 D9) 0) (.c 1)) (
 .split (.lss u3 (.sel (.app 71 D9) 1)) (
 .leaf (.next 1 [u0,u1,u2,(.sel (.app 71 D9) 1),x50,u5,u6,u7])) RV) x5) x5)) RW
def t72:List (Tr Plf):=[tq,pK]
def wj:Tr Plf:=
 .split x16 x5 Se
def mF:Tr Plf:=
 .split Sa (
 .split x47 x5 (
 .split Q5 (
 .split (.eql (.sel (.app 72 D9) 0) (.c 1)) (
 .split (.lss u3 (.sel (.app 72 D9) 1)) (
 .leaf (.next 1 [u0,u1,u2,(.sel (.app 72 D9) 1),x50,u5,u6,u7])) RV) x5) x5)) RW
def t73:List (Tr Plf):=[wj,mF]
def pu:Tr Plf:=
 .split x16 x5 Se
def tI:Tr Plf:=
 .split Sa (
 .split x47 x5 (
 .split Q5 (
 .split (.eql (.sel (.app 73 D9) 0) (.c 1)) (
 .split (.lss u3 (.sel (.app 73 D9) 1)) (
 .leaf (.next 1 [u0,u1,u2,(.sel (.app 73 D9) 1),x50,u5,u6,u7])) RV) x5) x5)) RW
def t74:List (Tr Plf):=[pu,tI]
def xY:Tr Plf:=
 .split x16 x5 Se
def yN:Tr Plf:=
 .split Sa (
 .split x47 x5 (
 .split Q5 (
 .split (.eql (.sel (.app 74 D9) 0) (.c 1)) (
 .split (.lss u3 (.sel (.app 74 D9) 1)) (
 .leaf (.next 1 [u0,u1,u2,(.sel (.app 74 D9) 1),x50,u5,u6,u7])) RV) x5) x5)) RW
def t75:List (Tr Plf):=[xY,yN]
def xu:Tr Plf:=
 .split x16 x5 Se
def pC:Tr Plf:=
 .split Sa (
 .split x47 x5 (
 .split Q5 (
 .split (.eql (.sel (.app 75 D9) 0) (.c 1)) (
 .split (.lss u3 (.sel (.app 75 D9) 1)) (
 .leaf (.next 1 [u0,u1,u2,(.sel (.app 75 D9) 1),x50,u5,u6,u7])) RV) x5) x5)) RW
def t76:List (Tr Plf):=[xu,pC]
def ow:Tr Plf:=
 .split x16 x5 Se
def xL:Tr Plf:=
 .split Sa (
 .split x47 x5 (
 .split Q5 (
 .split (.eql (.sel (.app 76 D9) 0) (.c 1)) (
 .split (.lss u3 (.sel (.app 76 D9) 1)) (
 .leaf (.next 1 [u0,u1,u2,(.sel (.app 76 D9) 1),x50,u5,u6,u7])) RV) x5) x5)) RW
def t77:List (Tr Plf):=[ow,xL]
def rP:Tr Plf:=
 .split (.eql (.sel oJ 0) (.c 1)) (
 .leaf (.next 1 [(.sel oJ 1),bb,u0,u1,u2])) x5
def tJ:Tr Plf:=
 .split (.eql (.sel pG 0) (.c 1)) (
 .split x4 x5 (
 .split (.lss u0 Wy) (
 .split (.eql (.sel (.app 68 Y1) 0) (.c 1)) (
 .split (.eql sH (.c 0)) x39 (
 .split (.eql (.sel (.app 65 Y1) 0) (.c 1)) (
 .leaf (.next 2 [u1,(.bc false),sH,(.sel (.app 65 Y1) 1),(.sel (.app 65 Y1) 2),(.c 0),u2,u3,u4])) x5)) x5) x5)) x5
def nu:Tr Plf:=
 .split aH x5 (
 .split bT (
 .split (.eql (.sel gP 0) (.c 1)) (
 .split (.eql (.sel pP 0) (.c 1)) (
 .split (.lss (.sel pP 1) u2) (
 .leaf (.next 2 (us 0 5++[bk,u6,u7,u8]))) (
 .split (.lss x14 Xh) (
 .leaf (.next 1 [(.sel gP 1),oX,u6,u7,u8])) x5)) x5) x5) x5)
def t78:List (Tr Plf):=[rP,tJ,nu]
def md:Tr Plf:=
 .split (.eql x14 x3) (
 .leaf (.next 1 [u0,u1,u2,u3,(.c 0)])) x1
def tL:Tr Plf:=
 .split (.lss u4 x14) (
 .split x47 x5 (
 .split x46 (
 .split (.eqSS qP x48) (
 .leaf (.next 1 [u0,u1,u2,u3,x50])) x1) x5)) x8
def t79:List (Tr Plf):=[md,tL]
def qR:Tr Plf:=
 .split (.eql u4 (.c 1)) (
 .leaf (.done 0 [u5])) (
 .split (.eql u4 (.c 2)) (
 .leaf (.done 0 [u5])) (
 .split (.eql u4 (.c 3)) (
 .split u7 (
 .leaf (.done 0 [(.c 40)])) (
 .split (.lss u9 (.c 0)) GM (
 .split (.lss u9 (.c 34359738368)) (
 .split (.lss u9 (.c 128)) (
 .leaf (.done 0 [(.c 8)])) (
 .split (.lss wy (.c 128)) io (
 .split (.lss uE (.c 128)) (
 .leaf (.done 0 [(.c 24)])) (
 .split (.lss vX (.c 128)) (
 .leaf (.done 0 [(.c 32)])) (
 .split (.lss (.arith .shr .i64 vX (.c 7)) (.c 128)) (
 .leaf (.done 0 [(.c 40)])) GM))))) GM))) (
 .split (.eql u4 (.c 4)) (
 .split (.eql (.sel rE 0) (.c 1)) (
 .split (.lss u10 (.c (-1048576))) GM (
 .split (.eql (.sel uS 0) (.c 1)) (
 .split (.lss (.sel uS 1) (.c 0)) (
 .split (.eql (.sel zn 0) (.c 1)) (
 .split (.lss (.sel zn 1) (.c 0)) (
 .split (.isNil u11) (
 .split (.eql (.sel jp 0) (.c 1)) GM (
 .split (.eql (.sel jp 0) (.c 2)) (
 .split (.sel jp 1) GM wR) x5)) (
 .split (.lss aL (.c 1048576)) (
 .split (.eql (.sel gn 0) (.c 1)) GM (
 .split (.eql (.sel gn 0) (.c 2)) (
 .split (.sel gn 1) GM wR) x5)) (
 .split (.eql (.sel qg 0) (.c 1)) (
 .split (.lss (.sel qg 1) (.c 0)) x5 GM) x5))) GM) x5) GM) x5)) x5) (
 .split (.eql u4 (.c 5)) (
 .leaf (.done 0 [(.arith .mul .i64 (.c 8) (.arith .add .i64 u9 (.c 1)))])) (
 .split (.eql u4 (.c 6)) (
 .leaf (.done 0 [(.arith .mul .i64 (.c 8) u9)])) (
 .split (.eql u4 (.c 10)) (
 .split (.lss u5 (.c 8)) (
 .split (.eql u5 (.c 2)) qH (
 .split (.eql u5 (.c 4)) qH ZD)) (
 .split (.lss u18 (.c 0)) ZD (
 .split xD ZD (
 .split gE (
 .leaf (.done 0 [(.arith .add .i64 uc cI)])) (
 .leaf (.done 0 [(.arith .add .i64 uc (.c 0))])))))) (
 .split (.eql u4 (.c 11)) (
 .split (.lss u16 (.c 1)) GM (
 .split (.lss (.c 3) u16) GM (
 .split (.eql f8 (.c 0)) io (
 .split (.eql f8 (.c 1)) io (
 .split (.eql f8 (.c 2)) (
 .leaf (.done 0 [(.c 32)])) x5))))) GM)))))))
def t80:List (Tr Plf):=[qR]
def qj:Tr Plf:=
 .split (.eql (.sel yt 0) (.c 1)) (
 .split (.sel yt 4) kz (
 .split x24 kz (
 .split cH (
 .split x87 x5 (
 .split (.lss u6 (.lenL PF)) (
 .split (.eql (.sel cZ 0) (.c 1)) (
 .split (.lss u6 x0) (
 .split (.eql (.sel xP 0) (.c 1)) (
 .split (.lss (.c 0) yr) (
 .leaf (.done 0 [yr])) GM) x5) x5) (
 .split (.eql (.sel cZ 0) (.c 2)) fX x5)) fX)) kz))) x5
def t81:List (Tr Plf):=[qj]
def xO:Tr Plf:=
 .leaf (.next 1 ([(.c 0),u0,(.c 0)]++us 1 6))
def Aam:Tr Plf:=
 .split x74 (
 .split x24 x5 (
 .split (.eql (.sel lz 0) (.c 1)) (
 .split (.lss u0 (.sel lz 1)) (
 .leaf (.next 1 [(.sel lz 1),u1,x28,u3,u4,u5,u6,u7,u8])) (
 .leaf (.next 1 ([u0,u1,x28]++us 3 6)))) x5)) x82
def t82:List (Tr Plf):=[xO,Aam]
def zN:Tr Plf:=
 .leaf (.next 1 [(.c 0),u0,(.c 0),u1,u2,u3,u4])
def nS:Tr Plf:=
 .split x74 (
 .split x24 x5 (
 .split (.lss x76 (.c 0)) (
 .split x4 (
 .leaf (.next 1 [(.c 0),u1,x28,u3,u4,u5,u6])) x72) (
 .split (.eql (.sel kB 0) (.c 1)) (
 .split (.lss u0 (.sel kB 1)) (
 .leaf (.next 1 [(.sel kB 1),u1,x28,u3,u4,u5,u6])) x72) x5))) x82
def t83:List (Tr Plf):=[zN,nS]
def qw:Tr Plf:=
 .split aY (
 .split aI (
 .split jq (
 .split sj (
 .split bg (
 .split cy (
 .split aq QT (
 .split ae (
 .split X9 QT (
 .split EJ (
 .split (.lss ib (.c 0)) QT (
 .split kj (
 .split ii (
 .leaf (.done 0 [Xg,dt,(.c 0),(.c 0)])) (
 .leaf (.done 0 [Xg,dt,hZ,(.c 0)]))) x5)) QT)) x5)) (
 .split aq QT (
 .split ae (
 .split X9 QT (
 .split eo (
 .split (.lss gq (.c 0)) QT (
 .split kj (
 .split ii (
 .leaf (.done 0 [Xg,bz,(.c 0),(.c 0)])) (
 .leaf (.done 0 [Xg,bz,hZ,(.c 0)]))) x5)) QT)) x5))) x5) x5) (
 .split gO (
 .split wO (
 .split bg (
 .split cy (
 .split aq QV (
 .split ae (
 .split X9 QV (
 .split EJ (
 .split (.lss ib (.c 0)) QV (
 .split iy (
 .split iY (
 .leaf (.done 0 [WR,dt,(.c 0),(.c 0)])) (
 .leaf (.done 0 [WR,dt,hU,(.c 0)]))) x5)) QV)) x5)) (
 .split aq QV (
 .split ae (
 .split X9 QV (
 .split eo (
 .split (.lss gq (.c 0)) QV (
 .split iy (
 .split iY (
 .leaf (.done 0 [WR,bz,(.c 0),(.c 0)])) (
 .leaf (.done 0 [WR,bz,hU,(.c 0)]))) x5)) QV)) x5))) x5) x5) x5)) (
 .leaf (.done 0 [(.c 0),(.c 0),(.c 0),(.c 2)]))) x5
def t84:List (Tr Plf):=[qw]
def pM:Tr Plf:=
 .split (.eql (.sel (.app 0 HT) 0) (.c 1)) (
 .split (.sel (.app 0 HT) 1) (
 .split (.eql (.sel Uc 0) (.c 1)) (
 .split aY (
 .split aI (
 .split (.eql (.sel (.app 78 HT) 0) (.c 1)) (
 .split (.eql (.sel oT 0) (.c 1)) (
 .split (.sel oT 1) (
 .split (.eql (.sel Uc 3) (.c 0)) (
 .split jq (
 .split qA (
 .leaf (.next 1 [aM,(.sel Uc 2),(.sel O4 4),(.sel O4 1),(.sel O4 2),(.sel O4 3)])) x5) (
 .split gO (
 .split qA (
 .leaf (.next 2 [aM,(.sel Uc 2),(.sel O4 4),(.c 0),(.c 0),(.sel DQ 1),(.sel DQ 2),(.sel DQ 3),(.sel DQ 4),(.sel DQ 5),(.sel DQ 6),(.sel O4 1),(.sel O4 2),(.sel O4 3),(.sel DQ 7),(.sel DQ 8)])) x5) x5)) x1) x1) x5) x5) (
 .split (.eql (.lenL aM) (.c 0)) (
 .split (.eql (.sel Uc 3) (.c 2)) x8 x1) x1)) x5) x5) x8) x5
def nR:Tr Plf:=
 .split (.lss (.c 0) x14) (
 .split (.eql (.sel (.app 57 (rl [(.c 0),(.cell u0 (.c 0) 0)])) 0) (.c 1)) x1 x5) (
 .split (.eql (.arith .add .i64 (.c 2) u2) (.c 0)) (
 .split (.eql (.c 0) u5) (
 .split x47 x1 x8) x1) x1)
def rZ:Tr Plf:=
 .split (.lss u4 x14) (
 .split x47 x5 (
 .split (.eql (.sel fY 0) (.c 1)) (
 .split (.eql (.sel fY 2) (.c 0)) (
 .leaf (.next 2 [u0,u1,u2,(.arith .add .i64 u3 (.sel fY 1)),x50,u5,u6,u7,u8,u9,u10,u11,u12,u13,u14,u15])) x1) x5)) (
 .split (.eql (.arith .add .i64 (.c 0) u2) (.c 0)) (
 .split (.eql u3 u13) (
 .split (.lss u12 x14) x1 x8) x1) x1)
def t85:List (Tr Plf):=[pM,nR,rZ]
def ts:List (List (Tr Plf)):=[t0,t1,t2,t3,t4,t5,t6,t7,t8,t9,t10,t11,t12,t13,t14,t15,t16,t17,t18,t19,t20,t21,t22,t23,t24,t25,t26,t27,t28,t29,t30,t31,t32,t33,t34,t35,t36,t37,t38,t39,t40,t41,t42,t43,t44,t45,t46,t47,t48,t49,t50,t51,t52,t53,t54,t55,t56,t57,t58,t59,t60,t61,t62,t63,t64,t65,t66,t67,t68,t69,t70,t71,t72,t73,t74,t75,t76,t77,t78,t79,t80,t81,t82,t83,t84,t85]
end Mc

