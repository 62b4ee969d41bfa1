/- What is stated: the trees of tests of the functions that the law MemoryExtends reaches, as data. Conditions: none. -/
import Derived.Test.YtojjaeaohjlfnaaGreatBeG
set_option linter.unusedVariables false
set_option linter.unusedSectionVars false
set_option linter.unusedSimpArgs false
namespace Mx
open Go.AE
def u0:SE:=.var 0
def u1:SE:=.var 1
def u2:SE:=.var 2
def u3:SE:=.var 3
def u4:SE:=.var 4
def u5:SE:=.var 5
def u6:SE:=.var 6
def u7:SE:=.var 7
def u8:SE:=.var 8
def u9:SE:=.var 9
def u10:SE:=.var 10
def u11:SE:=.var 11
def u12:SE:=.var 12
def u13:SE:=.var 13
def u14:SE:=.var 14
def u15:SE:=.var 15
def u16:SE:=.var 16
def u17:SE:=.var 17
def u18:SE:=.var 18
def u19:SE:=.var 19
def u20:SE:=.var 20
def u21:SE:=.var 21
def u22:SE:=.var 22
def u23:SE:=.var 23
def x0:SE:=(.lenL u1)
def x1:Tr Plf:=(
 .leaf (.done 0 [(.bc false)]))
def x2:SE:=(.lenS u0)
def x3:SE:=(.lenL u2)
def x4:Tr Plf:=(
 .leaf .stuck)
def x5:SE:=(.cell u2 u0 1)
def x6:SE:=(.cell u2 u0 0)
def x7:Tr Plf:=(
 .leaf (.done 0 [(.bc true)]))
def x8:SE:=(.lss u1 (.c 0))
def x9:SE:=(.arith .add .i64 u1 (.c 1))
def x10:SE:=(.arith .add .i64 u0 (.c 1))
def x11:Plf:=(.next 1 [u0,u1,u2,(.c 0)])
def x12:SE:=(.lenL u0)
def x13:SE:=(.lss u3 x12)
def x14:SE:=(.lss u3 (.c 0))
def x15:SE:=(.cell u0 u3 0)
def x16:Tr Plf:=(
 .leaf (.done 0 [u3]))
def x17:SE:=(.arith .add .i64 u3 (.c 1))
def x18:Tr Plf:=(
 .leaf (.next 1 [u0,u1,u2,x17]))
def x19:Tr Plf:=(
 .leaf (.done 0 [(.c (-1))]))
def x20:Plf:=(.next 1 [u0,u1,(.c 0)])
def x21:SE:=(.lss u2 x12)
def x22:SE:=(.lss u2 (.c 0))
def x23:SE:=(.cell u0 u2 0)
def x24:SE:=(.conv .u8 x23)
def x25:Tr Plf:=(
 .leaf (.done 0 [u2]))
def x26:SE:=(.arith .add .i64 u2 (.c 1))
def x27:Tr Plf:=(
 .leaf (.next 1 [u0,u1,x26]))
def x28:SE:=(rl [(.bc false)])
def x29:SE:=(.rcons (.bc false) x28)
def x30:SE:=(.app 1 (.rcons (.c 0) (.rcons (.snoc (.snoc .emptyL (rl [(.neg (.lss x2 (.c 1)))])) (rl [(.neg (.lss (.c 32) x2))])) x29)))
def x31:SE:=(.strAt u0 (.c 0))
def x32:SE:=(.app 2 (.rcons (.c 0) (.rcons (.bytes u0) x28)))
def x33:Tr Plf:=(
 .split (.eql (.sel x32 0) (.c 1)) (
 .leaf (.done 0 [(.lss (.sel x32 1) (.c 0))])) x4)
def x34:Plf:=(.next 1 [u0,(.c 0),u1])
def x35:SE:=(.lss u1 x12)
def x36:SE:=(.cell u0 u1 0)
def x37:Tr Plf:=(
 .leaf (.done 0 [u1]))
def x38:Tr Plf:=(
 .leaf (.next 1 [u0,x9,u2]))
def x39:Tr Plf:=(
 .split x8 x4 (
 .split (.eqSS x36 u2) x37 x38))
def x40:SE:=(.cell u1 u3 0)
def x41:SE:=(.cell u0 u3 1)
def x42:SE:=(.eql x41 (.cell u1 u3 1))
def x43:SE:=(.lss u4 x3)
def x44:SE:=(.lss u4 (.c 0))
def x45:SE:=(.cell u2 u4 0)
def x46:Tr Plf:=(
 .leaf (.done 0 [u8,u9]))
def x47:SE:=(.arith .add .i64 u4 (.c 1))
def x48:Tr Plf:=(
 .leaf (.done 1 []))
def x49:SE:=(rl [x36])
def x50:SE:=(.mIdx [.str] u2 x49)
def x51:SE:=(.lss x50 (.c 0))
def x52:SE:=(.app 3 (.rcons (.c 0) x49))
def x53:SE:=(.cell u0 u1 1)
def x54:SE:=(.snoc .emptyL (rl [(.sel x52 1)]))
def x55:SE:=(rl [(.bc true)])
def x56:SE:=(.app 1 (.rcons (.c 0) (.rcons (.snoc (.snoc x54 x55) x28) x29)))
def x57:SE:=(.snoc u2 (.rcons x36 x55))
def x58:Tr Plf:=(
 .leaf (.next 1 [u0,x9,x57]))
def x59:Tr Plf:=(
 .leaf (.done 0 [u1,x57]))
def x60:SE:=(.app 1 (.rcons (.c 0) (.rcons (.snoc (.snoc x54 (rl [(.neg (.eql x53 (.c 0)))])) (rl [(.neg (.lss (.c 1048576) x53))])) x29)))
def x61:SE:=(.cell u2 x50 1)
def x62:SE:=(.upd u2 x50 1 (.bc true))
def x63:Tr Plf:=(
 .leaf (.done 0 [u1,x62]))
def x64:Tr Plf:=(
 .leaf (.next 1 [u0,x9,x62]))
def x65:SE:=(.cell u0 u1 5)
def x66:SE:=(.cell u0 u1 6)
def x67:Tr Plf:=(
 .split x51 (
 .leaf (.next 1 [u0,x9,(.snoc u2 (rl [x36,x65,x66]))])) (
 .leaf (.next 1 [u0,x9,(.upd (.upd u2 x50 1 x65) x50 2 x66)])))
def x68:SE:=(.mIdx [.str] u4 (rl [x23]))
def x69:Tr Plf:=(
 .leaf (.next 1 [u0,u1,x26,u3,u4,u5,u6]))
def x70:SE:=(.app 1 (.rcons (.c 0) (.rcons (.snoc (.snoc (.snoc .emptyL (rl [(.neg (.lss (.cell u4 x68 1) (.c 0)))])) (rl [(.neg (.lss (.cell u4 x68 2) (.cell u4 x68 1)))])) (rl [(.lss (.cell u4 x68 2) (.c 34359738368))])) x29)))
def x71:SE:=(.lss u2 x0)
def x72:SE:=(.cell u1 u2 0)
def x73:SE:=(.mIdx [.str] u3 (rl [x72]))
def x74:SE:=(.cell u1 u2 1)
def x75:SE:=(.lss (.c 0) x74)
def x76:Tr Plf:=(
 .leaf (.next 1 [(.arith .add .i64 u0 (.arith .mul .i64 x74 (.c 0))),u1,x26,u3,u4]))
def x77:Tr Plf:=(
 .leaf (.next 1 [(.arith .add .i64 u0 (.arith .mul .i64 x74 (.cell u3 x73 1))),u1,x26,u3,u4]))
def x78:Tr Plf:=(
 .leaf (.next 1 [(.arith .add .i64 u0 (.arith .mul .i64 x74 (.cell u3 x73 2))),u1,x26,u3,u4]))
def x79:Tr Plf:=(
 .leaf (.done 0 [u0]))
def x80:Tr Plf:=(
 .leaf (.done 0 [u5,u6,(.c 9)]))
def x81:SE:=(.lenL u17)
def x82:SE:=(.app 1 (.rcons (.c 0) (.rcons (.snoc (.snoc .emptyL (rl [(.neg (.lss (.c 1048576) u16))])) (rl [(.neg (.lss (.c 4) x81))])) x29)))
def x83:SE:=(.app 8 (rl [(.c 0),u17,.emptyL]))
def x84:SE:=(.lss u6 (.c 0))
def x85:SE:=(.lenL u8)
def x86:SE:=(.lss x85 u6)
def x87:SE:=(.sub u8 (.c 0) u6)
def x88:SE:=(.app 9 (rl [(.c 0),x87]))
def x89:SE:=(.rcons .nilL x55)
def x90:SE:=(.app 10 (.rcons (.c 0) (.rcons u0 (.rcons u1 (.rcons u2 (.rcons u3 (.rcons u4 (.rcons u5 (.rcons u6 (.rcons u7 (.rcons u8 (.rcons (.sel x88 1) x89))))))))))))
def x91:SE:=(.rcons (.c 0) (.rcons (.bc false) x89))
def x92:SE:=(.app 11 (.rcons (.c 0) (.rcons (.strc 0 0) (.rcons (.sel x88 1) x91))))
def x93:SE:=(.app 12 (.rcons (.c 0) (.rcons u16 (.rcons u17 (.rcons (.sel x88 1) x55)))))
def x94:SE:=(.app 12 (.rcons (.c 0) (.rcons u16 (.rcons u17 (.rcons (.sel x88 1) x28)))))
def x95:Tr Plf:=(
 .split (.eql (.sel x93 0) (.c 1)) (
 .split (.eql (.sel x94 0) (.c 1)) (
 .split (.lss (.sel x93 1) (.c 0)) x80 (
 .split (.lss (.c 1048576) (.sel x94 1)) x80 x48)) x4) x4)
def x96:SE:=(rl [(.cat .emptyL u17),(.and (.bc false) (.eql x81 (.c 0)))])
def x97:SE:=(.sel (.app 10 (.rcons (.c 0) (.rcons u0 (.rcons u1 (.rcons u2 (.rcons u3 (.rcons u4 (.rcons u5 (.rcons u6 (.rcons u7 (.rcons u8 (.rcons (.sel x88 1) x96)))))))))))) 0)
def x98:SE:=(.app 10 (.rcons (.c 0) (.rcons u0 (.rcons u1 (.rcons u2 (.rcons u3 (.rcons u4 (.rcons u5 (.rcons u6 (.rcons u7 (.rcons u8 (.rcons (.sel x88 1) (.rcons (.cat .emptyL u17) x28)))))))))))))
def x99:SE:=(.app 11 (.rcons (.c 0) (.rcons (.strc 0 0) (.rcons (.sel x88 1) (.rcons (.c 0) (.rcons (.bc false) x96))))))
def lq:SE:=(.eql x53 (.c 9))
def jX:SE:=(.cell u0 u1 10)
def qH:Tr Plf:=(
 .leaf (.next 1 ([u0,x9]++us 2 15)))
def kC:SE:=(.mIdx [.str] (.sel x88 1) (rl [u19]))
def ww:SE:=(rl (us 9 15))
def sI:SE:=(.app 14 (.rcons (.c 0) (.rcons x87 ww)))
def wo:SE:=(.eql (.sel sI 0) (.c 1))
def T5:Tr Plf:=(
 .leaf (.done 0 [u5,u6,(.c 8)]))
def xY:Tr Plf:=(
 .leaf (.done 0 [u5,u6,(.c 3)]))
def mI:SE:=(.cell (.sel x88 1) kC 1)
def cA:SE:=(.app 7 (.rcons (.c 0) (.rcons u3 (.rcons u4 (.rcons u5 (.rcons u10 (.rcons u11 (.rcons u6 (.rcons u7 (.rcons u8 (.rcons u9 (.rcons u0 (.rcons u13 (.rcons (.snoc (.snoc .emptyL (rl [x72])) (rl [x74])) x28))))))))))))))
def Ua:SE:=(.cell u1 u2 2)
def Rp:SE:=(rl [u9])
def fZ:SE:=(.app 3 (.rcons (.c 0) Rp))
def ng:SE:=(.eql (.sel fZ 0) (.c 1))
def vQ:SE:=(.app 4 (.rcons (.c 0) (.rcons x87 Rp)))
def La:SE:=(.eqSS u9 u9)
def Pn:SE:=(.eqSS u18 (.strc 0 0))
def NI:SE:=(.eqSS u19 (.strc 0 0))
def PB:SE:=(.eqSS u20 (.strc 0 0))
def NN:SE:=(.eql u10 u10)
def bR:SE:=(.eql u16 (.c 0))
def Yj:SE:=(.eql u22 (.c 0))
def kP:SE:=(.eql u23 (.c 0))
def cW:SE:=(.neg (.bc false))
def mh:SE:=(.neg (.and (.neg (.and (.bc false) (.bc false))) (.neg (.and cW cW))))
def qv:SE:=(.and u13 (.bc true))
def ky:SE:=(.neg (.and (.neg (.and qv (.bc false))) (.neg (.and (.neg qv) cW))))
def rO:SE:=(.and bR (.and Yj (.and kP (.and mh ky))))
def wt:SE:=(.app 5 (.rcons (.c 0) (.rcons u17 x89)))
def P6:SE:=(.eql (.sel wt 0) (.c 1))
def Qb:SE:=(.sel wt 1)
def ti:SE:=(.app 6 (.rcons (.c 0) (.rcons u21 x89)))
def Nc:SE:=(.eql (.sel ti 0) (.c 1))
def MK:SE:=(.sel ti 1)
def MT:Tr Plf:=(
 .leaf (.done 0 [u5,u6,(.c 6)]))
def hQ:SE:=(.eql (.arith .rem .i64 u11 (.c 8)) (.c 0))
def tG:SE:=(.arith .sub .i64 (.arith .shl .i64 (.c 1) u11) (.c 1))
def Ri:SE:=(rl [u14])
def W2:SE:=(rl [u15])
def nH:SE:=(.rcons (.snoc (.snoc .emptyL Ri) W2) x28)
def cp:SE:=(.app 7 (.rcons (.c 0) (.rcons u0 (.rcons u1 (.rcons u2 (.rcons u3 (.rcons u4 (.rcons u5 (.rcons u6 (.rcons u7 (.rcons u8 (.rcons (.c 0) (.rcons tG nH)))))))))))))
def tV:Tr Plf:=(
 .split (.eql (.sel cp 0) (.c 1)) (
 .leaf (.done 0 [(.sel cp 1),(.sel cp 2),(.c 7)])) (
 .split (.eql (.sel cp 0) (.c 2)) x48 x4))
def CB:Tr Plf:=(
 .leaf (.done 0 [u5,u6,(.c 5)]))
def Yu:SE:=(.eql u15 (.c 0))
def vg:SE:=(.rcons (.snoc .emptyL Ri) x28)
def aN:SE:=(.app 7 (.rcons (.c 0) (.rcons u0 (.rcons u1 (.rcons u2 (.rcons u3 (.rcons u4 (.rcons u5 (.rcons u6 (.rcons u7 (.rcons u8 (.rcons (.c 0) (.rcons tG vg)))))))))))))
def sB:Tr Plf:=(
 .split (.eql (.sel aN 0) (.c 1)) (
 .leaf (.done 0 [(.sel aN 1),(.sel aN 2),(.c 7)])) (
 .split (.eql (.sel aN 0) (.c 2)) x48 x4))
def Tz:SE:=(.eql u11 (.c 0))
def ri:SE:=(.and u12 (.bc true))
def hY:SE:=(.neg (.and (.neg (.and ri (.bc false))) (.neg (.and (.neg ri) cW))))
def xQ:SE:=(.and (.bc true) (.and bR (.and Yj (.and kP (.and hY mh)))))
def aR:SE:=(.app 7 (.rcons (.c 0) (.rcons u0 (.rcons u1 (.rcons u2 (.rcons u3 (.rcons u4 (.rcons u5 (.rcons u6 (.rcons u7 (.rcons u8 (.rcons (.c 0) (.rcons (.c 34359738367) nH)))))))))))))
def ab:SE:=(.eql u14 (.c 0))
def jC:SE:=(.and kP (.and hY ky))
def sC:SE:=(.and NI (.and PB (.and NN (.and Tz (.and ab (.and Yu (.and (.bc true) (.and Yj jC))))))))
def xm:SE:=(.rcons (.c 0) (.rcons u0 (.rcons u1 (.rcons u2 (.rcons u3 (.rcons u4 (.rcons u5 (.rcons u6 (.rcons u7 (.rcons u8 ww))))))))))
def Y7:SE:=(.app 13 xm)
def hI:Tr Plf:=(
 .split (.eql (.sel Y7 0) (.c 1)) (
 .leaf (.done 0 [(.sel Y7 1),(.sel Y7 2),(.sel Y7 3)])) (
 .split (.eql (.sel Y7 0) (.c 2)) x48 x4))
def qd:SE:=(.and bR (.and Yj jC))
def bC:SE:=(.app 7 (.rcons (.c 0) (.rcons u0 (.rcons u1 (.rcons u2 (.rcons u3 (.rcons u4 (.rcons u5 (.rcons u6 (.rcons u7 (.rcons u8 (.rcons (.c 0) (.rcons (.c 255) vg)))))))))))))
def sY:SE:=(.rcons (.c 1048576) (.rcons (.snoc .emptyL W2) x28))
def cu:SE:=(.app 7 (.rcons (.c 0) (.rcons u0 (.rcons u1 (.rcons u2 (.rcons u3 (.rcons u4 (.rcons u5 (.rcons u6 (.rcons u7 (.rcons u8 (.rcons (.c 0) sY))))))))))))
def bA:SE:=(.app 7 (.rcons (.c 0) (.rcons u0 (.rcons u1 (.rcons u2 (.rcons u3 (.rcons u4 (.rcons u5 (.rcons u6 (.rcons u7 (.rcons u8 (.rcons (.c 2) sY))))))))))))
def ZJ:SE:=(.eqSS (.strc 0 0) (.strc 0 0))
def qa:SE:=(.lss (.mIdx [.str] u3 (rl [u18])) (.c 0))
def qb:SE:=(.and ab (.and Yu qd))
def mS:SE:=(.and PB (.and NN (.and Tz qb)))
def X6:SE:=(.app 15 xm)
def aW:SE:=(.app 7 (.rcons (.c 0) (.rcons u0 (.rcons u1 (.rcons u2 (.rcons u3 (.rcons u4 (.rcons u5 (.rcons u6 (.rcons u7 (.rcons u8 (.rcons (.c 1) (.rcons (.c 3) (.rcons (.snoc .emptyL (rl [u22])) x28))))))))))))))
def vd:SE:=(.app 4 (rl [(.c 0),x87,u20]))
def de:SE:=(.app 7 (.rcons (.c 0) (.rcons u0 (.rcons u1 (.rcons u2 (.rcons u3 (.rcons u4 (.rcons u5 (.rcons u6 (.rcons u7 (.rcons u8 (.rcons (.c 0) (.rcons (.c 4294967295) (.rcons (.snoc .emptyL (rl [u23])) x28))))))))))))))
def uU:SE:=(.mIdx [.str] u4 (rl [u18]))
def cj:SE:=(.c 1073741824)
def wW:SE:=(.cell u0 u1 9)
def j1:Tr Plf:=(
 .split (.lss x3 cj) (
 .leaf (.next 1 [u0,x9,(.snoc u2 (rl [wW])),(.bc false)])) x4)
def kI:SE:=(.cell u0 u1 12)
def bK:Tr Plf:=(
 .leaf (.next 1 [u0,x9,u2,u3]))
def K7:SE:=(.lss x12 u1)
def tZ:SE:=(.app 18 (.rcons (.c 0) (.rcons (.sub u0 (.c 0) u1) x49)))
def K6:SE:=(.eql (.sel tZ 0) (.c 1))
def Ld:SE:=(.lss (.sel tZ 1) (.c 0))
def rz:SE:=(.mIdx [.str] u9 x49)
def iB:SE:=(.mIdx [.str] u10 x49)
def MY:SE:=(.lss iB (.c 0))
def rp:Tr Plf:=(
 .leaf (.next 1 ([u0,x9]++us 2 9++[(.bc false),(.c 0)])))
def jn:SE:=(.cell u10 iB 1)
def rI:Tr Plf:=(
 .leaf (.next 1 ([u0,x9]++us 2 9++[(.bc false),u12])))
def pI:Tr Plf:=(
 .split u11 (
 .split MY rI (
 .leaf (.next 1 ([u0,x9]++us 2 9++[jn,u12])))) rI)
def fQ:SE:=(.cell u9 rz 1)
def mN:Tr Plf:=(
 .leaf (.next 1 ([u0,x9]++us 2 9++[(.bc false),fQ])))
def tB:Tr Plf:=(
 .leaf (.done 0 [u5,(.c (-1)),(.c 3),(.c (-1)),u9,u10,u3,u4]))
def sL:SE:=(.cell u0 u1 3)
def o0:SE:=(.cell u0 u1 4)
def vC:SE:=(.cell u0 u1 8)
def sM:SE:=(.cell u0 u1 11)
def ao:SE:=(.app 16 (rl [(.c 0),u2,u3,u4,u8,u9,u5,u1,u7,u0,x36,x53,(.cell u0 u1 2),sL,o0,x65,x66,(.cell u0 u1 7),vC,wW,jX,sM,kI,(.cell u0 u1 13),(.cell u0 u1 14)]))
def Wa:SE:=(rl [u0])
def pL:SE:=(.app 17 (.rcons (.c 0) (.rcons u7 Wa)))
def cn:SE:=(.app 19 (rl [(.c 0),u2,u3,u4,u8,u9,u5,(.c (-1)),u7,u0,u10,(.c 0),(.sel pL 1)]))
def WX:SE:=(rl [(.c 0)])
def pm:SE:=(.upd (.snoc u8 (.rcons u7 WX)) x85 1 (.arith .add .i64 (.sel cn 2) (.c 1)))
def fJ:SE:=(.lenL u9)
def qN:SE:=(.upd (.snoc u9 (.rcons u7 x28)) fJ 1 (.sel cn 1))
def dQ:SE:=(.rcons (.c 0) Wa)
def uC:Tr Plf:=(
 .leaf (.done 0 [(.c 3),u0,u1,u2]))
def mr:SE:=(rl [x36,x53])
def JI:SE:=(.app 20 (.rcons (.c 0) (.rcons u2 (.rcons u0 (.rcons u3 (.rcons u7 (.rcons u8 (.rcons u1 (.rcons (.c (-1)) (.rcons u5 (.rcons u6 mr)))))))))))
def J1:SE:=(rl [u2])
def jN:SE:=(.rcons u0 (.rcons u1 J1))
def JY:SE:=(.rcons (.c 0) jN)
def Sd:SE:=(.app 21 JY)
def XR:SE:=(.eql (.sel Sd 0) (.c 1))
def W9:SE:=(.eql (.sel Sd 0) (.c 2))
def Xc:SE:=(.sel Sd 4)
def xk:SE:=(.arith .add .i64 u0 Ua)
def wQ:SE:=(.arith .rem .i64 xk (.c 8))
def oK:Tr Plf:=(
 .leaf (.next 1 [wQ,u1,x26,u3,u4]))
def mE:SE:=(.arith .rem .i64 (.arith .mul .i64 (.arith .quo .i64 (.arith .sub .i64 xk (.c 1)) Ua) Ua) (.c 8))
def f9:SE:=(.app 4 (rl [(.c 0),u0,sM]))
def mJ:SE:=(.eql (.sel f9 0) (.c 1))
def qm:SE:=(.lss (.sel f9 1) (.c 0))
def ju:SE:=(.app 23 (.rcons (.c 0) (.rcons (.c 0) dQ)))
def jo:SE:=(.app 23 (.rcons (.c 0) (.rcons (.sel f9 1) dQ)))
def km:Tr Plf:=(
 .split sL x7 (
 .split mJ (
 .split qm x1 x1) x4))
def tS:SE:=(.app 24 (.rcons (.c 0) (.rcons u9 (.rcons u2 Wa))))
def Wy:SE:=(.sel tS 1)
def xT:Tr Plf:=(
 .leaf (.next 1 [wQ,u1,x26,u3,u4,u5,Wy,u7,u8,u9]))
def nr:SE:=(.app 24 (.rcons (.c 0) (.rcons u9 (.rcons x0 Wa))))
def bb:SE:=(.sel nr 1)
def TV:SE:=(.app 22 JY)
def Fh:SE:=(.sel TV 1)
def Fe:SE:=(.sel TV 2)
def Fd:SE:=(.sel TV 3)
def nh:Tr Plf:=(
 .leaf (.done 0 [Fh,Fe,Fd,(.sel TV 4)]))
def E8:SE:=(.lss (.c 0) x0)
def gr:SE:=(.cell u1 (.c 0) 0)
def xH:SE:=(rl [(.cell u1 (.c 0) 1)])
def UA:SE:=(.app 25 (.rcons (.c 0) (.rcons Fh (.rcons Fe (.rcons Fd (.rcons (.sel TV 4) (.rcons (.c 0) (.rcons gr (.rcons (.cell u1 (.c 0) 1) xH)))))))))
def TW:SE:=(.app 25 (rl [(.c 0),Fh,Fe,Fd,(.sel UA 1),(.c 1),(.cell u1 (.c 1) 0),(.cell u1 (.c 1) 1),(.cell u1 (.c 1) 1)]))
def Uc:SE:=(.app 25 (rl [(.c 0),Fh,Fe,Fd,(.sel TW 1),(.c 2),(.cell u1 (.c 2) 0),(.cell u1 (.c 2) 1),(.cell u1 (.c 2) 1)]))
def Ue:SE:=(.app 25 (rl [(.c 0),Fh,Fe,Fd,(.sel Uc 1),(.c 3),(.cell u1 (.c 3) 0),(.cell u1 (.c 3) 1),(.cell u1 (.c 3) 1)]))
def T0:SE:=(.app 25 (rl [(.c 0),Fh,Fe,Fd,(.sel Ue 1),(.c 4),(.cell u1 (.c 4) 0),(.cell u1 (.c 4) 1),(.cell u1 (.c 4) 1)]))
def Uv:SE:=(.app 25 (rl [(.c 0),Fh,Fe,Fd,(.sel T0 1),(.c 5),(.cell u1 (.c 5) 0),(.cell u1 (.c 5) 1),(.cell u1 (.c 5) 1)]))
def T9:SE:=(.app 25 (rl [(.c 0),Fh,Fe,Fd,(.sel Uv 1),(.c 6),(.cell u1 (.c 6) 0),(.cell u1 (.c 6) 1),(.cell u1 (.c 6) 1)]))
def S0:SE:=(.app 25 (rl [(.c 0),Fh,Fe,Fd,(.sel T9 1),(.c 7),(.cell u1 (.c 7) 0),(.cell u1 (.c 7) 1),(.cell u1 (.c 7) 1)]))
def TQ:SE:=(.app 25 (rl [(.c 0),Fh,Fe,Fd,(.sel S0 1),(.c 8),(.cell u1 (.c 8) 0),(.cell u1 (.c 8) 1),(.cell u1 (.c 8) 1)]))
def Wb:SE:=(.app 25 (rl [(.c 0),Fh,Fe,Fd,(.sel TQ 1),(.c 9),(.cell u1 (.c 9) 0),(.cell u1 (.c 9) 1),(.cell u1 (.c 9) 1)]))
def jt:SE:=(.cat .emptyL u1)
def kR:SE:=(.lenL u3)
def dj:SE:=(.cell u3 u1 1)
def np:SE:=(.upd u3 u1 1 .nilL)
def jd:SE:=(.cell u8 u3 8)
def dz:SE:=(.cell u8 u3 12)
def oA:SE:=(.upd u8 u3 8 .nilL)
def sF:SE:=(.lss (.lenL dz) (.c 1048576))
def xe:SE:=(.nilIs (.cat .emptyL dz) (.bc false))
def lJ:SE:=(.upd u8 u3 8 (.nilIs (.cat .emptyL jd) (.bc false)))
def aP:SE:=(.lenL u4)
def Qx:Plf:=(.next 1 [u4,(.c 0),u0,u1,u2,u3])
def Pq:Tr Plf:=(
 .leaf (.next 1 [u0,x9,u2,u3,u4,u5]))
def gN:Tr Plf:=(
 .leaf (.done 0 []))
def ku:SE:=(.mIdx [.str] u1 Wa)
def PI:SE:=(.lss ku (.c 0))
def pa:SE:=(.app 28 (.rcons (.c 0) (.rcons u3 Wa)))
def Gs:SE:=(.eql (.sel pa 0) (.c 1))
def ba:SE:=(.sel pa 1)
def Gz:SE:=(.lss ba (.c 0))
def Gt:SE:=(.lss (.c 0) kR)
def mA:SE:=(.app 17 (rl [(.c 0),(.cell u3 (.c 0) 0),(.cell u3 (.c 0) 1)]))
def Gu:SE:=(.eql (.sel mA 0) (.c 1))
def bj:SE:=(.snoc u1 (.rcons u0 x55))
def sg:SE:=(rl [u2,u3,u4,(.sel mA 1)])
def GH:SE:=(.rcons (.c 0) (.rcons bj sg))
def Gv:SE:=(.lss ba kR)
def rZ:SE:=(.app 17 (rl [(.c 0),(.cell u3 ba 0),(.cell u3 ba 1)]))
def Gx:SE:=(.eql (.sel rZ 0) (.c 1))
def oE:SE:=(rl [u2,u3,u4,(.sel rZ 1)])
def GJ:SE:=(.rcons (.c 0) (.rcons bj oE))
def Qh:SE:=(.cell u1 ku 1)
def dD:SE:=(.upd u1 ku 1 (.bc true))
def G6:SE:=(.rcons (.c 0) (.rcons dD sg))
def Ha:SE:=(.rcons (.c 0) (.rcons dD oE))
def oG:SE:=(rl [u3,u4,u5])
def HA:SE:=(.rcons (.c 0) (.rcons x36 (.rcons u2 oG)))
def sO:SE:=(rl [u4,u5,u6])
def wN:SE:=(.app 48 (.rcons (.c 0) (.rcons x23 (.rcons u3 sO))))
def tK:SE:=(.app 50 (.rcons (.c 0) Rp))
def Xx:SE:=(rl [u11])
def iQ:SE:=(.app 30 (.rcons (.c 0) (.rcons u0 (.rcons u1 (.rcons u2 (.rcons u3 (.rcons u4 (.rcons u5 (.rcons u6 (.rcons u7 (.rcons u8 (.rcons (.sel tK 1) (.rcons u8 (.rcons u10 (.rcons (.c (-1)) (.rcons (.c (-1)) Xx))))))))))))))))
def gR:SE:=(.app 51 (rl ([(.c 0)]++us 0 9++[(.c 7),u9,(.c (-1))])))
def tl:SE:=(.mIdx [.str] u9 (rl [Ua]))
def Yp:SE:=(.app 51 (.rcons (.c 0) (.rcons u3 (.rcons u4 (.rcons u5 (.rcons u6 (.rcons u7 (.rcons u8 (.rcons u9 (.rcons u10 (.rcons u11 (.rcons (.c 8) (.rcons u0 WX)))))))))))))
def kb:SE:=(.arith .sub .i64 (.lenL (.sel Yp 1)) (.c 1))
def YW:SE:=(.app 51 (rl [(.c 0),u3,u4,u5,u6,u7,u8,u9,u10,u11,(.c 8),u0,(.cell u9 tl 1)]))
def gm:SE:=(.arith .sub .i64 (.lenL (.sel YW 1)) (.c 1))
def nc:SE:=(.app 53 (.rcons (.c 0) (.rcons vC J1)))
def rB:Tr Plf:=(
 .split (.eql (.sel nc 0) (.c 1)) (
 .split (.lss (.sel nc 1) (.c 0)) x38 x37) x4)
def ej:SE:=(.rcons (.c 0) (.rcons u1 J1))
def cX:SE:=(.eql (.sel (.app 27 JY) 0) (.c 1))
def bo:SE:=(.sel (.app 27 JY) 1)
def QX:SE:=(.app 29 JY)
def mZ:SE:=(.app 49 (.rcons (.c 0) (.rcons u0 (.rcons u1 (.rcons u2 (.rcons (.snoc .emptyL (rl [(.sel QX 4)])) x28))))))
def VW:SE:=(rl [(.c (-1)),(.c (-1))])
def rS:SE:=(.rcons (.c (-1)) (.rcons (.c (-1)) (.rcons (.c (-1)) VW)))
def i9:SE:=(rl [x15])
def xR:SE:=(.mIdx [.str] u10 i9)
def oe:Tr Plf:=(
 .leaf (.next 1 ([u0,u1,u2,x17]++us 4 9)))
def cY:SE:=(.lenL u11)
def uH:SE:=(.upd (.snoc u11 (.rcons x15 WX)) cY 1 (.lenL u7))
def uG:SE:=(.upd (.snoc u12 (.rcons x15 WX)) (.lenL u12) 1 (.c 0))
def fM:SE:=(.app 51 (.rcons (.c 0) (.rcons u4 (.rcons u0 (.rcons u5 (.rcons u6 (.rcons u7 (.rcons u8 (.rcons uH (.rcons uG (.rcons u3 (.rcons (.c 3) VW))))))))))))
def pF:SE:=(.mIdx [.str] u11 (rl [u6]))
def xh:SE:=(.lss (.c 0) (.lenL u7))
def Rn:SE:=(.cell u4 u6 1)
def xj:SE:=(.cell u4 u6 9)
def qD:SE:=(.mIdx [.str] u18 (rl [xj]))
def iM:SE:=(.lss qD (.c 0))
def ja:SE:=(.rcons u6 WX)
def gn:SE:=(.app 51 (.rcons (.c 0) (.rcons u7 (.rcons u0 (.rcons u8 (.rcons u9 (.rcons u10 (.rcons u11 (.rcons u18 (.rcons u19 (.rcons u14 (.rcons (.c 5) ja))))))))))))
def NK:SE:=(.arith .add .i64 u6 (.c 1))
def ld:SE:=(rl [u6,(.cell u18 qD 1)])
def gD:SE:=(.app 51 (.rcons (.c 0) (.rcons u7 (.rcons u0 (.rcons u8 (.rcons u9 (.rcons u10 (.rcons u11 (.rcons u18 (.rcons u19 (.rcons u14 (.rcons (.c 5) ld))))))))))))
def jA:SE:=(.app 51 (.rcons (.c 0) (.rcons u7 (.rcons u0 (.rcons u8 (.rcons u9 (.rcons u10 (.rcons u11 (.rcons u18 (.rcons u19 (.rcons u15 (.rcons (.c 6) ja))))))))))))
def iJ:SE:=(.app 51 (.rcons (.c 0) (.rcons u7 (.rcons u0 (.rcons u8 (.rcons u9 (.rcons u10 (.rcons u11 (.rcons u18 (.rcons u19 (.rcons u15 (.rcons (.c 6) ld))))))))))))
def kE:SE:=(.app 51 (.rcons (.c 0) (.rcons u7 (.rcons u0 (.rcons u8 (.rcons u9 (.rcons u10 (.rcons u11 (.rcons u18 (.rcons u19 (.rcons u16 (.rcons (.c 9) ja))))))))))))
def jv:SE:=(.app 51 (.rcons (.c 0) (.rcons u7 (.rcons u0 (.rcons u8 (.rcons u9 (.rcons u10 (.rcons u11 (.rcons u18 (.rcons u19 (.rcons u16 (.rcons (.c 9) ld))))))))))))
def qq:SE:=(.cell u4 u6 0)
def jM:SE:=(.app 52 (rl [(.c 0),u7,u0,u8,u9,u10,u11,u18,u19,u17,u6,qq,Rn,(.cell u4 u6 2),(.cell u4 u6 3),(.cell u4 u6 4),(.cell u4 u6 5),(.cell u4 u6 6),(.cell u4 u6 7),(.cell u4 u6 8),xj,(.cell u4 u6 10),(.cell u4 u6 11),(.cell u4 u6 12),(.cell u4 u6 13),(.cell u4 u6 14)]))
def bx:SE:=(.app 50 (rl [(.c 0),(.c 4)]))
def iw:SE:=(.cell u0 u12 0)
def pb:SE:=(.app 55 (rl [(.c 0),iw,(.cell u0 u12 1),qq]))
def bH:SE:=(.mIdx [.str] u19 (rl [iw]))
def mw:SE:=(.snoc u19 (rl [iw,(.c 1)]))
def iI:SE:=(.app 30 (.rcons (.c 0) (.rcons u7 (.rcons u0 (.rcons u8 (.rcons u9 (.rcons u10 (.rcons u11 (.rcons u18 (.rcons mw (.rcons u12 (.rcons (.sel bx 1) (.rcons u12 (.rcons u6 (.rcons (.c 0) VW)))))))))))))))
def qC:SE:=(.upd u19 bH 1 (.arith .add .i64 (.cell u19 bH 1) (.c 1)))
def kk:SE:=(.app 30 (.rcons (.c 0) (.rcons u7 (.rcons u0 (.rcons u8 (.rcons u9 (.rcons u10 (.rcons u11 (.rcons u18 (.rcons qC (.rcons u12 (.rcons (.sel bx 1) (.rcons u12 (.rcons u6 (.rcons (.cell u19 bH 1) VW)))))))))))))))
def iT:SE:=(.app 30 (.rcons (.c 0) (.rcons u7 (.rcons u0 (.rcons u8 (.rcons u9 (.rcons u10 (.rcons u11 (.rcons u18 (.rcons u19 (.rcons u12 (.rcons (.sel bx 1) (.rcons u12 (.rcons u6 (.rcons (.c (-1)) VW)))))))))))))))
def oJ:Tr Plf:=(
 .split (.eql (.sel iT 0) (.c 1)) (
 .leaf (.next 2 [u0,u1,u2,u3,u4,u5,NK,u7,u8,u9,(.sel iT 1),(.sel iT 2),u12,u13,u14,u15,u16,u17,u18,u19])) x4)
def jj:Tr Plf:=(
 .split (.eql (.sel pb 0) (.c 1)) (
 .split (.sel pb 1) (
 .split (.lss bH (.c 0)) (
 .split (.eql (.sel iI 0) (.c 1)) (
 .leaf (.next 2 [u0,u1,u2,u3,u4,u5,NK,u7,u8,u9,(.sel iI 1),(.sel iI 2),u12,u13,u14,u15,u16,u17,u18,mw])) x4) (
 .split (.eql (.sel kk 0) (.c 1)) (
 .leaf (.next 2 [u0,u1,u2,u3,u4,u5,NK,u7,u8,u9,(.sel kk 1),(.sel kk 2),u12,u13,u14,u15,u16,u17,u18,qC])) x4)) oJ) x4)
def kg:SE:=(.app 51 (.rcons (.c 0) (.rcons u7 (.rcons u0 (.rcons u8 (.rcons u9 (.rcons u10 (.rcons u11 (.rcons u18 (.rcons u19 (.rcons u12 (.rcons (.c 10) VW))))))))))))
def GX:Tr Plf:=(
 .leaf (.done 0 [(.c 0)]))
def vV:SE:=(.arith .shr .i64 u9 (.c 7))
def fX:Tr Plf:=(
 .leaf (.done 0 [(.c 16)]))
def pE:SE:=(.arith .shr .i64 vV (.c 7))
def xO:SE:=(.arith .shr .i64 pE (.c 7))
def my:SE:=(.app 9 (rl [(.c 0),u1]))
def lB:SE:=(.snoc .emptyL (rl [(.neg (.lss (.c 1048576) u10))]))
def rD:SE:=(.app 1 (.rcons (.c 0) (.rcons (.snoc lB (rl [(.neg (.lss (.c 4) cY))])) x29)))
def tR:SE:=(.app 8 (rl [(.c 0),u11,.emptyL]))
def aJ:SE:=(.sel my 1)
def ki:SE:=(.app 11 (.rcons (.c 0) (.rcons (.strc 0 0) (.rcons aJ x91))))
def qj:SE:=(.app 12 (.rcons (.c 0) (.rcons u10 (.rcons u11 (.rcons aJ x28)))))
def vF:Tr Plf:=(
 .split (.eql (.sel (.app 12 (.rcons (.c 0) (.rcons u10 (.rcons u11 (.rcons aJ x55))))) 0) (.c 1)) (
 .split (.eql (.sel qj 0) (.c 1)) (
 .leaf (.done 0 [(.arith .mul .i64 (.c 8) (.sel qj 1))])) x4) x4)
def kx:SE:=(.app 11 (rl [(.c 0),(.strc 0 0),aJ,(.c 0),(.bc false),(.cat .emptyL u11),(.and (.bc false) (.eql cY (.c 0)))]))
def lX:SE:=(.app 1 (.rcons (.c 0) (.rcons (.snoc lB x28) x29)))
def aI:SE:=(.arith .sub .i64 u5 (.c 8))
def f5:SE:=(.lss (.c 0) aI)
def XG:Tr Plf:=(
 .split f5 (
 .leaf (.done 0 [(.arith .add .i64 (.c 0) aI)])) GX)
def rn:SE:=(.lss (.c 335544320) u18)
def wA:SE:=(.arith .sub .i64 (.arith .mul .i64 (.arith .quo .i64 (.arith .sub .i64 (.arith .add .i64 u18 u5) (.c 1)) u5) u5) u18)
def vL:Tr Plf:=(
 .split (.lss u18 (.c 0)) XG (
 .split rn XG (
 .split f5 (
 .leaf (.done 0 [(.arith .add .i64 wA aI)])) (
 .leaf (.done 0 [(.arith .add .i64 wA (.c 0))])))))
def rX:SE:=(.arith .sub .i64 (.arith .mul .i64 (.arith .quo .i64 (.arith .sub .i64 (.arith .add .i64 u18 (.c 8)) (.c 1)) (.c 8)) (.c 8)) u18)
def ik:SE:=(.arith .sub .i64 u16 (.c 1))
def nL:SE:=(.app 22 (.rcons (.c 0) oG))
def l6:SE:=(.cell u1 u6 0)
def uc:SE:=(.cell u1 u6 1)
def oR:SE:=(.cell u1 u6 2)
def uQ:SE:=(.cell u1 u6 3)
def nK:SE:=(.cell u1 u6 4)
def oC:SE:=(.cell u1 u6 5)
def rT:SE:=(.cell u1 u6 6)
def nu:SE:=(.cell u1 u6 7)
def mD:SE:=(.cell u1 u6 8)
def qu:SE:=(.cell u1 u6 9)
def wF:SE:=(.cell u1 u6 10)
def sP:SE:=(.cell u1 u6 11)
def lP:SE:=(.cell u1 u6 12)
def uh:SE:=(.cell u1 u6 13)
def wZ:SE:=(.cell u1 u6 14)
def lG:SE:=(.app 59 (.rcons (.c 0) (.rcons u0 (.rcons u1 (.rcons u2 (.rcons l6 (.rcons uc (.rcons oR (.rcons uQ (.rcons nK (.rcons oC (.rcons rT (.rcons nu (.rcons mD (.rcons qu (.rcons wF (.rcons sP (.rcons lP (.rcons uh (.rcons wZ WX))))))))))))))))))))
def rA:SE:=(.arith .sub .i64 (.arith .quo .i64 (.arith .sub .i64 (.arith .add .i64 (.arith .add .i64 (.c 0) (.sel lG 1)) (.c 8)) (.c 1)) (.c 8)) (.c 1))
def fK:Tr Plf:=(
 .split (.lss u6 x0) (
 .split (.eql (.sel lG 0) (.c 1)) (
 .split (.lss (.c 0) rA) (
 .leaf (.done 0 [rA])) GX) x4) x4)
def gV:Tr Plf:=(
 .split x84 x4 fK)
def uw:SE:=(.cell u4 u2 1)
def cB:SE:=(.app 23 (rl [(.c 0),u6,(.c 0),uw]))
def xP:SE:=(.app 59 (rl [(.c 0),u0,u1,u2,l6,uc,oR,uQ,nK,oC,rT,nu,mD,qu,wF,sP,lP,uh,wZ,(.sel cB 1)]))
def wP:SE:=(.arith .sub .i64 (.arith .quo .i64 (.arith .sub .i64 (.arith .add .i64 (.arith .add .i64 (.sel cB 1) (.sel xP 1)) (.c 8)) (.c 1)) (.c 8)) (.c 1))
def jQ:SE:=(.app 60 (.rcons (.c 0) (.rcons u3 (.rcons u4 (.rcons u5 (.rcons u6 (.rcons u7 (.rcons u8 J1))))))))
def f4:SE:=(.app 61 (.rcons (.c 0) (.rcons x74 (.rcons x72 (.rcons x74 (.rcons u2 sO))))))
def qo:SE:=(.mIdx [.str] u7 (rl [u8]))
def aD:SE:=(.app 63 (.rcons (.c 0) (.rcons u2 (.rcons u3 (.rcons u4 (.rcons u5 (.rcons u6 (.rcons u7 (.rcons u8 (.rcons u9 x49))))))))))
def NM:SE:=(.eql (.sel aD 0) (.c 1))
def Nx:SE:=(.eql (.sel aD 2) (.c 0))
def uB:SE:=(.app 17 (.rcons (.c 0) mr))
def Po:SE:=(.eql (.sel uB 0) (.c 1))
def uD:SE:=(rl [(.c 0),(.sel uB 1)])
def vN:SE:=(.app 64 (.rcons (.c 0) (.rcons .emptyL uD)))
def tj:SE:=(.arith .add .i64 (.sel aD 1) (.sel vN 1))
def pp:SE:=(.app 64 (.rcons (.c 0) (.rcons u10 uD)))
def RQ:SE:=(.eql (.sel pp 0) (.c 1))
def tI:SE:=(.arith .add .i64 (.sel aD 1) (.sel pp 1))
def R5:SE:=(.snoc u10 (rl [x36,tI]))
def Q1:SE:=(.upd u10 iB 1 tI)
def P1:Tr Plf:=(
 .leaf (.done 0 [u10]))
def Gw:SE:=(.app 56 JY)
def qw:SE:=(.eql (.sel Gw 0) (.c 1))
def uI:SE:=(.eql (.sel (.app 58 JY) 0) (.c 1))
def dH:SE:=(.eql (.sel (.app 28 ej) 0) (.c 1))
def au:SE:=(.sel (.app 28 ej) 1)
def bB:SE:=(.lss au (.c 0))
def oU:SE:=(.app 62 (.rcons (.c 0) (.rcons u1 (.rcons .emptyL jN))))
def fT:SE:=(.eql (.sel oU 0) (.c 1))
def xE:SE:=(.mIdx [.str] .emptyL J1)
def gA:SE:=(.lss xE (.c 0))
def WZ:SE:=(.sel oU 1)
def jp:SE:=(.cell .emptyL xE 1)
def QQ:Tr Plf:=(
 .split fT (
 .split gA (
 .leaf (.done 0 [WZ,(.c 0),(.c 0),(.c 0)])) (
 .leaf (.done 0 [WZ,(.c 0),jp,(.c 0)]))) x4)
def dA:SE:=(.sel Sd 12)
def jR:SE:=(.mIdx [.str] dA (rl [gr]))
def cP:SE:=(.cell dA jR 1)
def cI:SE:=(.lss au x0)
def jh:SE:=(.mIdx [.str] dA (rl [(.cell u1 au 0)]))
def dk:SE:=(.cell dA jh 1)
def od:SE:=(.eql (.sel Gw 0) (.c 2))
def px:SE:=(.app 65 (rl [(.c 0),u0,u1,u2,(.sel Gw 1),(.sel Gw 2),(.sel Gw 3),(.sel Gw 4),(.sel Gw 5),(.sel Gw 6),(.sel Gw 7),(.sel Gw 8)]))
def vu:SE:=(.eql (.sel px 0) (.c 1))
def ZT:SE:=(.sel px 1)
def lT:SE:=(.app 62 (.rcons (.c 0) (.rcons u1 (.rcons ZT jN))))
def j5:SE:=(.eql (.sel lT 0) (.c 1))
def iR:SE:=(.lss (.mIdx [.str] ZT J1) (.c 0))
def Wg:SE:=(.sel lT 1)
def kT:SE:=(.cell ZT (.mIdx [.str] ZT J1) 1)
def QF:Tr Plf:=(
 .split j5 (
 .split iR (
 .leaf (.done 0 [Wg,(.c 0),(.c 0),(.c 0)])) (
 .leaf (.done 0 [Wg,(.c 0),kT,(.c 0)]))) x4)
def ko:Tr Plf:=(
 .leaf (.next 1 [u0,x9,u2,u3,u4]))
def nf:Tr Plf:=(
 .leaf (.done 0 [.nilL,(.bc true),(.c 0)]))
def Wt:Tr Plf:=(
 .leaf (.done 0 [(.snoc .emptyL J1),(.bc false),(.c 0)]))
def vi:Tr Plf:=(
 .split (.eql (.sel (.app 57 (.rcons (.c 0) J1)) 0) (.c 1)) Wt x4)
def kW:SE:=(.app 63 (.rcons (.c 0) (.rcons u3 (.rcons u4 (.rcons u5 (.rcons u6 (.rcons u7 (.rcons u8 (.rcons u9 (.rcons u10 J1))))))))))
def sa:SE:=(.eql (.sel kW 0) (.c 1))
def jz:SE:=(.mIdx [.str] u11 J1)
def dF:SE:=(.arith .sub .i64 (.c 0) (.sel kW 1))
def nT:SE:=(.app 17 (.rcons (.c 0) (.rcons gr xH)))
def Gq:SE:=(.eql (.sel nT 0) (.c 1))
def Gp:SE:=(rl [(.sel nT 1)])
def jV:SE:=(.app 67 (.rcons (.c 0) (.rcons u11 (.rcons (.strc 0 0) (.rcons dF Gp)))))
def bM:Tr Plf:=(
 .leaf (.next 3 [u0,u1,u2,u3,u4,u5,u6,u7,u8,(.strc 0 0),u9,u10,u11]))
def bX:SE:=(.arith .sub .i64 (.cell u11 jz 1) (.sel kW 1))
def iX:SE:=(.app 67 (.rcons (.c 0) (.rcons u11 (.rcons (.strc 0 0) (.rcons bX Gp)))))
def wl:SE:=(.app 17 (rl [(.c 0),(.cell u1 au 0),(.cell u1 au 1)]))
def xB:SE:=(.eql (.sel wl 0) (.c 1))
def qt:SE:=(rl [(.sel wl 1)])
def gi:SE:=(.app 67 (.rcons (.c 0) (.rcons u11 (.rcons (.strc 0 0) (.rcons dF qt)))))
def kO:SE:=(.app 67 (.rcons (.c 0) (.rcons u11 (.rcons (.strc 0 0) (.rcons bX qt)))))
def mG:SE:=(.app 28 (.rcons (.c 0) (.rcons u1 Rp)))
def Y0:SE:=(.sel mG 1)
def iz:SE:=(.app 63 (.rcons (.c 0) (.rcons u3 (.rcons u4 (.rcons u5 (.rcons u6 (.rcons u7 (.rcons u8 (.rcons u10 (.rcons u11 Rp))))))))))
def nZ:SE:=(.eql (.sel iz 0) (.c 1))
def kz:SE:=(.mIdx [.str] u12 Rp)
def bi:SE:=(.arith .sub .i64 (.c 0) (.sel iz 1))
def kS:SE:=(.snoc (.snoc .emptyL J1) Rp)
def Xz:Tr Plf:=(
 .leaf (.done 0 [kS,(.bc false),(.c 0)]))
def ig:SE:=(.app 67 (.rcons (.c 0) (.rcons u12 (.rcons (.strc 0 0) (.rcons bi Gp)))))
def dc:Tr Plf:=(
 .leaf (.next 4 [u0,u1,u2,u3,u4,u5,u6,u7,u8,u9,(.strc 0 0),u10,u11,u12]))
def bO:SE:=(.arith .sub .i64 (.cell u12 kz 1) (.sel iz 1))
def kN:SE:=(.app 67 (.rcons (.c 0) (.rcons u12 (.rcons (.strc 0 0) (.rcons bO Gp)))))
def tL:SE:=(.app 17 (rl [(.c 0),(.cell u1 Y0 0),(.cell u1 Y0 1)]))
def na:SE:=(.eql (.sel tL 0) (.c 1))
def xw:SE:=(rl [(.sel tL 1)])
def j2:SE:=(.app 67 (.rcons (.c 0) (.rcons u12 (.rcons (.strc 0 0) (.rcons bi xw)))))
def lw:SE:=(.app 67 (.rcons (.c 0) (.rcons u12 (.rcons (.strc 0 0) (.rcons bO xw)))))
def Y6:SE:=(rl [u10])
def ow:SE:=(.app 28 (.rcons (.c 0) (.rcons u1 Y6)))
def ZV:SE:=(.sel ow 1)
def jx:SE:=(.app 63 (.rcons (.c 0) (.rcons u3 (.rcons u4 (.rcons u5 (.rcons u6 (.rcons u7 (.rcons u8 (.rcons u11 (.rcons u12 Y6))))))))))
def wp:SE:=(.eql (.sel jx 0) (.c 1))
def fS:SE:=(.mIdx [.str] u13 Y6)
def dK:SE:=(.arith .sub .i64 (.c 0) (.sel jx 1))
def aa:Tr Plf:=(
 .leaf (.done 0 [(.snoc kS Y6),(.bc false),(.c 0)]))
def kY:SE:=(.app 67 (.rcons (.c 0) (.rcons u13 (.rcons (.strc 0 0) (.rcons dK Gp)))))
def cr:Tr Plf:=(
 .leaf (.next 5 [u0,u1,u2,u3,u4,u5,u6,u7,u8,u9,u10,(.strc 0 0),u11,u12,u13]))
def aC:SE:=(.arith .sub .i64 (.cell u13 fS 1) (.sel jx 1))
def iO:SE:=(.app 67 (.rcons (.c 0) (.rcons u13 (.rcons (.strc 0 0) (.rcons aC Gp)))))
def pR:SE:=(.app 17 (rl [(.c 0),(.cell u1 ZV 0),(.cell u1 ZV 1)]))
def vG:SE:=(.eql (.sel pR 0) (.c 1))
def uk:SE:=(rl [(.sel pR 1)])
def iD:SE:=(.app 67 (.rcons (.c 0) (.rcons u13 (.rcons (.strc 0 0) (.rcons dK uk)))))
def jI:SE:=(.app 67 (.rcons (.c 0) (.rcons u13 (.rcons (.strc 0 0) (.rcons aC uk)))))
def tT:SE:=(.app 28 (.rcons (.c 0) (.rcons u1 Xx)))
def Z5:SE:=(.sel tT 1)
def jW:SE:=(.app 63 (.rcons (.c 0) (.rcons u3 (.rcons u4 (.rcons u5 (.rcons u6 (.rcons u7 (.rcons u8 (.rcons u12 (.rcons u13 Xx))))))))))
def xN:SE:=(.eql (.sel jW 0) (.c 1))
def gL:SE:=(.mIdx [.str] u14 Xx)
def dT:SE:=(.arith .sub .i64 (.c 0) (.sel jW 1))
def je:SE:=(.snoc (.snoc kS Y6) Xx)
def YU:Tr Plf:=(
 .leaf (.done 0 [je,(.bc false),(.c 0)]))
def lm:SE:=(.app 67 (.rcons (.c 0) (.rcons u14 (.rcons (.strc 0 0) (.rcons dT Gp)))))
def db:Tr Plf:=(
 .leaf (.next 6 [u0,u1,u2,u3,u4,u5,u6,u7,u8,u9,u10,u11,(.strc 0 0),u12,u13,u14]))
def bN:SE:=(.arith .sub .i64 (.cell u14 gL 1) (.sel jW 1))
def ir:SE:=(.app 67 (.rcons (.c 0) (.rcons u14 (.rcons (.strc 0 0) (.rcons bN Gp)))))
def qL:SE:=(.app 17 (rl [(.c 0),(.cell u1 Z5 0),(.cell u1 Z5 1)]))
def wJ:SE:=(.eql (.sel qL 0) (.c 1))
def sx:SE:=(rl [(.sel qL 1)])
def lh:SE:=(.app 67 (.rcons (.c 0) (.rcons u14 (.rcons (.strc 0 0) (.rcons dT sx)))))
def iC:SE:=(.app 67 (.rcons (.c 0) (.rcons u14 (.rcons (.strc 0 0) (.rcons bN sx)))))
def aq:SE:=(rl [u12])
def tX:SE:=(.app 28 (.rcons (.c 0) (.rcons u1 aq)))
def Xn:SE:=(.sel tX 1)
def lz:SE:=(.app 63 (.rcons (.c 0) (.rcons u3 (.rcons u4 (.rcons u5 (.rcons u6 (.rcons u7 (.rcons u8 (.rcons u13 (.rcons u14 aq))))))))))
def rG:SE:=(.eql (.sel lz 0) (.c 1))
def kL:SE:=(.mIdx [.str] u15 aq)
def ce:SE:=(.arith .sub .i64 (.c 0) (.sel lz 1))
def ai:Tr Plf:=(
 .leaf (.done 0 [(.snoc je aq),(.bc false),(.c 0)]))
def ly:SE:=(.app 67 (.rcons (.c 0) (.rcons u15 (.rcons (.strc 0 0) (.rcons ce Gp)))))
def bQ:Tr Plf:=(
 .leaf (.next 7 [u0,u1,u2,u3,u4,u5,u6,u7,u8,u9,u10,u11,u12,(.strc 0 0),u13,u14,u15]))
def dS:SE:=(.arith .sub .i64 (.cell u15 kL 1) (.sel lz 1))
def im:SE:=(.app 67 (.rcons (.c 0) (.rcons u15 (.rcons (.strc 0 0) (.rcons dS Gp)))))
def tv:SE:=(.app 17 (rl [(.c 0),(.cell u1 Xn 0),(.cell u1 Xn 1)]))
def mP:SE:=(.eql (.sel tv 0) (.c 1))
def rH:SE:=(rl [(.sel tv 1)])
def hJ:SE:=(.app 67 (.rcons (.c 0) (.rcons u15 (.rcons (.strc 0 0) (.rcons ce rH)))))
def kM:SE:=(.app 67 (.rcons (.c 0) (.rcons u15 (.rcons (.strc 0 0) (.rcons dS rH)))))
def cJ:SE:=(rl [u13])
def oh:SE:=(.app 28 (.rcons (.c 0) (.rcons u1 cJ)))
def Ye:SE:=(.sel oh 1)
def ga:SE:=(.app 63 (.rcons (.c 0) (.rcons u3 (.rcons u4 (.rcons u5 (.rcons u6 (.rcons u7 (.rcons u8 (.rcons u14 (.rcons u15 cJ))))))))))
def mM:SE:=(.eql (.sel ga 0) (.c 1))
def li:SE:=(.mIdx [.str] u16 cJ)
def dw:SE:=(.arith .sub .i64 (.c 0) (.sel ga 1))
def fN:SE:=(.snoc (.snoc je aq) cJ)
def Z9:Tr Plf:=(
 .leaf (.done 0 [fN,(.bc false),(.c 0)]))
def jw:SE:=(.app 67 (.rcons (.c 0) (.rcons u16 (.rcons (.strc 0 0) (.rcons dw Gp)))))
def aM:Tr Plf:=(
 .leaf (.next 8 [u0,u1,u2,u3,u4,u5,u6,u7,u8,u9,u10,u11,u12,u13,(.strc 0 0),u14,u15,u16]))
def dg:SE:=(.arith .sub .i64 (.cell u16 li 1) (.sel ga 1))
def jc:SE:=(.app 67 (.rcons (.c 0) (.rcons u16 (.rcons (.strc 0 0) (.rcons dg Gp)))))
def mK:SE:=(.app 17 (rl [(.c 0),(.cell u1 Ye 0),(.cell u1 Ye 1)]))
def ra:SE:=(.eql (.sel mK 0) (.c 1))
def pO:SE:=(rl [(.sel mK 1)])
def gZ:SE:=(.app 67 (.rcons (.c 0) (.rcons u16 (.rcons (.strc 0 0) (.rcons dw pO)))))
def kj:SE:=(.app 67 (.rcons (.c 0) (.rcons u16 (.rcons (.strc 0 0) (.rcons dg pO)))))
def sc:SE:=(.app 28 (.rcons (.c 0) (.rcons u1 Ri)))
def Y5:SE:=(.sel sc 1)
def hU:SE:=(.app 63 (.rcons (.c 0) (.rcons u3 (.rcons u4 (.rcons u5 (.rcons u6 (.rcons u7 (.rcons u8 (.rcons u15 (.rcons u16 Ri))))))))))
def su:SE:=(.eql (.sel hU 0) (.c 1))
def gv:SE:=(.mIdx [.str] u17 Ri)
def aF:SE:=(.arith .sub .i64 (.c 0) (.sel hU 1))
def Zk:Tr Plf:=(
 .leaf (.done 0 [(.snoc fN Ri),(.bc false),(.c 0)]))
def gX:SE:=(.app 67 (.rcons (.c 0) (.rcons u17 (.rcons (.strc 0 0) (.rcons aF Gp)))))
def dB:Tr Plf:=(
 .leaf (.next 9 [u0,u1,u2,u3,u4,u5,u6,u7,u8,u9,u10,u11,u12,u13,u14,(.strc 0 0),u15,u16,u17]))
def bP:SE:=(.arith .sub .i64 (.cell u17 gv 1) (.sel hU 1))
def iK:SE:=(.app 67 (.rcons (.c 0) (.rcons u17 (.rcons (.strc 0 0) (.rcons bP Gp)))))
def lD:SE:=(.app 17 (rl [(.c 0),(.cell u1 Y5 0),(.cell u1 Y5 1)]))
def nR:SE:=(.eql (.sel lD 0) (.c 1))
def uP:SE:=(rl [(.sel lD 1)])
def ii:SE:=(.app 67 (.rcons (.c 0) (.rcons u17 (.rcons (.strc 0 0) (.rcons aF uP)))))
def lr:SE:=(.app 67 (.rcons (.c 0) (.rcons u17 (.rcons (.strc 0 0) (.rcons bP uP)))))
def mW:SE:=(.app 28 (.rcons (.c 0) (.rcons u1 W2)))
def Xw:SE:=(.sel mW 1)
def gF:SE:=(.app 63 (.rcons (.c 0) (.rcons u3 (.rcons u4 (.rcons u5 (.rcons u6 (.rcons u7 (.rcons u8 (.rcons u16 (.rcons u17 W2))))))))))
def rP:SE:=(.eql (.sel gF 0) (.c 1))
def jP:SE:=(.mIdx [.str] u18 W2)
def cO:SE:=(.arith .sub .i64 (.c 0) (.sel gF 1))
def kZ:SE:=(.snoc (.snoc fN Ri) W2)
def YJ:Tr Plf:=(
 .leaf (.done 0 [kZ,(.bc false),(.c 0)]))
def gt:SE:=(.app 67 (.rcons (.c 0) (.rcons u18 (.rcons (.strc 0 0) (.rcons cO Gp)))))
def cV:Tr Plf:=(
 .leaf (.next 10 [u0,u1,u2,u3,u4,u5,u6,u7,u8,u9,u10,u11,u12,u13,u14,u15,(.strc 0 0),u16,u17,u18]))
def cZ:SE:=(.arith .sub .i64 (.cell u18 jP 1) (.sel gF 1))
def jO:SE:=(.app 67 (.rcons (.c 0) (.rcons u18 (.rcons (.strc 0 0) (.rcons cZ Gp)))))
def s9:SE:=(.app 17 (rl [(.c 0),(.cell u1 Xw 0),(.cell u1 Xw 1)]))
def oX:SE:=(.eql (.sel s9 0) (.c 1))
def ug:SE:=(rl [(.sel s9 1)])
def jr:SE:=(.app 67 (.rcons (.c 0) (.rcons u18 (.rcons (.strc 0 0) (.rcons cO ug)))))
def j0:SE:=(.app 67 (.rcons (.c 0) (.rcons u18 (.rcons (.strc 0 0) (.rcons cZ ug)))))
def Y1:SE:=(rl [u16])
def nF:SE:=(.app 28 (.rcons (.c 0) (.rcons u1 Y1)))
def XC:SE:=(.sel nF 1)
def iU:SE:=(.app 63 (.rcons (.c 0) (.rcons u3 (.rcons u4 (.rcons u5 (.rcons u6 (.rcons u7 (.rcons u8 (.rcons u17 (.rcons u18 Y1))))))))))
def qA:SE:=(.eql (.sel iU 0) (.c 1))
def gB:SE:=(.mIdx [.str] u19 Y1)
def bp:SE:=(.arith .sub .i64 (.c 0) (.sel iU 1))
def XS:Tr Plf:=(
 .leaf (.done 0 [(.snoc kZ Y1),(.bc false),(.c 0)]))
def gS:SE:=(.app 67 (.rcons (.c 0) (.rcons u19 (.rcons (.strc 0 0) (.rcons bp Gp)))))
def cK:Tr Plf:=(
 .leaf (.next 11 [u0,u1,u2,u3,u4,u5,u6,u7,u8,u9,u10,u11,u12,u13,u14,u15,u16,(.strc 0 0),u17,u18,u19]))
def bD:SE:=(.arith .sub .i64 (.cell u19 gB 1) (.sel iU 1))
def iY:SE:=(.app 67 (.rcons (.c 0) (.rcons u19 (.rcons (.strc 0 0) (.rcons bD Gp)))))
def tw:SE:=(.app 17 (rl [(.c 0),(.cell u1 XC 0),(.cell u1 XC 1)]))
def pQ:SE:=(.eql (.sel tw 0) (.c 1))
def wX:SE:=(rl [(.sel tw 1)])
def i4:SE:=(.app 67 (.rcons (.c 0) (.rcons u19 (.rcons (.strc 0 0) (.rcons bp wX)))))
def kK:SE:=(.app 67 (.rcons (.c 0) (.rcons u19 (.rcons (.strc 0 0) (.rcons bD wX)))))
def cC:SE:=(rl [u17])
def rQ:SE:=(.app 28 (.rcons (.c 0) (.rcons u1 cC)))
def fG:SE:=(.app 63 (.rcons (.c 0) (.rcons u3 (.rcons u4 (.rcons u5 (.rcons u6 (.rcons u7 (.rcons u8 (.rcons u18 (.rcons u19 cC))))))))))
def ui:SE:=(.mIdx [.str] u20 cC)
def mj:Tr Plf:=(
 .leaf (.done 0 [(.snoc (.snoc kZ Y1) cC),(.bc false),(.c 0)]))
def oI:Tr Plf:=(
 .split (.eql (.sel fG 0) (.c 1)) (
 .split (.lss ui (.c 0)) (
 .split (.eql (.arith .sub .i64 (.c 0) (.sel fG 1)) (.c 0)) mj x4) (
 .split (.eql (.arith .sub .i64 (.cell u20 ui 1) (.sel fG 1)) (.c 0)) mj x4)) x4)
def sH:SE:=(.strc 7 32199646649677158)
def mV:SE:=(.app 28 (rl [(.c 0),u1,sH]))
def jS:SE:=(.arith .rem .i64 (.conv .i64 u3) x0)
def Zw:SE:=(.app 66 JY)
def rm:SE:=(.rcons (.c 0) (.rcons u0 (.rcons (.nilIs (.snoc jt (rl [sH,(.cell u1 jS 1)])) (.and (.and (.bc false) (.eql x0 (.c 0))) (.eql (.c 1) (.c 0)))) J1)))
def XQ:SE:=(.app 66 rm)
def cq:SE:=(.app 68 JY)
def aH:SE:=(.app 68 rm)
def vq:SE:=(.app 69 (rl [(.c 0),(.sel cq 1),(.sel cq 2),(.sel aH 1),(.sel aH 2)]))
def yQ:Tr Plf:=
 .split (.lss (.c 9) x0) x1 (
 .split (.lss (.c 100) x2) x1 (
 .split (.lss (.c 100) (.lenS u2)) x1 (
 .leaf (.next 1 [(.c 0),u0,u1,u2]))))
def yL:Tr Plf:=
 .split (.lss u0 x3) (
 .split (.lss u0 (.c 0)) x4 (
 .split (.lss (.c 16) (.lenL x5)) x1 (
 .split (.lss (.c 100) (.lenS x6)) x1 (
 .leaf (.next 2 [u0,(.c 0),u1,u2,u3,x6,x5]))))) x7
def zd:Tr Plf:=
 .split (.lss u1 (.lenL u6)) (
 .split x8 x4 (
 .split (.lss (.c 100) (.lenS (.cell u6 u1 0))) x1 (
 .split (.lss (.c 10) (.lenL (.cell u6 u1 12))) x1 (
 .split (.lss (.c 6) (.lenL (.cell u6 u1 8))) x1 (
 .leaf (.next 2 ([u0,x9]++us 2 5))))))) (
 .leaf (.next 1 [x10,u2,u3,u4]))
def t0:List (Tr Plf):=[yQ,yL,zd]
def yn:Tr Plf:=
 .leaf x11
def zr:Tr Plf:=
 .split x13 (
 .split x14 x4 (
 .split u2 (
 .split x15 x16 x18) (
 .split x15 x18 x16))) x19
def t1:List (Tr Plf):=[yn,zr]
def yl:Tr Plf:=
 .leaf x20
def yb:Tr Plf:=
 .split x21 (
 .split x22 x4 (
 .split (.lss x24 (.c 65)) (
 .split (.lss x24 (.c 48)) x25 (
 .split (.lss (.c 57) x24) x25 x27)) (
 .split (.lss (.c 90) x24) (
 .split (.lss x24 (.c 97)) (
 .split (.eql x24 (.c 95)) x27 x25) (
 .split (.lss (.c 122) x24) x25 x27)) x27))) x19
def t2:List (Tr Plf):=[yl,yb]
def zg:Tr Plf:=
 .split (.eql (.sel x30 0) (.c 1)) (
 .split (.lss (.sel x30 1) (.c 0)) (
 .split (.lss (.c 0) x2) (
 .split (.lss x31 (.c 65)) x1 (
 .split (.lss (.c 90) x31) (
 .split (.lss x31 (.c 97)) x1 (
 .split (.lss (.c 122) x31) x1 x33)) x33)) x4) x1) x4
def t3:List (Tr Plf):=[zg]
def yH:Tr Plf:=
 .leaf x34
def yN:Tr Plf:=
 .split x35 x39 x19
def t4:List (Tr Plf):=[yH,yN]
def zl:Tr Plf:=
 .split (.eql x12 x0) (
 .leaf x11) x1
def yF:Tr Plf:=
 .split x13 (
 .split x14 x4 (
 .split (.lss u3 x0) (
 .split (.and (.eqSS x15 x40) x42) x18 x1) x4)) x7
def t5:List (Tr Plf):=[zl,yF]
def yR:Tr Plf:=
 .split (.eql x12 x0) (
 .leaf x11) x1
def yW:Tr Plf:=
 .split x13 (
 .split x14 x4 (
 .split (.lss u3 x0) (
 .split (.and (.eql x15 x40) (.and x42 (.eqSS (.cell u0 u3 2) (.cell u1 u3 2)))) x18 x1) x4)) x7
def t6:List (Tr Plf):=[yR,yW]
def yx:Tr Plf:=
 .leaf (.next 1 [u9,u10,u11,u12,(.c 0),u0,u1,u2,u5,u6,u7,u8,u3,u4])
def yj:Tr Plf:=
 .split x43 (
 .split x44 x4 (
 .split (.lss x45 u0) x46 (
 .split (.lss u1 x45) x46 (
 .leaf (.next 1 ([x45,u1,u2,u3,x47]++us 5 9)))))) x48
def t7:List (Tr Plf):=[yx,yj]
def yO:Tr Plf:=
 .leaf x34
def yM:Tr Plf:=
 .split x35 (
 .split x8 x4 (
 .split x51 (
 .split (.eql (.sel x52 0) (.c 1)) (
 .split (.lss x53 (.c (-1048576))) (
 .split (.eql (.sel x56 0) (.c 1)) (
 .split (.lss (.sel x56 1) (.c 0)) x58 x59) x4) (
 .split (.eql (.sel x60 0) (.c 1)) (
 .split (.lss (.sel x60 1) (.c 0)) x58 x59) x4)) x4) (
 .split x61 x63 (
 .split (.eql (.sel x52 0) (.c 1)) (
 .split (.lss x53 (.c (-1048576))) (
 .split (.eql (.sel x56 0) (.c 1)) (
 .split (.lss (.sel x56 1) (.c 0)) x64 x63) x4) (
 .split (.eql (.sel x60 0) (.c 1)) (
 .split (.lss (.sel x60 1) (.c 0)) x64 x63) x4)) x4)))) (
 .leaf (.done 0 [(.c (-1)),u2]))
def t8:List (Tr Plf):=[yO,yM]
def zn:Tr Plf:=
 .leaf (.next 1 [u0,(.c 0),.emptyL])
def yK:Tr Plf:=
 .split x35 (
 .split x8 x4 (
 .split (.eql x53 (.c 1)) x67 (
 .split (.eql x53 (.c 2)) (
 .split x51 (
 .leaf (.next 1 [u0,x9,(.snoc u2 (rl [x36,x65,x65]))])) (
 .leaf (.next 1 [u0,x9,(.upd (.upd u2 x50 1 x65) x50 2 x65)]))) (
 .split (.eql x53 (.c 3)) x67 x38)))) x25
def t9:List (Tr Plf):=[zn,yK]
def lH:Tr Plf:=
 .leaf (.next 1 [u10,u11,(.c 0),u0,u1,u2,u5,u6,u7,u8,u3,u4,u9])
def uZ:Tr Plf:=
 .split x21 (
 .split x22 x4 (
 .split (.lss (.mIdx [.str] u12 (rl [x23])) (.c 0)) (
 .leaf (.done 0 [u6,u7])) (
 .leaf (.next 1 ([u0,u1,x26]++us 3 10))))) x48
def t10:List (Tr Plf):=[lH,uZ]
def lW:Tr Plf:=
 .leaf (.next 1 [u4,u5,(.c 0),u0,u1,u2,u3])
def me:Tr Plf:=
 .split x21 (
 .split x22 x4 (
 .split (.lss x68 (.c 0)) (
 .split (.eqSS x23 u3) x69 (
 .leaf (.next 1 [u0,u1,x26,u3,u4,u5,(.bc true)]))) (
 .split (.eqSS x23 u3) x69 (
 .split (.eql (.sel x70 0) (.c 1)) (
 .split (.lss (.sel x70 1) (.c 0)) x69 (
 .leaf (.done 0 [u6]))) x4)))) (
 .leaf (.done 1 [u6]))
def t11:List (Tr Plf):=[lW,me]
def wB:Tr Plf:=
 .leaf (.next 1 [u0,u1,(.c 0),u2,u3])
def vE:Tr Plf:=
 .split x71 (
 .split x22 x4 (
 .split (.lss x73 (.c 0)) (
 .split u4 (
 .split x75 x76 x76) (
 .split x75 x76 x76)) (
 .split u4 (
 .split x75 x77 x78) (
 .split x75 x78 x77)))) x79
def t12:List (Tr Plf):=[wB,vE]
def vB:Tr Plf:=
 .split (.lss u16 (.c (-1048576))) x80 (
 .split (.eql (.sel x82 0) (.c 1)) (
 .split (.lss (.sel x82 1) (.c 0)) (
 .split (.eql (.sel x83 0) (.c 1)) (
 .split (.lss (.sel x83 1) (.c 0)) (
 .split x84 x4 (
 .split x86 x4 (
 .split (.eql (.sel x88 0) (.c 1)) (
 .split (.isNil u17) (
 .split (.eql (.sel x90 0) (.c 1)) (
 .leaf (.done 0 [(.sel x90 1),(.sel x90 2),(.c 8)])) (
 .split (.eql (.sel x90 0) (.c 2)) (
 .split (.eql (.sel x92 0) (.c 1)) x80 (
 .split (.eql (.sel x92 0) (.c 2)) (
 .split (.sel x92 1) x80 x95) x4)) x4)) (
 .split (.lss x81 (.c 1048576)) (
 .split (.eql x97 (.c 1)) (
 .leaf (.done 0 [(.sel x98 1),(.sel x98 2),(.c 8)])) (
 .split (.eql x97 (.c 2)) (
 .split (.eql (.sel x99 0) (.c 1)) x80 (
 .split (.eql (.sel x99 0) (.c 2)) (
 .split (.sel x99 1) x80 x95) x4)) x4)) x4)) x4))) x80) x4) x80) x4)
def t13:List (Tr Plf):=[vB]
def qQ:Tr Plf:=
 .leaf (.next 1 ([u0,(.c 0)]++us 1 15))
def wD:Tr Plf:=
 .split x35 (
 .split x8 x4 (
 .split lq (
 .split (.eqSS jX u12) x37 qH) qH)) x19
def t14:List (Tr Plf):=[qQ,wD]
def oi:Tr Plf:=
 .split x84 x4 (
 .split x86 x4 (
 .split (.eql (.sel x88 0) (.c 1)) (
 .split (.lss kC (.c 0)) (
 .split wo T5 x4) (
 .split wo (
 .split (.lss (.sel sI 1) (.c 0)) (
 .split (.lss (.lenL u21) (.c 1)) xY (
 .split (.lss (.c 40) (.lenL u21)) xY (
 .leaf (.next 1 [mI,u21,(.c 0),u0,u1,u2,u5,u6,u7,u8,u3,u4,mI,(.cell (.sel x88 1) kC 2)])))) T5) x4)) x4))
def pG:Tr Plf:=
 .split x71 (
 .split x22 x4 (
 .split (.eql (.sel cA 0) (.c 1)) (
 .leaf (.done 0 [(.sel cA 1),(.sel cA 2),(.c 7)])) (
 .split (.eql (.sel cA 0) (.c 2)) (
 .split (.lss (.mIdx [.str] u10 (rl [Ua])) (.c 0)) (
 .leaf (.done 0 [u6,u7,(.c 8)])) (
 .leaf (.next 1 [(.arith .add .i64 x74 (.c 1)),u1,x26,u3,u4,u5,u6,u7,u8,u9,u10,u11,u12,u13]))) x4))) x48
def t15:List (Tr Plf):=[oi,pG]
def vU:Tr Plf:=
 .split ng (
 .split (.sel fZ 1) (
 .split x84 x4 (
 .split x86 x4 (
 .split (.eql (.sel vQ 0) (.c 1)) (
 .split (.lss (.sel vQ 1) (.c 0)) (
 .split (.eql u10 (.c 1)) (
 .split (.and La (.and Pn (.and NI (.and PB (.and NN (.and (.bc true) (.and (.bc true) (.and (.bc true) rO)))))))) (
 .split P6 (
 .split Qb (
 .split Nc (
 .split MK (
 .split (.lss u11 (.c 1)) MT (
 .split (.lss (.c 32) u11) MT (
 .split u12 (
 .split (.lss (.c 8) u11) (
 .split hQ tV MT) MT) tV))) CB) x4) CB) x4) CB) (
 .split (.eql u10 (.c 2)) (
 .split (.and La (.and Pn (.and NI (.and PB (.and NN (.and (.bc true) (.and (.bc true) (.and Yu rO)))))))) (
 .split P6 (
 .split Qb (
 .split Nc (
 .split MK (
 .split (.lss u11 (.c 1)) MT (
 .split (.lss (.c 32) u11) MT (
 .split u12 (
 .split (.lss (.c 8) u11) (
 .split hQ sB MT) MT) sB))) CB) x4) CB) x4) CB) (
 .split (.eql u10 (.c 3)) (
 .split (.and La (.and Pn (.and NI (.and PB (.and NN (.and Tz (.and (.bc true) xQ))))))) (
 .split P6 (
 .split Qb (
 .split Nc (
 .split MK (
 .split (.eql (.sel aR 0) (.c 1)) (
 .leaf (.done 0 [(.sel aR 1),(.sel aR 2),(.c 7)])) (
 .split (.eql (.sel aR 0) (.c 2)) x48 x4)) CB) x4) CB) x4) CB) (
 .split (.eql u10 (.c 4)) (
 .split (.and La (.and Pn sC)) (
 .split Nc (
 .split MK hI CB) x4) CB) (
 .split (.eql u10 (.c 5)) (
 .split (.and La (.and Pn (.and NI (.and PB (.and NN (.and Tz (.and (.bc true) (.and (.bc true) qd)))))))) (
 .split P6 (
 .split Qb (
 .split Nc (
 .split MK (
 .split (.eql (.sel bC 0) (.c 1)) (
 .leaf (.done 0 [(.sel bC 1),(.sel bC 2),(.c 7)])) (
 .split (.eql (.sel bC 0) (.c 2)) (
 .split (.eql (.sel cu 0) (.c 1)) (
 .leaf (.done 0 [(.sel cu 1),(.sel cu 2),(.c 7)])) (
 .split (.eql (.sel cu 0) (.c 2)) x48 x4)) x4)) CB) x4) CB) x4) CB) (
 .split (.eql u10 (.c 6)) (
 .split (.and La (.and Pn (.and NI (.and PB (.and NN (.and Tz (.and ab xQ))))))) (
 .split P6 (
 .split Qb (
 .split Nc (
 .split MK (
 .split (.eql (.sel bA 0) (.c 1)) (
 .leaf (.done 0 [(.sel bA 1),(.sel bA 2),(.c 7)])) (
 .split (.eql (.sel bA 0) (.c 2)) x48 x4)) CB) x4) CB) x4) CB) (
 .split (.eql u10 (.c 7)) (
 .split (.and La (.and ZJ sC)) (
 .split Nc (
 .split MK (
 .split qa T5 hI) CB) x4) CB) (
 .split (.eql u10 (.c 8)) (
 .split (.and La (.and ZJ (.and NI mS))) (
 .split P6 (
 .split Qb (
 .split Nc (
 .split MK (
 .split qa T5 x48) CB) x4) CB) x4) CB) (
 .split (.eql u10 (.c 9)) (
 .split (.and La (.and Pn (.and ZJ mS))) (
 .split P6 (
 .split Qb (
 .split (.eql (.sel X6 0) (.c 1)) (
 .leaf (.done 0 [(.sel X6 1),(.sel X6 2),(.sel X6 3)])) (
 .split (.eql (.sel X6 0) (.c 2)) x48 x4)) CB) x4) CB) (
 .split (.eql u10 (.c 10)) (
 .split (.and La (.and Pn (.and NI (.and PB (.and NN (.and (.bc true) qb)))))) (
 .split P6 (
 .split Qb (
 .split Nc (
 .split MK (
 .split (.eql u11 (.c 2)) x48 (
 .split (.eql u11 (.c 4)) x48 (
 .split (.lss u11 (.c 8)) MT (
 .split (.lss (.c 512) u11) MT (
 .split hQ x48 MT))))) CB) x4) CB) x4) CB) (
 .split (.eql u10 (.c 11)) (
 .split (.and La (.and Pn (.and NI (.and ZJ (.and NN (.and Tz (.and ab (.and Yu (.and bR (.and (.bc true) jC)))))))))) (
 .split P6 (
 .split Qb (
 .split Nc (
 .split MK (
 .split (.eql (.sel aW 0) (.c 1)) (
 .leaf (.done 0 [(.sel aW 1),(.sel aW 2),(.c 7)])) (
 .split (.eql (.sel aW 0) (.c 2)) (
 .split (.eql (.sel vd 0) (.c 1)) (
 .split (.lss (.sel vd 1) (.c 0)) T5 x48) x4) x4)) CB) x4) CB) x4) CB) (
 .split (.eql u10 (.c 12)) (
 .split (.and La (.and ZJ (.and NI (.and PB (.and NN (.and Tz (.and ab (.and Yu (.and (.bc true) (.and Yj (.and (.bc true) (.and hY ky)))))))))))) (
 .split Nc (
 .split MK (
 .split (.eql (.sel de 0) (.c 1)) (
 .leaf (.done 0 [(.sel de 1),(.sel de 2),(.c 7)])) (
 .split (.eql (.sel de 0) (.c 2)) (
 .split (.lss uU (.c 0)) T5 (
 .split (.cell u4 uU 1) hI T5)) x4)) CB) x4) CB) (
 .leaf (.done 0 [u5,u6,(.c 4)])))))))))))))) (
 .leaf (.done 0 [u5,u6,(.c 2)]))) x4))) (
 .leaf (.done 0 [u5,u6,(.c 1)]))) x4
def t16:List (Tr Plf):=[vU]
def mC:Tr Plf:=
 .leaf (.next 1 [u1,(.c 0),.nilL,(.bc true)])
def vA:Tr Plf:=
 .split x35 (
 .split x8 x4 (
 .split (.eql x53 (.c 7)) j1 (
 .split (.eql x53 (.c 8)) j1 (
 .split (.eql x53 (.c 12)) j1 (
 .split lq (
 .leaf (.next 2 [u0,u1,kI,(.lenL kI),(.c 0),u2,u3])) bK))))) (
 .leaf (.done 0 [(.nilIs u2 u3)]))
def uN:Tr Plf:=
 .split (.lss u4 u3) (
 .split x44 x4 (
 .split x43 (
 .split (.lss (.lenL u5) cj) (
 .leaf (.next 2 [u0,u1,u2,u3,x47,(.snoc u5 (rl [(.cell u2 u4 2)])),(.bc false)])) x4) x4)) (
 .leaf (.next 1 [u0,x9,u5,u6]))
def t17:List (Tr Plf):=[mC,vA,uN]
def lR:Tr Plf:=
 .leaf x20
def tM:Tr Plf:=
 .split x21 (
 .split x22 x4 (
 .split (.eqSS u1 x23) x25 x27)) x19
def t18:List (Tr Plf):=[lR,tM]
def xq:Tr Plf:=
 .leaf (.next 1 [u11,(.c 0),u0,u1,u2,u5,u6,u7,u8,u3,u4,u9,u10])
def xU:Tr Plf:=
 .split x35 (
 .split x8 x4 (
 .split K7 x4 (
 .split K6 (
 .split Ld (
 .split (.lss rz (.c 0)) (
 .split (.lss u12 (.c 0)) (
 .split u11 (
 .split MY rp (
 .leaf (.next 1 ([u0,x9]++us 2 9++[jn,(.c 0)])))) rp) pI) (
 .split (.lss u12 fQ) (
 .split u11 (
 .split MY mN (
 .leaf (.next 1 ([u0,x9]++us 2 9++[jn,fQ])))) mN) pI)) (
 .leaf (.next 1 ([u0,x9]++us 2 11)))) x4))) (
 .leaf (.done 0 [u11,u12]))
def t19:List (Tr Plf):=[xq,xU]
def vp:Tr Plf:=
 .split ng (
 .split (.sel fZ 1) (
 .split (.lss (.mIdx [.str] u3 Rp) (.c 0)) (
 .split (.lss (.lenL u10) (.c 1)) tB (
 .split (.lss (.c 40) (.lenL u10)) tB (
 .leaf (.next 1 [u10,(.c 0),u0,u1,u2,u5,(.c (-1)),u9,u3,u4,(.bc true)])))) (
 .leaf (.done 0 [u5,(.c (-1)),(.c 2),(.c (-1)),u9,u10,u3,u4]))) (
 .leaf (.done 0 [u5,(.c (-1)),(.c 1),(.c (-1)),u9,u10,u3,u4]))) x4
def wx:Tr Plf:=
 .split x35 (
 .split x8 x4 (
 .split (.eql (.sel ao 0) (.c 1)) (
 .leaf (.done 0 [(.sel ao 1),(.sel ao 2),(.sel ao 3),u1,u7,u0,u8,u9])) (
 .split (.eql (.sel ao 0) (.c 2)) (
 .split u10 (
 .leaf (.next 1 [u0,x9,u2,u3,u4,u5,u1,u7,u8,u9,(.neg o0)])) (
 .leaf (.next 1 [u0,x9,u2,u3,u4,u5,u1,u7,u8,u9,(.bc false)]))) x4))) (
 .split (.eql (.sel pL 0) (.c 1)) (
 .split (.eql (.sel cn 0) (.c 1)) (
 .split (.lss (.mIdx [.str] u8 (rl [u7])) (.c 0)) (
 .split (.lss (.mIdx [.str] u9 (rl [u7])) (.c 0)) (
 .split (.lss (.sel cn 2) (.c 16)) (
 .leaf (.done 1 [u7,u0,pm,qN])) (
 .leaf (.done 0 [u5,(.c (-1)),(.c 10),(.c (-1)),u7,u0,pm,qN]))) x4) x4) x4) x4)
def t20:List (Tr Plf):=[vp,wx]
def um:Tr Plf:=
 .split (.eql (.sel (.app 3 dQ) 0) (.c 1)) (
 .split (.sel (.app 3 dQ) 1) (
 .split (.lss x0 (.c 1)) uC (
 .split (.lss (.c 60) x0) uC (
 .leaf (.next 1 [u1,(.c 0),u0,u2,(.c (-1)),(.strc 0 0),.nilL,.emptyL,.emptyL])))) (
 .leaf (.done 0 [(.c 1),u0,u1,u2]))) x4
def xd:Tr Plf:=
 .split x35 (
 .split x8 x4 (
 .split (.eql (.sel JI 0) (.c 1)) (
 .leaf (.done 1 [(.sel JI 1),(.sel JI 2),(.sel JI 3),(.bc true),u2,u0,u3,u1,(.sel JI 4),(.sel JI 5),(.sel JI 6),(.sel JI 7),(.sel JI 8)])) (
 .split (.eql (.sel JI 0) (.c 2)) (
 .leaf (.next 1 [u0,x9,u2,u3,u1,(.sel JI 1),(.sel JI 2),(.sel JI 3),(.sel JI 4)])) x4))) (
 .split (.lss (.mIdx [.str] u7 (rl [u3])) (.c 0)) (
 .leaf (.done 1 [(.c (-1)),(.c (-1)),(.c 11),(.bc true),u2,u0,u3,(.c (-1)),(.c (-1)),u5,u6,u7,u8])) (
 .leaf (.done 1 [(.c 0),(.c 0),(.c 0),(.bc false),u2,u0,u3,(.c (-1)),(.c (-1)),u5,u6,u7,u8])))
def t21:List (Tr Plf):=[um,xd]
def ux:Tr Plf:=
 .split XR (
 .leaf (.done 0 [(.c (-1)),(.c (-1)),(.sel Sd 1),(.bc true)])) (
 .split W9 (
 .leaf (.done 0 [(.sel Sd 1),(.sel Sd 2),(.sel Sd 3),Xc])) x4)
def t22:List (Tr Plf):=[ux]
def pw:Tr Plf:=
 .leaf (.next 1 [(.c 0),u2,(.c 0),u0,u1])
def mT:Tr Plf:=
 .split x71 (
 .split x22 x4 (
 .split (.eql u2 u3) x79 (
 .split (.eql x74 (.c 1)) oK (
 .split (.eql x74 (.c 2)) oK (
 .split (.eql x74 (.c 10)) (
 .split (.eql Ua (.c 0)) x4 (
 .leaf (.next 1 [mE,u1,x26,u3,u4]))) (
 .leaf (.next 1 [(.c 0),u1,x26,u3,u4]))))))) (
 .split (.eql x0 u3) x79 x48)
def t23:List (Tr Plf):=[pw,mT]
def qP:Tr Plf:=
 .split (.eql u1 x12) (
 .leaf (.done 0 [(.neg (.eql u2 (.c 0)))])) (
 .split x8 x4 (
 .split x35 (
 .split (.eql u2 (.c 0)) (
 .split mJ (
 .split qm (
 .split (.eql x53 (.c 11)) (
 .split (.eql (.sel ju 0) (.c 1)) (
 .split (.eql (.sel ju 1) (.c 0)) x1 x7) (
 .split (.eql (.sel ju 0) (.c 2)) x1 x4)) x1) (
 .split (.eql x53 (.c 11)) (
 .split (.eql (.sel jo 0) (.c 1)) (
 .split (.eql (.sel jo 1) (.c 0)) x1 x7) (
 .split (.eql (.sel jo 0) (.c 2)) x1 x4)) x1)) x4) (
 .split (.eql x53 (.c 1)) km (
 .split (.eql x53 (.c 2)) km (
 .split (.eql x53 (.c 10)) km x7)))) x4))
def t24:List (Tr Plf):=[qP]
def uV:Tr Plf:=
 .leaf (.next 1 ([(.c 0),u7,(.c 0)]++us 0 7))
def nj:Tr Plf:=
 .split x71 (
 .split x22 x4 (
 .split (.eql (.sel tS 0) (.c 1)) (
 .split Wy (
 .split (.eql u2 fJ) (
 .leaf (.done 0 [u7,(.c (-1)),Wy])) (
 .leaf (.done 0 [u7,u2,Wy]))) (
 .split (.eql x74 (.c 1)) xT (
 .split (.eql x74 (.c 2)) xT (
 .split (.eql x74 (.c 10)) (
 .split (.eql Ua (.c 0)) x4 (
 .leaf (.next 1 [mE,u1,x26,u3,u4,u5,Wy,u7,u8,u9]))) (
 .leaf (.next 1 [(.c 0),u1,x26,u3,u4,u5,Wy,u7,u8,u9])))))) x4)) (
 .split (.eql (.sel nr 0) (.c 1)) (
 .split bb (
 .split (.eql x0 fJ) (
 .leaf (.done 0 [u7,(.c (-1)),bb])) (
 .leaf (.done 0 [u7,x0,bb]))) (
 .leaf (.done 1 [bb]))) x4)
def t25:List (Tr Plf):=[uV,nj]
def lN:Tr Plf:=
 .split (.eql (.sel TV 0) (.c 1)) (
 .split (.sel TV 4) nh (
 .split E8 (
 .split (.eql (.sel UA 0) (.c 1)) (
 .leaf (.done 0 [(.sel UA 1),(.sel UA 2),(.c 12),(.sel UA 3)])) (
 .split (.eql (.sel UA 0) (.c 2)) (
 .split (.lss (.c 1) x0) (
 .split (.eql (.sel TW 0) (.c 1)) (
 .leaf (.done 0 [(.sel TW 1),(.sel TW 2),(.c 12),(.sel TW 3)])) (
 .split (.eql (.sel TW 0) (.c 2)) (
 .split (.lss (.c 2) x0) (
 .split (.eql (.sel Uc 0) (.c 1)) (
 .leaf (.done 0 [(.sel Uc 1),(.sel Uc 2),(.c 12),(.sel Uc 3)])) (
 .split (.eql (.sel Uc 0) (.c 2)) (
 .split (.lss (.c 3) x0) (
 .split (.eql (.sel Ue 0) (.c 1)) (
 .leaf (.done 0 [(.sel Ue 1),(.sel Ue 2),(.c 12),(.sel Ue 3)])) (
 .split (.eql (.sel Ue 0) (.c 2)) (
 .split (.lss (.c 4) x0) (
 .split (.eql (.sel T0 0) (.c 1)) (
 .leaf (.done 0 [(.sel T0 1),(.sel T0 2),(.c 12),(.sel T0 3)])) (
 .split (.eql (.sel T0 0) (.c 2)) (
 .split (.lss (.c 5) x0) (
 .split (.eql (.sel Uv 0) (.c 1)) (
 .leaf (.done 0 [(.sel Uv 1),(.sel Uv 2),(.c 12),(.sel Uv 3)])) (
 .split (.eql (.sel Uv 0) (.c 2)) (
 .split (.lss (.c 6) x0) (
 .split (.eql (.sel T9 0) (.c 1)) (
 .leaf (.done 0 [(.sel T9 1),(.sel T9 2),(.c 12),(.sel T9 3)])) (
 .split (.eql (.sel T9 0) (.c 2)) (
 .split (.lss (.c 7) x0) (
 .split (.eql (.sel S0 0) (.c 1)) (
 .leaf (.done 0 [(.sel S0 1),(.sel S0 2),(.c 12),(.sel S0 3)])) (
 .split (.eql (.sel S0 0) (.c 2)) (
 .split (.lss (.c 8) x0) (
 .split (.eql (.sel TQ 0) (.c 1)) (
 .leaf (.done 0 [(.sel TQ 1),(.sel TQ 2),(.c 12),(.sel TQ 3)])) (
 .split (.eql (.sel TQ 0) (.c 2)) (
 .split (.lss (.c 9) x0) (
 .split (.eql (.sel Wb 0) (.c 1)) (
 .leaf (.done 0 [(.sel Wb 1),(.sel Wb 2),(.c 12),(.sel Wb 3)])) (
 .split (.eql (.sel Wb 0) (.c 2)) (
 .split (.lss (.c 10) x0) x4 (
 .leaf (.done 0 [Fh,Fe,Fd,(.sel Wb 1)]))) x4)) (
 .leaf (.done 0 [Fh,Fe,Fd,(.sel TQ 1)]))) x4)) (
 .leaf (.done 0 [Fh,Fe,Fd,(.sel S0 1)]))) x4)) (
 .leaf (.done 0 [Fh,Fe,Fd,(.sel T9 1)]))) x4)) (
 .leaf (.done 0 [Fh,Fe,Fd,(.sel Uv 1)]))) x4)) (
 .leaf (.done 0 [Fh,Fe,Fd,(.sel T0 1)]))) x4)) (
 .leaf (.done 0 [Fh,Fe,Fd,(.sel Ue 1)]))) x4)) (
 .leaf (.done 0 [Fh,Fe,Fd,(.sel Uc 1)]))) x4)) (
 .leaf (.done 0 [Fh,Fe,Fd,(.sel TW 1)]))) x4)) (
 .leaf (.done 0 [Fh,Fe,Fd,(.sel UA 1)]))) x4)) nh)) x4
def t26:List (Tr Plf):=[lN]
def lA:Tr Plf:=
 .split (.eql (.sel (.app 26 JY) 0) (.c 1)) (
 .leaf (.done 0 [(.neg (.sel (.app 26 JY) 4))])) x4
def t27:List (Tr Plf):=[lA]
def tP:Tr Plf:=
 .leaf x34
def uo:Tr Plf:=
 .split x35 x39 x19
def t28:List (Tr Plf):=[tP,uo]
def qe:Tr Plf:=
 .split (.isNil u1) (
 .leaf (.next 1 [(.c 0),(.c 0),u0,.nilL,(.bc true),u2])) (
 .split (.lss x0 (.c 1048576)) (
 .leaf (.next 1 [x0,(.c 0),u0,jt,(.bc false),u2])) x4)
def uj:Tr Plf:=
 .split (.lss u1 u0) (
 .split x8 x4 (
 .split (.lss u1 kR) (
 .split (.isNil dj) (
 .leaf (.next 2 [u1,u0,(.lenL (.cell np u1 1)),u2,np,u4,u5])) (
 .split (.lss (.lenL dj) (.c 1048576)) (
 .leaf (.next 3 [u1,u0,(.lenL dj),(.c 0),u2,u3,u4,u5,(.cat .emptyL dj),(.bc false)])) x4)) x4)) (
 .leaf (.done 0 [u2,u3,u4,u5]))
def xA:Tr Plf:=
 .split (.lss (.c 0) u2) x4 (
 .leaf (.next 1 [u1,x10,u3,u4,u5,u6]))
def pZ:Tr Plf:=
 .split (.lss u3 u2) (
 .split x14 x4 (
 .split (.lss u3 x85) (
 .split (.isNil jd) (
 .split (.isNil dz) (
 .leaf (.next 3 [u0,u1,u2,x17,u4,u5,u6,u7,(.upd oA u3 12 .nilL),u9])) (
 .split sF (
 .leaf (.next 3 [u0,u1,u2,x17,u4,u5,u6,u7,(.upd oA u3 12 xe),u9])) x4)) (
 .split (.lss (.lenL jd) (.c 1048576)) (
 .split (.isNil dz) (
 .leaf (.next 3 [u0,u1,u2,x17,u4,u5,u6,u7,(.upd lJ u3 12 .nilL),u9])) (
 .split sF (
 .leaf (.next 3 [u0,u1,u2,x17,u4,u5,u6,u7,(.upd lJ u3 12 xe),u9])) x4)) x4)) x4)) (
 .leaf (.next 1 [u1,x10,u4,(.upd u5 u0 1 (.nilIs u8 u9)),u6,u7]))
def t29:List (Tr Plf):=[qe,uj,xA,pZ]
def tQ:Tr Plf:=
 .split (.lss aP cj) (
 .leaf (.done 0 [(.snoc u4 (.rcons u9 (.rcons u10 (.rcons u11 (.rcons u12 (.rcons u13 Ri)))))),(.bc false)])) x4
def t30:List (Tr Plf):=[tQ]
def qx:Tr Plf:=
 .leaf Qx
def tp:Tr Plf:=
 .split x35 (
 .split x8 x4 (
 .split K7 x4 (
 .split K6 (
 .split Ld x4 Pq) x4))) gN
def t31:List (Tr Plf):=[qx,tp]
def pV:Tr Plf:=
 .split PI (
 .split Gs (
 .split Gz (
 .split Gt (
 .split Gu (
 .split (.eql (.sel (.app 31 GH) 0) (.c 1)) (
 .leaf (.done 0 [bj])) x4) x4) x4) (
 .split Gv (
 .split Gx (
 .split (.eql (.sel (.app 31 GJ) 0) (.c 1)) (
 .leaf (.done 0 [bj])) x4) x4) x4)) x4) (
 .split Qh x37 (
 .split Gs (
 .split Gz (
 .split Gt (
 .split Gu (
 .split (.eql (.sel (.app 31 G6) 0) (.c 1)) (
 .leaf (.done 0 [dD])) x4) x4) x4) (
 .split Gv (
 .split Gx (
 .split (.eql (.sel (.app 31 Ha) 0) (.c 1)) (
 .leaf (.done 0 [dD])) x4) x4) x4)) x4))
def t32:List (Tr Plf):=[pV]
def rj:Tr Plf:=
 .leaf Qx
def ot:Tr Plf:=
 .split x35 (
 .split x8 x4 (
 .split K7 x4 (
 .split K6 (
 .split Ld (
 .split (.eql (.sel (.app 32 HA) 0) (.c 1)) (
 .leaf (.next 1 [u0,x9,(.sel (.app 32 HA) 1),u3,u4,u5])) x4) Pq) x4))) x25
def t33:List (Tr Plf):=[rj,ot]
def wi:Tr Plf:=
 .split PI (
 .split Gs (
 .split Gz (
 .split Gt (
 .split Gu (
 .split (.eql (.sel (.app 33 GH) 0) (.c 1)) (
 .leaf (.done 0 [(.sel (.app 33 GH) 1)])) x4) x4) x4) (
 .split Gv (
 .split Gx (
 .split (.eql (.sel (.app 33 GJ) 0) (.c 1)) (
 .leaf (.done 0 [(.sel (.app 33 GJ) 1)])) x4) x4) x4)) x4) (
 .split Qh x37 (
 .split Gs (
 .split Gz (
 .split Gt (
 .split Gu (
 .split (.eql (.sel (.app 33 G6) 0) (.c 1)) (
 .leaf (.done 0 [(.sel (.app 33 G6) 1)])) x4) x4) x4) (
 .split Gv (
 .split Gx (
 .split (.eql (.sel (.app 33 Ha) 0) (.c 1)) (
 .leaf (.done 0 [(.sel (.app 33 Ha) 1)])) x4) x4) x4)) x4))
def t34:List (Tr Plf):=[wi]
def nV:Tr Plf:=
 .leaf Qx
def pA:Tr Plf:=
 .split x35 (
 .split x8 x4 (
 .split K7 x4 (
 .split K6 (
 .split Ld (
 .split (.eql (.sel (.app 34 HA) 0) (.c 1)) (
 .leaf (.next 1 [u0,x9,(.sel (.app 34 HA) 1),u3,u4,u5])) x4) Pq) x4))) x25
def t35:List (Tr Plf):=[nV,pA]
def oS:Tr Plf:=
 .split PI (
 .split Gs (
 .split Gz (
 .split Gt (
 .split Gu (
 .split (.eql (.sel (.app 35 GH) 0) (.c 1)) (
 .leaf (.done 0 [(.sel (.app 35 GH) 1)])) x4) x4) x4) (
 .split Gv (
 .split Gx (
 .split (.eql (.sel (.app 35 GJ) 0) (.c 1)) (
 .leaf (.done 0 [(.sel (.app 35 GJ) 1)])) x4) x4) x4)) x4) (
 .split Qh x37 (
 .split Gs (
 .split Gz (
 .split Gt (
 .split Gu (
 .split (.eql (.sel (.app 35 G6) 0) (.c 1)) (
 .leaf (.done 0 [(.sel (.app 35 G6) 1)])) x4) x4) x4) (
 .split Gv (
 .split Gx (
 .split (.eql (.sel (.app 35 Ha) 0) (.c 1)) (
 .leaf (.done 0 [(.sel (.app 35 Ha) 1)])) x4) x4) x4)) x4))
def t36:List (Tr Plf):=[oS]
def so:Tr Plf:=
 .leaf Qx
def wu:Tr Plf:=
 .split x35 (
 .split x8 x4 (
 .split K7 x4 (
 .split K6 (
 .split Ld (
 .split (.eql (.sel (.app 36 HA) 0) (.c 1)) (
 .leaf (.next 1 [u0,x9,(.sel (.app 36 HA) 1),u3,u4,u5])) x4) Pq) x4))) x25
def t37:List (Tr Plf):=[so,wu]
def wY:Tr Plf:=
 .split PI (
 .split Gs (
 .split Gz (
 .split Gt (
 .split Gu (
 .split (.eql (.sel (.app 37 GH) 0) (.c 1)) (
 .leaf (.done 0 [(.sel (.app 37 GH) 1)])) x4) x4) x4) (
 .split Gv (
 .split Gx (
 .split (.eql (.sel (.app 37 GJ) 0) (.c 1)) (
 .leaf (.done 0 [(.sel (.app 37 GJ) 1)])) x4) x4) x4)) x4) (
 .split Qh x37 (
 .split Gs (
 .split Gz (
 .split Gt (
 .split Gu (
 .split (.eql (.sel (.app 37 G6) 0) (.c 1)) (
 .leaf (.done 0 [(.sel (.app 37 G6) 1)])) x4) x4) x4) (
 .split Gv (
 .split Gx (
 .split (.eql (.sel (.app 37 Ha) 0) (.c 1)) (
 .leaf (.done 0 [(.sel (.app 37 Ha) 1)])) x4) x4) x4)) x4))
def t38:List (Tr Plf):=[wY]
def lC:Tr Plf:=
 .leaf Qx
def ry:Tr Plf:=
 .split x35 (
 .split x8 x4 (
 .split K7 x4 (
 .split K6 (
 .split Ld (
 .split (.eql (.sel (.app 38 HA) 0) (.c 1)) (
 .leaf (.next 1 [u0,x9,(.sel (.app 38 HA) 1),u3,u4,u5])) x4) Pq) x4))) x25
def t39:List (Tr Plf):=[lC,ry]
def n8:Tr Plf:=
 .split PI (
 .split Gs (
 .split Gz (
 .split Gt (
 .split Gu (
 .split (.eql (.sel (.app 39 GH) 0) (.c 1)) (
 .leaf (.done 0 [(.sel (.app 39 GH) 1)])) x4) x4) x4) (
 .split Gv (
 .split Gx (
 .split (.eql (.sel (.app 39 GJ) 0) (.c 1)) (
 .leaf (.done 0 [(.sel (.app 39 GJ) 1)])) x4) x4) x4)) x4) (
 .split Qh x37 (
 .split Gs (
 .split Gz (
 .split Gt (
 .split Gu (
 .split (.eql (.sel (.app 39 G6) 0) (.c 1)) (
 .leaf (.done 0 [(.sel (.app 39 G6) 1)])) x4) x4) x4) (
 .split Gv (
 .split Gx (
 .split (.eql (.sel (.app 39 Ha) 0) (.c 1)) (
 .leaf (.done 0 [(.sel (.app 39 Ha) 1)])) x4) x4) x4)) x4))
def t40:List (Tr Plf):=[n8]
def nD:Tr Plf:=
 .leaf Qx
def md:Tr Plf:=
 .split x35 (
 .split x8 x4 (
 .split K7 x4 (
 .split K6 (
 .split Ld (
 .split (.eql (.sel (.app 40 HA) 0) (.c 1)) (
 .leaf (.next 1 [u0,x9,(.sel (.app 40 HA) 1),u3,u4,u5])) x4) Pq) x4))) x25
def t41:List (Tr Plf):=[nD,md]
def xo:Tr Plf:=
 .split PI (
 .split Gs (
 .split Gz (
 .split Gt (
 .split Gu (
 .split (.eql (.sel (.app 41 GH) 0) (.c 1)) (
 .leaf (.done 0 [(.sel (.app 41 GH) 1)])) x4) x4) x4) (
 .split Gv (
 .split Gx (
 .split (.eql (.sel (.app 41 GJ) 0) (.c 1)) (
 .leaf (.done 0 [(.sel (.app 41 GJ) 1)])) x4) x4) x4)) x4) (
 .split Qh x37 (
 .split Gs (
 .split Gz (
 .split Gt (
 .split Gu (
 .split (.eql (.sel (.app 41 G6) 0) (.c 1)) (
 .leaf (.done 0 [(.sel (.app 41 G6) 1)])) x4) x4) x4) (
 .split Gv (
 .split Gx (
 .split (.eql (.sel (.app 41 Ha) 0) (.c 1)) (
 .leaf (.done 0 [(.sel (.app 41 Ha) 1)])) x4) x4) x4)) x4))
def t42:List (Tr Plf):=[xo]
def lU:Tr Plf:=
 .leaf Qx
def lI:Tr Plf:=
 .split x35 (
 .split x8 x4 (
 .split K7 x4 (
 .split K6 (
 .split Ld (
 .split (.eql (.sel (.app 42 HA) 0) (.c 1)) (
 .leaf (.next 1 [u0,x9,(.sel (.app 42 HA) 1),u3,u4,u5])) x4) Pq) x4))) x25
def t43:List (Tr Plf):=[lU,lI]
def rq:Tr Plf:=
 .split PI (
 .split Gs (
 .split Gz (
 .split Gt (
 .split Gu (
 .split (.eql (.sel (.app 43 GH) 0) (.c 1)) (
 .leaf (.done 0 [(.sel (.app 43 GH) 1)])) x4) x4) x4) (
 .split Gv (
 .split Gx (
 .split (.eql (.sel (.app 43 GJ) 0) (.c 1)) (
 .leaf (.done 0 [(.sel (.app 43 GJ) 1)])) x4) x4) x4)) x4) (
 .split Qh x37 (
 .split Gs (
 .split Gz (
 .split Gt (
 .split Gu (
 .split (.eql (.sel (.app 43 G6) 0) (.c 1)) (
 .leaf (.done 0 [(.sel (.app 43 G6) 1)])) x4) x4) x4) (
 .split Gv (
 .split Gx (
 .split (.eql (.sel (.app 43 Ha) 0) (.c 1)) (
 .leaf (.done 0 [(.sel (.app 43 Ha) 1)])) x4) x4) x4)) x4))
def t44:List (Tr Plf):=[rq]
def vP:Tr Plf:=
 .leaf Qx
def oF:Tr Plf:=
 .split x35 (
 .split x8 x4 (
 .split K7 x4 (
 .split K6 (
 .split Ld (
 .split (.eql (.sel (.app 44 HA) 0) (.c 1)) (
 .leaf (.next 1 [u0,x9,(.sel (.app 44 HA) 1),u3,u4,u5])) x4) Pq) x4))) x25
def t45:List (Tr Plf):=[vP,oF]
def sX:Tr Plf:=
 .split PI (
 .split Gs (
 .split Gz (
 .split Gt (
 .split Gu (
 .split (.eql (.sel (.app 45 GH) 0) (.c 1)) (
 .leaf (.done 0 [(.sel (.app 45 GH) 1)])) x4) x4) x4) (
 .split Gv (
 .split Gx (
 .split (.eql (.sel (.app 45 GJ) 0) (.c 1)) (
 .leaf (.done 0 [(.sel (.app 45 GJ) 1)])) x4) x4) x4)) x4) (
 .split Qh x37 (
 .split Gs (
 .split Gz (
 .split Gt (
 .split Gu (
 .split (.eql (.sel (.app 45 G6) 0) (.c 1)) (
 .leaf (.done 0 [(.sel (.app 45 G6) 1)])) x4) x4) x4) (
 .split Gv (
 .split Gx (
 .split (.eql (.sel (.app 45 Ha) 0) (.c 1)) (
 .leaf (.done 0 [(.sel (.app 45 Ha) 1)])) x4) x4) x4)) x4))
def t46:List (Tr Plf):=[sX]
def rL:Tr Plf:=
 .leaf Qx
def xf:Tr Plf:=
 .split x35 (
 .split x8 x4 (
 .split K7 x4 (
 .split K6 (
 .split Ld (
 .split (.eql (.sel (.app 46 HA) 0) (.c 1)) (
 .leaf (.next 1 [u0,x9,(.sel (.app 46 HA) 1),u3,u4,u5])) x4) Pq) x4))) x25
def t47:List (Tr Plf):=[rL,xf]
def xy:Tr Plf:=
 .split PI (
 .split Gs (
 .split Gz (
 .split Gt (
 .split Gu (
 .split (.eql (.sel (.app 47 GH) 0) (.c 1)) (
 .leaf (.done 0 [(.sel (.app 47 GH) 1)])) x4) x4) x4) (
 .split Gv (
 .split Gx (
 .split (.eql (.sel (.app 47 GJ) 0) (.c 1)) (
 .leaf (.done 0 [(.sel (.app 47 GJ) 1)])) x4) x4) x4)) x4) (
 .split Qh x37 (
 .split Gs (
 .split Gz (
 .split Gt (
 .split Gu (
 .split (.eql (.sel (.app 47 G6) 0) (.c 1)) (
 .leaf (.done 0 [(.sel (.app 47 G6) 1)])) x4) x4) x4) (
 .split Gv (
 .split Gx (
 .split (.eql (.sel (.app 47 Ha) 0) (.c 1)) (
 .leaf (.done 0 [(.sel (.app 47 Ha) 1)])) x4) x4) x4)) x4))
def t48:List (Tr Plf):=[xy]
def ta:Tr Plf:=
 .leaf (.next 1 [u3,u4,(.c 0),.emptyL,u0,u1,u2])
def tk:Tr Plf:=
 .split x21 (
 .split x22 x4 (
 .split (.eql (.sel wN 0) (.c 1)) (
 .leaf (.next 1 [u0,u1,x26,(.sel wN 1),u4,u5,u6])) x4)) x16
def t49:List (Tr Plf):=[ta,tk]
def sr:Tr Plf:=
 .leaf (.done 0 [u0])
def t50:List (Tr Plf):=[sr]
def nW:Tr Plf:=
 .split (.eql (.sel tK 0) (.c 1)) (
 .split (.eql (.sel iQ 0) (.c 1)) (
 .leaf (.done 0 [(.sel iQ 1),(.sel iQ 2)])) x4) x4
def t51:List (Tr Plf):=[nW]
def rF:Tr Plf:=
 .split (.eql (.sel gR 0) (.c 1)) (
 .leaf (.next 1 [u9,u22,(.c 0),u0,u1,u2,u3,(.sel gR 1),(.sel gR 2),u6,u7,u8])) x4
def tW:Tr Plf:=
 .split x71 (
 .split x22 x4 (
 .split (.lss tl (.c 0)) (
 .split (.eql (.sel Yp 0) (.c 1)) (
 .split (.lss kb (.c 0)) x4 (
 .split (.lss kb (.lenL (.sel Yp 1))) (
 .leaf (.next 1 [u0,u1,x26,u3,u4,u5,u6,(.upd (.sel Yp 1) kb 4 u2),(.sel Yp 2),u9,u10,u11])) x4)) x4) (
 .split (.eql (.sel YW 0) (.c 1)) (
 .split (.lss gm (.c 0)) x4 (
 .split (.lss gm (.lenL (.sel YW 1))) (
 .leaf (.next 1 [u0,u1,x26,u3,u4,u5,u6,(.upd (.sel YW 1) gm 4 u2),(.sel YW 2),u9,u10,u11])) x4)) x4))) (
 .leaf (.done 0 [u7,u8]))
def t52:List (Tr Plf):=[rF,tW]
def uy:Tr Plf:=
 .leaf x34
def wm:Tr Plf:=
 .split x35 x39 x19
def t53:List (Tr Plf):=[uy,wm]
def tz:Tr Plf:=
 .leaf x34
def nU:Tr Plf:=
 .split x35 (
 .split x8 x4 (
 .split lq (
 .split (.eqSS jX u2) x37 rB) rB)) x19
def t54:List (Tr Plf):=[tz,nU]
def pM:Tr Plf:=
 .split (.eql (.sel (.app 54 ej) 0) (.c 1)) (
 .leaf (.done 0 [(.neg (.lss (.sel (.app 54 ej) 1) (.c 0)))])) x4
def t55:List (Tr Plf):=[pM]
def xx:Tr Plf:=
 .split cX (
 .split bo (
 .split (.eql (.sel QX 0) (.c 1)) (
 .split (.eql (.sel mZ 0) (.c 1)) (
 .leaf (.next 1 [(.sel QX 2),(.sel QX 3),(.lenL (.sel QX 2)),(.c 0),(.sel QX 1),(.sel QX 3),(.sel QX 4),(.snoc (.snoc .emptyL (.rcons (.c 1) rS)) (.rcons (.c 2) rS)),(.bc false),(.c 0),(.sel mZ 1),.emptyL,.emptyL])) x4) x4) gN) x4
def qK:Tr Plf:=
 .split (.lss u3 u2) (
 .split x14 x4 (
 .split x13 (
 .split (.lss xR (.c 0)) oe (
 .split (.cell u10 xR 1) (
 .split (.lss (.mIdx [.str] u11 i9) (.c 0)) (
 .split (.lss (.mIdx [.str] u12 i9) (.c 0)) (
 .split (.eql (.sel fM 0) (.c 1)) (
 .leaf (.next 2 [u0,u1,u2,u3,x41,(.lenL x41),(.c 0),u4,u5,u6,(.sel fM 1),(.sel fM 2),u3,u10,u3,u3,u3,u3,uH,uG])) x4) x4) x4) oe)) x4)) (
 .split (.lss pF (.c 0)) (
 .split xh (
 .leaf (.done 1 [u4,u0,u5,u6,(.upd u7 (.c 0) 5 (.c 0)),u8,u11,u12])) x4) (
 .split xh (
 .leaf (.done 1 [u4,u0,u5,u6,(.upd u7 (.c 0) 5 (.cell u11 pF 1)),u8,u11,u12])) x4))
def rC:Tr Plf:=
 .split (.lss u6 u5) (
 .split x84 x4 (
 .split (.lss u6 aP) (
 .split (.eql Rn (.c 8)) (
 .split iM (
 .split (.eql (.sel gn 0) (.c 1)) (
 .leaf (.next 2 [u0,u1,u2,u3,u4,u5,NK,u7,u8,u9,(.sel gn 1),(.sel gn 2),u12,u13,u14,u15,u16,u17,u18,u19])) x4) (
 .split (.eql (.sel gD 0) (.c 1)) (
 .leaf (.next 2 [u0,u1,u2,u3,u4,u5,NK,u7,u8,u9,(.sel gD 1),(.sel gD 2),u12,u13,u14,u15,u16,u17,u18,u19])) x4)) (
 .split (.eql Rn (.c 7)) (
 .split iM (
 .split (.eql (.sel jA 0) (.c 1)) (
 .leaf (.next 2 [u0,u1,u2,u3,u4,u5,NK,u7,u8,u9,(.sel jA 1),(.sel jA 2),u12,u13,u14,u15,u16,u17,u18,u19])) x4) (
 .split (.eql (.sel iJ 0) (.c 1)) (
 .leaf (.next 2 [u0,u1,u2,u3,u4,u5,NK,u7,u8,u9,(.sel iJ 1),(.sel iJ 2),u12,u13,u14,u15,u16,u17,u18,u19])) x4)) (
 .split (.eql Rn (.c 12)) (
 .split iM (
 .split (.eql (.sel kE 0) (.c 1)) (
 .leaf (.next 2 [u0,u1,u2,u3,u4,u5,NK,u7,u8,u9,(.sel kE 1),(.sel kE 2),u12,u13,u14,u15,u16,u17,u18,u19])) x4) (
 .split (.eql (.sel jv 0) (.c 1)) (
 .leaf (.next 2 [u0,u1,u2,u3,u4,u5,NK,u7,u8,u9,(.sel jv 1),(.sel jv 2),u12,u13,u14,u15,u16,u17,u18,u19])) x4)) (
 .split (.eql Rn (.c 9)) (
 .split (.eql (.sel jM 0) (.c 1)) (
 .leaf (.next 2 [u0,u1,u2,u3,u4,u5,NK,u7,u8,u9,(.sel jM 1),(.sel jM 2),u12,u13,u14,u15,u16,u17,u18,u19])) x4) (
 .split (.eql (.sel bx 0) (.c 1)) (
 .split (.lss u12 (.c 0)) x4 (
 .split (.lss u12 x12) (
 .split (.eql Rn (.c 1)) jj (
 .split (.eql Rn (.c 2)) jj (
 .split (.eql Rn (.c 3)) jj oJ))) x4)) x4))))) x4)) (
 .split (.eql (.sel kg 0) (.c 1)) (
 .leaf (.next 1 [u0,u1,u2,x17,u7,u8,u9,(.sel kg 1),(.sel kg 2),u12,u13,u18,u19])) x4)
def t56:List (Tr Plf):=[xx,qK,rC]
def xz:Tr Plf:=
 .leaf (.done 0 [])
def t57:List (Tr Plf):=[xz]
def uO:Tr Plf:=
 .leaf (.next 1 [u1,(.c 0)])
def l9:Tr Plf:=
 .split x35 (
 .split x8 x4 (
 .split (.eql (.sel (.app 57 (.rcons (.c 0) x49)) 0) (.c 1)) (
 .leaf (.next 1 [u0,x9])) x4)) gN
def t58:List (Tr Plf):=[uO,l9]
def pW:Tr Plf:=
 .split (.eql u4 (.c 1)) (
 .leaf (.done 0 [u5])) (
 .split (.eql u4 (.c 2)) (
 .leaf (.done 0 [u5])) (
 .split (.eql u4 (.c 3)) (
 .split u7 (
 .leaf (.done 0 [(.c 40)])) (
 .split (.lss u9 (.c 0)) GX (
 .split (.lss u9 (.c 34359738368)) (
 .split (.lss u9 (.c 128)) (
 .leaf (.done 0 [(.c 8)])) (
 .split (.lss vV (.c 128)) fX (
 .split (.lss pE (.c 128)) (
 .leaf (.done 0 [(.c 24)])) (
 .split (.lss xO (.c 128)) (
 .leaf (.done 0 [(.c 32)])) (
 .split (.lss (.arith .shr .i64 xO (.c 7)) (.c 128)) (
 .leaf (.done 0 [(.c 40)])) GX))))) GX))) (
 .split (.eql u4 (.c 4)) (
 .split (.eql (.sel my 0) (.c 1)) (
 .split (.lss u10 (.c (-1048576))) GX (
 .split (.eql (.sel rD 0) (.c 1)) (
 .split (.lss (.sel rD 1) (.c 0)) (
 .split (.eql (.sel tR 0) (.c 1)) (
 .split (.lss (.sel tR 1) (.c 0)) (
 .split (.isNil u11) (
 .split (.eql (.sel ki 0) (.c 1)) GX (
 .split (.eql (.sel ki 0) (.c 2)) (
 .split (.sel ki 1) GX vF) x4)) (
 .split (.lss cY (.c 1048576)) (
 .split (.eql (.sel kx 0) (.c 1)) GX (
 .split (.eql (.sel kx 0) (.c 2)) (
 .split (.sel kx 1) GX vF) x4)) (
 .split (.eql (.sel lX 0) (.c 1)) (
 .split (.lss (.sel lX 1) (.c 0)) x4 GX) x4))) GX) x4) GX) x4)) x4) (
 .split (.eql u4 (.c 5)) (
 .leaf (.done 0 [(.arith .mul .i64 (.c 8) (.arith .add .i64 u9 (.c 1)))])) (
 .split (.eql u4 (.c 6)) (
 .leaf (.done 0 [(.arith .mul .i64 (.c 8) u9)])) (
 .split (.eql u4 (.c 10)) (
 .split (.lss u5 (.c 8)) (
 .split (.eql u5 (.c 2)) vL (
 .split (.eql u5 (.c 4)) vL XG)) (
 .split (.lss u18 (.c 0)) XG (
 .split rn XG (
 .split f5 (
 .leaf (.done 0 [(.arith .add .i64 rX aI)])) (
 .leaf (.done 0 [(.arith .add .i64 rX (.c 0))])))))) (
 .split (.eql u4 (.c 11)) (
 .split (.lss u16 (.c 1)) GX (
 .split (.lss (.c 3) u16) GX (
 .split (.eql ik (.c 0)) fX (
 .split (.eql ik (.c 1)) fX (
 .split (.eql ik (.c 2)) (
 .leaf (.done 0 [(.c 32)])) x4))))) GX)))))))
def t59:List (Tr Plf):=[pW]
def wR:Tr Plf:=
 .split (.eql (.sel nL 0) (.c 1)) (
 .split (.sel nL 4) gV (
 .split x22 gV (
 .split (.lss u2 aP) (
 .split x84 x4 (
 .split (.lss u6 (.lenL uw)) (
 .split (.eql (.sel cB 0) (.c 1)) (
 .split (.lss u6 x0) (
 .split (.eql (.sel xP 0) (.c 1)) (
 .split (.lss (.c 0) wP) (
 .leaf (.done 0 [wP])) GX) x4) x4) (
 .split (.eql (.sel cB 0) (.c 2)) fK x4)) fK)) gV))) x4
def t60:List (Tr Plf):=[wR]
def nw:Tr Plf:=
 .leaf (.next 1 ([(.c 0),u0,(.c 0)]++us 1 6))
def lS:Tr Plf:=
 .split x71 (
 .split x22 x4 (
 .split (.eql (.sel jQ 0) (.c 1)) (
 .split (.lss u0 (.sel jQ 1)) (
 .leaf (.next 1 [(.sel jQ 1),u1,x26,u3,u4,u5,u6,u7,u8])) (
 .leaf (.next 1 ([u0,u1,x26]++us 3 6)))) x4)) x79
def t61:List (Tr Plf):=[nw,lS]
def oM:Tr Plf:=
 .leaf (.next 1 [(.c 0),u0,(.c 0),u1,u2,u3,u4])
def vb:Tr Plf:=
 .split x71 (
 .split x22 x4 (
 .split (.lss x73 (.c 0)) (
 .split (.lss u0 (.c 0)) (
 .leaf (.next 1 [(.c 0),u1,x26,u3,u4,u5,u6])) x69) (
 .split (.eql (.sel f4 0) (.c 1)) (
 .split (.lss u0 (.sel f4 1)) (
 .leaf (.next 1 [(.sel f4 1),u1,x26,u3,u4,u5,u6])) x69) x4))) x79
def t62:List (Tr Plf):=[oM,vb]
def l7:Tr Plf:=
 .split (.eql aP (.c 0)) (
 .leaf (.done 0 [(.c 0),(.c 1)])) (
 .split (.lss qo (.c 0)) (
 .leaf (.done 0 [(.c 0),(.c 9)])) (
 .leaf (.done 0 [(.cell u7 qo 1),(.c 0)])))
def t63:List (Tr Plf):=[l7]
def rb:Tr Plf:=
 .leaf (.next 1 [u2,(.c 0),u0,u1])
def vW:Tr Plf:=
 .split x35 (
 .split x8 x4 (
 .split K7 x4 (
 .split K6 (
 .split Ld (
 .split x51 (
 .split x14 (
 .leaf (.next 1 [u0,x9,u2,(.c 0)])) bK) (
 .split (.lss u3 x61) (
 .leaf (.next 1 [u0,x9,u2,x61])) bK)) bK) x4))) x16
def t64:List (Tr Plf):=[rb,vW]
def we:Tr Plf:=
 .leaf (.next 1 ([u1,(.c 0)]++us 3 8))
def xr:Tr Plf:=
 .split x35 (
 .split x8 x4 (
 .split NM (
 .split Nx (
 .split Po (
 .split (.eql (.sel vN 0) (.c 1)) (
 .split (.lss (.mIdx [.str] .emptyL x49) (.c 0)) (
 .leaf (.next 2 [u0,x9,u2,u3,u4,u5,u6,u7,u8,u9,(.snoc .emptyL (rl [x36,tj]))])) (
 .leaf (.next 2 [u0,x9,u2,u3,u4,u5,u6,u7,u8,u9,(.upd .emptyL (.mIdx [.str] .emptyL x49) 1 tj)]))) x4) x4) (
 .leaf (.next 1 ([u0,x9]++us 2 8)))) x4)) (
 .leaf (.done 0 [.emptyL]))
def mu:Tr Plf:=
 .split x35 (
 .split x8 x4 (
 .split NM (
 .split Nx (
 .split Po (
 .split RQ (
 .split MY (
 .leaf (.next 3 ([u0,x9]++us 2 8++[R5]))) (
 .leaf (.next 3 ([u0,x9]++us 2 8++[Q1])))) x4) x4) (
 .leaf (.next 2 ([u0,x9]++us 2 9)))) x4)) P1
def nB:Tr Plf:=
 .split x35 (
 .split x8 x4 (
 .split NM (
 .split Nx (
 .split Po (
 .split RQ (
 .split MY (
 .leaf (.next 4 ([u0,x9]++us 2 8++[R5]))) (
 .leaf (.next 4 ([u0,x9]++us 2 8++[Q1])))) x4) x4) (
 .leaf (.next 3 ([u0,x9]++us 2 9)))) x4)) P1
def xM:Tr Plf:=
 .split x35 (
 .split x8 x4 (
 .split NM (
 .split Nx (
 .split Po (
 .split RQ (
 .split MY (
 .leaf (.next 5 ([u0,x9]++us 2 8++[R5]))) (
 .leaf (.next 5 ([u0,x9]++us 2 8++[Q1])))) x4) x4) (
 .leaf (.next 4 ([u0,x9]++us 2 9)))) x4)) P1
def oZ:Tr Plf:=
 .split x35 (
 .split x8 x4 (
 .split NM (
 .split Nx (
 .split Po (
 .split RQ (
 .split MY (
 .leaf (.next 6 ([u0,x9]++us 2 8++[R5]))) (
 .leaf (.next 6 ([u0,x9]++us 2 8++[Q1])))) x4) x4) (
 .leaf (.next 5 ([u0,x9]++us 2 9)))) x4)) P1
def rM:Tr Plf:=
 .split x35 (
 .split x8 x4 (
 .split NM (
 .split Nx (
 .split Po (
 .split RQ (
 .split MY (
 .leaf (.next 7 ([u0,x9]++us 2 8++[R5]))) (
 .leaf (.next 7 ([u0,x9]++us 2 8++[Q1])))) x4) x4) (
 .leaf (.next 6 ([u0,x9]++us 2 9)))) x4)) P1
def re:Tr Plf:=
 .split x35 (
 .split x8 x4 (
 .split NM (
 .split Nx (
 .split Po (
 .split RQ (
 .split MY (
 .leaf (.next 8 ([u0,x9]++us 2 8++[R5]))) (
 .leaf (.next 8 ([u0,x9]++us 2 8++[Q1])))) x4) x4) (
 .leaf (.next 7 ([u0,x9]++us 2 9)))) x4)) P1
def wg:Tr Plf:=
 .split x35 (
 .split x8 x4 (
 .split NM (
 .split Nx (
 .split Po (
 .split RQ (
 .split MY (
 .leaf (.next 9 ([u0,x9]++us 2 8++[R5]))) (
 .leaf (.next 9 ([u0,x9]++us 2 8++[Q1])))) x4) x4) (
 .leaf (.next 8 ([u0,x9]++us 2 9)))) x4)) P1
def uK:Tr Plf:=
 .split x35 (
 .split x8 x4 (
 .split NM (
 .split Nx (
 .split Po (
 .split RQ (
 .split MY (
 .leaf (.next 10 ([u0,x9]++us 2 8++[R5]))) (
 .leaf (.next 10 ([u0,x9]++us 2 8++[Q1])))) x4) x4) (
 .leaf (.next 9 ([u0,x9]++us 2 9)))) x4)) P1
def gx:Tr Plf:=
 .split x35 (
 .split x8 x4 (
 .split NM (
 .split Nx x4 (
 .leaf (.next 10 ([u0,x9]++us 2 9)))) x4)) P1
def t65:List (Tr Plf):=[we,xr,mu,nB,xM,oZ,rM,re,wg,uK,gx]
def mR:Tr Plf:=
 .split cX (
 .split bo (
 .split qw (
 .split uI (
 .split dH (
 .split bB (
 .split XR QQ (
 .split W9 (
 .split Xc QQ (
 .split E8 (
 .split (.lss jR (.c 0)) QQ (
 .split fT (
 .split gA (
 .leaf (.done 0 [WZ,cP,(.c 0),(.c 0)])) (
 .leaf (.done 0 [WZ,cP,jp,(.c 0)]))) x4)) QQ)) x4)) (
 .split XR QQ (
 .split W9 (
 .split Xc QQ (
 .split cI (
 .split (.lss jh (.c 0)) QQ (
 .split fT (
 .split gA (
 .leaf (.done 0 [WZ,dk,(.c 0),(.c 0)])) (
 .leaf (.done 0 [WZ,dk,jp,(.c 0)]))) x4)) QQ)) x4))) x4) x4) (
 .split od (
 .split vu (
 .split dH (
 .split bB (
 .split XR QF (
 .split W9 (
 .split Xc QF (
 .split E8 (
 .split (.lss jR (.c 0)) QF (
 .split j5 (
 .split iR (
 .leaf (.done 0 [Wg,cP,(.c 0),(.c 0)])) (
 .leaf (.done 0 [Wg,cP,kT,(.c 0)]))) x4)) QF)) x4)) (
 .split XR QF (
 .split W9 (
 .split Xc QF (
 .split cI (
 .split (.lss jh (.c 0)) QF (
 .split j5 (
 .split iR (
 .leaf (.done 0 [Wg,dk,(.c 0),(.c 0)])) (
 .leaf (.done 0 [Wg,dk,kT,(.c 0)]))) x4)) QF)) x4))) x4) x4) x4)) (
 .leaf (.done 0 [(.c 0),(.c 0),(.c 0),(.c 2)]))) x4
def t66:List (Tr Plf):=[mR]
def vj:Tr Plf:=
 .leaf (.next 1 [u3,(.c 0),u0,u1,u2])
def oc:Tr Plf:=
 .split x35 (
 .split x8 x4 (
 .split K7 x4 (
 .split K6 (
 .split Ld (
 .split x51 (
 .split (.eql (.c 0) u4) (
 .leaf (.done 0 [x36])) ko) (
 .split (.eql x61 u4) (
 .leaf (.done 0 [x36])) ko)) ko) x4))) x48
def t67:List (Tr Plf):=[vj,oc]
def xF:Tr Plf:=
 .split cX (
 .split bo (
 .split qw (
 .split uI (
 .leaf (.next 1 [u0,u1,u2])) x4) (
 .split od (
 .split vu (
 .leaf (.next 2 [u0,u1,u2,(.sel Gw 1),(.sel Gw 2),(.sel Gw 3),(.sel Gw 4),(.sel Gw 5),(.sel Gw 6),(.sel Gw 7),(.sel Gw 8),ZT])) x4) x4)) (
 .leaf (.done 0 [.nilL,(.bc true),(.c 2)]))) x4
def lY:Tr Plf:=
 .split (.eqS u2 0 0) nf (
 .split dH (
 .split bB vi vi) x4)
def ur:Tr Plf:=
 .split (.eqS u2 0 0) nf (
 .split dH (
 .split bB (
 .split sa (
 .split (.lss jz (.c 0)) (
 .split (.eql dF (.c 0)) Wt (
 .split E8 (
 .split Gq (
 .split (.eql (.sel jV 0) (.c 1)) (
 .leaf (.next 3 [u0,u1,u2,u3,u4,u5,u6,u7,u8,(.sel jV 1),u9,u10,u11])) (
 .split (.eql (.sel jV 0) (.c 2)) bM x4)) x4) x4)) (
 .split (.eql bX (.c 0)) Wt (
 .split E8 (
 .split Gq (
 .split (.eql (.sel iX 0) (.c 1)) (
 .leaf (.next 3 [u0,u1,u2,u3,u4,u5,u6,u7,u8,(.sel iX 1),u9,u10,u11])) (
 .split (.eql (.sel iX 0) (.c 2)) bM x4)) x4) x4))) x4) (
 .split sa (
 .split (.lss jz (.c 0)) (
 .split (.eql dF (.c 0)) Wt (
 .split cI (
 .split xB (
 .split (.eql (.sel gi 0) (.c 1)) (
 .leaf (.next 3 [u0,u1,u2,u3,u4,u5,u6,u7,u8,(.sel gi 1),u9,u10,u11])) (
 .split (.eql (.sel gi 0) (.c 2)) bM x4)) x4) x4)) (
 .split (.eql bX (.c 0)) Wt (
 .split cI (
 .split xB (
 .split (.eql (.sel kO 0) (.c 1)) (
 .leaf (.next 3 [u0,u1,u2,u3,u4,u5,u6,u7,u8,(.sel kO 1),u9,u10,u11])) (
 .split (.eql (.sel kO 0) (.c 2)) bM x4)) x4) x4))) x4)) x4)
def oT:Tr Plf:=
 .split (.eqS u9 0 0) Wt (
 .split (.eql (.sel mG 0) (.c 1)) (
 .split (.lss Y0 (.c 0)) (
 .split nZ (
 .split (.lss kz (.c 0)) (
 .split (.eql bi (.c 0)) Xz (
 .split E8 (
 .split Gq (
 .split (.eql (.sel ig 0) (.c 1)) (
 .leaf (.next 4 [u0,u1,u2,u3,u4,u5,u6,u7,u8,u9,(.sel ig 1),u10,u11,u12])) (
 .split (.eql (.sel ig 0) (.c 2)) dc x4)) x4) x4)) (
 .split (.eql bO (.c 0)) Xz (
 .split E8 (
 .split Gq (
 .split (.eql (.sel kN 0) (.c 1)) (
 .leaf (.next 4 [u0,u1,u2,u3,u4,u5,u6,u7,u8,u9,(.sel kN 1),u10,u11,u12])) (
 .split (.eql (.sel kN 0) (.c 2)) dc x4)) x4) x4))) x4) (
 .split nZ (
 .split (.lss kz (.c 0)) (
 .split (.eql bi (.c 0)) Xz (
 .split (.lss Y0 x0) (
 .split na (
 .split (.eql (.sel j2 0) (.c 1)) (
 .leaf (.next 4 [u0,u1,u2,u3,u4,u5,u6,u7,u8,u9,(.sel j2 1),u10,u11,u12])) (
 .split (.eql (.sel j2 0) (.c 2)) dc x4)) x4) x4)) (
 .split (.eql bO (.c 0)) Xz (
 .split (.lss Y0 x0) (
 .split na (
 .split (.eql (.sel lw 0) (.c 1)) (
 .leaf (.next 4 [u0,u1,u2,u3,u4,u5,u6,u7,u8,u9,(.sel lw 1),u10,u11,u12])) (
 .split (.eql (.sel lw 0) (.c 2)) dc x4)) x4) x4))) x4)) x4)
def uL:Tr Plf:=
 .split (.eqS u10 0 0) Xz (
 .split (.eql (.sel ow 0) (.c 1)) (
 .split (.lss ZV (.c 0)) (
 .split wp (
 .split (.lss fS (.c 0)) (
 .split (.eql dK (.c 0)) aa (
 .split E8 (
 .split Gq (
 .split (.eql (.sel kY 0) (.c 1)) (
 .leaf (.next 5 [u0,u1,u2,u3,u4,u5,u6,u7,u8,u9,u10,(.sel kY 1),u11,u12,u13])) (
 .split (.eql (.sel kY 0) (.c 2)) cr x4)) x4) x4)) (
 .split (.eql aC (.c 0)) aa (
 .split E8 (
 .split Gq (
 .split (.eql (.sel iO 0) (.c 1)) (
 .leaf (.next 5 [u0,u1,u2,u3,u4,u5,u6,u7,u8,u9,u10,(.sel iO 1),u11,u12,u13])) (
 .split (.eql (.sel iO 0) (.c 2)) cr x4)) x4) x4))) x4) (
 .split wp (
 .split (.lss fS (.c 0)) (
 .split (.eql dK (.c 0)) aa (
 .split (.lss ZV x0) (
 .split vG (
 .split (.eql (.sel iD 0) (.c 1)) (
 .leaf (.next 5 [u0,u1,u2,u3,u4,u5,u6,u7,u8,u9,u10,(.sel iD 1),u11,u12,u13])) (
 .split (.eql (.sel iD 0) (.c 2)) cr x4)) x4) x4)) (
 .split (.eql aC (.c 0)) aa (
 .split (.lss ZV x0) (
 .split vG (
 .split (.eql (.sel jI 0) (.c 1)) (
 .leaf (.next 5 [u0,u1,u2,u3,u4,u5,u6,u7,u8,u9,u10,(.sel jI 1),u11,u12,u13])) (
 .split (.eql (.sel jI 0) (.c 2)) cr x4)) x4) x4))) x4)) x4)
def uS:Tr Plf:=
 .split (.eqS u11 0 0) aa (
 .split (.eql (.sel tT 0) (.c 1)) (
 .split (.lss Z5 (.c 0)) (
 .split xN (
 .split (.lss gL (.c 0)) (
 .split (.eql dT (.c 0)) YU (
 .split E8 (
 .split Gq (
 .split (.eql (.sel lm 0) (.c 1)) (
 .leaf (.next 6 [u0,u1,u2,u3,u4,u5,u6,u7,u8,u9,u10,u11,(.sel lm 1),u12,u13,u14])) (
 .split (.eql (.sel lm 0) (.c 2)) db x4)) x4) x4)) (
 .split (.eql bN (.c 0)) YU (
 .split E8 (
 .split Gq (
 .split (.eql (.sel ir 0) (.c 1)) (
 .leaf (.next 6 [u0,u1,u2,u3,u4,u5,u6,u7,u8,u9,u10,u11,(.sel ir 1),u12,u13,u14])) (
 .split (.eql (.sel ir 0) (.c 2)) db x4)) x4) x4))) x4) (
 .split xN (
 .split (.lss gL (.c 0)) (
 .split (.eql dT (.c 0)) YU (
 .split (.lss Z5 x0) (
 .split wJ (
 .split (.eql (.sel lh 0) (.c 1)) (
 .leaf (.next 6 [u0,u1,u2,u3,u4,u5,u6,u7,u8,u9,u10,u11,(.sel lh 1),u12,u13,u14])) (
 .split (.eql (.sel lh 0) (.c 2)) db x4)) x4) x4)) (
 .split (.eql bN (.c 0)) YU (
 .split (.lss Z5 x0) (
 .split wJ (
 .split (.eql (.sel iC 0) (.c 1)) (
 .leaf (.next 6 [u0,u1,u2,u3,u4,u5,u6,u7,u8,u9,u10,u11,(.sel iC 1),u12,u13,u14])) (
 .split (.eql (.sel iC 0) (.c 2)) db x4)) x4) x4))) x4)) x4)
def mB:Tr Plf:=
 .split (.eqS u12 0 0) YU (
 .split (.eql (.sel tX 0) (.c 1)) (
 .split (.lss Xn (.c 0)) (
 .split rG (
 .split (.lss kL (.c 0)) (
 .split (.eql ce (.c 0)) ai (
 .split E8 (
 .split Gq (
 .split (.eql (.sel ly 0) (.c 1)) (
 .leaf (.next 7 [u0,u1,u2,u3,u4,u5,u6,u7,u8,u9,u10,u11,u12,(.sel ly 1),u13,u14,u15])) (
 .split (.eql (.sel ly 0) (.c 2)) bQ x4)) x4) x4)) (
 .split (.eql dS (.c 0)) ai (
 .split E8 (
 .split Gq (
 .split (.eql (.sel im 0) (.c 1)) (
 .leaf (.next 7 [u0,u1,u2,u3,u4,u5,u6,u7,u8,u9,u10,u11,u12,(.sel im 1),u13,u14,u15])) (
 .split (.eql (.sel im 0) (.c 2)) bQ x4)) x4) x4))) x4) (
 .split rG (
 .split (.lss kL (.c 0)) (
 .split (.eql ce (.c 0)) ai (
 .split (.lss Xn x0) (
 .split mP (
 .split (.eql (.sel hJ 0) (.c 1)) (
 .leaf (.next 7 [u0,u1,u2,u3,u4,u5,u6,u7,u8,u9,u10,u11,u12,(.sel hJ 1),u13,u14,u15])) (
 .split (.eql (.sel hJ 0) (.c 2)) bQ x4)) x4) x4)) (
 .split (.eql dS (.c 0)) ai (
 .split (.lss Xn x0) (
 .split mP (
 .split (.eql (.sel kM 0) (.c 1)) (
 .leaf (.next 7 [u0,u1,u2,u3,u4,u5,u6,u7,u8,u9,u10,u11,u12,(.sel kM 1),u13,u14,u15])) (
 .split (.eql (.sel kM 0) (.c 2)) bQ x4)) x4) x4))) x4)) x4)
def mt:Tr Plf:=
 .split (.eqS u13 0 0) ai (
 .split (.eql (.sel oh 0) (.c 1)) (
 .split (.lss Ye (.c 0)) (
 .split mM (
 .split (.lss li (.c 0)) (
 .split (.eql dw (.c 0)) Z9 (
 .split E8 (
 .split Gq (
 .split (.eql (.sel jw 0) (.c 1)) (
 .leaf (.next 8 [u0,u1,u2,u3,u4,u5,u6,u7,u8,u9,u10,u11,u12,u13,(.sel jw 1),u14,u15,u16])) (
 .split (.eql (.sel jw 0) (.c 2)) aM x4)) x4) x4)) (
 .split (.eql dg (.c 0)) Z9 (
 .split E8 (
 .split Gq (
 .split (.eql (.sel jc 0) (.c 1)) (
 .leaf (.next 8 [u0,u1,u2,u3,u4,u5,u6,u7,u8,u9,u10,u11,u12,u13,(.sel jc 1),u14,u15,u16])) (
 .split (.eql (.sel jc 0) (.c 2)) aM x4)) x4) x4))) x4) (
 .split mM (
 .split (.lss li (.c 0)) (
 .split (.eql dw (.c 0)) Z9 (
 .split (.lss Ye x0) (
 .split ra (
 .split (.eql (.sel gZ 0) (.c 1)) (
 .leaf (.next 8 [u0,u1,u2,u3,u4,u5,u6,u7,u8,u9,u10,u11,u12,u13,(.sel gZ 1),u14,u15,u16])) (
 .split (.eql (.sel gZ 0) (.c 2)) aM x4)) x4) x4)) (
 .split (.eql dg (.c 0)) Z9 (
 .split (.lss Ye x0) (
 .split ra (
 .split (.eql (.sel kj 0) (.c 1)) (
 .leaf (.next 8 [u0,u1,u2,u3,u4,u5,u6,u7,u8,u9,u10,u11,u12,u13,(.sel kj 1),u14,u15,u16])) (
 .split (.eql (.sel kj 0) (.c 2)) aM x4)) x4) x4))) x4)) x4)
def uz:Tr Plf:=
 .split (.eqS u14 0 0) Z9 (
 .split (.eql (.sel sc 0) (.c 1)) (
 .split (.lss Y5 (.c 0)) (
 .split su (
 .split (.lss gv (.c 0)) (
 .split (.eql aF (.c 0)) Zk (
 .split E8 (
 .split Gq (
 .split (.eql (.sel gX 0) (.c 1)) (
 .leaf (.next 9 [u0,u1,u2,u3,u4,u5,u6,u7,u8,u9,u10,u11,u12,u13,u14,(.sel gX 1),u15,u16,u17])) (
 .split (.eql (.sel gX 0) (.c 2)) dB x4)) x4) x4)) (
 .split (.eql bP (.c 0)) Zk (
 .split E8 (
 .split Gq (
 .split (.eql (.sel iK 0) (.c 1)) (
 .leaf (.next 9 [u0,u1,u2,u3,u4,u5,u6,u7,u8,u9,u10,u11,u12,u13,u14,(.sel iK 1),u15,u16,u17])) (
 .split (.eql (.sel iK 0) (.c 2)) dB x4)) x4) x4))) x4) (
 .split su (
 .split (.lss gv (.c 0)) (
 .split (.eql aF (.c 0)) Zk (
 .split (.lss Y5 x0) (
 .split nR (
 .split (.eql (.sel ii 0) (.c 1)) (
 .leaf (.next 9 [u0,u1,u2,u3,u4,u5,u6,u7,u8,u9,u10,u11,u12,u13,u14,(.sel ii 1),u15,u16,u17])) (
 .split (.eql (.sel ii 0) (.c 2)) dB x4)) x4) x4)) (
 .split (.eql bP (.c 0)) Zk (
 .split (.lss Y5 x0) (
 .split nR (
 .split (.eql (.sel lr 0) (.c 1)) (
 .leaf (.next 9 [u0,u1,u2,u3,u4,u5,u6,u7,u8,u9,u10,u11,u12,u13,u14,(.sel lr 1),u15,u16,u17])) (
 .split (.eql (.sel lr 0) (.c 2)) dB x4)) x4) x4))) x4)) x4)
def sj:Tr Plf:=
 .split (.eqS u15 0 0) Zk (
 .split (.eql (.sel mW 0) (.c 1)) (
 .split (.lss Xw (.c 0)) (
 .split rP (
 .split (.lss jP (.c 0)) (
 .split (.eql cO (.c 0)) YJ (
 .split E8 (
 .split Gq (
 .split (.eql (.sel gt 0) (.c 1)) (
 .leaf (.next 10 [u0,u1,u2,u3,u4,u5,u6,u7,u8,u9,u10,u11,u12,u13,u14,u15,(.sel gt 1),u16,u17,u18])) (
 .split (.eql (.sel gt 0) (.c 2)) cV x4)) x4) x4)) (
 .split (.eql cZ (.c 0)) YJ (
 .split E8 (
 .split Gq (
 .split (.eql (.sel jO 0) (.c 1)) (
 .leaf (.next 10 [u0,u1,u2,u3,u4,u5,u6,u7,u8,u9,u10,u11,u12,u13,u14,u15,(.sel jO 1),u16,u17,u18])) (
 .split (.eql (.sel jO 0) (.c 2)) cV x4)) x4) x4))) x4) (
 .split rP (
 .split (.lss jP (.c 0)) (
 .split (.eql cO (.c 0)) YJ (
 .split (.lss Xw x0) (
 .split oX (
 .split (.eql (.sel jr 0) (.c 1)) (
 .leaf (.next 10 [u0,u1,u2,u3,u4,u5,u6,u7,u8,u9,u10,u11,u12,u13,u14,u15,(.sel jr 1),u16,u17,u18])) (
 .split (.eql (.sel jr 0) (.c 2)) cV x4)) x4) x4)) (
 .split (.eql cZ (.c 0)) YJ (
 .split (.lss Xw x0) (
 .split oX (
 .split (.eql (.sel j0 0) (.c 1)) (
 .leaf (.next 10 [u0,u1,u2,u3,u4,u5,u6,u7,u8,u9,u10,u11,u12,u13,u14,u15,(.sel j0 1),u16,u17,u18])) (
 .split (.eql (.sel j0 0) (.c 2)) cV x4)) x4) x4))) x4)) x4)
def fO:Tr Plf:=
 .split (.eqS u16 0 0) YJ (
 .split (.eql (.sel nF 0) (.c 1)) (
 .split (.lss XC (.c 0)) (
 .split qA (
 .split (.lss gB (.c 0)) (
 .split (.eql bp (.c 0)) XS (
 .split E8 (
 .split Gq (
 .split (.eql (.sel gS 0) (.c 1)) (
 .leaf (.next 11 [u0,u1,u2,u3,u4,u5,u6,u7,u8,u9,u10,u11,u12,u13,u14,u15,u16,(.sel gS 1),u17,u18,u19])) (
 .split (.eql (.sel gS 0) (.c 2)) cK x4)) x4) x4)) (
 .split (.eql bD (.c 0)) XS (
 .split E8 (
 .split Gq (
 .split (.eql (.sel iY 0) (.c 1)) (
 .leaf (.next 11 [u0,u1,u2,u3,u4,u5,u6,u7,u8,u9,u10,u11,u12,u13,u14,u15,u16,(.sel iY 1),u17,u18,u19])) (
 .split (.eql (.sel iY 0) (.c 2)) cK x4)) x4) x4))) x4) (
 .split qA (
 .split (.lss gB (.c 0)) (
 .split (.eql bp (.c 0)) XS (
 .split (.lss XC x0) (
 .split pQ (
 .split (.eql (.sel i4 0) (.c 1)) (
 .leaf (.next 11 [u0,u1,u2,u3,u4,u5,u6,u7,u8,u9,u10,u11,u12,u13,u14,u15,u16,(.sel i4 1),u17,u18,u19])) (
 .split (.eql (.sel i4 0) (.c 2)) cK x4)) x4) x4)) (
 .split (.eql bD (.c 0)) XS (
 .split (.lss XC x0) (
 .split pQ (
 .split (.eql (.sel kK 0) (.c 1)) (
 .leaf (.next 11 [u0,u1,u2,u3,u4,u5,u6,u7,u8,u9,u10,u11,u12,u13,u14,u15,u16,(.sel kK 1),u17,u18,u19])) (
 .split (.eql (.sel kK 0) (.c 2)) cK x4)) x4) x4))) x4)) x4)
def i8:Tr Plf:=
 .split (.eqS u17 0 0) XS (
 .split (.eql (.sel rQ 0) (.c 1)) (
 .split (.lss (.sel rQ 1) (.c 0)) oI oI) x4)
def t68:List (Tr Plf):=[xF,lY,ur,oT,uL,uS,mB,mt,uz,sj,fO,i8]
def tf:Tr Plf:=
 .split (.eql x12 x3) (
 .leaf (.next 1 [u0,u1,u2,u3,(.c 0)])) x1
def tD:Tr Plf:=
 .split (.lss u4 x12) (
 .split x44 x4 (
 .split x43 (
 .split (.eqSS (.cell u0 u4 0) x45) (
 .leaf (.next 1 [u0,u1,u2,u3,x47])) x1) x4)) x7
def t69:List (Tr Plf):=[tf,tD]
def rN:Tr Plf:=
 .split (.eql (.sel (.app 0 JY) 0) (.c 1)) (
 .split (.sel (.app 0 JY) 1) (
 .split (.lss (.c 8) x0) x7 (
 .split cX (
 .split bo (
 .split (.eql (.sel mV 0) (.c 1)) (
 .split (.lss (.sel mV 1) (.c 0)) (
 .split (.eql x0 (.c 0)) x4 (
 .split (.lss jS (.c 0)) x4 (
 .split (.lss jS x0) (
 .split (.lss (.lenL jt) cj) (
 .split (.eql (.sel Zw 0) (.c 1)) (
 .split (.eql (.sel XQ 0) (.c 1)) (
 .split (.eql (.sel cq 0) (.c 1)) (
 .split (.eql (.sel aH 0) (.c 1)) (
 .split (.eql (.arith .add .i64 (.arith .add .i64 (.arith .add .i64 (.sel Zw 4) (.sel XQ 4)) (.sel cq 3)) (.sel aH 3)) (.c 0)) (
 .split (.and (.eql (.sel Zw 1) (.sel XQ 1)) (.and (.eql (.sel Zw 2) (.sel XQ 2)) (.eql (.sel Zw 3) (.sel XQ 3)))) (
 .split (.eql (.sel vq 0) (.c 1)) (
 .split (.sel vq 1) x7 x1) x4) x1) x1) x4) x4) x4) x4) x4) x4))) x7) x4) x7) x4)) x7) x4
def t70:List (Tr Plf):=[rN]
def ts:List (List (Tr Plf)):=[t0,t1,t2,t3,t4,t5,t6,t7,t8,t9,t10,t11,t12,t13,t14,t15,t16,t17,t18,t19,t20,t21,t22,t23,t24,t25,t26,t27,t28,t29,t30,t31,t32,t33,t34,t35,t36,t37,t38,t39,t40,t41,t42,t43,t44,t45,t46,t47,t48,t49,t50,t51,t52,t53,t54,t55,t56,t57,t58,t59,t60,t61,t62,t63,t64,t65,t66,t67,t68,t69,t70]
end Mx

