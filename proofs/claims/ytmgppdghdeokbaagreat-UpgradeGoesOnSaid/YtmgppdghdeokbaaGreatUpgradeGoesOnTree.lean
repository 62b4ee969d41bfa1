/- What is stated: the trees of tests of the functions that the law UpgradeGoesOn reaches, as data. Conditions: none. -/
import Derived.Test.YtmgppdghdeokbaaGreatBeF
set_option linter.unusedVariables false
set_option linter.unusedSectionVars false
set_option linter.unusedSimpArgs false
namespace Ug
open Go.AE
def u0:SE:=.var 0
def u1:SE:=.var 1
def u2:SE:=.var 2
def u3:SE:=.var 3
def u4:SE:=.var 4
def u5:SE:=.var 5
def u6:SE:=.var 6
def u7:SE:=.var 7
def u8:SE:=.var 8
def u9:SE:=.var 9
def u10:SE:=.var 10
def u11:SE:=.var 11
def u12:SE:=.var 12
def u13:SE:=.var 13
def u14:SE:=.var 14
def u15:SE:=.var 15
def u16:SE:=.var 16
def u17:SE:=.var 17
def u18:SE:=.var 18
def u19:SE:=.var 19
def u20:SE:=.var 20
def u21:SE:=.var 21
def u22:SE:=.var 22
def u23:SE:=.var 23
def u24:SE:=.var 24
def u25:SE:=.var 25
def u26:SE:=.var 26
def u27:SE:=.var 27
def u28:SE:=.var 28
def u29:SE:=.var 29
def u30:SE:=.var 30
def u31:SE:=.var 31
def u32:SE:=.var 32
def u33:SE:=.var 33
def u34:SE:=.var 34
def u35:SE:=.var 35
def u36:SE:=.var 36
def u37:SE:=.var 37
def u38:SE:=.var 38
def u39:SE:=.var 39
def u40:SE:=.var 40
def u41:SE:=.var 41
def u42:SE:=.var 42
def u43:SE:=.var 43
def u44:SE:=.var 44
def u45:SE:=.var 45
def u46:SE:=.var 46
def u47:SE:=.var 47
def u48:SE:=.var 48
def u49:SE:=.var 49
def u50:SE:=.var 50
def u51:SE:=.var 51
def u52:SE:=.var 52
def u53:SE:=.var 53
def u54:SE:=.var 54
def u55:SE:=.var 55
def u56:SE:=.var 56
def u57:SE:=.var 57
def u58:SE:=.var 58
def u59:SE:=.var 59
def u60:SE:=.var 60
def u61:SE:=.var 61
def u66:SE:=.var 66
def u67:SE:=.var 67
def u68:SE:=.var 68
def x0:SE:=(.lenL u1)
def x1:Tr Plf:=(
 .leaf (.done 0 [(.bc false)]))
def x2:SE:=(.lenL u3)
def x3:SE:=(.lenL u2)
def x4:SE:=(.lenS u0)
def x5:SE:=(.lenL u4)
def x6:SE:=(.lss u1 x5)
def x7:SE:=(.lss u1 (.c 0))
def x8:Tr Plf:=(
 .leaf .stuck)
def x9:SE:=(.cell u4 u1 1)
def x10:SE:=(.cell u4 u1 0)
def x11:SE:=(.lss (.c 40) (.lenS x10))
def x12:SE:=(.arith .add .i64 u1 (.c 1))
def x13:SE:=(.cell u3 u1 0)
def x14:SE:=(.lenL u5)
def x15:SE:=(.cell u5 u1 0)
def x16:SE:=(.cell u5 u1 1)
def x17:SE:=(.cell u5 u1 3)
def x18:SE:=(.cell u5 u1 4)
def x19:SE:=(.cell u5 u1 5)
def x20:SE:=(.lenL u0)
def x21:SE:=(.lss u3 x20)
def x22:SE:=(.lss u4 x3)
def x23:Plf:=(.next 1 [u0,u1,u2,(.c 0)])
def x24:SE:=(.lss u3 (.c 0))
def x25:SE:=(.cell u0 u3 0)
def x26:SE:=(.cell u0 u3 1)
def x27:SE:=(.cell u0 u3 2)
def x28:SE:=(.app 0 (rl [(.c 0),x25,x26,x27,(.cell u0 u3 3)]))
def x29:SE:=(.app 1 (rl [(.c 0),(.cell u0 u3 4),(.cell u0 u3 5)]))
def x30:SE:=(.arith .add .i64 u3 (.c 1))
def x31:Tr Plf:=(
 .leaf (.next 1 [u0,u1,u2,x30]))
def x32:SE:=(.lss u1 x20)
def x33:SE:=(.cell u0 u1 3)
def x34:SE:=(.cell u0 u1 4)
def x35:Tr Plf:=(
 .leaf (.done 0 [(.bc true)]))
def x36:SE:=(.lss u2 (.c 0))
def x37:SE:=(.lss u2 x20)
def x38:SE:=(.cell u0 u2 0)
def x39:SE:=(.conv .u8 x38)
def x40:SE:=(.eql u2 (.c 0))
def x41:SE:=(.arith .add .i64 u2 (.c 1))
def x42:Tr Plf:=(
 .leaf (.next 1 [u0,u1,x41]))
def x43:Plf:=(.next 1 [u0,(.c 0),u1])
def x44:SE:=(.cell u0 u1 0)
def x45:Tr Plf:=(
 .leaf (.done 0 [u1]))
def x46:Tr Plf:=(
 .split x7 x8 (
 .split (.eqSS x44 u2) x45 (
 .leaf (.next 1 [u0,x12,u2]))))
def x47:Tr Plf:=(
 .leaf (.done 0 [(.c (-1))]))
def x48:SE:=(.lss u0 u1)
def x49:Tr Plf:=(
 .leaf (.done 0 [(.c 0)]))
def x50:Tr Plf:=(
 .leaf (.done 0 [u2]))
def x51:Tr Plf:=(
 .split (.lss u2 u0) x50 (
 .leaf (.next 1 [u0,(.c 0),u3,u4,u5,u6])))
def x52:SE:=(.lss u1 u0)
def x53:SE:=(.app 4 (rl [(.c 0),x10]))
def x54:SE:=(.app 5 (rl [(.c 0),u4,x10]))
def x55:Tr Plf:=(
 .leaf (.next 1 [u0,x12,u2,u3,u4,u5]))
def x56:SE:=(.app 4 (rl [(.c 0),x13]))
def x57:SE:=(.app 7 (rl [(.c 0),u3,x13]))
def x58:SE:=(.cell u3 u1 2)
def x59:Plf:=(.next 1 ([u0,(.c 0)]++us 1 9))
def x60:SE:=(.cell u0 u1 1)
def x61:SE:=(.cell u0 u1 2)
def x62:Tr Plf:=(
 .leaf (.next 1 ([u0,x12]++us 2 9)))
def x63:SE:=(.cell u5 u1 2)
def x64:SE:=(.app 7 (rl [(.c 0),u3,x15]))
def x65:SE:=(.eql (.sel x64 0) (.c 1))
def x66:SE:=(.app 5 (rl [(.c 0),u4,x19]))
def x67:SE:=(.eql (.sel x66 0) (.c 1))
def x68:SE:=(.lss (.sel x64 1) (.c 0))
def x69:SE:=(.app 7 (rl [(.c 0),u3,x16]))
def x70:SE:=(.eql (.sel x69 0) (.c 1))
def x71:SE:=(.lss (.sel x69 1) (.c 0))
def x72:SE:=(.lss x14 u1)
def x73:SE:=(.cell u5 u1 6)
def x74:SE:=(.cell u5 u1 7)
def x75:SE:=(.cell u5 u1 8)
def x76:SE:=(.app 9 (rl [(.c 0),(.sub u5 (.c 0) u1),x15,x16,x63,x17,x18,x19,x73,x74,x75]))
def x77:SE:=(.eql (.sel x76 0) (.c 1))
def x78:SE:=(.lss (.sel x76 1) (.c 0))
def x79:SE:=(.lss (.sel x64 1) x2)
def x80:SE:=(.app 4 (rl [(.c 0),x17]))
def x81:SE:=(.app 4 (rl [(.c 0),x18]))
def x82:SE:=(.cell u4 (.sel x66 1) 1)
def x83:Tr Plf:=(
 .split (.eqS x19 0 0) (
 .split (.eql x73 (.c 0)) (
 .split (.eql x74 (.c 0)) (
 .split (.eql x75 (.c 0)) x55 x45) x45) x45) (
 .split (.lss (.sel x66 1) (.c 0)) x45 (
 .split (.lss x73 (.c 0)) x45 (
 .split (.lss x74 x73) x45 (
 .split (.lss x75 (.c (-1000))) x45 (
 .split (.lss (.c 1000) x75) x45 (
 .split (.lss (.sel x66 1) x5) (
 .split (.lss x82 x74) x45 (
 .split (.lss (.arith .add .i64 x73 x75) (.c 0)) x45 (
 .split (.lss x82 (.arith .add .i64 x74 x75)) x45 x55))) x8)))))))
def x84:Tr Plf:=(
 .split x65 (
 .split x67 (
 .split x68 x45 (
 .split x70 (
 .split x71 x45 (
 .split x72 x8 (
 .split x77 (
 .split x78 (
 .split x79 (
 .split (.eql (.sel x80 0) (.c 1)) (
 .split (.sel x80 1) (
 .split (.eql (.sel x81 0) (.c 1)) (
 .split (.sel x81 1) (
 .split (.eqSS x18 u2) x45 x83) x45) x8) x45) x8) x8) x45) x8))) x8)) x8) x8)
def x85:Tr Plf:=(
 .split (.lss (.lenS x17) (.c 4611686018427387904)) (
 .split (.lss (.lenS x18) (.c 4611686018427387904)) (
 .split (.eqS (.strCat x17 x18) 0 0) x83 x45) x8) x8)
def x86:SE:=(.app 4 (rl [(.c 0),u0]))
def x87:SE:=(rl [u3])
def x88:SE:=(.rcons u1 (.rcons u2 x87))
def x89:SE:=(.rcons u0 x88)
def x90:SE:=(.app 6 (.rcons (.c 0) (.rcons x3 (.rcons (.c 0) (.rcons (.c 4) x89)))))
def x91:SE:=(.app 8 (.rcons (.c 0) (.rcons x0 (.rcons (.c 1) (.rcons (.c 24) x89)))))
def x92:SE:=(.app 10 (.rcons (.c 0) (.rcons x2 (.rcons (.c 0) (.rcons (.c 80) x89)))))
def x93:Tr Plf:=(
 .leaf (.done 0 [(.c 0),(.c 0)]))
def x94:SE:=(.app 12 (rl [(.c 0),u2,u3,x44]))
def x95:SE:=(.c 1073741824)
def x96:SE:=(rl [(.c 0)])
def x97:SE:=(.isNil u0)
def x98:Tr Plf:=(
 .leaf (.done 0 [.nilL,(.bc true)]))
def x99:Tr Plf:=(
 .split (.lss x20 (.c 1048576)) (
 .leaf (.done 0 [(.cat .emptyL u0),(.bc false)])) x8)
def mh:SE:=(.lss u4 (.c 0))
def e6:SE:=(.cell u2 u4 0)
def NY:SE:=(.lss x20 x95)
def lF:SE:=(.arith .add .i64 u4 (.c 1))
def lM:Tr Plf:=(
 .leaf (.done 0 [u0,u1]))
def Z3:SE:=(.lss u5 (.c 0))
def fy:Tr Plf:=(
 .leaf (.done 0 [(.c 0),(.c 2)]))
def kF:Tr Plf:=(
 .leaf (.done 0 [(.c 0),(.c 9)]))
def aU:SE:=(rl [u5])
def cB:SE:=(.mIdx [(.int .i64)] u1 aU)
def kj:SE:=(.lss cB (.c 0))
def uY:SE:=(.rcons u3 (.rcons u4 aU))
def ZI:SE:=(.rcons (.c 0) (.rcons u0 (.rcons u1 (.rcons u2 uY))))
def nE:Tr Plf:=(
 .leaf (.done 0 [(.c 0),u1]))
def YI:SE:=(rl [u6])
def wq:SE:=(.snoc u3 (.rcons u5 YI))
def Tv:SE:=(.arith .quo .i64 (.arith .sub .i64 u0 (.c 1)) (.c 2))
def iL:SE:=(.cell u3 Tv 0)
def j3:SE:=(.cell u3 u0 0)
def jm:SE:=(.cell u3 Tv 1)
def kM:SE:=(.cell u3 u0 1)
def jP:SE:=(.lss jm kM)
def RB:Tr Plf:=(
 .leaf (.done 0 [u3,u4]))
def lN:SE:=(.lss kM jm)
def eX:Tr Plf:=(
 .leaf (.next 1 [Tv,u1,u2,(.upd (.upd (.upd (.upd u3 Tv 0 j3) Tv 1 kM) u0 0 iL) u0 1 jm),u4,u5]))
def nr:Tr Plf:=(
 .leaf (.done 0 [(.c 2),u2,u3,u4,u1]))
def jS:SE:=(.lss u6 (.c 0))
def wB:Tr Plf:=(
 .leaf (.done 0 [(.c 3),u2,u3,u4,u1]))
def dY:SE:=(.c 1099511627776)
def lJ:SE:=(.arith .add .i64 u0 u6)
def eo:SE:=(rl [u5,lJ])
def kG:SE:=(.rcons u3 (.rcons u4 (.rcons lJ aU)))
def kB:SE:=(.app 20 (.rcons (.c 0) (.rcons u0 (.rcons (.snoc .emptyL eo) (.rcons (.bc false) kG)))))
def lR:SE:=(.app 20 (.rcons (.c 0) (.rcons u0 (.rcons (.snoc u1 eo) (.rcons u2 kG)))))
def uz:SE:=(.upd u1 cB 1 lJ)
def kT:SE:=(.app 20 (.rcons (.c 0) (.rcons u0 (.rcons uz (.rcons u2 kG)))))
def qB:SE:=(.app 17 (rl [(.c 0),u3,u4,u20]))
def Xx:SE:=(.sel qB 1)
def jV:SE:=(.app 19 (.rcons (.c 0) (.rcons u12 (.rcons u13 (.rcons u14 (.rcons u15 (.rcons u16 x96)))))))
def fX:SE:=(.cell Xx (.c 0) 2)
def YN:SE:=(.app 21 (rl [(.c 0),u12,(.sel jV 2),u14,u15,u16,(.c 0),fX]))
def Qd:SE:=(.rcons (.c 0) x89)
def kJ:SE:=(.eql (.sel (.app 11 Qd) 0) (.c 1))
def Xi:SE:=(.eql (.sel (.app 11 Qd) 2) (.c 0))
def TQ:SE:=(rl [u2])
def bg:SE:=(.app 13 (.rcons (.c 0) TQ))
def iU:SE:=(rl [u1])
def T6:SE:=(.app 14 (.rcons (.c 0) iU))
def rO:SE:=(.eql (.sel T6 0) (.c 1))
def TM:SE:=(.app 15 (.rcons (.c 0) TQ))
def qH:SE:=(.eql (.sel TM 0) (.c 1))
def UU:SE:=(.app 16 (.rcons (.c 0) x87))
def oz:SE:=(.eql (.sel UU 0) (.c 1))
def SI:SE:=(.app 22 (rl [(.c 0),(.sel bg 1),(.sel bg 2),u0,(.sel T6 1),(.sel T6 2),(.sel TM 1),(.sel TM 2),(.sel UU 1),(.sel UU 2),(.strc 0 0),(.bc false),(.c 0),(.c 0),.emptyL,(.bc true),.nilL,(.bc true),(.bc false),.nilL,(.bc true),(.cell u1 (.c 0) 0)]))
def BV:SE:=(.app 23 Qd)
def tu:SE:=(.eql (.sel BV 0) (.c 1))
def Yd:SE:=(.sel BV 1)
def eM:SE:=(.sel BV 13)
def qt:SE:=(.eql (.sel BV 0) (.c 2))
def TE:SE:=(rl [u4])
def Y6:SE:=(.app 25 (.rcons (.c 0) (.rcons u3 TE)))
def tL:SE:=(.eql (.sel Y6 0) (.c 1))
def TY:SE:=(.arith .sub .i64 x2 (.c 1))
def pF:SE:=(.upd (.upd u3 (.c 0) 0 (.cell u3 TY 0)) (.c 0) 1 (.cell u3 TY 1))
def vP:SE:=(.arith .mul .i64 (.c 2) u1)
def jM:SE:=(.eql u3 (.c 0))
def TD:SE:=(.lenL u6)
def iW:SE:=(.lss u2 TD)
def qP:SE:=(.cell u6 u9 0)
def YR:SE:=(.cell u6 u2 0)
def lj:SE:=(.cell u6 u9 1)
def Uv:SE:=(.cell u6 u2 1)
def kZ:SE:=(.lss lj Uv)
def dR:Tr Plf:=(
 .leaf (.next 2 ([u0,u1,u9,x30]++us 4 7)))
def SG:Tr Plf:=(
 .leaf (.next 2 ([u0,u1,u2,x30]++us 4 7)))
def vk:Tr Plf:=(
 .split (.lss Uv lj) SG SG)
def wI:SE:=(.cell u6 u10 0)
def jI:SE:=(.cell u6 u10 1)
def iP:SE:=(.lss jI Uv)
def eQ:Tr Plf:=(
 .leaf (.next 2 ([u0,u1,u10,x30]++us 4 7)))
def mw:Tr Plf:=(
 .split (.lss Uv jI) SG SG)
def kL:SE:=(.app 27 (.rcons (.c 0) (.rcons u0 (.rcons u4 x88))))
def j4:Tr Plf:=(
 .split (.eql (.sel kL 0) (.c 1)) (
 .leaf (.next 1 [u0,u1,(.sel kL 1),(.sel kL 2),u4])) x8)
def rM:SE:=(.mIdx [(.int .i64)] u4 (rl [(.cell u2 (.c 0) 1)]))
def vF:SE:=(.rcons u1 (.rcons u2 (.rcons u3 TE)))
def Xg:SE:=(.app 28 (.rcons (.c 0) (.rcons u5 vF)))
def Xw:SE:=(.app 28 (.rcons (.c 0) (.rcons u0 vF)))
def sN:Tr Plf:=(
 .leaf (.done 0 [u0,u1,(.c 0),u3,u5,u6,u7]))
def dt:SE:=(.rcons u4 (.rcons u5 YI))
def WH:SE:=(.app 28 (.rcons (.c 0) (.rcons u3 (.rcons u7 dt))))
def WQ:SE:=(rl [u9])
def uj:Tr Plf:=(
 .split (.eql (.sel WH 0) (.c 1)) (
 .leaf (.next 1 [(.snoc u0 WQ),(.bc false),(.sel WH 3),u3,u4,(.sel WH 4),(.sel WH 5),u7,(.sel WH 1),(.sel WH 2)])) x8)
def ko:SE:=(.mIdx [(.int .i64)] u7 WQ)
def W6:SE:=(.app 28 (.rcons (.c 0) (.rcons u3 (.rcons (.rmv u7 ko) dt))))
def fj:SE:=(.app 12 (.rcons (.c 0) (.rcons u0 (.rcons u1 TQ))))
def ku:SE:=(rl [u7])
def Yf:SE:=(.rcons (.c 0) (.rcons u0 (.rcons u1 ku)))
def oN:SE:=(.eql (.sel (.app 12 Yf) 0) (.c 1))
def TA:SE:=(.sel (.app 12 Yf) 1)
def dU:SE:=(.sel (.app 30 Yf) 1)
def lV:Tr Plf:=(
 .leaf (.done 0 [(.bc false),(.c 0)]))
def jC:SE:=(.arith .add .i64 u0 (.c 1))
def cj:Tr Plf:=(
 .leaf (.next 1 ([jC]++us 1 35)))
def rD:SE:=(rl [u32,u33,u34])
def xN:SE:=(.app 31 (.rcons (.c 0) (.rcons u14 (.rcons u15 (.rcons u26 (.rcons u27 (.rcons u28 (.rcons u29 (.rcons u30 (.rcons u31 rD))))))))))
def eZ:SE:=(.app 31 (rl ([(.c 0)]++us 0 11)))
def cy:SE:=(.lenL u18)
def G2:SE:=(.lenL u7)
def qQ:SE:=(.cell u7 u27 1)
def eU:SE:=(.app 33 (rl [(.c 0),u0,u1,(.cell u7 u27 0),qQ,(.cell u7 u27 2),(.cell u7 u27 3),(.cell u7 u27 4),(.cell u7 u27 5),(.cell u7 u27 6),(.cell u7 u27 7),(.cell u7 u27 8)]))
def Rn:SE:=(.app 22 (rl [(.c 0),(.sel eU 2),u1,u2,u3,u4,u5,u6,u7,u8,u9,u10,u11,u20,u21,u22,u23,u24,u25,u18,u19,qQ]))
def vG:Tr Plf:=(
 .leaf (.done 0 [(.c 2),u9,u10,u11,u17,u18,u19,u0,u1,u13,u15,u12,u14,u16]))
def jB:SE:=(.lss u20 u12)
def mS:Tr Plf:=(
 .leaf (.done 0 [(.c 3),u9,u10,u11,u17,u18,u19,u0,u1,u13,u15,u12,u14,u16]))
def iH:SE:=(.lss dY u20)
def Ob:SE:=(.app 26 (rl ([(.c 0)]++us 12 5)))
def fL:SE:=(.eql (.sel Ob 0) (.c 1))
def I9:SE:=(.sel Ob 2)
def WN:SE:=(.app 29 (rl [(.c 0),(.sel Ob 1),(.sel Ob 5),I9,(.sel Ob 3),(.sel Ob 4),u20]))
def iS:SE:=(.eql (.sel WN 0) (.c 1))
def Li:SE:=(.sel WN 4)
def Ln:SE:=(.sel WN 7)
def Lr:SE:=(.sel WN 5)
def Lq:SE:=(.sel WN 6)
def wh:SE:=(rl [(.cell u7 u21 0),(.cell u7 u21 1),(.cell u7 u21 2),(.cell u7 u21 3),(.cell u7 u21 4),(.cell u7 u21 5),(.cell u7 u21 6),(.cell u7 u21 7),(.cell u7 u21 8)])
def uA:SE:=(.app 32 (.rcons (.c 0) (.rcons u0 (.rcons u1 (.rcons u2 (.rcons u3 (.rcons u4 (.rcons u5 (.rcons u6 (.rcons u7 (.rcons u8 (.rcons u9 (.rcons u10 (.rcons u11 (.rcons u12 (.rcons u13 (.rcons u14 (.rcons u15 (.rcons u16 (.rcons u17 (.rcons u18 (.rcons u19 (.rcons Li (.rcons Ln (.rcons I9 (.rcons Lr (.rcons Lq (.rcons (.bc true) wh))))))))))))))))))))))))))))
def kb:SE:=(rl [u20,u21])
def Ku:SE:=(.app 34 (.rcons (.c 0) (.rcons u0 (.rcons u1 (.rcons u2 (.rcons u3 (.rcons u4 (.rcons u5 (.rcons u6 (.rcons u7 (.rcons u8 (.rcons u9 (.rcons u10 (.rcons u11 (.rcons u12 (.rcons u13 (.rcons u14 (.rcons u15 (.rcons u16 (.rcons (.bc true) (.rcons u18 (.rcons u19 (.rcons Li (.rcons Ln (.rcons I9 (.rcons Lr (.rcons Lq (.rcons (.bc true) kb))))))))))))))))))))))))))))
def Ta:SE:=(.lss (.c 0) (.lenL (.sel WN 1)))
def oT:SE:=(.app 32 (.rcons (.c 0) (.rcons u0 (.rcons u1 (.rcons u2 (.rcons u3 (.rcons u4 (.rcons u5 (.rcons u6 (.rcons u7 (.rcons u8 (.rcons u9 (.rcons u10 (.rcons u11 (.rcons u12 (.rcons u13 (.rcons u14 (.rcons u15 (.rcons u16 (.rcons u17 (.rcons u18 (.rcons u19 (.rcons Li (.rcons Ln (.rcons I9 (.rcons Lr (.rcons Lq (.rcons Ta wh))))))))))))))))))))))))))))
def Kf:SE:=(.app 34 (.rcons (.c 0) (.rcons u0 (.rcons u1 (.rcons u2 (.rcons u3 (.rcons u4 (.rcons u5 (.rcons u6 (.rcons u7 (.rcons u8 (.rcons u9 (.rcons u10 (.rcons u11 (.rcons u12 (.rcons u13 (.rcons u14 (.rcons u15 (.rcons u16 (.rcons (.bc false) (.rcons u18 (.rcons u19 (.rcons Li (.rcons Ln (.rcons I9 (.rcons Lr (.rcons Lq (.rcons Ta kb))))))))))))))))))))))))))))
def M6:SE:=(.rcons (.c 0) (.rcons u0 iU))
def sZ:SE:=(.eql (.sel (.app 36 M6) 0) (.c 1))
def ka:SE:=(rl [u18,u19])
def iY:SE:=(.app 38 (.rcons (.c 0) ka))
def iR:Tr Plf:=(
 .split (.eql u2 x20) x99 x8)
def iX:SE:=(.app 40 (.rcons (.c 0) uY))
def yh:SE:=(rl [u6,u7,u8])
def me:SE:=(.app 41 (.rcons (.c 0) yh))
def km:SE:=(rl [u10,u11])
def kY:SE:=(.app 42 (.rcons (.c 0) (.rcons u9 km)))
def XN:SE:=(.rcons u4 (.rcons u5 (.rcons u6 ku)))
def tQ:SE:=(.app 11 (.rcons (.c 0) XN))
def fP:SE:=(.eql (.sel tQ 2) (.c 0))
def Un:SE:=(.lenL u8)
def je:SE:=(.cell u8 u17 0)
def tc:SE:=(.app 44 (rl [(.c 0),u1,je]))
def jg:Tr Plf:=(
 .leaf (.done 0 [u17,(.c 490)]))
def um:SE:=(.app 44 (rl [(.c 0),u5,(.cell u8 u17 1)]))
def lO:SE:=(.mIdx [.str] u18 (rl [je]))
def vZ:SE:=(.arith .add .i64 u17 (.c 1))
def YK:SE:=(rl [(.bc true)])
def tz:SE:=(.lss (.c 4) (.lenL u9))
def lK:SE:=(.cell u9 u20 0)
def pD:SE:=(.app 45 (rl [(.c 0),u6,lK]))
def Qi:Tr Plf:=(
 .leaf (.done 0 [u20,(.c 491)]))
def xI:SE:=(.cell u9 u20 1)
def iD:SE:=(.mIdx [.str] u21 (rl [lK]))
def S6:SE:=(.cell u9 u20 2)
def fD:SE:=(.arith .sub .i64 (.c 0) S6)
def nR:SE:=(.arith .add .i64 u20 (.c 1))
def pp:Tr Plf:=(
 .split (.lss S6 (.c (-1000))) Qi (
 .leaf (.next 2 [u0,u1,u2,u3,u4,u5,u6,u7,u8,u9,u10,u11,u12,u13,u14,u15,u16,u17,u18,u19,nR,(.snoc u21 (.rcons lK YK))])))
def wy:Tr Plf:=(
 .split (.lss S6 (.c (-1000))) Qi (
 .leaf (.next 2 [u0,u1,u2,u3,u4,u5,u6,u7,u8,u9,u10,u11,u12,u13,u14,u15,u16,u17,u18,u19,nR,(.upd u21 iD 1 (.bc true))])))
def qy:Tr Plf:=(
 .split (.lss iD (.c 0)) (
 .split (.lss S6 fD) (
 .split (.lss (.c 1000) fD) Qi pp) (
 .split (.lss (.c 1000) S6) Qi pp)) (
 .split (.cell u21 iD 1) Qi (
 .split (.lss S6 fD) (
 .split (.lss (.c 1000) fD) Qi wy) (
 .split (.lss (.c 1000) S6) Qi wy))))
def qd:SE:=(.app 45 (rl [(.c 0),u2,xI]))
def dw:SE:=(.cell u0 u2 2)
def jj:SE:=(.app 47 (rl [(.c 0),.nilL,(.bc true),(.sel (.app 36 M6) 1),(.sel (.app 36 M6) 2)]))
def fQ:SE:=(.app 44 (.rcons (.c 0) (.rcons u1 TE)))
def rh:Tr Plf:=(
 .leaf (.done 0 [(.sel fQ 1),(.c 0),(.c 0),(.c 0),(.c 0),(.bc false)]))
def nM:Tr Plf:=(
 .leaf (.done 0 [u7,(.c 0),(.c 0),(.c 0),(.c 0),(.bc false)]))
def dB:SE:=(.cell u0 (.c 0) 0)
def jn:SE:=(.cell u0 (.c 1) 0)
def ei:SE:=(.app 51 (rl ([(.c 0),u8,u0,u1,u2,u3]++us 10 5)))
def pG:SE:=(.app 44 (rl [(.c 0),u5,(.cell u8 (.sel ei 1) 1)]))
def sC:SE:=(.app 45 (rl [(.c 0),u8,x44]))
def kg:SE:=(rl [x60])
def tW:SE:=(.app 45 (.rcons (.c 0) (.rcons u4 kg)))
def Y1:SE:=(.sel tW 1)
def NV:Tr Plf:=(
 .leaf (.done 0 [(.c 0),(.c 0),(.c 0),(.c 0),(.c 0),(.c 3)]))
def Uk:SE:=(.sel sC 1)
def bA:SE:=(.lss Uk (.c 0))
def bh:SE:=(.lss Uk Un)
def bB:SE:=(.cell u8 Uk 1)
def Y3:SE:=(.eql Uk (.c 0))
def ae:SE:=(.eql Uk (.c 1))
def Z4:SE:=(.eql Uk (.c 2))
def bG:SE:=(.eql Uk (.c 3))
def Xz:SE:=(.arith .add .i64 x61 u11)
def WZ:SE:=(.arith .add .i64 x61 u12)
def Xn:SE:=(.arith .add .i64 x61 u13)
def W5:SE:=(.arith .add .i64 x61 u14)
def Z9:SE:=(.cell u6 u0 0)
def jZ:SE:=(.snoc .emptyL iU)
def ln:SE:=(.snoc jZ TQ)
def eE:SE:=(.snoc ln x87)
def cD:SE:=(.app 46 (.rcons (.c 0) (.rcons u0 (.rcons u1 (.rcons u2 (.rcons u3 (.rcons u4 (.rcons u5 (.rcons u6 (.rcons u7 (.rcons u8 WQ)))))))))))
def oA:SE:=(.eql (.sel cD 0) (.c 1))
def sI:SE:=(.eql (.sel cD 2) (.c 0))
def UW:SE:=(.app 50 (.rcons (.c 0) (.rcons u0 (.rcons u1 (.rcons u2 (.rcons u3 km))))))
def R8:SE:=(.app 52 (rl [(.c 0),u0,u1,u2,u3,u4,u5,u6,u7,u8,u9,(.sel UW 1),(.sel UW 2),(.sel UW 3),(.sel UW 4),(.sel UW 5)]))
def jo:SE:=(.app 53 (.rcons (.c 0) (.rcons (.sel R8 1) (.rcons (.sel R8 2) (.rcons (.sel R8 3) (.rcons (.sel R8 4) (.rcons (.sel R8 5) XN)))))))
def pm:Tr Plf:=(
 .leaf (.done 0 [(.c 3),u2]))
def ot:Tr Plf:=(
 .leaf (.next 1 [u0,x12,u2,u3]))
def iB:SE:=(.app 13 (.rcons (.c 0) ku))
def N3:SE:=(.sel iB 1)
def N5:SE:=(.sel iB 2)
def yt:SE:=(.app 55 (rl [(.c 0),N3,N5,.emptyL]))
def pa:SE:=(.app 55 (rl [(.c 0),N3,N5,jZ]))
def uZ:SE:=(.app 55 (rl [(.c 0),N3,N5,ln]))
def vh:SE:=(.app 55 (rl [(.c 0),N3,N5,eE]))
def vg:SE:=(.app 55 (rl [(.c 0),N3,N5,(.snoc eE TE)]))
def NN:SE:=(.app 56 (.rcons (.c 0) (.rcons u0 (.rcons u1 (.rcons u2 (.rcons u3 (.rcons u4 (.rcons u5 yh))))))))
def qA:SE:=(.eql (.sel NN 0) (.c 1))
def Yb:SE:=(.lenL u14)
def rZ:SE:=(.cell u2 u3 0)
def xP:SE:=(.app 31 (rl [(.c 0),u14,u13,rZ,(.cell u2 u3 1),(.cell u2 u3 2),(.cell u2 u3 3),(.cell u2 u3 4),(.cell u2 u3 5),(.cell u2 u3 6),(.cell u2 u3 7),(.cell u2 u3 8)]))
def dH:SE:=(.lenL u10)
def sA:Tr Plf:=(
 .leaf (.next 1 ([u0,u1,u2,x30]++us 4 8++[Yb,u13,u14])))
def Lp:SE:=(.app 50 ZI)
def og:SE:=(.eql (.sel Lp 0) (.c 1))
def kx:SE:=(.app 57 (.rcons (.c 0) (.rcons (.sel Lp 1) (.rcons (.sel Lp 2) (.rcons (.sel Lp 3) (.rcons (.sel Lp 4) (.rcons (.sel Lp 5) x89)))))))
def xL:SE:=(.cell u8 u9 1)
def jb:SE:=(.app 33 (rl [(.c 0),(.sel NN 3),(.sel NN 2),(.cell u8 u9 0),xL,(.cell u8 u9 2),(.cell u8 u9 3),(.cell u8 u9 4),(.cell u8 u9 5),(.cell u8 u9 6),(.cell u8 u9 7),(.cell u8 u9 8)]))
def ux:SE:=(.app 44 (rl [(.c 0),u6,xL]))
def sg:SE:=(.app 48 (rl [(.c 0),(.sel jb 2),(.sel NN 2)]))
def N8:SE:=(.sel sg 1)
def ag:SE:=(.sel ux 1)
def dC:SE:=(.cell N8 (.c 0) 0)
def kS:SE:=(.cell N8 (.c 1) 0)
def Y0:SE:=(.app 58 ZI)
def rB:SE:=(.app 59 (.rcons (.c 0) (.rcons (.sel Y0 1) (.rcons (.sel Y0 2) YI))))
def W7:SE:=(.app 60 (.rcons (.c 0) (.rcons (.sel Lp 1) (.rcons (.sel Lp 2) (.rcons (.sel Lp 3) (.rcons (.sel Lp 4) (.rcons (.sel Lp 5) (.rcons u0 (.rcons u1 (.rcons u2 (.rcons u3 YI)))))))))))
def jE:SE:=(.app 53 (.rcons (.c 0) (.rcons (.sel W7 1) (.rcons (.sel W7 2) (.rcons (.sel W7 3) (.rcons (.sel W7 4) (.rcons (.sel W7 5) x89)))))))
def nG:SE:=(.cell u0 u2 1)
def sc:SE:=(.app 62 (.rcons (.c 0) (.rcons nG TE)))
def rx:Tr Plf:=(
 .leaf (.next 1 [u0,u1,x41,u3,u4]))
def vY:SE:=(.rcons u9 (.rcons u10 (.rcons u11 (.rcons u12 (.rcons u13 (.rcons u14 (.rcons u15 (.rcons u16 (.rcons u17 ka)))))))))
def N2:SE:=(.app 39 (.rcons (.c 0) (.rcons u0 (.rcons u1 (.rcons u2 (.rcons u3 (.rcons u4 (.rcons u5 (.rcons u6 (.rcons u7 (.rcons u8 vY)))))))))))
def di:SE:=(.rcons (.c 0) (.rcons u0 (.rcons u1 (.rcons u2 (.rcons (.sel N2 1) (.rcons u4 (.rcons x2 (.rcons (.sel N2 2) (.rcons u6 (.rcons x14 (.rcons (.sel N2 3) (.rcons u8 (.rcons G2 vY)))))))))))))
def Ql:SE:=(.app 43 di)
def lu:SE:=(rl [u23,u24,u25])
def ky:SE:=(.app 46 (.rcons (.c 0) (.rcons (.sel Ql 1) (.rcons (.sel Ql 2) (.rcons (.sel Ql 3) (.rcons (.sel Ql 4) (.rcons u20 (.rcons u21 (.rcons u22 lu)))))))))
def wC:SE:=(rl [x25,x26])
def ny:SE:=(.app 54 (.rcons (.c 0) (.rcons u33 (.rcons u34 (.rcons u35 (.rcons u36 (.rcons u27 (.rcons u28 (.rcons u29 (.rcons u30 (.rcons u31 (.rcons u32 wC))))))))))))
def Ty:SE:=(.app 58 (.rcons (.c 0) (.rcons u33 (.rcons u34 (.rcons u35 (.rcons u36 wC))))))
def yn:SE:=(.eql (.sel Ty 0) (.c 1))
def nI:Tr Plf:=(
 .split yn (
 .leaf (.next 2 [u0,u1,u2,u3,(.sel Ty 1),(.sel Ty 2),(.lenL (.sel Ty 1)),(.c 0),u4,u5,u6,u7,u8,u9,u10,u11,u12,u13,u14,u15,u16,u17,u18,u19,u20,u21,u22,u23,u24,u25,u26,u27,u28,u29,u30,u31,u32,u33,u34,u35,u36])) x8)
def iA:SE:=(.lss u7 (.c 0))
def j9:SE:=(rl [(.cell u4 u7 0)])
def kH:SE:=(.app 61 (.rcons (.c 0) (.rcons u37 (.rcons u38 (.rcons u39 (.rcons u40 (.rcons x25 (.rcons x26 j9))))))))
def cx:SE:=(.sel kH 1)
def fq:SE:=(.sel kH 2)
def rj:SE:=(.app 64 (rl [(.c 0),u0,u1,cx,fq]))
def lx:Tr Plf:=(
 .leaf (.done 0 [(.c 7),u23,u24,u25]))
def UB:SE:=(.arith .add .i64 u7 (.c 1))
def mO:SE:=(.snoc u0 (rl [cx,fq,(.snoc .emptyL j9)]))
def mP:SE:=(.snoc (.cat .emptyL x27) j9)
def iM:SE:=(.mIdx [(.int .i64),(.int .i64),(.int .i64),(.int .i64),(.int .i64)] u2 (.rcons u3 XN))
def pB:SE:=(.snoc u0 (.rcons u3 XN))
def rX:Tr Plf:=(
 .leaf (.done 0 [u0,u1,u2]))
def fG:SE:=(.app 57 (.rcons (.c 0) (.rcons u0 (.rcons u1 (.rcons u2 (.rcons u3 (.rcons u4 (.rcons u8 (.rcons u9 km)))))))))
def XT:SE:=(.app 60 (rl ([(.c 0)]++us 11 5++[u7,u8,u9,u10,x25])))
def dZ:SE:=(.app 67 (rl [(.c 0),u4,u5,u6,(.sel XT 1),(.sel XT 2),(.sel XT 3),(.sel XT 4),(.sel XT 5)]))
def jN:SE:=(.lss u3 x0)
def ja:SE:=(.cell u1 u3 0)
def na:SE:=(.cell u1 u3 1)
def uJ:SE:=(.cell u1 u3 2)
def pS:SE:=(.cell u1 u3 3)
def vn:SE:=(.cell u1 u3 4)
def cM:SE:=(.app 67 (rl [(.c 0),u8,u9,u10,ja,na,uJ,pS,vn]))
def dg:SE:=(.app 68 (.rcons (.c 0) (.rcons (.cell u7 u1 0) (.rcons (.cell u7 u1 1) (.rcons (.cell u7 u1 2) (.rcons (.cell u7 u1 3) (.rcons (.cell u7 u1 4) (.rcons u7 (.rcons u8 (.rcons u9 (.rcons u3 dt)))))))))))
def sU:Tr Plf:=(
 .leaf (.done 0 [u7,u8,(.lss u0 G2)]))
def cJ:SE:=(rl (us 7 6))
def iQ:SE:=(.rcons u3 (.rcons u4 (.rcons u5 (.rcons u6 cJ))))
def jR:SE:=(.mIdx [(.int .i64),(.int .i64),(.int .i64),(.int .i64),(.int .i64),(.int .i64),(.int .i64),(.int .i64),(.int .i64),(.int .i64)] u2 iQ)
def xf:Tr Plf:=(
 .leaf (.next 1 ([u0,u1,x41]++us 3 5)))
def eu:SE:=(.app 71 (.rcons (.c 0) (.rcons u0 (.rcons u1 (.rcons u2 (.rcons u3 dt))))))
def mG:Tr Plf:=(
 .split x36 x8 (
 .split x37 (
 .leaf (.next 1 [(.upd u0 u2 0 x25),u1,x41,x30,u4,u5,u6,u7,u8])) x8))
def uM:Tr Plf:=(
 .leaf (.next 1 ([u0,u1,u2,x30]++us 4 5)))
def lX:SE:=(.sub u0 (.c 0) u2)
def mu:Tr Plf:=(
 .split (.lss (.lenL lX) u2) x8 (
 .leaf (.done 0 [(.sub lX (.c 0) u2),u1])))
def sG:SE:=(.app 73 (rl [(.c 0),u0,u1,u9,u10,u11,u12,u5,u6,u7,u8,e6]))
def WE:SE:=(.rcons (.c 0) (.rcons u14 (.rcons u15 (.rcons u16 (.rcons u17 (.rcons u18 x89))))))
def jz:SE:=(.app 72 (rl [(.c 0),(.sel (.app 57 WE) 1),(.sel (.app 57 WE) 2),u0,u1,u2,u3,u24]))
def XJ:SE:=(.rcons (.c 0) (.rcons u19 (.rcons u20 (.rcons u21 (.rcons u22 (.rcons u23 XN))))))
def kk:SE:=(.app 72 (rl [(.c 0),(.sel (.app 57 XJ) 1),(.sel (.app 57 XJ) 2),u4,u5,u6,u7,u24]))
def Oc:SE:=(.app 75 (.rcons (.c 0) (.rcons u0 (.rcons u1 (.rcons u2 (.rcons u3 (.rcons u4 (.rcons u5 (.rcons u6 (.rcons u7 (.rcons u8 (.rcons u9 (.rcons u10 (.rcons u11 (.rcons u12 (.rcons u13 (.rcons u14 (.rcons u15 (.rcons u16 (.rcons u17 (.rcons u18 (.rcons u19 (.rcons u20 (.rcons u21 (.rcons u22 (.rcons u23 YK))))))))))))))))))))))))))
def xq:SE:=(.eql (.sel Oc 0) (.c 1))
def kU:SE:=(.app 74 (rl [(.c 0),u0,u1,u2,u3,(.sel Oc 1),(.sel Oc 2),u4,u5,u6,u7,(.sel Oc 3),(.sel Oc 4)]))
def S4:SE:=(.app 75 (rl ([(.c 0)]++us 0 24++[(.bc false)])))
def jQ:SE:=(.app 74 (rl [(.c 0),u4,u5,u6,u7,(.sel S4 3),(.sel S4 4),u0,u1,u2,u3,(.sel S4 1),(.sel S4 2)]))
def mo:SE:=(.cell u5 u19 1)
def uD:Tr Plf:=(
 .leaf (.done 0 [(.c 4),(.c 0)]))
def nc:Tr Plf:=(
 .split (.lss u14 (.c 0)) x8 (
 .split (.lss u14 x0) (
 .split (.lss u19 (.c 0)) x8 (
 .split (.lss u19 x14) (
 .split (.cell u1 u14 1) (
 .split mo x93 uD) (
 .split mo uD x93)) x8)) x8))
def eY:SE:=(.app 76 (rl ([(.c 0)]++us 0 24)))
def iN:SE:=(.lss u5 u4)
def kX:SE:=(.lss u5 x3)
def ft:SE:=(.cell u2 u5 0)
def Xv:SE:=(.app 75 (rl ([(.c 0)]++us 6 14++us 23 10++[(.bc false)])))
def Lm:SE:=(.cell u0 u7 0)
def XE:SE:=(.app 60 (.rcons (.c 0) (.rcons u25 (.rcons u26 (.rcons u27 (.rcons u28 (.rcons u29 (.rcons u8 (.rcons u9 (.rcons u10 (.rcons u11 TQ)))))))))))
def Xy:SE:=(.app 60 (rl ([(.c 0)]++us 30 5++[u12,u13,u14,u15,Lm])))
def eV:SE:=(.app 70 (rl [(.c 0),u22,u23,u24,(.sel XE 1),(.sel XE 2),(.sel XE 3),(.sel XE 4),(.sel XE 5),(.sel Xy 1),(.sel Xy 2),(.sel Xy 3),(.sel Xy 4),(.sel Xy 5)]))
def pM:SE:=(.arith .add .i64 u6 (.c 1))
def Xp:SE:=(.app 60 (rl ([(.c 0)]++us 25 5++[u8,u9,u10,u11,Lm])))
def Xt:SE:=(.app 60 (.rcons (.c 0) (.rcons u30 (.rcons u31 (.rcons u32 (.rcons u33 (.rcons u34 (.rcons u12 (.rcons u13 (.rcons u14 (.rcons u15 TQ)))))))))))
def dD:SE:=(.app 70 (rl [(.c 0),u22,u23,u24,(.sel Xp 1),(.sel Xp 2),(.sel Xp 3),(.sel Xp 4),(.sel Xp 5),(.sel Xt 1),(.sel Xt 2),(.sel Xt 3),(.sel Xt 4),(.sel Xt 5)]))
def ff:SE:=(.app 70 (rl [(.c 0),u20,u21,u22,ja,na,uJ,pS,vn,(.cell u1 u3 5),(.cell u1 u3 6),(.cell u1 u3 7),(.cell u1 u3 8),(.cell u1 u3 9)]))
def GI:SE:=(.app 77 (.rcons (.c 0) (.rcons u3 (.rcons u4 (.rcons u5 (.rcons u6 (.rcons u7 (.rcons u8 (.rcons u9 (.rcons u10 (.rcons u11 (.rcons u12 (.rcons u13 (.rcons u14 (.rcons u15 (.rcons u16 (.rcons (.cell u17 u1 0) (.rcons (.cell u17 u1 1) (.rcons (.cell u17 u1 2) (.rcons (.cell u17 u1 3) (.rcons (.cell u17 u1 4) (.rcons (.cell u17 u1 5) (.rcons (.cell u17 u1 6) (.rcons (.cell u17 u1 7) (.rcons (.cell u17 u1 8) (.rcons (.cell u17 u1 9) (.rcons u17 ka)))))))))))))))))))))))))))
def yf:Tr Plf:=(
 .leaf (.done 0 [u17,u18,(.lss u0 (.lenL u17)),u11,u12,u13,u14,u15,u16]))
def Y5:SE:=(.app 69 (.rcons (.c 0) (.rcons (.snoc .emptyL (.rcons (.c 0) (.rcons (.c 0) (.rcons (.c 0) (.rcons (.c 0) x96))))) (.rcons (.bc false) (.rcons (.c 2000) x89)))))
def pU:Tr Plf:=(
 .leaf (.done 0 [(.strc 0 0),.nilL,(.strc 0 0),.nilL,(.c 0),(.c 0),(.bc false),(.c 7)]))
def nj:SE:=(.cell u2 u5 1)
def yc:SE:=(.cell u2 u5 2)
def oO:SE:=(.cell u2 u5 3)
def xQ:SE:=(.cell u2 u5 4)
def Uc:SE:=(.app 52 (rl ([(.c 0)]++us 6 10++[ft,nj,yc,oO,xQ])))
def oD:SE:=(.arith .add .i64 u5 (.c 1))
def QE:SE:=(.app 78 (.rcons (.c 0) (.rcons u0 (.rcons u1 (.rcons (.c 4000) (.rcons u6 (.rcons u7 (.rcons u8 (.rcons u9 (.rcons u10 (.rcons u11 (.rcons u12 (.rcons u13 (.rcons (.strc 0 0) (.rcons .nilL (.rcons (.bc true) (.rcons (.strc 0 0) (.rcons .nilL (.rcons (.bc true) (.rcons (.c 0) x96))))))))))))))))))))
def eW:SE:=(.nilIs (.sel T6 1) (.sel T6 2))
def eO:SE:=(.nilIs (.sel TM 1) (.sel TM 2))
def eH:SE:=(.nilIs (.sel UU 1) (.sel UU 2))
def tE:SE:=(.nilIs (.cat .emptyL u5) (.bc false))
def we:SE:=(.nilIs (.cat .emptyL u4) (.bc false))
def oZ:SE:=(.app 81 (.rcons (.c 0) (.rcons u1 (.rcons u4 aU))))
def qp:SE:=(.eql (.sel oZ 0) (.c 1))
def vN:SE:=(.lss (.sel oZ 1) (.c 0))
def XV:Tr Plf:=(
 .leaf (.done 0 []))
def Ym:SE:=(.app 55 (.rcons (.c 0) (.rcons (.sel BV 12) (.rcons eM aU))))
def XQ:SE:=(.app 29 (.rcons (.c 0) (.rcons (.c 0) (.rcons (.sel BV 17) (.rcons (.sel BV 14) (.rcons (.sel BV 15) (.rcons (.sel BV 16) YI)))))))
def RM:SE:=(.app 22 (.rcons (.c 0) (.rcons (.sel Ym 2) (.rcons eM (.rcons Yd (.rcons (.sel BV 2) (.rcons (.sel BV 3) (.rcons (.sel BV 4) (.rcons (.sel BV 5) (.rcons (.sel BV 6) (.rcons (.sel BV 7) (.rcons (.sel BV 8) (.rcons (.sel BV 9) (.rcons (.sel BV 10) (.rcons (.sel XQ 4) (.rcons (.sel XQ 7) (.rcons (.sel BV 14) (.rcons (.sel XQ 5) (.rcons (.sel XQ 6) (.rcons (.bc false) (.rcons (.sel BV 11) (.rcons (.bc true) TE))))))))))))))))))))))
def cZ:Tr Plf:=(
 .leaf (.next 1 ([jC]++us 1 30)))
def xC:SE:=(.app 31 (rl ([(.c 0),u14,u15]++us 21 9)))
def mA:SE:=(.cell u0 u2 3)
def wm:SE:=(.cell u0 u2 4)
def oB:SE:=(rl [x38,nG,dw,mA,wm,(.cell u0 u2 5),(.cell u0 u2 6),(.cell u0 u2 7),(.cell u0 u2 8)])
def sr:SE:=(.app 83 (.rcons (.c 0) (.rcons u19 (.rcons u20 (.rcons u6 (.rcons u7 (.rcons u8 (.rcons u9 (.rcons u10 (.rcons u11 (.rcons u12 (.rcons u13 (.rcons u14 (.rcons u15 (.rcons u21 (.rcons u25 (.rcons u22 (.rcons u23 (.rcons u24 (.rcons u16 (.rcons u17 (.rcons u18 (.rcons u5 oB)))))))))))))))))))))))
def vI:Tr Plf:=(
 .leaf (.next 1 ([u0,u1,x41]++us 3 24)))
def pq:Tr Plf:=(
 .leaf (.done 0 [.nilL,(.bc true),(.c 3),u17,u13,u15,u12,u14,u16]))
def kh:SE:=(.app 42 (rl [(.c 0),u7,u8,G2]))
def eK:SE:=(.eql (.sel kh 0) (.c 1))
def fI:SE:=(.rcons (.sel kh 1) (.rcons (.sel kh 2) WQ))
def jh:SE:=(.app 84 (.rcons (.c 0) (.rcons .nilL (.rcons (.bc true) (.rcons u0 (.rcons u1 (.rcons u2 (.rcons u3 (.rcons u4 (.rcons u5 (.rcons u6 (.rcons u7 (.rcons u8 (.rcons u9 (.rcons u10 (.rcons u11 (.rcons Li (.rcons Ln (.rcons I9 (.rcons Lr (.rcons Lq (.rcons (.bc true) (.rcons u18 (.rcons u19 (.rcons (.bc true) fI)))))))))))))))))))))))))
def jF:SE:=(.app 84 (.rcons (.c 0) (.rcons .nilL (.rcons (.bc true) (.rcons u0 (.rcons u1 (.rcons u2 (.rcons u3 (.rcons u4 (.rcons u5 (.rcons u6 (.rcons u7 (.rcons u8 (.rcons u9 (.rcons u10 (.rcons u11 (.rcons Li (.rcons Ln (.rcons I9 (.rcons Lr (.rcons Lq (.rcons Ta (.rcons u18 (.rcons u19 (.rcons Ta fI)))))))))))))))))))))))))
def qa:SE:=(.app 32 (.rcons (.c 0) (.rcons u20 (.rcons u21 (.rcons u7 (.rcons u8 (.rcons u9 (.rcons u10 (.rcons u11 (.rcons u12 (.rcons u13 (.rcons u14 (.rcons u15 (.rcons u16 (.rcons u22 (.rcons u26 (.rcons u23 (.rcons u24 (.rcons u25 (.rcons u17 (.rcons u18 (.rcons u19 (.rcons u27 (.rcons u31 (.rcons u28 (.rcons u29 (.rcons u30 (.rcons u6 oB))))))))))))))))))))))))))))
def aN:Tr Plf:=(
 .leaf (.next 1 ([u0,u1,x41]++us 3 30)))
def qY:Tr Plf:=(
 .leaf (.done 0 [(.c 0),(.c 3),u9,u10,u11,u17,u18,u19,u0,u1,u13,u15,u12,u14,u16]))
def ZB:SE:=(.app 86 (.rcons (.c 0) (.rcons u21 (.rcons u22 (.rcons (.c (-1)) (.rcons u0 (.rcons u1 (.rcons u2 (.rcons u3 (.rcons u4 (.rcons u5 (.rcons u6 (.rcons u7 (.rcons u8 (.rcons u9 (.rcons u10 (.rcons u11 (.rcons u12 (.rcons u13 (.rcons u14 (.rcons u15 (.rcons u16 (.rcons u17 (.rcons u18 (.rcons u19 (.rcons Li (.rcons Ln (.rcons I9 (.rcons Lr (.rcons Lq (.rcons (.bc true) fI)))))))))))))))))))))))))))))))
def vz:Tr Plf:=(
 .leaf (.done 0 [(.c 0),(.c 9),u9,u10,u11,(.bc true),u18,u19,u0,u1,u13,u15,u12,u14,u16]))
def Kr:SE:=(.app 34 (rl [(.c 0),u0,u1,u2,u3,u4,u5,u6,u7,u8,u9,u10,u11,u12,u13,u14,u15,u16,(.bc true),u18,u19,Li,Ln,I9,Lr,Lq,(.bc true),u20,(.sel ZB 1)]))
def bX:SE:=(.app 86 (.rcons (.c 0) (.rcons u21 (.rcons u22 (.rcons (.c (-1)) (.rcons u0 (.rcons u1 (.rcons u2 (.rcons u3 (.rcons u4 (.rcons u5 (.rcons u6 (.rcons u7 (.rcons u8 (.rcons u9 (.rcons u10 (.rcons u11 (.rcons u12 (.rcons u13 (.rcons u14 (.rcons u15 (.rcons u16 (.rcons u17 (.rcons u18 (.rcons u19 (.rcons Li (.rcons Ln (.rcons I9 (.rcons Lr (.rcons Lq (.rcons Ta fI)))))))))))))))))))))))))))))))
def rq:Tr Plf:=(
 .leaf (.done 0 [(.c 0),(.c 9),u9,u10,u11,(.bc false),u18,u19,u0,u1,u13,u15,u12,u14,u16]))
def J0:SE:=(.app 34 (rl [(.c 0),u0,u1,u2,u3,u4,u5,u6,u7,u8,u9,u10,u11,u12,u13,u14,u15,u16,(.bc false),u18,u19,Li,Ln,I9,Lr,Lq,Ta,u20,(.sel bX 1)]))
def wS:SE:=(.app 0 (.rcons (.c 0) XN))
def nQ:SE:=(.app 1 (.rcons (.c 0) (.rcons u8 WQ)))
def uc:SE:=(.eql (.sel (.app 2 x96) 0) (.c 1))
def TL:Tr Plf:=(
 .split uc x35 x8)
def oV:SE:=(.app 3 (rl [(.c 0),.nilL,(.bc true),u11,(.c 0),(.c 20)]))
def FZ:SE:=(.app 24 Qd)
def Im:SE:=(.app 35 (rl ([(.c 0),u26,u27]++us 13 10++[u28,u32,u29,u30,u31,u23,u24,u25,(.c 0),x38])))
def xx:Tr Plf:=(
 .leaf (.next 1 [u0,u1,x41,u3,u4,u5,u6,u7,u8,u9,u10,u11,u12,u13,u14,u15,u16,u17,u18,u19,(.sel Im 2),(.sel Im 3),(.sel Im 4),(.sel Im 5),(.sel Im 6),(.sel Im 7),(.sel Im 8),(.sel Im 9),(.sel Im 12),(.sel Im 13),(.sel Im 11),(.sel Im 14),(.sel Im 10)]))
def Be:SE:=(.app 39 (.rcons (.c 0) (.rcons u26 (.rcons u27 (.rcons u13 (.rcons u14 (.rcons u15 (.rcons u16 (.rcons u17 (.rcons u18 (.rcons u19 (.rcons u20 (.rcons u21 (.rcons u22 (.rcons u28 (.rcons u32 (.rcons u29 (.rcons u30 (.rcons u31 lu)))))))))))))))))))
def NX:SE:=(.app 65 (.rcons (.c 0) (.rcons (.sel Be 14) (.rcons (.sel Be 15) (.rcons (.sel Be 4) (.rcons (.sel Be 1) (.rcons (.sel Be 5) (.rcons (.sel Be 2) (.rcons (.sel Be 6) (.rcons (.sel Be 3) (.rcons (.sel Be 7) (.rcons (.sel Be 8) (.rcons (.sel Be 9) (.rcons (.sel Be 10) (.rcons (.sel Be 16) (.rcons (.sel Be 20) (.rcons (.sel Be 17) (.rcons (.sel Be 18) (.rcons (.sel Be 19) (.rcons (.sel Be 11) (.rcons (.sel Be 12) (.rcons (.sel Be 13) cJ))))))))))))))))))))))
def aZ:SE:=(.app 49 (.rcons (.c 0) (.rcons u39 (.rcons u40 (.rcons u13 (.rcons u41 (.rcons u15 (.rcons u14 (.rcons u42 (.rcons u17 (.rcons u16 (.rcons u43 (.rcons u19 (.rcons u18 (.rcons u20 (.rcons u21 (.rcons u22 (.rcons u44 (.rcons u54 (.rcons u45 (.rcons u46 (.rcons u47 lu))))))))))))))))))))))
def re:SE:=(.eql (.sel aZ 0) (.c 1))
def fE:SE:=(.app 54 (rl [(.c 0),u3,u4,u5,u6,u7,u8,u9,u10,u11,u12,(.sel aZ 1),(.sel aZ 2)]))
def RZ:SE:=(rl [(.c 0),u48,u49,u26,u41,u28,u27,u42,u30,u29,u43,u32,u31,u33,u34,u35,u50,u55,u51,u52,u53,u36,u37,u38])
def PM:SE:=(.app 43 RZ)
def bU:SE:=(.rcons (.c 0) (.rcons (.sel PM 1) (.rcons (.sel PM 2) (.rcons (.sel PM 3) (.rcons (.sel PM 4) cJ)))))
def Lt:Tr Plf:=(
 .leaf (.next 4 []))
def Lv:SE:=(.app 80 (.rcons (.c 0) cJ))
def XC:SE:=(.app 54 (rl [(.c 0),(.sel PM 1),(.sel PM 2),(.sel PM 3),(.sel PM 4),(.sel Lv 1),(.sel Lv 2),(.sel Lv 3),(.sel Lv 4),(.sel Lv 5),(.sel Lv 6),(.sel (.app 49 RZ) 1),(.sel (.app 49 RZ) 2)]))
def jp:SE:=(rl [(.c 7)])
def Gb:SE:=(.app 82 (.rcons (.c 0) (.rcons (.sel Lv 1) (.rcons (.sel Lv 2) (.rcons (.sel Lv 3) (.rcons (.sel Lv 4) (.rcons (.sel XC 1) (.rcons (.sel XC 2) jp))))))))
def eI:SE:=(.app 61 (rl [(.c 0),u4,u5,u6,u7,u14,u15,ja]))
def wQ:SE:=(.app 54 (rl ([(.c 0)]++us 4 12)))
def iJ:SE:=(.app 49 (rl [(.c 0),u42,u43,u16,u44,u18,u17,u45,u20,u19,u46,u22,u21,u23,u24,u25,u47,u57,u48,u49,u50,u26,u27,u28]))
def fO:SE:=(.app 54 (rl [(.c 0),u4,u5,u6,u7,u8,u9,u10,u11,u12,u13,(.sel iJ 1),(.sel iJ 2)]))
def SH:SE:=(rl [(.c 0),u51,u52,u29,u44,u31,u30,u45,u33,u32,u46,u35,u34,u36,u37,u38,u53,u58,u54,u55,u56,u39,u40,u41])
def QM:SE:=(.app 43 SH)
def sL:SE:=(rl (us 8 6))
def Yg:SE:=(.rcons (.c 0) (.rcons (.sel QM 1) (.rcons (.sel QM 2) (.rcons (.sel QM 3) (.rcons (.sel QM 4) sL)))))
def Lo:SE:=(.app 80 (.rcons (.c 0) sL))
def Xa:SE:=(.app 54 (rl [(.c 0),(.sel QM 1),(.sel QM 2),(.sel QM 3),(.sel QM 4),(.sel Lo 1),(.sel Lo 2),(.sel Lo 3),(.sel Lo 4),(.sel Lo 5),(.sel Lo 6),(.sel (.app 49 SH) 1),(.sel (.app 49 SH) 2)]))
def FY:SE:=(.app 82 (.rcons (.c 0) (.rcons (.sel Lo 1) (.rcons (.sel Lo 2) (.rcons (.sel Lo 3) (.rcons (.sel Lo 4) (.rcons (.sel Xa 1) (.rcons (.sel Xa 2) jp))))))))
def FU:SE:=(.app 82 (.rcons (.c 0) (.rcons u4 (.rcons u5 (.rcons u6 (.rcons u7 (.rcons u10 (.rcons u11 jp))))))))
def Xf:SE:=(.lenL u42)
def kO:SE:=(.eql Xf u23)
def XG:SE:=(.lenL u41)
def lU:SE:=(.eql XG u21)
def XL:SE:=(.lenL u43)
def mj:SE:=(.eql XL u25)
def I6:SE:=(.app 85 (.rcons (.c 0) (.rcons u39 (.rcons u40 (.rcons u20 (.rcons u41 (.rcons u22 (.rcons u42 (.rcons u24 (.rcons u43 (.rcons u26 (.rcons u27 (.rcons u28 (.rcons u29 (.rcons u44 (.rcons u49 (.rcons u45 (.rcons u46 (.rcons u47 (.rcons u30 (.rcons u31 (.rcons u32 kg))))))))))))))))))))))
def SP:SE:=(.app 85 (.rcons (.c 0) (.rcons u33 (.rcons u34 (.rcons u7 (.rcons u8 (.rcons u9 (.rcons u10 (.rcons u11 (.rcons u12 (.rcons u13 (.rcons u14 (.rcons u15 (.rcons u16 (.rcons u35 (.rcons u48 (.rcons u36 (.rcons u37 (.rcons u38 (.rcons u17 (.rcons u18 (.rcons u19 kg))))))))))))))))))))))
def Fv:SE:=(.app 39 (rl [(.c 0),u39,u40,u20,u41,u22,u42,u24,u43,u26,u27,u28,u29,(.sel I6 7),(.sel I6 5),(.sel I6 8),(.sel I6 6),(.sel I6 9),(.sel I6 4),u31,u32]))
def tY:SE:=(rl [x60,x33,x34])
def BW:SE:=(.app 87 (.rcons (.c 0) (.rcons u39 (.rcons u40 (.rcons u20 (.rcons u41 (.rcons u22 (.rcons u42 (.rcons u24 (.rcons u43 (.rcons u26 (.rcons u27 (.rcons u28 (.rcons u29 (.rcons u44 (.rcons u49 (.rcons u45 (.rcons u46 (.rcons u47 (.rcons u30 (.rcons u31 (.rcons u32 tY))))))))))))))))))))))
def DC:SE:=(.app 87 (.rcons (.c 0) (.rcons u33 (.rcons u34 (.rcons u7 (.rcons u8 (.rcons u9 (.rcons u10 (.rcons u11 (.rcons u12 (.rcons u13 (.rcons u14 (.rcons u15 (.rcons u16 (.rcons u35 (.rcons u48 (.rcons u36 (.rcons u37 (.rcons u38 (.rcons u17 (.rcons u18 (.rcons u19 tY))))))))))))))))))))))
def rb:SE:=(.eql (.sel DC 0) (.c 1))
def rz:SE:=(.eql (.sel BW 1) (.sel DC 1))
def Cc:SE:=(.app 39 (rl [(.c 0),(.sel BW 9),(.sel BW 10),u20,u41,u22,u42,u24,u43,u26,(.sel BW 3),(.sel BW 4),(.sel BW 5),(.sel BW 13),(.sel BW 11),(.sel BW 14),(.sel BW 12),(.sel BW 15),(.sel BW 6),(.sel BW 7),(.sel BW 8)]))
def xj:SE:=(.eql (.sel Cc 0) (.c 1))
def tj:SE:=(rl [x60,x61])
def BZ:SE:=(.app 35 (.rcons (.c 0) (.rcons u39 (.rcons u40 (.rcons u20 (.rcons u41 (.rcons u22 (.rcons u42 (.rcons u24 (.rcons u43 (.rcons u26 (.rcons u27 (.rcons u28 (.rcons u29 (.rcons u44 (.rcons u49 (.rcons u45 (.rcons u46 (.rcons u47 (.rcons u30 (.rcons u31 (.rcons u32 tj))))))))))))))))))))))
def DM:SE:=(.app 35 (.rcons (.c 0) (.rcons u33 (.rcons u34 (.rcons u7 (.rcons u8 (.rcons u9 (.rcons u10 (.rcons u11 (.rcons u12 (.rcons u13 (.rcons u14 (.rcons u15 (.rcons u16 (.rcons u35 (.rcons u48 (.rcons u36 (.rcons u37 (.rcons u38 (.rcons u17 (.rcons u18 (.rcons u19 tj))))))))))))))))))))))
def yd:SE:=(.eql (.sel DM 0) (.c 1))
def Cd:SE:=(.app 39 (rl [(.c 0),(.sel BZ 8),(.sel BZ 9),u20,u41,u22,u42,u24,u43,u26,(.sel BZ 2),(.sel BZ 3),(.sel BZ 4),(.sel BZ 12),(.sel BZ 10),(.sel BZ 13),(.sel BZ 11),(.sel BZ 14),(.sel BZ 5),(.sel BZ 6),(.sel BZ 7)]))
def oi:SE:=(.eql (.sel Cd 0) (.c 1))
def yB:SE:=(.rcons u29 (.rcons u30 (.rcons u31 (.rcons u56 (.rcons u67 (.rcons u57 (.rcons u58 (.rcons u59 rD))))))))
def sM:SE:=(.app 88 (.rcons (.c 0) (.rcons u54 (.rcons u55 (.rcons u22 (.rcons u23 (.rcons u24 (.rcons u25 (.rcons u26 (.rcons u27 (.rcons u28 yB)))))))))))
def wM:SE:=(.rcons u16 (.rcons u17 (.rcons u18 (.rcons u50 (.rcons u66 (.rcons u51 (.rcons u52 (.rcons u53 (.rcons u19 kb)))))))))
def sD:SE:=(.app 88 (.rcons (.c 0) (.rcons u48 (.rcons u49 (.rcons u9 (.rcons u10 (.rcons u11 (.rcons u12 (.rcons u13 (.rcons u14 (.rcons u15 wM)))))))))))
def bS:SE:=(.rcons (.c 0) (.rcons u54 (.rcons u55 (.rcons u22 (.rcons u23 (.rcons u24 (.rcons (.lenL u23) (.rcons u25 (.rcons u26 (.rcons (.lenL u25) (.rcons u27 (.rcons u28 (.rcons (.lenL u27) yB)))))))))))))
def ca:SE:=(.rcons (.c 0) (.rcons u48 (.rcons u49 (.rcons u9 (.rcons u10 (.rcons u11 (.rcons dH (.rcons u12 (.rcons u13 (.rcons (.lenL u12) (.rcons u14 (.rcons u15 (.rcons Yb wM)))))))))))))
def rn:SE:=(.app 89 (rl [(.c 0),(.sel (.app 49 bS) 1),(.sel (.app 49 bS) 2),(.sel (.app 49 ca) 1),(.sel (.app 49 ca) 2)]))
def zn:Tr Plf:=
 .split (.lss (.c 6) x0) x1 (
 .split (.lss (.c 12) x2) x1 (
 .split (.lss (.c 5) x3) x1 (
 .split (.lss (.c 40) x4) x1 (
 .leaf (.next 1 [(.c 0),(.c 0),u0,u1,u2,u3])))))
def ze:Tr Plf:=
 .split x6 (
 .split x7 x8 (
 .split (.lss x9 (.c 0)) (
 .split x11 x1 (
 .leaf (.next 1 [(.arith .add .i64 u0 (.c 0)),x12,u2,u3,u4,u5]))) (
 .split (.lss (.c 100) x9) (
 .split x11 x1 (
 .leaf (.next 1 [(.arith .add .i64 u0 (.c 100)),x12,u2,u3,u4,u5]))) (
 .split x11 x1 (
 .leaf (.next 1 [(.arith .add .i64 u0 x9),x12,u2,u3,u4,u5])))))) (
 .leaf (.next 2 [u0,(.c 0),u2,u3,u4,u5]))
def zz:Tr Plf:=
 .split (.lss u1 x2) (
 .split x7 x8 (
 .split (.lss (.c 40) (.lenS x13)) x1 (
 .leaf (.next 2 [u0,x12,u2,u3,u4,u5])))) (
 .leaf (.next 3 [u0,(.c 0),u2,u3,u4,u5]))
def zK:Tr Plf:=
 .split (.lss u1 x14) (
 .split x7 x8 (
 .split (.lss (.c 40) (.lenS x15)) x1 (
 .split (.lss (.c 40) (.lenS x16)) x1 (
 .split (.lss (.c 40) (.lenS x17)) x1 (
 .split (.lss (.c 40) (.lenS x18)) x1 (
 .split (.lss (.c 40) (.lenS x19)) x1 (
 .leaf (.next 3 [u0,x12,u2,u3,u4,u5])))))))) (
 .leaf (.done 0 [(.neg (.lss (.c 30) u0))]))
def t0:List (Tr Plf):=[zn,ze,zz,zK]
def yM:Tr Plf:=
 .split (.lss (.c 10) x20) x1 (
 .leaf (.done 0 [(.neg (.lss (.c 10) x0))]))
def t1:List (Tr Plf):=[yM]
def yL:Tr Plf:=
 .leaf (.done 0 [])
def t2:List (Tr Plf):=[yL]
def zC:Tr Plf:=
 .split x21 x1 (
 .split x22 x1 (
 .leaf x23))
def yY:Tr Plf:=
 .split x21 (
 .split x24 x8 (
 .split (.eql (.sel x28 0) (.c 1)) (
 .split (.sel x28 1) (
 .split (.eql (.sel x29 0) (.c 1)) (
 .split (.sel x29 1) x31 x1) x8) x1) x8)) (
 .leaf (.next 2 [u2,(.c 0),u0]))
def yG:Tr Plf:=
 .split x32 (
 .split x7 x8 (
 .split (.lss (.c 40) (.lenS x33)) x1 (
 .split (.lss (.c 40) (.lenS x34)) x1 (
 .leaf (.next 2 [u0,x12,u2]))))) x35
def t3:List (Tr Plf):=[zC,yY,yG]
def za:Tr Plf:=
 .split (.lss x4 (.c 1)) x1 (
 .split (.lss (.c 32) x4) x1 (
 .leaf (.next 1 [(.bytes u0),(.lenL (.bytes u0)),(.c 0)])))
def zg:Tr Plf:=
 .split (.lss u2 u1) (
 .split x36 x8 (
 .split x37 (
 .split (.lss x39 (.c 97)) (
 .split (.lss x39 (.c 65)) (
 .split x40 x1 (
 .split (.lss x39 (.c 48)) x1 (
 .split (.lss (.c 57) x39) x1 x42))) (
 .split (.lss (.c 90) x39) (
 .split x40 x1 (
 .split (.eql x39 (.c 95)) x42 x1)) x42)) (
 .split (.lss (.c 122) x39) (
 .split x40 x1 x1) x42)) x8)) x35
def t4:List (Tr Plf):=[za,zg]
def zG:Tr Plf:=
 .leaf x43
def yX:Tr Plf:=
 .split x32 x46 x47
def t5:List (Tr Plf):=[zG,yX]
def zo:Tr Plf:=
 .split x48 x49 x51
def zu:Tr Plf:=
 .split x52 (
 .split x7 x8 (
 .split x6 (
 .split (.eql (.sel x53 0) (.c 1)) (
 .split (.sel x53 1) (
 .split (.eql (.sel x54 0) (.c 1)) (
 .split (.lss (.sel x54 1) u1) x45 (
 .split (.lss x9 (.c 1)) x45 (
 .split (.lss (.c 1000) x9) x45 x55))) x8) x45) x8) x8)) x47
def t6:List (Tr Plf):=[zo,zu]
def yR:Tr Plf:=
 .leaf x43
def yJ:Tr Plf:=
 .split x32 x46 x47
def t7:List (Tr Plf):=[yR,yJ]
def zk:Tr Plf:=
 .split x48 x49 x51
def zf:Tr Plf:=
 .split x52 (
 .split x7 x8 (
 .split (.lss u1 x2) (
 .split (.eql (.sel x56 0) (.c 1)) (
 .split (.sel x56 1) (
 .split (.eql (.sel x57 0) (.c 1)) (
 .split (.lss (.sel x57 1) u1) x45 (
 .split (.lss x58 (.c 0)) x45 (
 .split (.lss (.c 1048576) x58) x45 x55))) x8) x45) x8) x8)) x47
def t8:List (Tr Plf):=[zk,zf]
def zJ:Tr Plf:=
 .leaf x59
def zd:Tr Plf:=
 .split x32 (
 .split x7 x8 (
 .split (.and (.eqSS u2 x44) (.and (.eqSS u3 x60) (.and (.eql u4 x61) (.and (.eqSS u5 x33) (.and (.eqSS u6 x34) (.and (.eqSS u7 (.cell u0 u1 5)) (.and (.eql u8 (.cell u0 u1 6)) (.and (.eql u9 (.cell u0 u1 7)) (.eql u10 (.cell u0 u1 8)))))))))) x45 x62)) x47
def t9:List (Tr Plf):=[zJ,zd]
def mz:Tr Plf:=
 .split x48 x49 x51
def uL:Tr Plf:=
 .split x52 (
 .split x7 x8 (
 .split (.lss u1 x14) (
 .split (.eql x63 (.c 1)) x84 (
 .split (.eql x63 (.c 2)) x84 (
 .split (.eql x63 (.c 3)) (
 .split x65 (
 .split x67 (
 .split x68 x45 (
 .split x70 (
 .split x71 x45 (
 .split x72 x8 (
 .split x77 (
 .split x78 (
 .split x79 (
 .split (.lss (.c 0) (.cell u3 (.sel x64 1) 2)) x85 x45) x8) x45) x8))) x8)) x8) x8) (
 .split (.eql x63 (.c 4)) (
 .split x65 (
 .split x67 (
 .split x68 x45 (
 .split x70 (
 .split x71 x45 (
 .split x72 x8 (
 .split x77 (
 .split x78 (
 .split x79 x85 x8) x45) x8))) x8)) x8) x8) (
 .split x65 (
 .split x67 x45 x8) x8))))) x8)) x47
def t10:List (Tr Plf):=[mz,uL]
def mN:Tr Plf:=
 .split (.eql (.sel x86 0) (.c 1)) (
 .split (.sel x86 1) (
 .split (.eql (.sel x90 0) (.c 1)) (
 .split (.lss (.sel x90 1) (.c 0)) (
 .split (.eql (.sel x91 0) (.c 1)) (
 .split (.lss (.sel x91 1) (.c 0)) (
 .split (.eql (.sel x92 0) (.c 1)) (
 .split (.lss (.sel x92 1) (.c 0)) x93 (
 .leaf (.done 0 [(.sel x92 1),(.c 293)]))) x8) (
 .leaf (.done 0 [(.sel x91 1),(.c 292)]))) x8) (
 .leaf (.done 0 [(.sel x90 1),(.c 291)]))) x8) (
 .leaf (.done 0 [(.c 0),(.c 290)]))) x8
def t11:List (Tr Plf):=[mN]
def wY:Tr Plf:=
 .leaf (.next 1 [u0,u1,(.c 0),u2])
def vV:Tr Plf:=
 .split x37 (
 .split x36 x8 (
 .split (.eqSS x38 u3) x50 (
 .leaf (.next 1 [u0,u1,x41,u3])))) x47
def t12:List (Tr Plf):=[wY,vV]
def vS:Tr Plf:=
 .split (.lss (.c 4) x20) x8 (
 .leaf (.next 1 [u0,(.c 0),.nilL,(.bc true)]))
def oK:Tr Plf:=
 .split x32 (
 .split x7 x8 (
 .split (.eqS x44 0 0) x8 (
 .split (.lss x60 (.c 1)) x8 (
 .split (.lss (.c 1000) x60) x8 (
 .split (.eql (.sel x94 0) (.c 1)) (
 .split (.lss (.sel x94 1) (.c 0)) (
 .split (.lss x3 x95) (
 .leaf (.next 1 [u0,x12,(.snoc u2 (.rcons x44 (.rcons x60 x96))),(.bc false)])) x8) x8) x8))))) (
 .leaf (.done 0 [u2,u3]))
def t13:List (Tr Plf):=[vS,oK]
def rH:Tr Plf:=
 .split x97 x98 x99
def t14:List (Tr Plf):=[rH]
def pf:Tr Plf:=
 .split x97 x98 x99
def t15:List (Tr Plf):=[pf]
def wA:Tr Plf:=
 .split x97 x98 x99
def t16:List (Tr Plf):=[wA]
def nO:Tr Plf:=
 .leaf (.next 1 [.nilL,(.bc true),u0,u1,(.c 0),u2])
def vR:Tr Plf:=
 .split x22 (
 .split mh x8 (
 .split (.eqSS e6 u5) (
 .split NY (
 .leaf (.next 1 [(.snoc u0 (rl [e6,(.cell u2 u4 1),(.cell u2 u4 2)])),(.bc false),u2,u3,lF,u5])) x8) (
 .leaf (.next 1 [u0,u1,u2,u3,lF,u5])))) lM
def t17:List (Tr Plf):=[nO,vR]
def mI:Tr Plf:=
 .split Z3 fy (
 .split (.lss u5 (.c 256)) (
 .split u2 kF (
 .split kj kF (
 .leaf (.done 0 [(.arith .sub .i64 (.cell u1 cB 1) u0),(.c 0)])))) fy)
def t18:List (Tr Plf):=[mI]
def xW:Tr Plf:=
 .split (.eql (.sel (.app 18 ZI) 0) (.c 1)) (
 .split (.eql (.sel (.app 18 ZI) 2) (.c 0)) (
 .split u2 nE (
 .split kj nE (
 .leaf (.done 0 [(.c 0),(.rmv u1 cB)])))) (
 .leaf (.done 0 [(.sel (.app 18 ZI) 2),u1]))) x8
def t19:List (Tr Plf):=[xW]
def vL:Tr Plf:=
 .split (.lss x2 x95) (
 .leaf (.next 1 [(.arith .sub .i64 (.lenL wq) (.c 1)),u0,u2,wq,(.bc false),u1])) x8
def wT:Tr Plf:=
 .split (.lss (.c 0) u0) (
 .split (.lss Tv (.c 0)) x8 (
 .split (.lss Tv x2) (
 .split (.lss u0 x2) (
 .split (.lss iL j3) (
 .split jP RB (
 .split lN RB RB)) (
 .split (.lss j3 iL) (
 .split jP eX (
 .split lN eX eX)) (
 .split jP RB (
 .split lN eX RB)))) x8) x8)) RB
def t20:List (Tr Plf):=[vL,wT]
def uQ:Tr Plf:=
 .split Z3 nr (
 .split (.lss u5 (.c 256)) (
 .split jS wB (
 .split (.lss (.arith .sub .i64 dY u0) u6) wB (
 .split u2 (
 .split (.eql (.sel kB 0) (.c 1)) (
 .leaf (.done 0 [(.c 0),(.bc false),(.sel kB 1),(.sel kB 2),(.snoc .emptyL eo)])) x8) (
 .split kj (
 .split (.eql (.sel lR 0) (.c 1)) (
 .leaf (.done 0 [(.c 0),u2,(.sel lR 1),(.sel lR 2),(.snoc u1 eo)])) x8) (
 .split (.eql (.sel kT 0) (.c 1)) (
 .leaf (.done 0 [(.c 0),u2,(.sel kT 1),(.sel kT 2),uz])) x8))))) nr)
def t21:List (Tr Plf):=[uQ]
def uU:Tr Plf:=
 .split (.eql (.sel qB 0) (.c 1)) (
 .split (.lss (.c 0) (.lenL Xx)) (
 .split (.eql (.sel jV 0) (.c 1)) (
 .split (.lss (.c 0) fX) (
 .split (.eql (.sel YN 0) (.c 1)) (
 .leaf (.done 0 [(.cell Xx (.c 0) 0),(.cell Xx (.c 0) 1),fX,(.sel YN 2),(.sel YN 3),(.sel YN 4),(.sel YN 5)])) x8) (
 .leaf (.done 0 [(.cell Xx (.c 0) 0),(.cell Xx (.c 0) 1),fX,u14,u15,u16,(.sel jV 2)]))) x8) x8) x8
def t22:List (Tr Plf):=[uU]
def qo:Tr Plf:=
 .split kJ (
 .split Xi (
 .split (.eql (.sel bg 0) (.c 1)) (
 .split rO (
 .split qH (
 .split oz (
 .split (.lss (.c 0) x0) (
 .split (.eql (.sel SI 0) (.c 1)) (
 .leaf (.done 0 [u0,(.sel T6 1),(.sel T6 2),(.sel TM 1),(.sel TM 2),(.sel UU 1),(.sel UU 2),(.sel SI 1),(.sel SI 2),(.sel SI 3),.nilL,(.sel bg 1),(.sel bg 2),(.sel SI 4),(.sel SI 5),(.sel SI 6),(.sel SI 7)])) x8) x8) x8) x8) x8) x8) (
 .leaf (.done 1 [(.sel (.app 11 Qd) 2)]))) x8
def t23:List (Tr Plf):=[qo]
def rF:Tr Plf:=
 .split tu (
 .leaf (.done 0 [Yd,(.sel BV 2),(.sel BV 3),(.sel BV 4),(.sel BV 5),(.sel BV 6),(.sel BV 7),(.sel BV 8),(.sel BV 9),(.sel BV 10),(.sel BV 11),(.sel BV 12),eM,(.sel BV 14),(.sel BV 15),(.sel BV 16),(.sel BV 17)])) (
 .split qt (
 .split (.eql Yd (.c 0)) x8 (
 .leaf (.done 1 [Yd]))) x8)
def t24:List (Tr Plf):=[rF]
def sS:Tr Plf:=
 .split u1 x98 x99
def t25:List (Tr Plf):=[sS]
def mE:Tr Plf:=
 .split u2 (
 .split tL (
 .leaf (.done 0 [u0,(.bc true),(.sel Y6 1),(.sel Y6 2),.emptyL])) x8) (
 .split tL (
 .leaf (.done 0 [u0,(.bc false),(.sel Y6 1),(.sel Y6 2),u1])) x8)
def t26:List (Tr Plf):=[mE]
def ml:Tr Plf:=
 .split (.lss TY (.c 0)) x8 (
 .split (.lss TY x2) (
 .split (.lss (.c 0) x2) (
 .split (.lss (.lenL pF) TY) x8 (
 .leaf (.next 1 [TY,(.c 0),u0,u2,(.sub pF (.c 0) TY),u4,u1]))) x8) x8)
def sT:Tr Plf:=
 .leaf (.next 2 [u0,u1,u1,(.c 0),u2,u3,u4,u5,u6,(.arith .add .i64 vP (.c 1)),(.arith .add .i64 vP (.c 2))])
def nN:Tr Plf:=
 .split (.lss u3 (.c 2)) (
 .split jM (
 .split (.lss u9 u0) (
 .split (.lss u9 (.c 0)) x8 (
 .split (.lss u9 TD) (
 .split x36 x8 (
 .split iW (
 .split (.lss qP YR) (
 .split kZ dR (
 .split (.lss Uv lj) dR dR)) (
 .split (.lss YR qP) (
 .split kZ SG vk) (
 .split kZ dR vk))) x8)) x8)) SG) (
 .split (.eql u3 (.c 1)) (
 .split (.lss u10 u0) (
 .split (.lss u10 (.c 0)) x8 (
 .split (.lss u10 TD) (
 .split x36 x8 (
 .split iW (
 .split (.lss wI YR) (
 .split iP eQ (
 .split (.lss Uv jI) eQ eQ)) (
 .split (.lss YR wI) (
 .split iP SG mw) (
 .split iP eQ mw))) x8)) x8)) SG) x8)) (
 .split (.eql u2 u1) (
 .leaf (.done 0 [u6,u7])) (
 .split x36 x8 (
 .split iW (
 .split x7 x8 (
 .split (.lss u1 TD) (
 .leaf (.next 1 [u0,u2,u4,u5,(.upd (.upd (.upd (.upd u6 u1 0 YR) u1 1 Uv) u2 0 (.cell u6 u1 0)) u2 1 (.cell u6 u1 1)),u7,u8])) x8)) x8)))
def t27:List (Tr Plf):=[ml,sT,nN]
def uv:Tr Plf:=
 .leaf (.next 1 [u0,u2,u3,u4,u1])
def uR:Tr Plf:=
 .split (.lss (.c 0) x3) (
 .split u1 j4 (
 .split (.lss rM (.c 0)) j4 (
 .split (.eql (.cell u4 rM 1) (.cell u2 (.c 0) 0)) (
 .leaf (.done 0 [(.cell u2 (.c 0) 0),(.cell u2 (.c 0) 1),(.bc true),u2,u3])) j4))) (
 .leaf (.done 0 [(.c 0),(.c 0),(.bc false),u2,u3]))
def t28:List (Tr Plf):=[uv,uR]
def rf:Tr Plf:=
 .split (.lss dY u5) (
 .leaf (.done 0 [.nilL,(.bc true),(.c 3),u0,u3,u4,u1])) (
 .split (.lss u0 u5) (
 .split (.eql (.sel Xg 0) (.c 1)) (
 .leaf (.next 1 [.nilL,(.bc true),(.sel Xg 3),u5,u2,(.sel Xg 4),(.sel Xg 5),u1,(.sel Xg 1),(.sel Xg 2)])) x8) (
 .split (.eql (.sel Xw 0) (.c 1)) (
 .leaf (.next 1 [.nilL,(.bc true),(.sel Xw 3),u0,u2,(.sel Xw 4),(.sel Xw 5),u1,(.sel Xw 1),(.sel Xw 2)])) x8))
def uO:Tr Plf:=
 .split u2 (
 .split (.lss u3 u8) sN (
 .split NY (
 .split u4 uj (
 .split (.lss ko (.c 0)) uj (
 .split (.eql (.sel W6 0) (.c 1)) (
 .leaf (.next 1 [(.snoc u0 WQ),(.bc false),(.sel W6 3),u3,u4,(.sel W6 4),(.sel W6 5),(.rmv u7 ko),(.sel W6 1),(.sel W6 2)])) x8))) x8)) sN
def t29:List (Tr Plf):=[rf,uO]
def uy:Tr Plf:=
 .split (.eql (.sel fj 0) (.c 1)) (
 .split (.lss (.sel fj 1) (.c 0)) kF (
 .split (.lss (.sel fj 1) x20) (
 .leaf (.done 0 [(.cell u0 (.sel fj 1) 2),(.c 0)])) x8)) x8
def t30:List (Tr Plf):=[uy]
def rt:Tr Plf:=
 .split (.eqS u7 0 0) (
 .leaf (.done 0 [(.bc true),(.c 0)])) (
 .split (.eql (.sel (.app 30 Yf) 0) (.c 1)) (
 .split (.eql (.sel (.app 30 Yf) 2) (.c 0)) (
 .split oN (
 .split (.lss TA (.c 0)) x8 (
 .split (.lss TA x20) (
 .split (.lss dU u8) lV (
 .split (.lss u9 dU) lV (
 .split (.lss u10 (.arith .sub .i64 (.c 0) dU)) lV (
 .leaf (.done 0 [(.neg (.lss (.arith .sub .i64 (.cell u0 TA 1) dU) u10)),(.c 0)]))))) x8)) x8) (
 .leaf (.done 0 [(.bc false),(.sel (.app 30 Yf) 2)]))) x8)
def t31:List (Tr Plf):=[rt]
def qS:Tr Plf:=
 .leaf (.next 1 ([(.c 0)]++us 2 10++[u17,u18,u19,u0,u1,u12,u14,u15,u16,u13,u20,u22,u23,u24,u21]++us 26 9++[u25]))
def yz:Tr Plf:=
 .split (.lss u0 (.c 3)) (
 .split (.eql u0 (.c 0)) (
 .split (.eqSS u26 u8) cj x1) (
 .split (.eql u0 (.c 1)) (
 .split (.eql (.sel xN 0) (.c 1)) (
 .split (.sel xN 1) cj x1) x8) (
 .split (.eql u0 (.c 2)) (
 .split (.eql u28 (.c 3)) (
 .split u35 cj x1) cj) x8))) x35
def t32:List (Tr Plf):=[qS,yz]
def rR:Tr Plf:=
 .split (.eql (.sel eZ 0) (.c 1)) (
 .split (.eql (.sel eZ 2) (.c 0)) (
 .split (.sel eZ 1) (
 .split (.eqS u7 0 0) (
 .leaf (.done 0 [(.c 0),u0])) (
 .split oN (
 .split (.lss TA (.c 0)) x8 (
 .split (.lss TA x20) (
 .leaf (.done 0 [(.c 0),(.upd u0 TA 2 (.arith .add .i64 (.cell u0 TA 2) u10))])) x8)) x8)) (
 .leaf (.done 0 [(.c 8),u0]))) (
 .leaf (.done 0 [(.sel eZ 2),u0]))) x8
def t33:List (Tr Plf):=[rR]
def wJ:Tr Plf:=
 .split (.lss cy (.c 100000)) (
 .split (.lss u27 (.c 0)) x8 (
 .split (.lss u27 G2) (
 .split (.eql (.sel eU 0) (.c 1)) (
 .split (.eql (.lenL (.sel eU 2)) x20) (
 .split (.eql (.sel Rn 0) (.c 1)) (
 .leaf (.done 0 [(.sel Rn 1),(.sel Rn 2),(.sel Rn 3),(.snoc u18 (rl [u27,u26])),(.bc false),(.sel eU 2),u1,u12,u14,u15,u16,u13,u20,(.sel Rn 4),(.sel Rn 5),(.sel Rn 6),(.sel Rn 7)])) x8) x8) x8) x8)) x8
def t34:List (Tr Plf):=[wJ]
def oS:Tr Plf:=
 .split (.lss u21 (.c 0)) vG (
 .split (.lss u21 G2) (
 .split jB mS (
 .split iH mS (
 .split fL (
 .split iS (
 .split u17 (
 .split (.eql (.sel uA 0) (.c 1)) (
 .split (.sel uA 1) (
 .split (.eql (.sel Ku 0) (.c 1)) (
 .leaf (.done 0 [(.c 0),(.sel Ku 1),(.sel Ku 2),(.sel Ku 3),(.bc false),(.sel Ku 4),(.sel Ku 5),(.sel Ku 6),(.sel Ku 7),(.sel Ku 17),(.sel Ku 15),(.sel Ku 13),(.sel Ku 14),(.sel Ku 16)])) x8) (
 .leaf (.done 0 [(.c 8),u9,u10,u11,(.bc true),u18,u19,u0,u1,u13,u15,u12,u14,u16]))) x8) (
 .split (.eql (.sel oT 0) (.c 1)) (
 .split (.sel oT 1) (
 .split (.eql (.sel Kf 0) (.c 1)) (
 .leaf (.done 0 [(.c 0),(.sel Kf 1),(.sel Kf 2),(.sel Kf 3),(.bc false),(.sel Kf 4),(.sel Kf 5),(.sel Kf 6),(.sel Kf 7),(.sel Kf 17),(.sel Kf 15),(.sel Kf 13),(.sel Kf 14),(.sel Kf 16)])) x8) (
 .leaf (.done 0 [(.c 8),u9,u10,u11,(.bc false),u18,u19,u0,u1,u13,u15,u12,u14,u16]))) x8)) x8) x8))) vG)
def t35:List (Tr Plf):=[oS]
def pT:Tr Plf:=
 .split u1 x98 x99
def t36:List (Tr Plf):=[pT]
def te:Tr Plf:=
 .split sZ (
 .leaf (.done 0 [(.sel (.app 36 M6) 1),(.sel (.app 36 M6) 2)])) x8
def t37:List (Tr Plf):=[te]
def xD:Tr Plf:=
 .split u1 x98 x99
def t38:List (Tr Plf):=[xD]
def mq:Tr Plf:=
 .split (.eql (.sel (.app 37 M6) 0) (.c 1)) (
 .split fL (
 .split (.eql (.sel iY 0) (.c 1)) (
 .leaf (.done 0 [u3,u5,u7,u2,u4,u6,u8,u9,u10,u11,u17,(.sel iY 1),(.sel iY 2),(.sel (.app 37 M6) 1),(.sel (.app 37 M6) 2),(.sel Ob 1),I9,(.sel Ob 3),(.sel Ob 4),(.sel Ob 5)])) x8) x8) x8
def t39:List (Tr Plf):=[mq]
def oW:Tr Plf:=
 .split u1 x98 iR
def t40:List (Tr Plf):=[oW]
def oH:Tr Plf:=
 .split u1 x98 iR
def t41:List (Tr Plf):=[oH]
def xU:Tr Plf:=
 .split u1 x98 iR
def t42:List (Tr Plf):=[xU]
def mK:Tr Plf:=
 .split (.eql (.sel iX 0) (.c 1)) (
 .split (.eql (.sel me 0) (.c 1)) (
 .split (.eql (.sel kY 0) (.c 1)) (
 .leaf (.done 0 [u2,(.nilIs (.sel iX 1) (.sel iX 2)),(.nilIs (.sel me 1) (.sel me 2)),(.nilIs (.sel kY 1) (.sel kY 2))])) x8) x8) x8
def t43:List (Tr Plf):=[mK]
def sk:Tr Plf:=
 .leaf x43
def sE:Tr Plf:=
 .split x32 x46 x47
def t44:List (Tr Plf):=[sk,sE]
def wn:Tr Plf:=
 .leaf x43
def pH:Tr Plf:=
 .split x32 x46 x47
def t45:List (Tr Plf):=[wn,pH]
def tK:Tr Plf:=
 .split kJ (
 .split Xi (
 .split (.eql (.sel tQ 0) (.c 1)) (
 .split fP (
 .split (.lss (.c 24) Un) (
 .leaf (.done 0 [(.c 24),(.c 490)])) (
 .leaf (.next 1 [u0,u1,u2,u3,u4,u5,u6,u7,u8,u9,Xi,(.neg Xi),(.neg Xi),fP,(.neg fP),(.neg fP),(.lss (.c 24) Un),(.c 0),.emptyL]))) fy) x8) fy) x8
def mB:Tr Plf:=
 .split (.lss u17 Un) (
 .split (.lss u17 (.c 0)) x8 (
 .split (.eql (.sel tc 0) (.c 1)) (
 .split (.lss (.sel tc 1) (.c 0)) jg (
 .split (.eql (.sel um 0) (.c 1)) (
 .split (.lss (.sel um 1) (.c 0)) jg (
 .split (.lss lO (.c 0)) (
 .leaf (.next 1 [u0,u1,u2,u3,u4,u5,u6,u7,u8,u9,u10,u11,u12,u13,u14,u15,u16,vZ,(.snoc u18 (.rcons je YK))])) (
 .split (.cell u18 lO 1) jg (
 .leaf (.next 1 [u0,u1,u2,u3,u4,u5,u6,u7,u8,u9,u10,u11,u12,u13,u14,u15,u16,vZ,(.upd u18 lO 1 (.bc true))]))))) x8)) x8)) (
 .split tz (
 .leaf (.done 0 [(.c 4),(.c 491)])) (
 .leaf (.next 2 [u0,u1,u2,u3,u4,u5,u6,u7,u8,u9,u10,u11,u12,u13,u14,u15,u16,u17,(.lss u17 Un),tz,(.c 0),.emptyL])))
def nY:Tr Plf:=
 .split (.lss u20 (.lenL u9)) (
 .split (.lss u20 (.c 0)) x8 (
 .split (.eql (.sel pD 0) (.c 1)) (
 .split (.lss (.sel pD 1) (.c 0)) Qi (
 .split (.eqS xI 0 0) qy (
 .split (.eql (.sel qd 0) (.c 1)) (
 .split (.lss (.sel qd 1) (.c 0)) Qi qy) x8))) x8)) x93
def t46:List (Tr Plf):=[tK,mB,nY]
def xl:Tr Plf:=
 .leaf (.next 1 [u2,u3,(.c 0),u0,u1])
def xJ:Tr Plf:=
 .split x37 (
 .split x36 x8 (
 .split (.lss x2 x95) (
 .leaf (.next 1 [u0,u1,x41,(.snoc u3 (rl [dw])),(.bc false)])) x8)) RB
def t47:List (Tr Plf):=[xl,xJ]
def ya:Tr Plf:=
 .split sZ (
 .split (.eql (.sel jj 0) (.c 1)) (
 .leaf (.done 0 [(.sel jj 1),(.sel jj 2)])) x8) x8
def t48:List (Tr Plf):=[ya]
def tP:Tr Plf:=
 .split (.eql (.sel (.app 48 M6) 0) (.c 1)) (
 .leaf (.done 0 [u12,(.nilIs (.sel (.app 48 M6) 1) (.sel (.app 48 M6) 2))])) x8
def t49:List (Tr Plf):=[tP]
def th:Tr Plf:=
 .split (.eql (.sel fQ 0) (.c 1)) (
 .split (.lss (.sel fQ 1) (.c 0)) rh (
 .split (.eql x14 x3) (
 .leaf (.next 1 [u5,(.c 0),u0,u1,u2,u3,u4,(.sel fQ 1)])) rh)) x8
def uG:Tr Plf:=
 .split x32 (
 .split x7 x8 (
 .split (.lss x44 (.c 0)) nM (
 .split x6 (
 .split (.lss x9 x44) nM (
 .leaf (.next 1 ([u0,x12]++us 2 6)))) x8))) (
 .split (.lss x20 (.c 4)) (
 .split (.eql x20 (.c 0)) (
 .leaf (.done 0 [u7,(.c 0),(.c 0),(.c 0),(.c 0),(.bc true)])) (
 .split (.eql x20 (.c 1)) (
 .leaf (.done 0 [u7,dB,(.c 0),(.c 0),(.c 0),(.bc true)])) (
 .split (.eql x20 (.c 2)) (
 .leaf (.done 0 [u7,dB,jn,(.c 0),(.c 0),(.bc true)])) (
 .split (.eql x20 (.c 3)) (
 .leaf (.done 0 [u7,dB,jn,(.cell u0 (.c 2) 0),(.c 0),(.bc true)])) x8)))) (
 .leaf (.done 0 [u7,dB,jn,(.cell u0 (.c 2) 0),(.cell u0 (.c 3) 0),(.bc true)])))
def t50:List (Tr Plf):=[th,uG]
def oU:Tr Plf:=
 .leaf x59
def xK:Tr Plf:=
 .split x32 (
 .split x7 x8 (
 .split jS x8 (
 .split (.lss u6 x2) (
 .split (.eqSS x44 (.cell u3 u6 0)) x45 x62) x8))) x47
def t51:List (Tr Plf):=[oU,xK]
def sK:Tr Plf:=
 .split (.eql (.sel ei 0) (.c 1)) (
 .split (.lss (.sel ei 1) (.c 0)) (
 .leaf (.done 0 [(.c 0),(.c 0),(.c 0),(.c 0),(.c 0),(.c 9)])) (
 .split (.lss (.sel ei 1) Un) (
 .split (.eql (.sel pG 0) (.c 1)) (
 .leaf (.next 1 [u9,(.c 0),u0,u1,u2,u3,u4,u5,u6,u7,u10,u11,u12,u13,u14,(.sel pG 1),(.c 0),(.c 0),(.c 0),(.c 0)])) x8) x8)) x8
def uF:Tr Plf:=
 .split x32 (
 .split x7 x8 (
 .split (.eql (.sel sC 0) (.c 1)) (
 .split (.eql (.sel tW 0) (.c 1)) (
 .split (.lss Y1 (.c 0)) (
 .split (.lss x61 (.c 0)) NV (
 .split bA x8 (
 .split bh (
 .split (.lss bB x61) NV (
 .split Y3 (
 .leaf (.next 1 ([u0,x12]++us 2 14++[x61,u17,u18,u19]))) (
 .split ae (
 .leaf (.next 1 ([u0,x12]++us 2 15++[x61,u18,u19]))) (
 .split Z4 (
 .leaf (.next 1 ([u0,x12]++us 2 16++[x61,u19]))) (
 .split bG (
 .leaf (.next 1 ([u0,x12]++us 2 17++[x61]))) x8))))) x8))) (
 .split (.eql Y1 (.c 0)) (
 .split (.lss Xz (.c 0)) NV (
 .split bA x8 (
 .split bh (
 .split (.lss bB Xz) NV (
 .split Y3 (
 .leaf (.next 1 ([u0,x12]++us 2 14++[Xz,u17,u18,u19]))) (
 .split ae (
 .leaf (.next 1 ([u0,x12]++us 2 15++[Xz,u18,u19]))) (
 .split Z4 (
 .leaf (.next 1 ([u0,x12]++us 2 16++[Xz,u19]))) (
 .split bG (
 .leaf (.next 1 ([u0,x12]++us 2 17++[Xz]))) x8))))) x8))) (
 .split (.eql Y1 (.c 1)) (
 .split (.lss WZ (.c 0)) NV (
 .split bA x8 (
 .split bh (
 .split (.lss bB WZ) NV (
 .split Y3 (
 .leaf (.next 1 ([u0,x12]++us 2 14++[WZ,u17,u18,u19]))) (
 .split ae (
 .leaf (.next 1 ([u0,x12]++us 2 15++[WZ,u18,u19]))) (
 .split Z4 (
 .leaf (.next 1 ([u0,x12]++us 2 16++[WZ,u19]))) (
 .split bG (
 .leaf (.next 1 ([u0,x12]++us 2 17++[WZ]))) x8))))) x8))) (
 .split (.eql Y1 (.c 2)) (
 .split (.lss Xn (.c 0)) NV (
 .split bA x8 (
 .split bh (
 .split (.lss bB Xn) NV (
 .split Y3 (
 .leaf (.next 1 ([u0,x12]++us 2 14++[Xn,u17,u18,u19]))) (
 .split ae (
 .leaf (.next 1 ([u0,x12]++us 2 15++[Xn,u18,u19]))) (
 .split Z4 (
 .leaf (.next 1 ([u0,x12]++us 2 16++[Xn,u19]))) (
 .split bG (
 .leaf (.next 1 ([u0,x12]++us 2 17++[Xn]))) x8))))) x8))) (
 .split (.eql Y1 (.c 3)) (
 .split (.lss W5 (.c 0)) NV (
 .split bA x8 (
 .split bh (
 .split (.lss bB W5) NV (
 .split Y3 (
 .leaf (.next 1 ([u0,x12]++us 2 14++[W5,u17,u18,u19]))) (
 .split ae (
 .leaf (.next 1 ([u0,x12]++us 2 15++[W5,u18,u19]))) (
 .split Z4 (
 .leaf (.next 1 ([u0,x12]++us 2 16++[W5,u19]))) (
 .split bG (
 .leaf (.next 1 ([u0,x12]++us 2 17++[W5]))) x8))))) x8))) x8))))) x8) x8)) (
 .leaf (.done 0 (us 15 5++[(.c 0)])))
def t52:List (Tr Plf):=[sK,uF]
def uV:Tr Plf:=
 .split (.lss u0 (.c 0)) x8 (
 .split (.lss u0 TD) (
 .split (.eql G2 (.c 0)) (
 .leaf (.done 0 [Z9,.emptyL])) (
 .split (.eql G2 (.c 1)) (
 .leaf (.done 0 [Z9,jZ])) (
 .split (.eql G2 (.c 2)) (
 .leaf (.done 0 [Z9,ln])) (
 .split (.eql G2 (.c 3)) (
 .leaf (.done 0 [Z9,eE])) (
 .split (.eql G2 (.c 4)) (
 .leaf (.done 0 [Z9,(.snoc eE TE)])) x8))))) x8)
def t53:List (Tr Plf):=[uV]
def ug:Tr Plf:=
 .split oA (
 .split sI (
 .split (.eql (.sel UW 0) (.c 1)) (
 .split (.sel UW 6) (
 .split (.eql (.sel R8 0) (.c 1)) (
 .split (.eql (.sel R8 6) (.c 0)) (
 .split (.eql (.sel jo 0) (.c 1)) (
 .leaf (.done 0 [(.sel jo 1),(.sel jo 2),(.c 0)])) x8) (
 .leaf (.done 0 [(.strc 0 0),.nilL,(.sel R8 6)]))) x8) (
 .leaf (.done 0 [(.strc 0 0),.nilL,(.c 492)]))) x8) (
 .leaf (.done 0 [(.strc 0 0),.nilL,(.sel cD 2)]))) x8
def t54:List (Tr Plf):=[ug]
def qC:Tr Plf:=
 .split (.eql x3 x20) (
 .leaf (.next 1 [u2,(.c 0),u0,u1])) (
 .leaf (.done 0 [(.c 2),u0]))
def oM:Tr Plf:=
 .split x32 (
 .split x7 x8 (
 .split (.lss x44 (.c 0)) pm (
 .split (.lss u1 x3) (
 .split (.lss (.cell u2 u1 1) x44) pm ot) x8))) (
 .leaf (.next 2 [u0,x20,(.c 0),u2,u3]))
def xn:Tr Plf:=
 .split (.lss u2 u1) (
 .split x36 x8 (
 .split x37 (
 .split (.lss u2 x2) (
 .leaf (.next 2 [u0,u1,x41,(.upd u3 u2 2 x38),u4])) x8) x8)) (
 .leaf (.done 0 [(.c 0),u3]))
def t55:List (Tr Plf):=[qC,oM,xn]
def xZ:Tr Plf:=
 .split (.eql (.sel iB 0) (.c 1)) (
 .split (.eql G2 (.c 0)) (
 .split (.eql (.sel yt 0) (.c 1)) (
 .leaf (.done 0 [(.lenL N3),N5,(.sel yt 2)])) x8) (
 .split (.eql G2 (.c 1)) (
 .split (.eql (.sel pa 0) (.c 1)) (
 .leaf (.done 0 [(.lenL N3),N5,(.sel pa 2)])) x8) (
 .split (.eql G2 (.c 2)) (
 .split (.eql (.sel uZ 0) (.c 1)) (
 .leaf (.done 0 [(.lenL N3),N5,(.sel uZ 2)])) x8) (
 .split (.eql G2 (.c 3)) (
 .split (.eql (.sel vh 0) (.c 1)) (
 .leaf (.done 0 [(.lenL N3),N5,(.sel vh 2)])) x8) (
 .split (.eql G2 (.c 4)) (
 .split (.eql (.sel vg 0) (.c 1)) (
 .leaf (.done 0 [(.lenL N3),N5,(.sel vg 2)])) x8) x8))))) x8
def t56:List (Tr Plf):=[xZ]
def yb:Tr Plf:=
 .split qA (
 .leaf (.next 1 [.nilL,(.bc true),u8,(.c 0),u0,u1,u2,u3,u4,u5,u6,u7,(.sel NN 1),(.sel NN 2),(.sel NN 3)])) x8
def xO:Tr Plf:=
 .split (.lss u3 x3) (
 .split x24 x8 (
 .split (.eql Yb u12) (
 .split (.eql (.sel xP 0) (.c 1)) (
 .split (.sel xP 1) (
 .split mh x8 (
 .split (.lss u4 dH) (
 .split (.eqSS rZ (.cell u10 u4 0)) (
 .split NY (
 .leaf (.next 1 [(.snoc u0 x87),(.bc false),u2,x30,u4,u5,u6,u7,u8,u9,u10,u11,Yb,u13,u14])) x8) sA) x8)) sA) x8) x8)) lM
def t57:List (Tr Plf):=[yb,xO]
def vj:Tr Plf:=
 .split kJ (
 .split Xi (
 .split og (
 .split (.sel Lp 6) (
 .split (.eql (.sel kx 0) (.c 1)) (
 .leaf (.done 0 [(.sel kx 1),(.sel kx 2),(.c 0)])) x8) (
 .leaf (.done 0 [.nilL,(.bc true),(.c 492)]))) x8) (
 .leaf (.done 0 [.nilL,(.bc true),(.c 2)]))) x8
def t58:List (Tr Plf):=[vj]
def qT:Tr Plf:=
 .leaf x23
def vX:Tr Plf:=
 .split x21 (
 .split x24 x8 (
 .split (.eql u2 x25) (
 .leaf (.done 0 [u3])) x31)) x47
def t59:List (Tr Plf):=[qT,vX]
def xr:Tr Plf:=
 .split qA (
 .split (.lss u9 (.c 0)) x8 (
 .split (.lss u9 Un) (
 .split (.eql (.lenL (.sel NN 3)) (.sel NN 1)) (
 .split (.eql (.sel jb 0) (.c 1)) (
 .split (.eql (.sel ux 0) (.c 1)) (
 .split (.eql (.lenL (.sel jb 2)) (.lenL (.sel NN 3))) (
 .split (.eql (.sel sg 0) (.c 1)) (
 .split (.lss (.lenL N8) (.c 4)) (
 .split (.eql (.lenL N8) (.c 0)) (
 .leaf (.done 0 [ag,(.c 0),(.c 0),(.c 0),(.c 0)])) (
 .split (.eql (.lenL N8) (.c 1)) (
 .leaf (.done 0 [ag,dC,(.c 0),(.c 0),(.c 0)])) (
 .split (.eql (.lenL N8) (.c 2)) (
 .leaf (.done 0 [ag,dC,kS,(.c 0),(.c 0)])) (
 .split (.eql (.lenL N8) (.c 3)) (
 .leaf (.done 0 [ag,dC,kS,(.cell N8 (.c 2) 0),(.c 0)])) x8)))) (
 .leaf (.done 0 [ag,dC,kS,(.cell N8 (.c 2) 0),(.cell N8 (.c 3) 0)]))) x8) x8) x8) x8) x8) x8)) x8
def t60:List (Tr Plf):=[xr]
def oF:Tr Plf:=
 .split (.eql (.sel Y0 0) (.c 1)) (
 .split (.eql (.sel Y0 3) (.c 0)) (
 .split (.eql (.sel rB 0) (.c 1)) (
 .split (.lss (.sel rB 1) (.c 0)) (
 .leaf (.done 0 [(.strc 0 0),.nilL,(.c 8)])) (
 .split og (
 .split (.eql (.sel W7 0) (.c 1)) (
 .split (.eql (.sel jE 0) (.c 1)) (
 .leaf (.done 0 [(.sel jE 1),(.sel jE 2),(.c 0)])) x8) x8) x8)) x8) (
 .leaf (.done 0 [(.strc 0 0),.nilL,(.sel Y0 3)]))) x8
def t61:List (Tr Plf):=[oF]
def pO:Tr Plf:=
 .split (.eql x20 x0) (
 .leaf (.next 1 [u0,u1,(.c 0)])) x1
def vB:Tr Plf:=
 .split x37 (
 .split x36 x8 (
 .split (.lss u2 x0) (
 .split (.eql x38 (.cell u1 u2 0)) x42 x1) x8)) x35
def t62:List (Tr Plf):=[pO,vB]
def nb:Tr Plf:=
 .leaf (.next 1 [u0,u1,(.c 0),u2,u3])
def up:Tr Plf:=
 .split x37 (
 .split x36 x8 (
 .split (.eqSS x38 u3) (
 .split (.eql (.sel sc 0) (.c 1)) (
 .split (.sel sc 1) x50 rx) x8) rx)) x47
def t63:List (Tr Plf):=[nb,up]
def rP:Tr Plf:=
 .split (.eql (.sel (.app 63 Qd) 0) (.c 1)) (
 .leaf (.done 0 [(.neg (.lss (.sel (.app 63 Qd) 1) (.c 0)))])) x8
def t64:List (Tr Plf):=[rP]
def wH:Tr Plf:=
 .split (.eql (.sel N2 0) (.c 1)) (
 .split (.eql (.sel Ql 0) (.c 1)) (
 .split (.eql (.sel ky 0) (.c 1)) (
 .split (.eql (.sel ky 2) (.c 0)) (
 .split (.eql (.sel (.app 49 di) 0) (.c 1)) (
 .leaf (.next 1 [(.snoc .emptyL (rl [(.sel (.app 49 di) 1),(.sel (.app 49 di) 2),.nilL])),(.bc false),(.c (-1)),(.c 0),u2,x2,u4,x14,u6,G2,u8,u9,u10,u11,u17,u18,u19,u0,u1,(.sel N2 1),(.sel N2 2),(.sel N2 3),u12,u14,u15,u16,u13,u20,u21,u22,u23,u24,u25,(.sel Ql 1),(.sel Ql 2),(.sel Ql 3),(.sel Ql 4)])) x8) (
 .leaf (.done 0 [(.sel ky 2),(.sel N2 1),(.sel N2 2),(.sel N2 3)]))) x8) x8) x8
def xX:Tr Plf:=
 .split x21 (
 .split x24 x8 (
 .split (.eql (.sel ny 0) (.c 1)) (
 .split (.eql (.sel ny 3) (.c 0)) (
 .split x36 (
 .split yn (
 .leaf (.next 2 [u0,u1,u3,u3,(.sel Ty 1),(.sel Ty 2),(.lenL (.sel Ty 1)),(.c 0),u4,u5,u6,u7,u8,u9,u10,u11,u12,u13,u14,u15,u16,u17,u18,u19,u20,u21,u22,u23,u24,u25,u26,u27,u28,u29,u30,u31,u32,u33,u34,u35,u36])) x8) nI) nI) x8)) (
 .split (.lss (.c 2000) x20) (
 .leaf (.done 0 [(.c 7),u19,u20,u21])) (
 .split x36 (
 .leaf (.done 0 [(.c 9),u19,u20,u21])) (
 .split x37 (
 .leaf (.done 1 [dw,u19,u20,u21])) x8)))
def nF:Tr Plf:=
 .split (.lss u7 u6) (
 .split iA x8 (
 .split (.lss u7 x5) (
 .split x24 x8 (
 .split x21 (
 .split (.eql (.sel kH 0) (.c 1)) (
 .split (.eql (.sel rj 0) (.c 1)) (
 .split (.sel rj 1) (
 .split (.lss (.c 2000) x20) lx (
 .leaf (.next 2 (us 0 7++[UB]++us 8 33)))) (
 .split (.isNil x27) (
 .split NY (
 .split (.lss (.c 2000) (.lenL mO)) lx (
 .leaf (.next 2 ([mO,(.bc false)]++us 2 5++[UB]++us 8 33)))) x8) (
 .split (.lss (.lenL x27) (.c 1048576)) (
 .split (.lss (.lenL (.cat .emptyL x27)) x95) (
 .split NY (
 .split (.lss (.c 2000) (.lenL (.snoc u0 (rl [cx,fq,(.nilIs mP (.and (.and (.bc false) (.eql (.lenL x27) (.c 0))) (.eql (.c 1) (.c 0))))])))) lx (
 .leaf (.next 2 [(.snoc u0 (rl [cx,fq,(.nilIs mP (.bc false))])),(.bc false),u2,u3,u4,u5,u6,UB,u8,u9,u10,u11,u12,u13,u14,u15,u16,u17,u18,u19,u20,u21,u22,u23,u24,u25,u26,u27,u28,u29,u30,u31,u32,u33,u34,u35,u36,u37,u38,u39,u40]))) x8) x8) x8))) x8) x8) x8)) x8)) (
 .leaf (.next 1 ([u0,u1,u2,x30]++us 8 33)))
def t65:List (Tr Plf):=[wH,xX,nF]
def od:Tr Plf:=
 .leaf (.done 0 [u15])
def t66:List (Tr Plf):=[od]
def vJ:Tr Plf:=
 .split (.lss iM (.c 0)) (
 .split NY (
 .leaf (.done 0 [pB,(.bc false),(.snoc u2 (.rcons u3 (.rcons u4 (.rcons u5 (.rcons u6 (.rcons u7 YK))))))])) x8) (
 .split (.cell u2 iM 5) rX (
 .split NY (
 .leaf (.done 0 [pB,(.bc false),(.upd u2 iM 5 (.bc true))])) x8))
def t67:List (Tr Plf):=[vJ]
def ye:Tr Plf:=
 .split (.eql (.sel fG 0) (.c 1)) (
 .leaf (.next 1 [(.sel fG 1),(.sel fG 2),(.lenL (.sel fG 1)),(.c 0),u5,u6,u7,u8,u9,u10,u11,u0,u1,u2,u3,u4])) x8
def mU:Tr Plf:=
 .split (.lss u3 u2) (
 .split x24 x8 (
 .split x21 (
 .split (.eql (.sel XT 0) (.c 1)) (
 .split (.eql (.sel dZ 0) (.c 1)) (
 .leaf (.next 1 [u0,u1,u2,x30,(.sel dZ 1),(.sel dZ 2),(.sel dZ 3),u7,u8,u9,u10,u11,u12,u13,u14,u15])) x8) x8) x8)) (
 .leaf (.done 0 [u4,u5,u6]))
def t68:List (Tr Plf):=[ye,mU]
def tT:Tr Plf:=
 .leaf (.next 1 [u2,u0,u1,(.c 0),u3,u4,u5,u6,.nilL,(.bc true),.emptyL])
def ul:Tr Plf:=
 .split jN (
 .split x24 x8 (
 .split (.eql (.sel cM 0) (.c 1)) (
 .leaf (.next 1 [u0,u1,u2,x30,u4,u5,u6,u7,(.sel cM 1),(.sel cM 2),(.sel cM 3)])) x8)) (
 .leaf (.next 2 ([u0,(.c 0),u1]++us 4 7)))
def qF:Tr Plf:=
 .split (.lss u1 G2) (
 .split x52 (
 .split x7 x8 (
 .split (.eql (.sel dg 0) (.c 1)) (
 .leaf (.next 2 [u0,x12,u2,u3,u4,u5,u6,(.sel dg 1),(.sel dg 2),(.sel dg 3)])) x8)) sU) sU
def t69:List (Tr Plf):=[tT,ul,qF]
def sP:Tr Plf:=
 .split (.lss jR (.c 0)) (
 .split NY (
 .leaf (.done 0 [(.snoc u0 iQ),(.bc false),(.snoc u2 (.rcons u3 (.rcons u4 (.rcons u5 (.rcons u6 (.rcons u7 (.rcons u8 (.rcons u9 (.rcons u10 (.rcons u11 (.rcons u12 YK)))))))))))])) x8) (
 .split (.cell u2 jR 10) rX (
 .split NY (
 .leaf (.done 0 [(.snoc u0 iQ),(.bc false),(.upd u2 jR 10 (.bc true))])) x8))
def t70:List (Tr Plf):=[sP]
def uE:Tr Plf:=
 .leaf (.next 1 ([u0,u1,(.c 0)]++us 2 5))
def s7:Tr Plf:=
 .split x37 (
 .split x36 x8 (
 .split (.lss x38 (.c 0)) x8 (
 .split (.lss x38 TD) (
 .split (.eql (.cell u6 x38 2) (.c 2)) (
 .split u7 xf x50) (
 .split u7 x50 xf)) x8))) x47
def t71:List (Tr Plf):=[uE,s7]
def rY:Tr Plf:=
 .split (.eql (.sel eu 0) (.c 1)) (
 .split (.eql (.sel eu 1) (.c (-1))) lM (
 .leaf (.next 1 [u0,u1,(.sel eu 1),(.arith .add .i64 (.sel eu 1) (.c 1)),u2,u3,u4,u5,u6]))) x8
def po:Tr Plf:=
 .split x21 (
 .split x24 x8 (
 .split (.lss x25 (.c 0)) x8 (
 .split (.lss x25 G2) (
 .split (.eql (.cell u7 x25 2) (.c 2)) (
 .split u8 mG uM) (
 .split u8 uM mG)) x8))) (
 .split x36 x8 (
 .split (.lss x20 u2) x8 (
 .split (.lss x20 x20) x8 (
 .split (.eql x20 (.lenL lX)) mu mu))))
def t72:List (Tr Plf):=[rY,po]
def uo:Tr Plf:=
 .leaf (.next 1 ([u0,u1,(.c 0)]++us 2 9))
def mT:Tr Plf:=
 .split x37 (
 .split x36 x8 (
 .split (.lss x38 (.c 0)) x8 (
 .split (.lss x38 TD) (
 .split (.lss u11 (.c 0)) x8 (
 .split (.lss u11 dH) (
 .split (.and (.eql (.cell u6 x38 2) (.cell u10 u11 2)) (.and (.eqSS (.cell u6 x38 3) (.cell u10 u11 3)) (.eqSS (.cell u6 x38 4) (.cell u10 u11 4)))) x50 (
 .leaf (.next 1 ([u0,u1,x41]++us 3 9)))) x8)) x8))) x47
def t73:List (Tr Plf):=[uo,mT]
def oY:Tr Plf:=
 .leaf (.next 1 [u10,u11,u4,u5,(.c 0),u0,u1,u2,u3,u6,u7,u8,u9])
def sw:Tr Plf:=
 .split x22 (
 .split mh x8 (
 .split (.eql (.sel sG 0) (.c 1)) (
 .split (.lss (.sel sG 1) (.c 0)) (
 .leaf (.done 0 [e6,(.bc true)])) (
 .leaf (.next 1 ([u0,u1,u2,u3,lF]++us 5 8)))) x8)) (
 .leaf (.done 0 [(.c 0),(.bc false)]))
def t74:List (Tr Plf):=[oY,sw]
def vu:Tr Plf:=
 .split (.eql (.sel (.app 57 WE) 0) (.c 1)) (
 .split (.eql (.sel jz 0) (.c 1)) (
 .split (.eql (.sel (.app 57 XJ) 0) (.c 1)) (
 .split (.eql (.sel kk 0) (.c 1)) (
 .leaf (.done 0 [(.sel jz 1),(.sel jz 2),(.sel kk 1),(.sel kk 2)])) x8) x8) x8) x8
def t75:List (Tr Plf):=[vu]
def vb:Tr Plf:=
 .split xq (
 .split (.eql (.sel kU 0) (.c 1)) (
 .split (.sel kU 2) (
 .leaf (.done 0 [(.c 1),(.sel kU 1)])) (
 .split (.eql (.sel S4 0) (.c 1)) (
 .split (.eql (.sel jQ 0) (.c 1)) (
 .split (.sel jQ 2) (
 .leaf (.done 0 [(.c 2),(.sel jQ 1)])) (
 .split (.lss (.c 0) (.lenL (.sel S4 1))) (
 .split (.eql (.lenL (.sel S4 3)) (.c 0)) (
 .leaf (.done 0 [(.c 3),(.c 0)])) nc) nc)) x8) x8)) x8) x8
def t76:List (Tr Plf):=[vb]
def oC:Tr Plf:=
 .split (.eql (.sel eY 0) (.c 1)) (
 .split (.eql (.sel eY 1) (.c 0)) (
 .split xq (
 .leaf (.next 1 [(.sel Oc 3),(.sel Oc 4),(.sel Oc 1),(.sel Oc 2),(.lenL (.sel Oc 1)),(.c 0),u0,u1,u2,u3,u4,u5,u6,u7,u8,u9,u10,u11,u12,u13,u24,u25,u26,u14,u15,u16,u17,u18,u19,u20,u21,u22,u23])) x8) (
 .split (.eql (.sel (.app 53 WE) 0) (.c 1)) (
 .split (.eql (.sel (.app 53 XJ) 0) (.c 1)) (
 .leaf (.done 0 [(.bc true),(.sel (.app 53 WE) 1),(.sel (.app 53 WE) 2),(.sel (.app 53 XJ) 1),(.sel (.app 53 XJ) 2),(.sel eY 1),(.sel eY 2),u24,u25,u26])) x8) x8)) x8
def vm:Tr Plf:=
 .split iN (
 .split Z3 x8 (
 .split kX (
 .leaf (.next 2 ([u0,u1,ft,u2,u3,u4,u5,(.c 0)]++us 6 27))) x8)) (
 .split (.eql (.sel Xv 0) (.c 1)) (
 .leaf (.next 3 [(.sel Xv 1),(.sel Xv 2),(.sel Xv 3),(.sel Xv 4),(.lenL (.sel Xv 3)),(.c 0),u6,u7,u8,u9,u10,u11,u12,u13,u14,u15,u16,u17,u18,u19,u20,u21,u22,u23,u24,u25,u26,u27,u28,u29,u30,u31,u32])) x8)
def su:Tr Plf:=
 .split (.lss u7 x20) (
 .split iA x8 (
 .split x36 x8 (
 .split (.lss u2 (.lenL u11)) (
 .split (.lss Lm (.c 0)) x8 (
 .split (.lss Lm (.lenL u15)) (
 .split (.and (.eql (.cell u11 u2 2) (.cell u15 Lm 2)) (.and (.eqSS (.cell u11 u2 3) (.cell u15 Lm 3)) (.eqSS (.cell u11 u2 4) (.cell u15 Lm 4)))) (
 .split (.eql (.sel XE 0) (.c 1)) (
 .split (.eql (.sel Xy 0) (.c 1)) (
 .split (.eql (.sel eV 0) (.c 1)) (
 .leaf (.next 2 [u0,u1,u2,u3,u4,u5,u6,UB,u8,u9,u10,u11,u12,u13,u14,u15,u16,u17,u18,u19,u20,u21,(.sel eV 1),(.sel eV 2),(.sel eV 3),u25,u26,u27,u28,u29,u30,u31,u32,u33,u34])) x8) x8) x8) (
 .leaf (.next 2 (us 0 7++[UB]++us 8 27)))) x8)) x8))) (
 .leaf (.next 1 ([u0,u1,u3,u4,u5,pM]++us 8 27)))
def qZ:Tr Plf:=
 .split iN (
 .split Z3 x8 (
 .split kX (
 .leaf (.next 4 ([u0,u1,ft,u2,u3,u4,u5,(.c 0)]++us 6 27))) x8)) (
 .leaf (.done 0 ([(.bc false)]++us 14 9)))
def vT:Tr Plf:=
 .split (.lss u7 x20) (
 .split iA x8 (
 .split (.lss Lm (.c 0)) x8 (
 .split (.lss Lm (.lenL u11)) (
 .split x36 x8 (
 .split (.lss u2 (.lenL u15)) (
 .split (.and (.eql (.cell u11 Lm 2) (.cell u15 u2 2)) (.and (.eqSS (.cell u11 Lm 3) (.cell u15 u2 3)) (.eqSS (.cell u11 Lm 4) (.cell u15 u2 4)))) (
 .split (.eql (.sel Xp 0) (.c 1)) (
 .split (.eql (.sel Xt 0) (.c 1)) (
 .split (.eql (.sel dD 0) (.c 1)) (
 .leaf (.next 4 [u0,u1,u2,u3,u4,u5,u6,UB,u8,u9,u10,u11,u12,u13,u14,u15,u16,u17,u18,u19,u20,u21,(.sel dD 1),(.sel dD 2),(.sel dD 3),u25,u26,u27,u28,u29,u30,u31,u32,u33,u34])) x8) x8) x8) (
 .leaf (.next 4 (us 0 7++[UB]++us 8 27)))) x8)) x8))) (
 .leaf (.next 3 ([u0,u1,u3,u4,u5,pM]++us 8 27)))
def t77:List (Tr Plf):=[oC,vm,su,qZ,vT]
def qR:Tr Plf:=
 .leaf (.next 1 ([u2,u0,u1,(.c 0)]++us 3 16++[.nilL,(.bc true),.emptyL]))
def sx:Tr Plf:=
 .split jN (
 .split x24 x8 (
 .split (.eql (.sel ff 0) (.c 1)) (
 .leaf (.next 1 [u0,u1,u2,x30,u4,u5,u6,u7,u8,u9,u10,u11,u12,u13,u14,u15,u16,u17,u18,u19,(.sel ff 1),(.sel ff 2),(.sel ff 3)])) x8)) (
 .leaf (.next 2 [u0,(.c 0),u1,u4,u5,u6,u7,u8,u9,u10,u11,u12,(.nilIs u13 u14),u15,(.nilIs u16 u17),u18,u19,u20,u21,u22]))
def nH:Tr Plf:=
 .split (.lss u1 (.lenL u17)) (
 .split x52 (
 .split x7 x8 (
 .split (.eql (.sel GI 0) (.c 1)) (
 .split (.sel GI 1) (
 .leaf (.done 0 [(.sel GI 8),(.sel GI 9),(.bc false),(.sel GI 2),(.sel GI 3),(.sel GI 4),(.sel GI 5),(.sel GI 6),(.sel GI 7)])) (
 .leaf (.next 2 [u0,x12,u2,u3,u4,u5,u6,u7,u8,u9,u10,(.sel GI 2),(.sel GI 3),(.sel GI 4),(.sel GI 5),(.sel GI 6),(.sel GI 7),(.sel GI 8),(.sel GI 9),(.sel GI 10)]))) x8)) yf) yf
def t78:List (Tr Plf):=[qR,sx,nH]
def my:Tr Plf:=
 .split oA (
 .split sI (
 .split (.eql (.sel Y5 0) (.c 1)) (
 .split (.sel Y5 3) pU (
 .leaf (.next 1 [.nilL,(.bc true),(.sel Y5 1),(.sel Y5 2),(.lenL (.sel Y5 1)),(.c 0),u0,u1,u2,u3,u4,u5,u6,u7,u8,u9]))) x8) (
 .leaf (.done 0 [(.strc 0 0),.nilL,(.strc 0 0),.nilL,(.c 0),(.c 0),(.bc false),(.sel cD 2)]))) x8
def sy:Tr Plf:=
 .split iN (
 .split Z3 x8 (
 .split kX (
 .split (.eql (.sel Uc 0) (.c 1)) (
 .split (.eql (.sel Uc 6) (.c 0)) (
 .split NY (
 .leaf (.next 1 [(.snoc u0 (rl [ft,nj,yc,oO,xQ,(.sel Uc 1),(.sel Uc 2),(.sel Uc 3),(.sel Uc 4),(.sel Uc 5)])),(.bc false),u2,u3,u4,oD,u6,u7,u8,u9,u10,u11,u12,u13,u14,u15])) x8) (
 .leaf (.next 1 (us 0 5++[oD]++us 6 10)))) x8) x8)) (
 .split (.eql (.sel QE 0) (.c 1)) (
 .split (.sel QE 3) pU (
 .leaf (.done 0 [(.sel QE 4),(.sel QE 5),(.sel QE 6),(.sel QE 7),(.sel QE 8),(.sel QE 9),(.eql (.sel QE 8) (.c 0)),(.c 0)]))) x8)
def t79:List (Tr Plf):=[my,sy]
def qk:Tr Plf:=
 .split rO (
 .split qH (
 .split oz (
 .split (.isNil u4) (
 .split (.isNil u5) (
 .leaf (.done 0 [u0,eW,eO,eH,.nilL,.nilL])) (
 .split (.lss x14 (.c 1048576)) (
 .leaf (.done 0 [u0,eW,eO,eH,.nilL,tE])) x8)) (
 .split (.lss x5 (.c 1048576)) (
 .split (.isNil u5) (
 .leaf (.done 0 [u0,eW,eO,eH,we,.nilL])) (
 .split (.lss x14 (.c 1048576)) (
 .leaf (.done 0 [u0,eW,eO,eH,we,tE])) x8)) x8)) x8) x8) x8
def t80:List (Tr Plf):=[qk]
def pL:Tr Plf:=
 .leaf (.next 1 [u0,(.c 0),u1,u2])
def sY:Tr Plf:=
 .split x32 (
 .split x7 x8 (
 .split (.eqSS x44 u2) x45 ot)) x47
def t81:List (Tr Plf):=[pL,sY]
def vp:Tr Plf:=
 .split tu (
 .split qp (
 .split vN XV (
 .split (.eql (.sel Ym 0) (.c 1)) (
 .split (.eql (.sel Ym 1) (.c 0)) (
 .split jS XV (
 .split (.lss dY u6) XV (
 .split (.eql (.sel XQ 0) (.c 1)) (
 .split (.eql (.lenL (.sel Ym 2)) (.lenL (.sel BV 12))) (
 .split (.eql (.sel RM 0) (.c 1)) (
 .leaf (.done 1 [Yd,(.sel BV 2),(.sel BV 3),(.sel BV 4),(.sel BV 5),(.sel BV 6),(.sel BV 7),(.sel RM 1),(.sel RM 2),(.sel RM 3),(.sel BV 11),(.sel Ym 2),eM,(.sel XQ 4),(.sel RM 4),(.sel RM 5),(.sel RM 6),(.sel RM 7)])) x8) x8) x8))) XV) x8)) x8) (
 .split qt (
 .split qp (
 .split (.eql Yd (.c 0)) (
 .split vN XV x8) XV) x8) x8)
def t82:List (Tr Plf):=[vp]
def xi:Tr Plf:=
 .leaf (.next 1 ([(.c 0)]++us 2 10++[u17,u18,u19,u0,u1,u12,u14,u15,u16,u13]++us 21 9++[u20]))
def nV:Tr Plf:=
 .split (.lss u0 (.c 3)) (
 .split (.eql u0 (.c 0)) (
 .split (.eqSS u21 u8) cZ x1) (
 .split (.eql u0 (.c 1)) (
 .split (.eql (.sel xC 0) (.c 1)) (
 .split (.sel xC 1) cZ x1) x8) (
 .split (.eql u0 (.c 2)) (
 .split (.eql u23 (.c 3)) (
 .split u30 cZ x1) cZ) x8))) x35
def t83:List (Tr Plf):=[xi,nV]
def pR:Tr Plf:=
 .leaf (.next 1 ([u23,u24,(.c 0),u0,u1,u22]++us 4 10++[u19,u20,u21,u2,u3,u14,u16,u17,u18,u15,u25]))
def wU:Tr Plf:=
 .split x37 (
 .split x36 x8 (
 .split (.eqSS x38 u26) (
 .split (.eql (.sel sr 0) (.c 1)) (
 .split (.sel sr 1) (
 .split (.lss x2 x95) (
 .leaf (.next 1 [u0,u1,x41,(.snoc u3 TQ),(.bc false),u5,u6,u7,u8,u9,u10,u11,u12,u13,u14,u15,u16,u17,u18,u19,u20,u21,u22,u23,u24,u25,u26])) x8) vI) x8) vI)) RB
def t84:List (Tr Plf):=[pR,wU]
def pw:Tr Plf:=
 .split jB pq (
 .split iH pq (
 .split fL (
 .split iS (
 .split u17 (
 .split eK (
 .split (.eql (.sel jh 0) (.c 1)) (
 .leaf (.done 0 [(.sel jh 1),(.sel jh 2),(.c 0),(.bc true),Ln,Lr,Li,I9,Lq])) x8) x8) (
 .split eK (
 .split (.eql (.sel jF 0) (.c 1)) (
 .leaf (.done 0 [(.sel jF 1),(.sel jF 2),(.c 0),Ta,Ln,Lr,Li,I9,Lq])) x8) x8)) x8) x8))
def t85:List (Tr Plf):=[pw]
def py:Tr Plf:=
 .leaf (.next 1 ([u29,u30,(.c 0),u0,u1,u2,u28]++us 5 10++[u20,u21,u22,u3,u4,u15,u17,u18,u19,u16,u23,u25,u26,u27,u24,u31]))
def vd:Tr Plf:=
 .split x37 (
 .split x36 x8 (
 .split (.eqSS x38 u32) (
 .split (.eql dw (.c 2)) (
 .split (.eqSS mA u3) (
 .split (.eqSS wm u4) (
 .split (.eql (.sel qa 0) (.c 1)) (
 .split (.sel qa 1) x50 aN) x8) aN) aN) aN) aN)) (
 .leaf (.done 1 []))
def t86:List (Tr Plf):=[py,vd]
def sB:Tr Plf:=
 .split jB qY (
 .split iH qY (
 .split fL (
 .split iS (
 .split u17 (
 .split eK (
 .split (.eql (.sel ZB 0) (.c 1)) (
 .split (.lss (.sel ZB 1) (.c 0)) vz (
 .split (.eql (.sel Kr 0) (.c 1)) (
 .leaf (.done 0 [(.sel ZB 1),(.c 0),(.sel Kr 1),(.sel Kr 2),(.sel Kr 3),(.bc false),(.sel Kr 4),(.sel Kr 5),(.sel Kr 6),(.sel Kr 7),(.sel Kr 17),(.sel Kr 15),(.sel Kr 13),(.sel Kr 14),(.sel Kr 16)])) x8)) (
 .split (.eql (.sel ZB 0) (.c 2)) vz x8)) x8) (
 .split eK (
 .split (.eql (.sel bX 0) (.c 1)) (
 .split (.lss (.sel bX 1) (.c 0)) rq (
 .split (.eql (.sel J0 0) (.c 1)) (
 .leaf (.done 0 [(.sel bX 1),(.c 0),(.sel J0 1),(.sel J0 2),(.sel J0 3),(.bc false),(.sel J0 4),(.sel J0 5),(.sel J0 6),(.sel J0 7),(.sel J0 17),(.sel J0 15),(.sel J0 13),(.sel J0 14),(.sel J0 16)])) x8)) (
 .split (.eql (.sel bX 0) (.c 2)) rq x8)) x8)) x8) x8))
def t87:List (Tr Plf):=[sB]
def om:Tr Plf:=
 .leaf (.done 0 [u9])
def t88:List (Tr Plf):=[om]
def wX:Tr Plf:=
 .split (.eqSS u0 u2) (
 .split (.eql x0 x2) (
 .leaf (.next 1 [(.c 0),u0,u1,u2,u3])) x1) x1
def sj:Tr Plf:=
 .split (.lss u0 x3) (
 .split (.lss u0 (.c 0)) x8 (
 .split (.lss u0 x5) (
 .split (.eql (.cell u2 u0 0) (.cell u4 u0 0)) (
 .leaf (.next 1 [jC,u1,u2,u3,u4])) x1) x8)) x35
def t89:List (Tr Plf):=[wX,sj]
def xd:Tr Plf:=
 .split (.eql (.sel (.app 0 Qd) 0) (.c 1)) (
 .split (.sel (.app 0 Qd) 1) (
 .split (.eql (.sel wS 0) (.c 1)) (
 .split (.sel wS 1) (
 .split (.eql (.sel nQ 0) (.c 1)) (
 .split (.sel nQ 1) (
 .split (.lss (.c 10) dH) TL (
 .split (.eql (.sel oV 0) (.c 1)) (
 .split (.sel oV 1) (
 .split (.eql (.sel FZ 0) (.c 1)) (
 .leaf (.next 1 [u10,u11,(.c 0),u0,u1,u2,u3,u4,u5,u6,u7,u8,u9,(.sel FZ 1),(.sel FZ 2),(.sel FZ 3),(.sel FZ 4),(.sel FZ 5),(.sel FZ 6),(.sel FZ 7),(.sel FZ 8),(.sel FZ 9),(.sel FZ 10),(.bc false),(.sel FZ 11),(.bc true),(.sel FZ 12),(.sel FZ 13),(.c 0),(.sel FZ 14),(.sel FZ 15),(.sel FZ 16),(.sel FZ 17)])) (
 .split (.eql (.sel FZ 0) (.c 2)) (
 .split (.eql (.sel FZ 1) (.c 0)) x8 TL) x8)) TL) x8)) TL) x8) TL) x8) TL) x8
def nX:Tr Plf:=
 .split x37 (
 .split x36 x8 (
 .split (.eql (.sel Im 0) (.c 1)) (
 .split (.eql (.sel Im 1) (.c 0)) xx xx) x8)) (
 .split (.eql (.sel Be 0) (.c 1)) (
 .split (.eql (.sel NX 0) (.c 1)) (
 .leaf (.next 2 [u1,.nilL,(.sel NX 1),u3,u4,u5,u6,u7,u8,u9,u10,u11,u12,(.sel Be 4),(.lenL (.sel Be 1)),(.sel Be 5),(.lenL (.sel Be 2)),(.sel Be 6),(.lenL (.sel Be 3)),(.sel Be 7),(.sel Be 8),(.sel Be 9),(.sel Be 10),(.sel Be 11),(.sel Be 12),(.sel Be 13),u13,Yb,u15,(.lenL u16),u17,cy,u19,u20,u21,u22,u23,u24,u25,(.sel Be 14),(.sel Be 15),(.sel NX 2),(.sel NX 3),(.sel NX 4),(.sel Be 16),(.sel Be 17),(.sel Be 18),(.sel Be 19),u26,u27,u28,u29,u30,u31,(.sel Be 20),u32])) (
 .split (.eql (.sel NX 0) (.c 2)) (
 .leaf (.next 2 [u1,(.sel NX 1),(.c 0),u3,u4,u5,u6,u7,u8,u9,u10,u11,u12,(.sel Be 4),(.lenL (.sel Be 1)),(.sel Be 5),(.lenL (.sel Be 2)),(.sel Be 6),(.lenL (.sel Be 3)),(.sel Be 7),(.sel Be 8),(.sel Be 9),(.sel Be 10),(.sel Be 11),(.sel Be 12),(.sel Be 13),u13,Yb,u15,(.lenL u16),u17,cy,u19,u20,u21,u22,u23,u24,u25,(.sel Be 14),(.sel Be 15),(.sel NX 2),(.sel NX 3),(.sel NX 4),(.sel Be 16),(.sel Be 17),(.sel Be 18),(.sel Be 19),u26,u27,u28,u29,u30,u31,(.sel Be 20),u32])) x8)) x8)
def xe:Tr Plf:=
 .split x40 (
 .split re (
 .leaf (.next 3 [u0,u1,u2,(.c 0),u3,u4,u5,u6,u7,u8,u9,u10,u11,u12,(.sel aZ 1),(.sel aZ 2),u13,u14,u15,u16,u17,u18,u19,u20,u21,u22,u23,u24,u25,u26,u27,u28,u29,u30,u31,u32,u33,u34,u35,u36,u37,u38,u39,u40,u41,u42,u43,u44,u45,u46,u47,u48,u49,u50,u51,u52,u53,u54,u55])) x8) (
 .split re (
 .split (.eql (.sel fE 0) (.c 1)) (
 .split (.eql (.sel PM 0) (.c 1)) (
 .split (.eql (.sel (.app 46 bU) 0) (.c 1)) (
 .split (.eql (.sel (.app 46 bU) 2) (.c 0)) (
 .split (.eql (.sel (.app 66 RZ) 0) (.c 1)) (
 .split (.lss (.c 7) (.sel (.app 66 RZ) 1)) Lt (
 .split (.eql (.sel (.app 79 bU) 0) (.c 1)) (
 .split (.eql (.sel (.app 79 bU) 8) (.c 0)) (
 .split (.sel (.app 79 bU) 7) (
 .split (.eql (.sel Lv 0) (.c 1)) (
 .split (.eql (.sel (.app 49 RZ) 0) (.c 1)) (
 .split (.eql (.sel XC 0) (.c 1)) (
 .split (.eql (.sel XC 3) (.c 0)) (
 .split (.eql (.sel Gb 0) (.c 1)) Lt (
 .split (.eql (.sel Gb 0) (.c 2)) (
 .leaf (.next 5 [u0,u1,u2,(.sel fE 3),u7,u8,u9,u10,u11,u12,(.sel fE 1),(.sel fE 2),(.sel (.app 49 RZ) 1),(.sel (.app 49 RZ) 2),(.sel XC 1),(.sel XC 2),(.sel Lv 1),(.sel Gb 1),(.sel Gb 2),(.sel Gb 3),(.sel Gb 4),(.sel Gb 5),(.sel Gb 6),(.sel Gb 7),(.sel Gb 8),(.sel Gb 9),(.sel Gb 10),(.sel Gb 11),(.sel Gb 12),(.sel Gb 13),(.sel Gb 14),(.sel Gb 15),(.sel Gb 16),(.sel Gb 17),(.sel Gb 18)])) x8)) Lt) x8) x8) x8) Lt) Lt) x8)) x8) Lt) x8) x8) x8) x8)
def xE:Tr Plf:=
 .split jN (
 .split x24 x8 (
 .split (.eql (.sel eI 0) (.c 1)) (
 .split (.eql (.sel eI 3) (.c 0)) (
 .leaf (.next 3 [u0,u1,u2,x30,u4,u5,u6,u7,u8,u9,u10,u11,u12,u13,(.sel eI 1),(.sel eI 2),u16,u17,u18,u19,u20,u21,u22,u23,u24,u25,u26,u27,u28,u29,u30,u31,u32,u33,u34,u35,u36,u37,u38,u39,u40,u41,u42,u43,u44,u45,u46,u47,u48,u49,u50,u51,u52,u53,u54,u55,u56,u57,u58])) x1) x8)) (
 .split (.eql (.sel wQ 0) (.c 1)) (
 .split (.eql (.sel wQ 3) (.c 0)) (
 .split (.eql (.sel iJ 0) (.c 1)) (
 .split (.eql (.sel fO 0) (.c 1)) (
 .split (.eql (.sel QM 0) (.c 1)) (
 .split (.eql (.sel (.app 46 Yg) 0) (.c 1)) (
 .split (.eql (.sel (.app 46 Yg) 2) (.c 0)) (
 .split (.eql (.sel (.app 66 SH) 0) (.c 1)) (
 .split (.lss (.c 7) (.sel (.app 66 SH) 1)) Lt (
 .split (.eql (.sel (.app 79 Yg) 0) (.c 1)) (
 .split (.eql (.sel (.app 79 Yg) 8) (.c 0)) (
 .split (.sel (.app 79 Yg) 7) (
 .split (.eql (.sel Lo 0) (.c 1)) (
 .split (.eql (.sel (.app 49 SH) 0) (.c 1)) (
 .split (.eql (.sel Xa 0) (.c 1)) (
 .split (.eql (.sel Xa 3) (.c 0)) (
 .split (.eql (.sel FY 0) (.c 1)) Lt (
 .split (.eql (.sel FY 0) (.c 2)) (
 .leaf (.next 5 [u0,u1,u2,(.sel fO 3),u8,u9,u10,u11,u12,u13,(.sel fO 1),(.sel fO 2),(.sel (.app 49 SH) 1),(.sel (.app 49 SH) 2),(.sel Xa 1),(.sel Xa 2),(.sel Lo 1),(.sel FY 1),(.sel FY 2),(.sel FY 3),(.sel FY 4),(.sel FY 5),(.sel FY 6),(.sel FY 7),(.sel FY 8),(.sel FY 9),(.sel FY 10),(.sel FY 11),(.sel FY 12),(.sel FY 13),(.sel FY 14),(.sel FY 15),(.sel FY 16),(.sel FY 17),(.sel FY 18)])) x8)) Lt) x8) x8) x8) Lt) Lt) x8)) x8) Lt) x8) x8) x8) x8) x1) x8)
def ut:Tr Plf:=
 .split uc x35 x8
def ol:Tr Plf:=
 .split (.eql (.sel FU 0) (.c 1)) (
 .split jM x1 x1) (
 .split (.eql (.sel FU 0) (.c 2)) (
 .split jM (
 .split x40 (
 .split (.eql x0 (.c 0)) (
 .leaf (.next 6 [u0,(.c 0),u12,u13,u14,u15,u16,(.sel FU 1),(.sel FU 2),(.sel FU 3),(.sel FU 4),(.sel FU 5),(.sel FU 6),(.sel FU 7),(.sel FU 8),(.sel FU 9),(.sel FU 10),(.bc false),(.sel FU 11),(.bc true),u17,cy,u19,(.lenL u20),u21,(.lenL u22),u23,u24,u25,u26,(.bc false),u27,(.bc true),(.sel FU 12),(.sel FU 13),(.sel FU 14),(.sel FU 15),(.sel FU 16),(.sel FU 17),u28,u29,u18,u20,u22,u30,u31,u32,u33,(.sel FU 18),u34])) x1) x1) x1) x8)
def ww:Tr Plf:=
 .split x32 (
 .split x7 x8 (
 .split (.eql x44 (.c 0)) (
 .split kO (
 .split lU (
 .split mj (
 .split (.eql (.sel I6 0) (.c 1)) (
 .split (.eql (.sel SP 0) (.c 1)) (
 .split (.eql (.sel Fv 0) (.c 1)) (
 .leaf (.next 7 [u0,u1,(.sel I6 3),(.sel SP 3),u2,u3,u4,u5,u6,u7,u8,u9,u10,u11,u12,u13,u14,u15,u16,(.sel SP 4),u18,u19,(.sel Fv 4),(.sel Fv 1),(.sel Fv 5),(.sel Fv 2),(.sel Fv 6),(.sel Fv 3),(.sel Fv 7),(.sel Fv 8),(.sel Fv 9),(.sel Fv 10),(.sel Fv 11),(.sel Fv 12),(.sel Fv 13),u20,XG,u22,Xf,u24,XL,u26,u27,u28,u29,(.sel I6 4),u31,u32,u33,u34,(.sel SP 7),(.sel SP 8),(.sel SP 6),(.sel SP 9),(.sel Fv 14),(.sel Fv 15),(.sel Fv 16),(.sel Fv 17),(.sel Fv 18),(.sel Fv 19),u39,u40,(.sel I6 7),(.sel I6 8),(.sel I6 6),(.sel I6 9),(.sel SP 5),(.sel Fv 20),(.sel I6 5)])) x8) x8) x8) x8) x8) x8) (
 .split (.eql x44 (.c 4)) (
 .split kO (
 .split lU (
 .split mj (
 .split (.eql (.sel BW 0) (.c 1)) (
 .split (.eql (.sel BW 2) (.c 0)) (
 .split rb (
 .split rz (
 .split xj (
 .leaf (.next 7 [u0,u1,(.c 0),(.sel DC 2),u2,u3,u4,u5,u6,u7,u8,u9,u10,u11,u12,u13,(.sel DC 3),(.sel DC 4),(.sel DC 5),(.sel DC 6),(.sel DC 7),(.sel DC 8),(.sel Cc 4),(.sel Cc 1),(.sel Cc 5),(.sel Cc 2),(.sel Cc 6),(.sel Cc 3),(.sel Cc 7),(.sel Cc 8),(.sel Cc 9),(.sel Cc 10),(.sel Cc 11),(.sel Cc 12),(.sel Cc 13),u20,XG,u22,Xf,u24,XL,u26,(.sel BW 3),(.sel BW 4),(.sel BW 5),(.sel BW 6),(.sel BW 7),(.sel BW 8),(.sel DC 9),(.sel DC 10),(.sel DC 13),(.sel DC 14),(.sel DC 12),(.sel DC 15),(.sel Cc 14),(.sel Cc 15),(.sel Cc 16),(.sel Cc 17),(.sel Cc 18),(.sel Cc 19),(.sel BW 9),(.sel BW 10),(.sel BW 13),(.sel BW 14),(.sel BW 12),(.sel BW 15),(.sel DC 11),(.sel Cc 20),(.sel BW 11)])) x8) x1) x8) (
 .split rb (
 .split rz (
 .split xj (
 .leaf (.next 7 [u0,u1,(.sel BW 2),(.sel DC 2),u2,u3,u4,u5,u6,u7,u8,u9,u10,u11,u12,u13,(.sel DC 3),(.sel DC 4),(.sel DC 5),(.sel DC 6),(.sel DC 7),(.sel DC 8),(.sel Cc 4),(.sel Cc 1),(.sel Cc 5),(.sel Cc 2),(.sel Cc 6),(.sel Cc 3),(.sel Cc 7),(.sel Cc 8),(.sel Cc 9),(.sel Cc 10),(.sel Cc 11),(.sel Cc 12),(.sel Cc 13),u20,XG,u22,Xf,u24,XL,u26,(.sel BW 3),(.sel BW 4),(.sel BW 5),(.sel BW 6),(.sel BW 7),(.sel BW 8),(.sel DC 9),(.sel DC 10),(.sel DC 13),(.sel DC 14),(.sel DC 12),(.sel DC 15),(.sel Cc 14),(.sel Cc 15),(.sel Cc 16),(.sel Cc 17),(.sel Cc 18),(.sel Cc 19),(.sel BW 9),(.sel BW 10),(.sel BW 13),(.sel BW 14),(.sel BW 12),(.sel BW 15),(.sel DC 11),(.sel Cc 20),(.sel BW 11)])) x8) x1) x8)) x8) x8) x8) x8) (
 .split kO (
 .split lU (
 .split mj (
 .split (.eql (.sel BZ 0) (.c 1)) (
 .split (.eql (.sel BZ 1) (.c 0)) (
 .split yd (
 .split oi (
 .leaf (.next 7 [u0,u1,(.c 0),(.sel DM 1),u2,u3,u4,u5,u6,u7,u8,u9,u10,u11,u12,u13,(.sel DM 2),(.sel DM 3),(.sel DM 4),(.sel DM 5),(.sel DM 6),(.sel DM 7),(.sel Cd 4),(.sel Cd 1),(.sel Cd 5),(.sel Cd 2),(.sel Cd 6),(.sel Cd 3),(.sel Cd 7),(.sel Cd 8),(.sel Cd 9),(.sel Cd 10),(.sel Cd 11),(.sel Cd 12),(.sel Cd 13),u20,XG,u22,Xf,u24,XL,u26,(.sel BZ 2),(.sel BZ 3),(.sel BZ 4),(.sel BZ 5),(.sel BZ 6),(.sel BZ 7),(.sel DM 8),(.sel DM 9),(.sel DM 12),(.sel DM 13),(.sel DM 11),(.sel DM 14),(.sel Cd 14),(.sel Cd 15),(.sel Cd 16),(.sel Cd 17),(.sel Cd 18),(.sel Cd 19),(.sel BZ 8),(.sel BZ 9),(.sel BZ 12),(.sel BZ 13),(.sel BZ 11),(.sel BZ 14),(.sel DM 10),(.sel Cd 20),(.sel BZ 10)])) x8) x8) (
 .split yd (
 .split oi (
 .leaf (.next 7 [u0,u1,(.sel BZ 1),(.sel DM 1),u2,u3,u4,u5,u6,u7,u8,u9,u10,u11,u12,u13,(.sel DM 2),(.sel DM 3),(.sel DM 4),(.sel DM 5),(.sel DM 6),(.sel DM 7),(.sel Cd 4),(.sel Cd 1),(.sel Cd 5),(.sel Cd 2),(.sel Cd 6),(.sel Cd 3),(.sel Cd 7),(.sel Cd 8),(.sel Cd 9),(.sel Cd 10),(.sel Cd 11),(.sel Cd 12),(.sel Cd 13),u20,XG,u22,Xf,u24,XL,u26,(.sel BZ 2),(.sel BZ 3),(.sel BZ 4),(.sel BZ 5),(.sel BZ 6),(.sel BZ 7),(.sel DM 8),(.sel DM 9),(.sel DM 12),(.sel DM 13),(.sel DM 11),(.sel DM 14),(.sel Cd 14),(.sel Cd 15),(.sel Cd 16),(.sel Cd 17),(.sel Cd 18),(.sel Cd 19),(.sel BZ 8),(.sel BZ 9),(.sel BZ 12),(.sel BZ 13),(.sel BZ 11),(.sel BZ 14),(.sel DM 10),(.sel Cd 20),(.sel BZ 10)])) x8) x8)) x8) x8) x8) x8)))) TL
def vW:Tr Plf:=
 .split (.eql u2 u3) (
 .split (.eql (.sel sM 0) (.c 1)) (
 .split (.eql (.sel sD 0) (.c 1)) (
 .split (.eqSS (.sel sM 1) (.sel sD 1)) (
 .split (.eql (.sel (.app 66 bS) 0) (.c 1)) (
 .split (.eql (.sel (.app 66 ca) 0) (.c 1)) (
 .split (.eql (.sel (.app 66 bS) 1) (.sel (.app 66 ca) 1)) (
 .split (.eql (.sel (.app 49 bS) 0) (.c 1)) (
 .split (.eql (.sel (.app 49 ca) 0) (.c 1)) (
 .split (.eql (.sel rn 0) (.c 1)) (
 .split (.sel rn 1) (
 .leaf (.next 6 ([u0,x12]++us 4 18++us 35 19++[u60,u61,u23,u25,u27]++us 62 5++[u68]))) x1) x8) x8) x8) x1) x8) x8) x1) x8) x8) x1
def t90:List (Tr Plf):=[xd,nX,xe,xE,ut,ol,ww,vW]
def ts:List (List (Tr Plf)):=[t0,t1,t2,t3,t4,t5,t6,t7,t8,t9,t10,t11,t12,t13,t14,t15,t16,t17,t18,t19,t20,t21,t22,t23,t24,t25,t26,t27,t28,t29,t30,t31,t32,t33,t34,t35,t36,t37,t38,t39,t40,t41,t42,t43,t44,t45,t46,t47,t48,t49,t50,t51,t52,t53,t54,t55,t56,t57,t58,t59,t60,t61,t62,t63,t64,t65,t66,t67,t68,t69,t70,t71,t72,t73,t74,t75,t76,t77,t78,t79,t80,t81,t82,t83,t84,t85,t86,t87,t88,t89,t90]
end Ug

