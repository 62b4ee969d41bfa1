/- What is stated: the trees of tests of the functions that the law UpgradeComposes reaches, as data. Conditions: none. -/
import Derived.Test.YtmgppdghdeokbaaGreatBeF
set_option linter.unusedVariables false
set_option linter.unusedSectionVars false
set_option linter.unusedSimpArgs false
namespace Uc
open Go.AE
def u0 : SE := .var 0
def u1 : SE := .var 1
def u2 : SE := .var 2
def u3 : SE := .var 3
def u4 : SE := .var 4
def u5 : SE := .var 5
def u6 : SE := .var 6
def u7 : SE := .var 7
def u8 : SE := .var 8
def u9 : SE := .var 9
def u10 : SE := .var 10
def u11 : SE := .var 11
def u12 : SE := .var 12
def u13 : SE := .var 13
def u14 : SE := .var 14
def u15 : SE := .var 15
def x0 : SE := (.lenL u1)
def x1 : Tr Plf := (
 .leaf (.done 0 [(.bc false)]))
def x2 : SE := (.lenL u3)
def x3 : SE := (.lenL u2)
def x4 : SE := (.lenS u0)
def x5 : SE := (.lenL u4)
def x6 : SE := (.lss u1 x5)
def x7 : SE := (.lss u1 (.c 0))
def x8 : Tr Plf := (
 .leaf .stuck)
def x9 : SE := (.cell u4 u1 1)
def x10 : SE := (.cell u4 u1 0)
def x11 : SE := (.lss (.c 40) (.lenS x10))
def x12 : SE := (.arith .add .i64 u1 (.c 1))
def x13 : SE := (.lss u1 x2)
def x14 : SE := (.cell u3 u1 0)
def x15 : SE := (.lenL u5)
def x16 : SE := (.cell u5 u1 0)
def x17 : SE := (.cell u5 u1 1)
def x18 : SE := (.cell u5 u1 3)
def x19 : SE := (.cell u5 u1 4)
def x20 : SE := (.cell u5 u1 5)
def x21 : SE := (.lss u2 (.c 0))
def x22 : SE := (.lenL u0)
def x23 : SE := (.conv .u8 (.cell u0 u2 0))
def x24 : SE := (.eql u2 (.c 0))
def x25 : SE := (.arith .add .i64 u2 (.c 1))
def x26 : Tr Plf := (
 .leaf (.next 1 [u0, u1, x25]))
def x27 : Tr Plf := (
 .leaf (.done 0 [(.bc true)]))
def x28 : Plf := (.next 1 [u0, (.c 0), u1])
def x29 : SE := (.lss u1 x22)
def x30 : SE := (.cell u0 u1 0)
def x31 : Tr Plf := (
 .leaf (.done 0 [u1]))
def x32 : Tr Plf := (
 .split x7 x8 (
 .split (.eqSS x30 u2) x31 (
 .leaf (.next 1 [u0, x12, u2]))))
def x33 : Tr Plf := (
 .leaf (.done 0 [(.c (-1))]))
def x34 : SE := (.lss u0 u1)
def x35 : Tr Plf := (
 .leaf (.done 0 [(.c 0)]))
def x36 : SE := (.lss u2 u0)
def x37 : Tr Plf := (
 .leaf (.done 0 [u2]))
def x38 : Tr Plf := (
 .split x36 x37 (
 .leaf (.next 1 [u0, (.c 0), u3, u4, u5, u6])))
def x39 : SE := (.lss u1 u0)
def x40 : SE := (.app 2 (rl [(.c 0), x10]))
def x41 : SE := (.app 3 (rl [(.c 0), u4, x10]))
def x42 : Tr Plf := (
 .leaf (.next 1 [u0, x12, u2, u3, u4, u5]))
def x43 : SE := (.app 2 (rl [(.c 0), x14]))
def x44 : SE := (.app 5 (rl [(.c 0), u3, x14]))
def x45 : SE := (.cell u3 u1 2)
def x46 : SE := (.cell u0 u1 1)
def x47 : SE := (.cell u5 u1 2)
def x48 : SE := (.app 5 (rl [(.c 0), u3, x16]))
def x49 : SE := (.eql (.sel x48 0) (.c 1))
def x50 : SE := (.app 3 (rl [(.c 0), u4, x20]))
def x51 : SE := (.eql (.sel x50 0) (.c 1))
def x52 : SE := (.lss (.sel x48 1) (.c 0))
def x53 : SE := (.app 5 (rl [(.c 0), u3, x17]))
def x54 : SE := (.eql (.sel x53 0) (.c 1))
def x55 : SE := (.lss (.sel x53 1) (.c 0))
def x56 : SE := (.lss x15 u1)
def x57 : SE := (.cell u5 u1 6)
def x58 : SE := (.cell u5 u1 7)
def x59 : SE := (.cell u5 u1 8)
def x60 : SE := (.app 7 (rl [(.c 0), (.sub u5 (.c 0) u1), x16, x17, x47, x18, x19, x20, x57, x58, x59]))
def x61 : SE := (.eql (.sel x60 0) (.c 1))
def x62 : SE := (.lss (.sel x60 1) (.c 0))
def x63 : SE := (.lss (.sel x48 1) x2)
def x64 : SE := (.app 2 (rl [(.c 0), x18]))
def x65 : SE := (.app 2 (rl [(.c 0), x19]))
def x66 : SE := (.cell u4 (.sel x50 1) 1)
def x67 : Tr Plf := (
 .split (.eqS x20 0 0) (
 .split (.eql x57 (.c 0)) (
 .split (.eql x58 (.c 0)) (
 .split (.eql x59 (.c 0)) x42 x31) x31) x31) (
 .split (.lss (.sel x50 1) (.c 0)) x31 (
 .split (.lss x57 (.c 0)) x31 (
 .split (.lss x58 x57) x31 (
 .split (.lss x59 (.c (-1000))) x31 (
 .split (.lss (.c 1000) x59) x31 (
 .split (.lss (.sel x50 1) x5) (
 .split (.lss x66 x58) x31 (
 .split (.lss (.arith .add .i64 x57 x59) (.c 0)) x31 (
 .split (.lss x66 (.arith .add .i64 x58 x59)) x31 x42))) x8)))))))
def x68 : Tr Plf := (
 .split x49 (
 .split x51 (
 .split x52 x31 (
 .split x54 (
 .split x55 x31 (
 .split x56 x8 (
 .split x61 (
 .split x62 (
 .split x63 (
 .split (.eql (.sel x64 0) (.c 1)) (
 .split (.sel x64 1) (
 .split (.eql (.sel x65 0) (.c 1)) (
 .split (.sel x65 1) (
 .split (.eqSS x19 u2) x31 x67) x31) x8) x31) x8) x8) x31) x8))) x8)) x8) x8)
def x69 : Tr Plf := (
 .split (.lss (.lenS x18) (.c 4611686018427387904)) (
 .split (.lss (.lenS x19) (.c 4611686018427387904)) (
 .split (.eqS (.strCat x18 x19) 0 0) x67 x31) x8) x8)
def x70 : SE := (rl [(.c 0), u0])
def x71 : SE := (rl [u0, u1, u2, u3])
def x72 : SE := (.app 4 (.rcons (.c 0) (.rcons x3 (.rcons (.c 0) (.rcons (.c 4) x71)))))
def x73 : SE := (.app 6 (.rcons (.c 0) (.rcons x0 (.rcons (.c 1) (.rcons (.c 24) x71)))))
def x74 : SE := (.app 8 (.rcons (.c 0) (.rcons x2 (.rcons (.c 0) (.rcons (.c 80) x71)))))
def x75 : SE := (.app 2 (rl [(.c 0), u4]))
def x76 : SE := (.lenL u6)
def x77 : SE := (rl [u6, u7])
def x78 : SE := (.rcons u4 (.rcons u5 x77))
def x79 : SE := (.app 4 (.rcons (.c 0) (.rcons x76 (.rcons (.c 0) (.rcons (.c 4) x78)))))
def x80 : SE := (.app 6 (.rcons (.c 0) (.rcons x15 (.rcons (.c 1) (.rcons (.c 24) x78)))))
def x81 : SE := (.app 8 (.rcons (.c 0) (.rcons (.lenL u7) (.rcons (.c 0) (.rcons (.c 80) x78)))))
def x82 : SE := (.lenL u8)
def x83 : SE := (.lss (.c 24) x82)
def x84 : Tr Plf := (
 .leaf (.done 0 [(.c 24), (.c 490)]))
def x85 : Tr Plf := (
 .leaf (.done 0 [(.c 0), (.c 2)]))
def x86 : SE := (.cell u8 u11 0)
def x87 : SE := (.app 9 (rl [(.c 0), u1, x86]))
def x88 : Tr Plf := (
 .leaf (.done 0 [u11, (.c 490)]))
def x89 : SE := (.app 9 (rl [(.c 0), u5, (.cell u8 u11 1)]))
def x90 : SE := (.mIdx [.str] u12 (rl [x86]))
def x91 : SE := (.arith .add .i64 u11 (.c 1))
def x92 : SE := (.lenL u9)
def x93 : Tr Plf := (
 .leaf (.done 0 [(.c 4), (.c 491)]))
def x94 : SE := (.cell u9 u14 0)
def x95 : SE := (.app 10 (rl [(.c 0), u6, x94]))
def x96 : Tr Plf := (
 .leaf (.done 0 [u14, (.c 491)]))
def x97 : SE := (.cell u9 u14 1)
def x98 : SE := (.mIdx [.str] u15 (rl [x94]))
def x99 : SE := (.cell u9 u14 2)
def Sw : SE := (.arith .sub .i64 (.c 0) x99)
def XT : SE := (.arith .add .i64 u14 (.c 1))
def X3 : Tr Plf := (
 .split (.lss x99 (.c (-1000))) x96 (
 .leaf (.next 2 [u0, u1, u2, u3, u4, u5, u6, u7, u8, u9, u10, u11, u12, u13, XT, (.snoc u15 (rl [x94, (.bc true)]))])))
def VW : Tr Plf := (
 .split (.lss x99 (.c (-1000))) x96 (
 .leaf (.next 2 [u0, u1, u2, u3, u4, u5, u6, u7, u8, u9, u10, u11, u12, u13, XT, (.upd u15 x98 1 (.bc true))])))
def Wo : Tr Plf := (
 .split (.lss x98 (.c 0)) (
 .split (.lss x99 Sw) (
 .split (.lss (.c 1000) Sw) x96 X3) (
 .split (.lss (.c 1000) x99) x96 X3)) (
 .split (.cell u15 x98 1) x96 (
 .split (.lss x99 Sw) (
 .split (.lss (.c 1000) Sw) x96 VW) (
 .split (.lss (.c 1000) x99) x96 VW))))
def Vz : SE := (.app 10 (rl [(.c 0), u2, x97]))
def U1 : Tr Plf := (
 .leaf (.done 0 [(.c 0), (.c 0)]))
def R0 : SE := (.cell u3 u4 0)
def U3 : SE := (.cell u3 u4 1)
def Sz : SE := (.cell u3 u4 2)
def Yr : SE := (.app 12 (rl [(.c 0), u0, R0, U3, Sz]))
def S5 : SE := (.sel Yr 1)
def QD : SE := (.c 1073741824)
def VV : SE := (.arith .add .i64 u4 (.c 1))
def UF : SE := (.cell u0 u2 2)
def WI : SE := (.arith .sub .i64 (.c 0) UF)
def Qj : SE := (rl ([(.c 0)] ++ us 0 8 ++ [u12, u13]))
def WP : SE := (rl [u14, u15])
def Ql : SE := (.rcons (.c 0) (.rcons u4 (.rcons u5 (.rcons u6 (.rcons u7 (.rcons u8 (.rcons u9 (.rcons u10 (.rcons u11 WP)))))))))
def Vq : SE := (.app 13 (rl [(.c 0), u13, u15]))
def SN : SE := (.app 14 (rl [(.c 0), u2, x30, x46]))
def XW : SE := (.app 15 (.rcons (.c 0) x77))
def Uy : Tr Plf := (
 .leaf (.done 0 [.nilL, (.bc true), .nilL, (.bc true), (.c 3)]))
def UK : SE := (.strAt u0 (.c 0))
def WC : Tr Plf := (
 .leaf (.next 1 [u0, (.c 0)]))
def NL : SE := (.strAt u0 u1)
def Tz : Tr Plf := (
 .leaf (.next 1 [u0, x12]))
def TI : Plf := (.next 1 [u4, (.c 0), u0, u1, u2, u3])
def W6 : Tr Plf := (
 .split x7 x8 (
 .split (.eqSS x10 u0) x31 x42))
def Wu : Tr Plf := (
 .split x7 x8 (
 .split (.eqSS x14 u0) x31 x42))
def Va : SE := (.app 19 (rl [(.c 0), u0, u1, u2, u3, R0]))
def Yq : SE := (.app 19 (rl [(.c 0), u0, u1, u2, u3, U3]))
def UJ : SE := (.cell u3 u4 5)
def RI : SE := (.cell u3 u4 6)
def RD : SE := (.cell u3 u4 7)
def PN : SE := (.cell u3 u4 8)
def Yp : Tr Plf := (
 .leaf (.next 1 [u4, (.sel Va 1), (.c 0), u0, u1, u2, u3, R0, U3, Sz, (.cell u3 u4 3), (.cell u3 u4 4), UJ, RI, RD, PN]))
def Tq : SE := (.app 18 (rl [(.c 0), u0, u1, u2, u3, UJ]))
def V7 : SE := (.cell u2 (.sel Tq 1) 1)
def XQ : SE := (.app 17 (rl [(.c 0), u10]))
def Yt : SE := (.app 17 (rl [(.c 0), u11]))
def Yh : Tr Plf := (
 .split (.eql (.sel XQ 0) (.c 1)) (
 .split (.sel XQ 1) (
 .split (.eql (.sel Yt 0) (.c 1)) (
 .split (.sel Yt 1) (
 .leaf (.done 0 [(.neg (.eqSS u11 u3))])) x1) x8) x1) x8)
def Kk : SE := (.lss u0 (.c 0))
def UE : SE := (.cell u3 u0 0)
def Wd : SE := (.app 17 (rl [(.c 0), UE]))
def Yb : SE := (.app 18 (rl [(.c 0), u1, u2, u3, u4, UE]))
def UY : SE := (.cell u3 u0 1)
def SO : Tr Plf := (
 .leaf (.done 0 [u0, (.c 291)]))
def LH : SE := (.arith .add .i64 u0 (.c 1))
def U4 : SE := (.lss u0 x3)
def SS : SE := (.cell u2 u0 0)
def Wa : SE := (.app 17 (rl [(.c 0), SS]))
def WS : SE := (.app 19 (rl [(.c 0), u1, u2, u3, u4, SS]))
def Vp : SE := (.cell u2 u0 2)
def Tc : Tr Plf := (
 .leaf (.done 0 [u0, (.c 292)]))
def Vi : SE := (.lss u0 x5)
def X7 : SE := (.app 20 (rl [(.c 0), u1, u2, u3, u4, u0]))
def Xy : SE := (.app 21 (.rcons (.c 0) x71))
def W7 : SE := (.app 21 (.rcons (.c 0) x78))
def VP : SE := (.app 22 (rl [(.c 0), u1, u2, u3, u4, (.cell u9 u0 0)]))
def V3 : SE := (.app 22 (rl [(.c 0), u5, u6, u7, u8, (.cell u9 u0 1)]))
def Vf : SE := (.cell u10 u0 0)
def XA : SE := (.app 23 (rl [(.c 0), u5, u6, u7, u8, Vf]))
def SM : SE := (.cell u10 u0 1)
def S0 : SE := (.cell u10 u0 2)
def UD : Tr Plf := (
 .leaf (.next 4 ([u0, (.bc true), (.c 0)] ++ us 1 10 ++ [Vf, SM, S0])))
def Vv : Tr Plf := (
 .split (.lss (.c 1000) S0) UD (
 .leaf (.next 4 [u0, (.lss S0 (.c (-1000))), (.c 0), u1, u2, u3, u4, u5, u6, u7, u8, u9, u10, Vf, SM, S0])))
def WO : SE := (.app 23 (rl [(.c 0), u1, u2, u3, u4, SM]))
def YL : SE := (.cell u2 u0 1)
def XZ : SE := (.cell u4 u0 0)
def W5 : SE := (.cell u4 u0 2)
def Yi : SE := (.app 0 (.rcons (.c 0) x71))
def YI : SE := (.app 0 (.rcons (.c 0) x78))
def XJ : SE := (.app 0 (rl [(.c 0), u8, u9, u10, u11]))
def MI : Tr Plf := (
 .split (.eql (.sel (.app 1 (rl [(.c 0)])) 0) (.c 1)) x27 x8)
def WU : SE := (.rcons (.c 0) (.rcons u0 (.rcons u1 (.rcons u2 (.rcons u3 (.rcons u4 (.rcons u5 (.rcons u6 (.rcons u7 (.rcons u8 (.rcons u9 (.rcons u10 (.rcons u11 (.rcons u12 (.rcons u13 WP)))))))))))))))
def Qp : SE := (.app 16 WU)
def Qh : SE := (.app 25 WU)
def XP : SE := (.app 26 (rl [(.c 0), (.sel Qp 1), (.sel Qp 2), (.sel Qp 3), (.sel Qp 4), (.sel Qh 1), (.sel Qh 2), (.sel Qh 3), (.sel Qh 4)]))
def Zo : Tr Plf :=
 .split (.lss (.c 6) x0) x1 (
 .split (.lss (.c 12) x2) x1 (
 .split (.lss (.c 5) x3) x1 (
 .split (.lss (.c 40) x4) x1 (
 .leaf (.next 1 [(.c 0), (.c 0), u0, u1, u2, u3])))))
def ZI : Tr Plf :=
 .split x6 (
 .split x7 x8 (
 .split (.lss x9 (.c 0)) (
 .split x11 x1 (
 .leaf (.next 1 [(.arith .add .i64 u0 (.c 0)), x12, u2, u3, u4, u5]))) (
 .split (.lss (.c 100) x9) (
 .split x11 x1 (
 .leaf (.next 1 [(.arith .add .i64 u0 (.c 100)), x12, u2, u3, u4, u5]))) (
 .split x11 x1 (
 .leaf (.next 1 [(.arith .add .i64 u0 x9), x12, u2, u3, u4, u5])))))) (
 .leaf (.next 2 [u0, (.c 0), u2, u3, u4, u5]))
def Zf : Tr Plf :=
 .split x13 (
 .split x7 x8 (
 .split (.lss (.c 40) (.lenS x14)) x1 (
 .leaf (.next 2 [u0, x12, u2, u3, u4, u5])))) (
 .leaf (.next 3 [u0, (.c 0), u2, u3, u4, u5]))
def Ze : Tr Plf :=
 .split (.lss u1 x15) (
 .split x7 x8 (
 .split (.lss (.c 40) (.lenS x16)) x1 (
 .split (.lss (.c 40) (.lenS x17)) x1 (
 .split (.lss (.c 40) (.lenS x18)) x1 (
 .split (.lss (.c 40) (.lenS x19)) x1 (
 .split (.lss (.c 40) (.lenS x20)) x1 (
 .leaf (.next 3 [u0, x12, u2, u3, u4, u5])))))))) (
 .leaf (.done 0 [(.neg (.lss (.c 30) u0))]))
def t0 : List (Tr Plf) := [Zo, ZI, Zf, Ze]
def ZJ : Tr Plf :=
 .leaf (.done 0 [])
def t1 : List (Tr Plf) := [ZJ]
def ZO : Tr Plf :=
 .split (.lss x4 (.c 1)) x1 (
 .split (.lss (.c 32) x4) x1 (
 .leaf (.next 1 [(.bytes u0), (.lenL (.bytes u0)), (.c 0)])))
def Zu : Tr Plf :=
 .split (.lss u2 u1) (
 .split x21 x8 (
 .split (.lss u2 x22) (
 .split (.lss x23 (.c 97)) (
 .split (.lss x23 (.c 65)) (
 .split x24 x1 (
 .split (.lss x23 (.c 48)) x1 (
 .split (.lss (.c 57) x23) x1 x26))) (
 .split (.lss (.c 90) x23) (
 .split x24 x1 (
 .split (.eql x23 (.c 95)) x26 x1)) x26)) (
 .split (.lss (.c 122) x23) (
 .split x24 x1 x1) x26)) x8)) x27
def t2 : List (Tr Plf) := [ZO, Zu]
def ZA : Tr Plf :=
 .leaf x28
def ZK : Tr Plf :=
 .split x29 x32 x33
def t3 : List (Tr Plf) := [ZA, ZK]
def YT : Tr Plf :=
 .split x34 x35 x38
def ZL : Tr Plf :=
 .split x39 (
 .split x7 x8 (
 .split x6 (
 .split (.eql (.sel x40 0) (.c 1)) (
 .split (.sel x40 1) (
 .split (.eql (.sel x41 0) (.c 1)) (
 .split (.lss (.sel x41 1) u1) x31 (
 .split (.lss x9 (.c 1)) x31 (
 .split (.lss (.c 1000) x9) x31 x42))) x8) x31) x8) x8)) x33
def t4 : List (Tr Plf) := [YT, ZL]
def ZD : Tr Plf :=
 .leaf x28
def Zv : Tr Plf :=
 .split x29 x32 x33
def t5 : List (Tr Plf) := [ZD, Zv]
def ZC : Tr Plf :=
 .split x34 x35 x38
def Zx : Tr Plf :=
 .split x39 (
 .split x7 x8 (
 .split x13 (
 .split (.eql (.sel x43 0) (.c 1)) (
 .split (.sel x43 1) (
 .split (.eql (.sel x44 0) (.c 1)) (
 .split (.lss (.sel x44 1) u1) x31 (
 .split (.lss x45 (.c 0)) x31 (
 .split (.lss (.c 1048576) x45) x31 x42))) x8) x31) x8) x8)) x33
def t6 : List (Tr Plf) := [ZC, Zx]
def YV : Tr Plf :=
 .leaf (.next 1 ([u0, (.c 0)] ++ us 1 9))
def Zb : Tr Plf :=
 .split x29 (
 .split x7 x8 (
 .split (.and (.eqSS u2 x30) (.and (.eqSS u3 x46) (.and (.eql u4 (.cell u0 u1 2)) (.and (.eqSS u5 (.cell u0 u1 3)) (.and (.eqSS u6 (.cell u0 u1 4)) (.and (.eqSS u7 (.cell u0 u1 5)) (.and (.eql u8 (.cell u0 u1 6)) (.and (.eql u9 (.cell u0 u1 7)) (.eql u10 (.cell u0 u1 8)))))))))) x31 (
 .leaf (.next 1 ([u0, x12] ++ us 2 9))))) x33
def t7 : List (Tr Plf) := [YV, Zb]
def Zy : Tr Plf :=
 .split x34 x35 x38
def ZR : Tr Plf :=
 .split x39 (
 .split x7 x8 (
 .split (.lss u1 x15) (
 .split (.eql x47 (.c 1)) x68 (
 .split (.eql x47 (.c 2)) x68 (
 .split (.eql x47 (.c 3)) (
 .split x49 (
 .split x51 (
 .split x52 x31 (
 .split x54 (
 .split x55 x31 (
 .split x56 x8 (
 .split x61 (
 .split x62 (
 .split x63 (
 .split (.lss (.c 0) (.cell u3 (.sel x48 1) 2)) x69 x31) x8) x31) x8))) x8)) x8) x8) (
 .split (.eql x47 (.c 4)) (
 .split x49 (
 .split x51 (
 .split x52 x31 (
 .split x54 (
 .split x55 x31 (
 .split x56 x8 (
 .split x61 (
 .split x62 (
 .split x63 x69 x8) x31) x8))) x8)) x8) x8) (
 .split x49 (
 .split x51 x31 x8) x8))))) x8)) x33
def t8 : List (Tr Plf) := [Zy, ZR]
def YN : Tr Plf :=
 .leaf x28
def YW : Tr Plf :=
 .split x29 x32 x33
def t9 : List (Tr Plf) := [YN, YW]
def W9 : Tr Plf :=
 .leaf x28
def Wq : Tr Plf :=
 .split x29 x32 x33
def t10 : List (Tr Plf) := [W9, Wq]
def Xp : Tr Plf :=
 .split (.eql (.sel (.app 2 x70) 0) (.c 1)) (
 .split (.sel (.app 2 x70) 1) (
 .split (.eql (.sel x72 0) (.c 1)) (
 .split (.lss (.sel x72 1) (.c 0)) (
 .split (.eql (.sel x73 0) (.c 1)) (
 .split (.lss (.sel x73 1) (.c 0)) (
 .split (.eql (.sel x74 0) (.c 1)) (
 .split (.lss (.sel x74 1) (.c 0)) (
 .split (.eql (.sel x75 0) (.c 1)) (
 .split (.sel x75 1) (
 .split (.eql (.sel x79 0) (.c 1)) (
 .split (.lss (.sel x79 1) (.c 0)) (
 .split (.eql (.sel x80 0) (.c 1)) (
 .split (.lss (.sel x80 1) (.c 0)) (
 .split (.eql (.sel x81 0) (.c 1)) (
 .split (.lss (.sel x81 1) (.c 0)) (
 .split x83 x84 (
 .leaf (.next 1 (us 0 10 ++ [x83, (.c 0), .emptyL])))) x85) x8) x85) x8) x85) x8) x85) x8) x85) x8) x85) x8) x85) x8) x85) x8
def Yw : Tr Plf :=
 .split (.lss u11 x82) (
 .split (.lss u11 (.c 0)) x8 (
 .split (.eql (.sel x87 0) (.c 1)) (
 .split (.lss (.sel x87 1) (.c 0)) x88 (
 .split (.eql (.sel x89 0) (.c 1)) (
 .split (.lss (.sel x89 1) (.c 0)) x88 (
 .split (.lss x90 (.c 0)) (
 .leaf (.next 1 [u0, u1, u2, u3, u4, u5, u6, u7, u8, u9, u10, x91, (.snoc u12 (rl [x86, (.bc true)]))])) (
 .split (.cell u12 x90 1) x88 (
 .leaf (.next 1 [u0, u1, u2, u3, u4, u5, u6, u7, u8, u9, u10, x91, (.upd u12 x90 1 (.bc true))]))))) x8)) x8)) (
 .split (.lss (.c 4) x92) x93 (
 .leaf (.next 2 [u0, u1, u2, u3, u4, u5, u6, u7, u8, u9, u10, u11, (.lss u11 x82), (.lss (.c 4) x92), (.c 0), .emptyL])))
def YJ : Tr Plf :=
 .split (.lss u14 x92) (
 .split (.lss u14 (.c 0)) x8 (
 .split (.eql (.sel x95 0) (.c 1)) (
 .split (.lss (.sel x95 1) (.c 0)) x96 (
 .split (.eqS x97 0 0) Wo (
 .split (.eql (.sel Vz 0) (.c 1)) (
 .split (.lss (.sel Vz 1) (.c 0)) x96 Wo) x8))) x8)) U1
def t11 : List (Tr Plf) := [Xp, Yw, YJ]
def X5 : Tr Plf :=
 .leaf (.next 1 [u0, (.c 0), u1, u2, u3])
def VI : Tr Plf :=
 .split x29 (
 .split x7 x8 (
 .split (.eqSS x30 u3) x31 (
 .leaf (.next 1 [u0, x12, u2, u3, u4])))) x33
def t12 : List (Tr Plf) := [X5, VI]
def Xa : Tr Plf :=
 .leaf (.next 1 [u0, .nilL, (.bc true), u1, (.c 0)])
def XE : Tr Plf :=
 .split (.lss u4 x2) (
 .split (.lss u4 (.c 0)) x8 (
 .split (.eql (.sel Yr 0) (.c 1)) (
 .split (.lss S5 (.c 0)) (
 .split (.lss x0 QD) (
 .leaf (.next 1 [u0, (.snoc u1 (rl [R0, (.strc 0 0), Sz])), (.bc false), u3, VV])) x8) (
 .split (.lss S5 x22) (
 .split (.lss x0 QD) (
 .leaf (.next 1 [u0, (.snoc u1 (rl [R0, (.cell u0 S5 1), (.arith .add .i64 Sz (.cell u0 S5 2))])), (.bc false), u3, VV])) x8) x8)) x8)) (
 .leaf (.done 0 [u1, u2]))
def t13 : List (Tr Plf) := [Xa, XE]
def Wn : Tr Plf :=
 .leaf (.next 1 [u0, (.c 0), u1, u2])
def Xl : Tr Plf :=
 .split x29 (
 .split x7 x8 (
 .split (.eqSS x30 u3) x31 (
 .leaf (.next 1 [u0, x12, u2, u3])))) x33
def t14 : List (Tr Plf) := [Wn, Xl]
def X2 : Tr Plf :=
 .leaf (.next 1 [u0, u1, (.c 0)])
def Xn : Tr Plf :=
 .split (.lss u2 x22) (
 .split x21 x8 (
 .split (.lss UF WI) (
 .split (.lss (.c 1000) WI) x37 x26) (
 .split (.lss (.c 1000) UF) x37 x26))) x33
def t15 : List (Tr Plf) := [X2, Xn]
def Yd : Tr Plf :=
 .split (.eql (.sel (.app 11 Qj) 0) (.c 1)) (
 .split (.eql (.sel (.app 11 Qj) 2) (.c 0)) (
 .split (.eql (.sel (.app 11 Ql) 0) (.c 1)) (
 .split (.eql (.sel (.app 11 Ql) 2) (.c 0)) (
 .split (.eql (.sel Vq 0) (.c 1)) (
 .leaf (.next 1 [u12, (.c 0), u14, u15, .nilL, (.bc true), (.sel Vq 1), (.sel Vq 2)])) x8) (
 .leaf (.done 0 [.nilL, (.bc true), .nilL, (.bc true), (.sel (.app 11 Ql) 2)]))) x8) (
 .leaf (.done 0 [.nilL, (.bc true), .nilL, (.bc true), (.sel (.app 11 Qj) 2)]))) x8
def XS : Tr Plf :=
 .split x29 (
 .split x7 x8 (
 .split (.eql (.sel SN 0) (.c 1)) (
 .split (.lss (.sel SN 1) (.c 0)) (
 .leaf (.next 1 ([u0, x12] ++ us 2 6))) (
 .split (.lss (.sel SN 1) x3) (
 .split (.lss x5 QD) (
 .leaf (.next 1 [u0, x12, u2, u3, (.snoc u4 (rl [x30, (.cell u2 (.sel SN 1) 1)])), (.bc false), u6, u7])) x8) x8)) x8)) (
 .split (.eql (.sel XW 0) (.c 1)) (
 .split (.lss (.sel XW 1) (.c 0)) (
 .leaf (.done 0 [u4, u5, u6, u7, (.c 0)])) Uy) x8)
def t16 : List (Tr Plf) := [Yd, XS]
def Yl : Tr Plf :=
 .split (.lss x4 (.c 1)) x1 (
 .split (.lss (.c 32) x4) x1 (
 .split (.eql UK (.c 95)) x1 (
 .split (.lss UK (.c 48)) WC (
 .split (.lss (.c 57) UK) WC x1))))
def WE : Tr Plf :=
 .split (.lss u1 x4) (
 .split x7 x8 (
 .split (.lss NL (.c 97)) (
 .split (.lss NL (.c 65)) (
 .split (.lss NL (.c 48)) x1 (
 .split (.lss (.c 57) NL) x1 Tz)) (
 .split (.lss (.c 90) NL) (
 .split (.eql NL (.c 95)) Tz x1) Tz)) (
 .split (.lss (.c 122) NL) x1 Tz))) x27
def t17 : List (Tr Plf) := [Yl, WE]
def Xc : Tr Plf :=
 .leaf TI
def W4 : Tr Plf :=
 .split x6 W6 x33
def t18 : List (Tr Plf) := [Xc, W4]
def Yf : Tr Plf :=
 .leaf TI
def VY : Tr Plf :=
 .split x13 Wu x33
def t19 : List (Tr Plf) := [Yf, VY]
def VQ : Tr Plf :=
 .split (.lss u4 (.c 0)) x8 (
 .split (.lss u4 x2) (
 .split (.eql (.sel Va 0) (.c 1)) (
 .split (.lss (.sel Va 1) (.c 0)) x1 (
 .split (.eql (.sel Yq 0) (.c 1)) (
 .split (.lss (.sel Yq 1) (.c 0)) x1 (
 .split (.eqS UJ 0 0) (
 .split (.eql RI (.c 0)) (
 .split (.eql RD (.c 0)) (
 .split (.eql PN (.c 0)) Yp x1) x1) x1) (
 .split (.eql (.sel Tq 0) (.c 1)) (
 .split (.lss (.sel Tq 1) (.c 0)) x1 (
 .split (.lss RI (.c 0)) x1 (
 .split (.lss RD RI) x1 (
 .split (.lss (.sel Tq 1) x3) (
 .split (.lss V7 RD) x1 (
 .split (.lss PN (.c (-1000))) x1 (
 .split (.lss (.c 1000) PN) x1 (
 .split (.lss (.arith .add .i64 RI PN) (.c 0)) x1 (
 .split (.lss V7 (.arith .add .i64 RD PN)) x1 Yp))))) x8)))) x8))) x8)) x8) x8)
def YB : Tr Plf :=
 .split x36 (
 .split x21 x8 (
 .split (.lss u2 x76) (
 .split (.and (.eqSS (.cell u6 u2 0) u7) (.and (.eqSS (.cell u6 u2 1) u8) (.and (.eql (.cell u6 u2 2) u9) (.and (.eqSS (.cell u6 u2 3) u10) (.and (.eqSS (.cell u6 u2 4) u11) (.and (.eqSS (.cell u6 u2 5) u12) (.and (.eql (.cell u6 u2 6) u13) (.and (.eql (.cell u6 u2 7) u14) (.eql (.cell u6 u2 8) u15))))))))) x1 (
 .leaf (.next 1 ([u0, u1, x25] ++ us 3 13)))) x8)) (
 .split (.eql u9 (.c 1)) Yh (
 .split (.eql u9 (.c 2)) Yh (
 .split (.eql u9 (.c 3)) (
 .split (.eqS u10 0 0) (
 .split (.eqS u11 0 0) (
 .split x7 x8 (
 .split x6 (
 .leaf (.done 0 [(.lss (.c 0) (.cell u4 u1 2))])) x8)) x1) x1) (
 .split (.eql u9 (.c 4)) (
 .split (.eqS u10 0 0) (
 .leaf (.done 0 [(.eqS u11 0 0)])) x1) x1))))
def t20 : List (Tr Plf) := [VQ, YB]
def XC : Tr Plf :=
 .split (.eql (.sel (.app 17 x70) 0) (.c 1)) (
 .split (.sel (.app 17 x70) 1) (
 .split (.lss (.c 4) x3) (
 .leaf (.done 0 [(.c 4), (.c 291)])) (
 .leaf (.next 1 [(.c 0), u0, u1, u2, u3]))) (
 .leaf (.done 0 [(.c 0), (.c 290)]))) x8
def WT : Tr Plf :=
 .split (.lss u0 x2) (
 .split Kk x8 (
 .split (.eql (.sel Wd 0) (.c 1)) (
 .split (.sel Wd 1) (
 .split (.eql (.sel Yb 0) (.c 1)) (
 .split (.eql (.sel Yb 1) u0) (
 .split (.lss UY (.c 1)) SO (
 .split (.lss (.c 1000) UY) SO (
 .leaf (.next 1 [LH, u1, u2, u3, u4])))) SO) x8) SO) x8)) (
 .split (.eql x3 (.c 0)) (
 .leaf (.done 0 [(.c 0), (.c 292)])) (
 .split (.lss (.c 24) x3) (
 .leaf (.done 0 [(.c 24), (.c 292)])) (
 .leaf (.next 2 [(.c 0), u1, u2, u3, u4]))))
def YE : Tr Plf :=
 .split U4 (
 .split Kk x8 (
 .split (.eql (.sel Wa 0) (.c 1)) (
 .split (.sel Wa 1) (
 .split (.eql (.sel WS 0) (.c 1)) (
 .split (.eql (.sel WS 1) u0) (
 .split (.lss Vp (.c 0)) Tc (
 .split (.lss (.c 1048576) Vp) Tc (
 .leaf (.next 2 [LH, u1, u2, u3, u4])))) Tc) x8) Tc) x8)) (
 .split (.lss (.c 80) x5) (
 .leaf (.done 0 [(.c 80), (.c 293)])) (
 .leaf (.next 3 [(.c 0), u1, u2, u3, u4])))
def XR : Tr Plf :=
 .split Vi (
 .split (.eql (.sel X7 0) (.c 1)) (
 .split (.sel X7 1) (
 .leaf (.next 3 [LH, u1, u2, u3, u4])) (
 .leaf (.done 0 [u0, (.c 293)]))) x8) U1
def t21 : List (Tr Plf) := [XC, WT, YE, XR]
def Wr : Tr Plf :=
 .leaf TI
def Yj : Tr Plf :=
 .split x13 Wu x33
def t22 : List (Tr Plf) := [Wr, Yj]
def VE : Tr Plf :=
 .leaf TI
def WX : Tr Plf :=
 .split x6 W6 x33
def t23 : List (Tr Plf) := [VE, WX]
def Xg : Tr Plf :=
 .split (.eql (.sel Xy 0) (.c 1)) (
 .split (.eql (.sel Xy 2) (.c 0)) (
 .split (.eql (.sel W7 0) (.c 1)) (
 .split (.eql (.sel W7 2) (.c 0)) (
 .split x83 x84 (
 .leaf (.next 1 ([(.c 0)] ++ us 0 10)))) x85) x8) x85) x8
def Xd : Tr Plf :=
 .split (.lss u0 x92) (
 .split Kk x8 (
 .split (.eql (.sel VP 0) (.c 1)) (
 .split (.lss (.sel VP 1) (.c 0)) (
 .leaf (.next 2 ([u0, (.bc true), (.c 0)] ++ us 1 10))) (
 .split (.eql (.sel V3 0) (.c 1)) (
 .leaf (.next 2 [u0, (.lss (.sel V3 1) (.c 0)), (.c 0), u1, u2, u3, u4, u5, u6, u7, u8, u9, u10])) x8)) x8)) (
 .split (.lss (.c 4) (.lenL u10)) x93 (
 .leaf (.next 3 ([(.c 0)] ++ us 1 10))))
def Xq : Tr Plf :=
 .split x36 (
 .split u1 (
 .leaf (.next 2 ([u0, (.bc true), x25] ++ us 3 10))) (
 .split x21 x8 (
 .split (.lss u2 (.lenL u11)) (
 .split Kk x8 (
 .split (.lss u0 (.lenL u11)) (
 .leaf (.next 2 [u0, (.eqSS (.cell u11 u2 0) (.cell u11 u0 0)), x25, u3, u4, u5, u6, u7, u8, u9, u10, u11, u12])) x8)) x8))) (
 .split u1 (
 .leaf (.done 0 [u0, (.c 490)])) (
 .leaf (.next 1 ([LH] ++ us 3 10))))
def W8 : Tr Plf :=
 .split (.lss u0 (.lenL u10)) (
 .split Kk x8 (
 .split (.eql (.sel XA 0) (.c 1)) (
 .split (.lss (.sel XA 1) (.c 0)) UD (
 .split (.eqS SM 0 0) Vv (
 .split (.eql (.sel WO 0) (.c 1)) (
 .split (.lss (.sel WO 1) (.c 0)) UD Vv) x8))) x8)) U1
def Yo : Tr Plf :=
 .split x36 (
 .split u1 (
 .leaf (.next 4 ([u0, (.bc true), x25] ++ us 3 13))) (
 .split x21 x8 (
 .split (.lss u2 (.lenL u12)) (
 .leaf (.next 4 [u0, (.eqSS (.cell u12 u2 0) u13), x25, u3, u4, u5, u6, u7, u8, u9, u10, u11, u12, u13, u14, u15])) x8))) (
 .split u1 (
 .leaf (.done 0 [u0, (.c 491)])) (
 .leaf (.next 3 ([LH] ++ us 3 10))))
def t24 : List (Tr Plf) := [Xg, Xd, Xq, W8, Yo]
def Xm : Tr Plf :=
 .split (.eql (.sel (.app 24 Qj) 0) (.c 1)) (
 .split (.eql (.sel (.app 24 Qj) 2) (.c 0)) (
 .split (.eql (.sel (.app 24 Ql) 0) (.c 1)) (
 .split (.eql (.sel (.app 24 Ql) 2) (.c 0)) (
 .leaf (.next 1 [(.c 0), u12, u13, u14, u15, .nilL, (.bc true)])) (
 .leaf (.done 0 [.nilL, (.bc true), .nilL, (.bc true), (.sel (.app 24 Ql) 2)]))) x8) (
 .leaf (.done 0 [.nilL, (.bc true), .nilL, (.bc true), (.sel (.app 24 Qj) 2)]))) x8
def YH : Tr Plf :=
 .split (.lss u0 x0) (
 .leaf (.next 2 ([u0, (.c 0)] ++ us 1 6))) (
 .leaf (.next 3 ([(.c 0)] ++ us 1 6 ++ [.nilL, (.bc true)])))
def Yu : Tr Plf :=
 .split x6 (
 .split Kk x8 (
 .split U4 (
 .split x7 x8 (
 .split (.eqSS YL x10) (
 .split (.lss x76 QD) (
 .leaf (.next 2 [u0, x12, u2, u3, u4, u5, (.snoc u6 (rl [SS, x9])), (.bc false)])) x8) (
 .leaf (.next 2 ([u0, x12] ++ us 2 6))))) x8)) (
 .leaf (.next 1 ([LH] ++ us 2 6)))
def Xs : Tr Plf :=
 .split Vi (
 .split Kk x8 (
 .leaf (.next 4 [u0, (.c 0), u1, u2, u3, u4, u5, u6, u7, u8, XZ, (.strc 0 0), W5]))) (
 .leaf (.done 0 [u5, u6, u7, u8, (.c 0)]))
def Yz : Tr Plf :=
 .split x13 (
 .split x7 x8 (
 .split Kk x8 (
 .split (.lss u0 x15) (
 .split (.eqSS x14 (.cell u5 u0 1)) (
 .leaf (.next 4 [u0, x12, u2, u3, u4, u5, u6, u7, u8, u9, u10, (.cell u3 u1 1), (.arith .add .i64 u12 x45)])) (
 .leaf (.next 4 ([u0, x12] ++ us 2 11)))) x8))) (
 .split (.lss u12 (.c (-1000))) Uy (
 .split (.lss (.c 1000) u12) Uy (
 .split (.lss x82 QD) (
 .leaf (.next 3 [LH, u2, u3, u4, u5, u6, u7, (.snoc u8 (rl [u10, u11, u12])), (.bc false)])) x8)))
def t25 : List (Tr Plf) := [Xm, YH, Yu, Xs, Yz]
def XK : Tr Plf :=
 .split (.eql x22 x5) (
 .split (.eql x3 x76) (
 .leaf (.next 1 [(.c 0), u0, u2, u4, u6, u1, u3, u5, u7])) x1) x1
def WJ : Tr Plf :=
 .split (.lss u0 x0) (
 .split Kk x8 (
 .split (.lss u0 x2) (
 .split (.and (.eqSS (.cell u1 u0 0) UE) (.eqSS (.cell u1 u0 1) UY)) (
 .leaf (.next 1 ([LH] ++ us 1 8))) x1) x8)) (
 .leaf (.next 2 ([(.c 0)] ++ us 1 8)))
def Wv : Tr Plf :=
 .split U4 (
 .split Kk x8 (
 .split Vi (
 .split (.and (.eqSS SS XZ) (.and (.eqSS YL (.cell u4 u0 1)) (.eql Vp W5))) (
 .leaf (.next 2 ([LH] ++ us 1 8))) x1) x8)) x27
def t26 : List (Tr Plf) := [XK, WJ, Wv]
def V2 : Tr Plf :=
 .split (.eql (.sel Yi 0) (.c 1)) (
 .split (.sel Yi 1) (
 .split (.eql (.sel YI 0) (.c 1)) (
 .split (.sel YI 1) (
 .split (.eql (.sel XJ 0) (.c 1)) (
 .split (.sel XJ 1) (
 .split (.lss (.c 10) (.lenL u12)) MI (
 .split (.lss (.c 10) (.lenL u13)) MI (
 .split (.lss (.c 10) (.lenL u14)) MI (
 .split (.lss (.c 10) (.lenL u15)) MI (
 .split (.eql (.sel Qp 0) (.c 1)) (
 .split (.eql (.sel Qh 0) (.c 1)) (
 .split (.eql (.sel XP 0) (.c 1)) (
 .split (.sel XP 1) (
 .split (.eql (.sel Qp 5) (.sel Qh 5)) MI x1) x1) x8) x8) x8))))) MI) x8) MI) x8) MI) x8
def t27 : List (Tr Plf) := [V2]
def ts : List (List (Tr Plf)) := [t0, t1, t2, t3, t4, t5, t6, t7, t8, t9, t10, t11, t12, t13, t14, t15, t16, t17, t18, t19, t20, t21, t22, t23, t24, t25, t26, t27]
end Uc

