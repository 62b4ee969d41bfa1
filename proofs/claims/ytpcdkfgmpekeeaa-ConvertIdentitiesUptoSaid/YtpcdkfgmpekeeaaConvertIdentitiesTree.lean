/- What is stated: the trees of tests of the functions that the law ConvertIdentities reaches, as data. Conditions: none. -/
import Derived.Test.YtpcdkfgmpekeeaaBeF
set_option linter.unusedVariables false
set_option linter.unusedSectionVars false
set_option linter.unusedSimpArgs false
namespace Ci
open Go.AE
def u0 : SE := .var 0
def u1 : SE := .var 1
def u2 : SE := .var 2
def u3 : SE := .var 3
def u4 : SE := .var 4
def u5 : SE := .var 5
def u6 : SE := .var 6
def u7 : SE := .var 7
def u8 : SE := .var 8
def u9 : SE := .var 9
def u10 : SE := .var 10
def u11 : SE := .var 11
def u12 : SE := .var 12
def u13 : SE := .var 13
def u14 : SE := .var 14
def u15 : SE := .var 15
def u16 : SE := .var 16
def u17 : SE := .var 17
def u18 : SE := .var 18
def u19 : SE := .var 19
def u20 : SE := .var 20
def u21 : SE := .var 21
def u22 : SE := .var 22
def u23 : SE := .var 23
def u24 : SE := .var 24
def u25 : SE := .var 25
def u26 : SE := .var 26
def u27 : SE := .var 27
def u28 : SE := .var 28
def u29 : SE := .var 29
def u30 : SE := .var 30
def u31 : SE := .var 31
def u32 : SE := .var 32
def u33 : SE := .var 33
def u34 : SE := .var 34
def u35 : SE := .var 35
def u36 : SE := .var 36
def x0 : SE := (.lenS u0)
def x1 : Tr Plf := (
 .leaf (.done 0 [(.bc false)]))
def x2 : SE := (.lss u2 (.c 0))
def x3 : Tr Plf := (
 .leaf .stuck)
def x4 : SE := (.lenL u0)
def x5 : SE := (.lss u2 x4)
def x6 : SE := (.cell u0 u2 0)
def x7 : SE := (.conv .u8 x6)
def x8 : SE := (.eql u2 (.c 0))
def x9 : SE := (.arith .add .i64 u2 (.c 1))
def x10 : Tr Plf := (
 .leaf (.next 1 [u0, u1, x9]))
def x11 : Tr Plf := (
 .leaf (.done 0 [(.bc true)]))
def x12 : Plf := (.next 1 [u0, (.c 0), u1])
def x13 : SE := (.lss u1 x4)
def x14 : SE := (.lss u1 (.c 0))
def x15 : SE := (.cell u0 u1 0)
def x16 : Tr Plf := (
 .leaf (.done 0 [u1]))
def x17 : SE := (.arith .add .i64 u1 (.c 1))
def x18 : Tr Plf := (
 .split x14 x3 (
 .split (.eqSS x15 u2) x16 (
 .leaf (.next 1 [u0, x17, u2]))))
def x19 : Tr Plf := (
 .leaf (.done 0 [(.c (-1))]))
def x20 : SE := (.lss u0 u1)
def x21 : Tr Plf := (
 .leaf (.done 0 [(.c 0)]))
def x22 : Tr Plf := (
 .leaf (.done 0 [u2]))
def x23 : Tr Plf := (
 .split (.lss u2 u0) x22 (
 .leaf (.next 1 [u0, (.c 0), u3, u4, u5, u6])))
def x24 : SE := (.lss u1 u0)
def x25 : SE := (.lenL u4)
def x26 : SE := (.lss u1 x25)
def x27 : SE := (.cell u4 u1 0)
def x28 : SE := (.app 1 (rl [(.c 0), x27]))
def x29 : SE := (.app 2 (rl [(.c 0), u4, x27]))
def x30 : SE := (.cell u4 u1 1)
def x31 : Tr Plf := (
 .leaf (.next 1 [u0, x17, u2, u3, u4, u5]))
def x32 : SE := (.lenL u3)
def x33 : SE := (.lss u1 x32)
def x34 : SE := (.cell u3 u1 0)
def x35 : SE := (.app 1 (rl [(.c 0), x34]))
def x36 : SE := (.app 4 (rl [(.c 0), u3, x34]))
def x37 : SE := (.cell u3 u1 2)
def x38 : SE := (.cell u0 u1 1)
def x39 : SE := (.cell u0 u1 2)
def x40 : SE := (.cell u0 u1 3)
def x41 : SE := (.cell u0 u1 4)
def x42 : SE := (.cell u0 u1 5)
def x43 : SE := (.cell u0 u1 6)
def x44 : SE := (.cell u0 u1 7)
def x45 : SE := (.cell u0 u1 8)
def x46 : SE := (.lenL u5)
def x47 : SE := (.cell u5 u1 2)
def x48 : SE := (.cell u5 u1 0)
def x49 : SE := (.app 4 (rl [(.c 0), u3, x48]))
def x50 : SE := (.eql (.sel x49 0) (.c 1))
def x51 : SE := (.cell u5 u1 5)
def x52 : SE := (.app 2 (rl [(.c 0), u4, x51]))
def x53 : SE := (.eql (.sel x52 0) (.c 1))
def x54 : SE := (.lss (.sel x49 1) (.c 0))
def x55 : SE := (.cell u5 u1 1)
def x56 : SE := (.app 4 (rl [(.c 0), u3, x55]))
def x57 : SE := (.eql (.sel x56 0) (.c 1))
def x58 : SE := (.lss (.sel x56 1) (.c 0))
def x59 : SE := (.lss x46 u1)
def x60 : SE := (.cell u5 u1 3)
def x61 : SE := (.cell u5 u1 4)
def x62 : SE := (.cell u5 u1 6)
def x63 : SE := (.cell u5 u1 7)
def x64 : SE := (.cell u5 u1 8)
def x65 : SE := (.app 6 (rl [(.c 0), (.sub u5 (.c 0) u1), x48, x55, x47, x60, x61, x51, x62, x63, x64]))
def x66 : SE := (.eql (.sel x65 0) (.c 1))
def x67 : SE := (.lss (.sel x65 1) (.c 0))
def x68 : SE := (.lss (.sel x49 1) x32)
def x69 : SE := (.app 1 (rl [(.c 0), x60]))
def x70 : SE := (.app 1 (rl [(.c 0), x61]))
def x71 : SE := (.cell u4 (.sel x52 1) 1)
def x72 : Tr Plf := (
 .split (.eqS x51 0 0) (
 .split (.eql x62 (.c 0)) (
 .split (.eql x63 (.c 0)) (
 .split (.eql x64 (.c 0)) x31 x16) x16) x16) (
 .split (.lss (.sel x52 1) (.c 0)) x16 (
 .split (.lss x62 (.c 0)) x16 (
 .split (.lss x63 x62) x16 (
 .split (.lss x64 (.c (-1000))) x16 (
 .split (.lss (.c 1000) x64) x16 (
 .split (.lss (.sel x52 1) x25) (
 .split (.lss x71 x63) x16 (
 .split (.lss (.arith .add .i64 x62 x64) (.c 0)) x16 (
 .split (.lss x71 (.arith .add .i64 x63 x64)) x16 x31))) x3)))))))
def x73 : Tr Plf := (
 .split x50 (
 .split x53 (
 .split x54 x16 (
 .split x57 (
 .split x58 x16 (
 .split x59 x3 (
 .split x66 (
 .split x67 (
 .split x68 (
 .split (.eql (.sel x69 0) (.c 1)) (
 .split (.sel x69 1) (
 .split (.eql (.sel x70 0) (.c 1)) (
 .split (.sel x70 1) (
 .split (.eqSS x61 u2) x16 x72) x16) x3) x16) x3) x3) x16) x3))) x3)) x3) x3)
def x74 : Tr Plf := (
 .split (.lss (.lenS x60) (.c 4611686018427387904)) (
 .split (.lss (.lenS x61) (.c 4611686018427387904)) (
 .split (.eqS (.strCat x60 x61) 0 0) x72 x16) x3) x3)
def x75 : SE := (rl [(.c 0), u0])
def x76 : SE := (.eql (.sel (.app 1 x75) 0) (.c 1))
def x77 : SE := (.lenL u2)
def x78 : SE := (rl [u3])
def x79 : SE := (.rcons u1 (.rcons u2 x78))
def x80 : SE := (.rcons u0 x79)
def x81 : SE := (.app 3 (.rcons (.c 0) (.rcons x77 (.rcons (.c 0) (.rcons (.c 4) x80)))))
def x82 : SE := (.lenL u1)
def x83 : SE := (.app 5 (.rcons (.c 0) (.rcons x82 (.rcons (.c 1) (.rcons (.c 24) x80)))))
def x84 : SE := (.app 7 (.rcons (.c 0) (.rcons x32 (.rcons (.c 0) (.rcons (.c 80) x80)))))
def x85 : Tr Plf := (
 .leaf (.done 0 [.nilL, (.bc true), .nilL, (.bc true), (.c 2)]))
def x86 : SE := (.c 1073741824)
def x87 : SE := (rl [(.c 0)])
def x88 : SE := (.strAt u0 (.c 0))
def x89 : Tr Plf := (
 .leaf (.next 1 [u0, (.c 0)]))
def x90 : SE := (.strAt u0 u1)
def x91 : Tr Plf := (
 .leaf (.next 1 [u0, x17]))
def x92 : Plf := (.next 1 [u4, (.c 0), u0, u1, u2, u3])
def x93 : SE := (.lss u4 (.c 0))
def x94 : SE := (.cell u3 u4 0)
def x95 : SE := (.app 11 (rl [(.c 0), u0, u1, u2, u3, x94]))
def x96 : SE := (.cell u3 u4 1)
def x97 : SE := (.app 11 (rl [(.c 0), u0, u1, u2, u3, x96]))
def x98 : SE := (.cell u3 u4 5)
def x99 : SE := (.cell u3 u4 6)
def TL : SE := (.cell u3 u4 7)
def RW : SE := (.cell u3 u4 8)
def eC : Tr Plf := (
 .leaf (.next 1 [u4, (.sel x95 1), (.c 0), u0, u1, u2, u3, x94, x96, (.cell u3 u4 2), (.cell u3 u4 3), (.cell u3 u4 4), x98, x99, TL, RW]))
def W3 : SE := (.app 10 (rl [(.c 0), u0, u1, u2, u3, x98]))
def fR : SE := (.cell u2 (.sel W3 1) 1)
def S8 : SE := (.lenL u6)
def ak : SE := (.app 9 (rl [(.c 0), u10]))
def dw : SE := (.app 9 (rl [(.c 0), u11]))
def fg : Tr Plf := (
 .split (.eql (.sel ak 0) (.c 1)) (
 .split (.sel ak 1) (
 .split (.eql (.sel dw 0) (.c 1)) (
 .split (.sel dw 1) (
 .leaf (.done 0 [(.neg (.eqSS u11 u3))])) x1) x3) x1) x3)
def Sz : SE := (.lss u0 (.c 0))
def Wg : SE := (.cell u3 u0 0)
def dg : SE := (.app 9 (rl [(.c 0), Wg]))
def dn : SE := (.app 10 (rl [(.c 0), u1, u2, u3, u4, Wg]))
def ce : SE := (.cell u3 u0 1)
def VP : Tr Plf := (
 .leaf (.done 0 [u0, (.c 291)]))
def SF : SE := (.arith .add .i64 u0 (.c 1))
def Wz : SE := (.cell u2 u0 0)
def ff : SE := (.app 9 (rl [(.c 0), Wz]))
def de : SE := (.app 11 (rl [(.c 0), u1, u2, u3, u4, Wz]))
def bN : SE := (.cell u2 u0 2)
def V2 : Tr Plf := (
 .leaf (.done 0 [u0, (.c 292)]))
def aa : SE := (.app 12 (rl [(.c 0), u1, u2, u3, u4, u0]))
def Wh : Tr Plf := (
 .leaf (.done 0 [(.c 0), (.c 0)]))
def ek : SE := (.app 1 (rl [(.c 0), u4]))
def R0 : SE := (rl [u4, u5, u6, u7])
def eM : SE := (.app 3 (.rcons (.c 0) (.rcons S8 (.rcons (.c 0) (.rcons (.c 4) R0)))))
def aQ : SE := (.app 5 (.rcons (.c 0) (.rcons x46 (.rcons (.c 1) (.rcons (.c 24) R0)))))
def LB : SE := (.lenL u7)
def f4 : SE := (.app 7 (.rcons (.c 0) (.rcons LB (.rcons (.c 0) (.rcons (.c 80) R0)))))
def P5 : SE := (.lenL u8)
def N8 : Tr Plf := (
 .leaf (.done 0 [(.c 0), (.c 2)]))
def Zk : SE := (.cell u8 u13 0)
def dx : SE := (.app 14 (rl [(.c 0), u1, Zk]))
def YH : Tr Plf := (
 .leaf (.done 0 [u13, (.c 490)]))
def gO : SE := (.app 14 (rl [(.c 0), u5, (.cell u8 u13 1)]))
def Yi : SE := (.mIdx [.str] u14 (rl [Zk]))
def dq : SE := (.arith .add .i64 u13 (.c 1))
def UX : SE := (rl [(.bc true)])
def Sd : SE := (.lenL u10)
def Zg : SE := (.cell u10 u16 0)
def di : SE := (.app 15 (rl [(.c 0), u6, Zg]))
def Nz : Tr Plf := (
 .leaf (.done 0 [u16, (.c 491)]))
def e6 : SE := (.cell u10 u16 1)
def Yz : SE := (.mIdx [.str] u17 (rl [Zg]))
def QC : SE := (.cell u10 u16 2)
def WJ : SE := (.arith .sub .i64 (.c 0) QC)
def bG : SE := (.arith .add .i64 u16 (.c 1))
def Z7 : Tr Plf := (
 .split (.lss QC (.c (-1000))) Nz (
 .leaf (.next 2 [u0, u1, u2, u3, u4, u5, u6, u7, u8, u9, u10, u11, u12, u13, u14, u15, bG, (.snoc u17 (.rcons Zg UX))])))
def gZ : Tr Plf := (
 .split (.lss QC (.c (-1000))) Nz (
 .leaf (.next 2 [u0, u1, u2, u3, u4, u5, u6, u7, u8, u9, u10, u11, u12, u13, u14, u15, bG, (.upd u17 Yz 1 (.bc true))])))
def ca : Tr Plf := (
 .split (.lss Yz (.c 0)) (
 .split (.lss QC WJ) (
 .split (.lss (.c 1000) WJ) Nz Z7) (
 .split (.lss (.c 1000) QC) Nz Z7)) (
 .split (.cell u17 Yz 1) Nz (
 .split (.lss QC WJ) (
 .split (.lss (.c 1000) WJ) Nz gZ) (
 .split (.lss (.c 1000) QC) Nz gZ))))
def dr : SE := (.app 15 (rl [(.c 0), u2, e6]))
def Zo : SE := (.mIdx [(.int .i64), (.int .i64), (.int .i64), (.int .i64), (.int .i64)] u2 (.rcons u3 R0))
def R3 : SE := (.lss x4 x86)
def dO : SE := (.snoc u0 (.rcons u3 R0))
def cO : Tr Plf := (
 .leaf (.done 0 [u0, u1, u2]))
def Lj : Tr Plf := (
 .leaf (.done 0 []))
def fO : SE := (.app 18 (rl [(.c 0), u2, u3, x15]))
def cA : Tr Plf := (
 .leaf (.done 0 [(.c 3), u3]))
def WI : SE := (.app 19 (rl [(.c 0), u7]))
def Zh : SE := (.eql LB (.c 0))
def ZC : SE := (.eql LB (.c 1))
def VF : SE := (.snoc .emptyL (rl [u1]))
def Zr : SE := (.eql LB (.c 2))
def Yf : SE := (rl [u2])
def W0 : SE := (.snoc VF Yf)
def YI : SE := (.eql LB (.c 3))
def Wc : SE := (.snoc W0 x78)
def Yg : SE := (.eql LB (.c 4))
def Zb : SE := (.snoc Wc (rl [u4]))
def Lx : SE := (.sel WI 1)
def Lw : SE := (.sel WI 2)
def gy : SE := (.app 21 (rl [(.c 0), (.bc true), Lx, Lw, .emptyL]))
def ac : SE := (.app 21 (rl [(.c 0), (.bc true), Lx, Lw, VF]))
def bu : SE := (.app 21 (rl [(.c 0), (.bc true), Lx, Lw, W0]))
def eP : SE := (.app 21 (rl [(.c 0), (.bc true), Lx, Lw, Wc]))
def cH : SE := (.app 21 (rl [(.c 0), (.bc true), Lx, Lw, Zb]))
def VW : SE := (.app 18 (.rcons (.c 0) x79))
def fN : SE := (rl [u1, u2, u8])
def VH : SE := (.app 24 (.rcons (.c 0) (.rcons u0 fN)))
def eu : SE := (.app 18 (.rcons (.c 0) fN))
def aI : SE := (.eql (.sel eu 0) (.c 1))
def O2 : SE := (.sel eu 1)
def Vw : SE := (.sel VH 1)
def Za : Tr Plf := (
 .leaf (.done 0 [(.bc false), (.c 0)]))
def cz : SE := (rl (us 1 8))
def dL : SE := (.rcons (.c 0) (.rcons u0 cz))
def J7 : SE := (.app 22 dL)
def ej : SE := (.eql (.sel J7 0) (.c 1))
def bR : SE := (.eql (.sel J7 0) (.c 2))
def S9 : SE := (.lss u3 (.c 0))
def Zv : SE := (.lenL u14)
def fw : SE := (.cell u2 u3 0)
def ao : SE := (.app 25 (rl [(.c 0), (.bc true), u14, u13, fw, (.cell u2 u3 1), (.cell u2 u3 2), (.cell u2 u3 3), (.cell u2 u3 4), (.cell u2 u3 5), (.cell u2 u3 6), (.cell u2 u3 7), (.cell u2 u3 8)]))
def PC : SE := (.arith .add .i64 u3 (.c 1))
def gC : Tr Plf := (
 .leaf (.next 2 ([u0, u1, u2, PC] ++ us 4 8 ++ [Zv, u13, u14])))
def cN : Tr Plf := (
 .leaf (.done 0 [u0, u1]))
def bW : SE := (rl [u8, u9, u10, u11])
def Px : SE := (.rcons (.c 0) (.rcons u0 (.rcons u1 (.rcons u2 (.rcons u3 (.rcons u4 (.rcons u5 (.rcons u6 (.rcons u7 bW)))))))))
def JV : SE := (.cell u0 u2 2)
def eK : SE := (.cell u8 u9 1)
def bS : SE := (rl [(.cell u8 u9 0), eK, (.cell u8 u9 2), (.cell u8 u9 3), (.cell u8 u9 4), (.cell u8 u9 5), (.cell u8 u9 6), (.cell u8 u9 7), (.cell u8 u9 8)])
def ZT : SE := (.app 14 (rl [(.c 0), u6, eK]))
def ap : SE := (.eql (.sel ZT 0) (.c 1))
def Vd : SE := (.sel ZT 1)
def Ye : Tr Plf := (
 .leaf (.done 0 [Vd, (.c 0), (.c 0), (.c 0), (.c 0)]))
def Ya : SE := (.app 28 (.rcons (.c 0) (.rcons (.bc true) (.rcons (.sel J7 3) (.rcons (.sel J7 2) bS)))))
def Yw : SE := (.lenL (.sel Ya 2))
def gu : SE := (.cat .emptyL (.sel Ya 2))
def fH : SE := (.app 29 (rl [(.c 0), .nilL, (.bc true), gu, (.and (.bc false) (.eql Yw (.c 0)))]))
def Tu : SE := (.lenL (.sel fH 1))
def Yv : SE := (rl [(.bc false)])
def Ve : SE := (.sel (.app 29 (.rcons (.c 0) (.rcons .nilL (.rcons (.bc true) (.rcons gu Yv))))) 1)
def Wv : SE := (.cell Ve (.c 0) 0)
def Zn : SE := (.cell Ve (.c 1) 0)
def WZ : SE := (.app 26 (.rcons (.c 0) (.rcons u0 (.rcons u1 (.rcons u2 (.rcons u3 (.rcons u4 bW)))))))
def T0 : SE := (.cell u0 u3 0)
def Se : SE := (.app 30 (rl ([(.c 0)] ++ us 11 5 ++ [u7, u8, u9, u10, T0])))
def We : SE := (.app 17 (rl [(.c 0), u4, u5, u6, (.sel Se 1), (.sel Se 2), (.sel Se 3), (.sel Se 4), (.sel Se 5)]))
def gB : SE := (.cell u1 u3 0)
def gl : SE := (.cell u1 u3 1)
def cu : SE := (.cell u1 u3 2)
def ZH : SE := (.cell u1 u3 3)
def fj : SE := (.cell u1 u3 4)
def VE : SE := (.app 17 (rl [(.c 0), u8, u9, u10, gB, gl, cu, ZH, fj]))
def eU : SE := (rl [u3, u4, u5, u6])
def W8 : SE := (.app 31 (.rcons (.c 0) (.rcons (.cell u7 u1 0) (.rcons (.cell u7 u1 1) (.rcons (.cell u7 u1 2) (.rcons (.cell u7 u1 3) (.rcons (.cell u7 u1 4) (.rcons u7 (.rcons u8 (.rcons u9 eU))))))))))
def bh : Tr Plf := (
 .leaf (.done 0 [u7, u8, (.lss u0 LB)]))
def bI : Plf := (.next 1 ([u0, u1, (.c 0)] ++ us 2 9))
def YN : SE := (.lss u7 (.c 0))
def aC : Tr Plf := (
 .leaf (.next 1 ([u0, u1, x9] ++ us 3 9)))
def WY : SE := (.app 33 (rl ([(.c 0), u8, u9, u0, u1, u2, u3] ++ us 12 5)))
def bb : SE := (.app 14 (rl [(.c 0), u5, (.cell u8 (.sel WY 1) 1)]))
def ZV : SE := (.app 15 (rl [(.c 0), u10, x6]))
def dA : SE := (.app 15 (rl [(.c 0), u6, (.cell u0 u2 1)]))
def UY : SE := (.sel dA 1)
def Lq : Tr Plf := (
 .leaf (.done 0 [(.c 0), (.c 0), (.c 0), (.c 0), (.c 0), (.c 3)]))
def Pl : SE := (.sel ZV 1)
def Ud : SE := (.lss Pl (.c 0))
def Ty : SE := (.lss Pl Sd)
def TJ : SE := (.cell u10 Pl 1)
def Uj : SE := (.eql Pl (.c 0))
def UV : SE := (.eql Pl (.c 1))
def Ti : SE := (.eql Pl (.c 2))
def T3 : SE := (.eql Pl (.c 3))
def Sj : SE := (.arith .add .i64 JV u13)
def R7 : SE := (.arith .add .i64 JV u14)
def RQ : SE := (.arith .add .i64 JV u15)
def SX : SE := (.arith .add .i64 JV u16)
def Zm : SE := (rl (us 3 10))
def X5 : SE := (.mIdx [(.int .i64), (.int .i64), (.int .i64), (.int .i64), (.int .i64), (.int .i64), (.int .i64), (.int .i64), (.int .i64), (.int .i64)] u2 Zm)
def eX : Tr Plf := (
 .leaf (.next 1 ([u0, u1, x9] ++ us 3 5)))
def V8 : SE := (.app 36 (.rcons (.c 0) (.rcons u0 (.rcons u1 (.rcons u2 eU)))))
def ag : Tr Plf := (
 .split x2 x3 (
 .split x5 (
 .leaf (.next 1 [(.upd u0 u2 0 T0), u1, x9, PC, u4, u5, u6, u7, u8])) x3))
def fP : Tr Plf := (
 .leaf (.next 1 ([u0, u1, u2, PC] ++ us 4 5)))
def Zw : SE := (.sub u0 (.c 0) u2)
def gr : Tr Plf := (
 .split (.lss (.lenL Zw) u2) x3 (
 .leaf (.done 0 [(.sub Zw (.c 0) u2), u1])))
def SJ : SE := (.rcons (.c 0) (.rcons u16 (.rcons u17 (.rcons u18 (.rcons u19 (.rcons u20 x80))))))
def Yl : SE := (.app 37 (rl [(.c 0), (.sel (.app 26 SJ) 1), (.sel (.app 26 SJ) 2), u0, u1, u2, u3, u26]))
def Sk : SE := (.rcons (.c 0) (.rcons u21 (.rcons u22 (.rcons u23 (.rcons u24 (.rcons u25 R0))))))
def Zf : SE := (.app 37 (rl [(.c 0), (.sel (.app 26 Sk) 1), (.sel (.app 26 Sk) 2), u4, u5, u6, u7, u26]))
def ZO : SE := (.cell u2 u4 0)
def gE : SE := (.app 40 (rl [(.c 0), u0, u1, u9, u10, u11, u12, u5, u6, u7, u8, ZO]))
def Ls : SE := (.app 38 (.rcons (.c 0) (.rcons u0 (.rcons u1 (.rcons u2 (.rcons u3 (.rcons u4 (.rcons u5 (.rcons u6 (.rcons u7 (.rcons u8 (.rcons u9 (.rcons u10 (.rcons u11 (.rcons u12 (.rcons u13 (.rcons u14 (.rcons u15 (.rcons u16 (.rcons u17 (.rcons u18 (.rcons u19 (.rcons u20 (.rcons u21 (.rcons u22 (.rcons u23 (.rcons u24 (.rcons u25 UX))))))))))))))))))))))))))))
def cy : SE := (.eql (.sel Ls 0) (.c 1))
def YM : SE := (.app 41 (rl [(.c 0), u0, u1, u2, u3, (.sel Ls 1), (.sel Ls 2), u4, u5, u6, u7, (.sel Ls 3), (.sel Ls 4)]))
def Qg : SE := (.app 38 (.rcons (.c 0) (.rcons u0 (.rcons u1 (.rcons u2 (.rcons u3 (.rcons u4 (.rcons u5 (.rcons u6 (.rcons u7 (.rcons u8 (.rcons u9 (.rcons u10 (.rcons u11 (.rcons u12 (.rcons u13 (.rcons u14 (.rcons u15 (.rcons u16 (.rcons u17 (.rcons u18 (.rcons u19 (.rcons u20 (.rcons u21 (.rcons u22 (.rcons u23 (.rcons u24 (.rcons u25 Yv))))))))))))))))))))))))))))
def YO : SE := (.app 41 (rl [(.c 0), u4, u5, u6, u7, (.sel Qg 3), (.sel Qg 4), u0, u1, u2, u3, (.sel Qg 1), (.sel Qg 2)]))
def eB : SE := (.cell u5 u21 1)
def bi : Tr Plf := (
 .leaf (.done 0 [(.c 4), (.c 0)]))
def dI : Tr Plf := (
 .split (.lss u16 (.c 0)) x3 (
 .split (.lss u16 x82) (
 .split (.lss u21 (.c 0)) x3 (
 .split (.lss u21 x46) (
 .split (.cell u1 u16 1) (
 .split eB Wh bi) (
 .split eB bi Wh)) x3)) x3))
def Vr : SE := (.cell u6 u0 0)
def WR : SE := (.app 42 (rl ([(.c 0)] ++ us 0 26)))
def Y7 : SE := (.lss u5 u4)
def Yt : SE := (.lss u5 (.c 0))
def Yk : SE := (.lss u5 x77)
def VQ : SE := (.cell u2 u5 0)
def RY : SE := (.app 38 (.rcons (.c 0) (.rcons u6 (.rcons u7 (.rcons u8 (.rcons u9 (.rcons u10 (.rcons u11 (.rcons u12 (.rcons u13 (.rcons u14 (.rcons u15 (.rcons u16 (.rcons u17 (.rcons u18 (.rcons u19 (.rcons u20 (.rcons u21 (.rcons u25 (.rcons u26 (.rcons u27 (.rcons u28 (.rcons u29 (.rcons u30 (.rcons u31 (.rcons u32 (.rcons u33 (.rcons u34 Yv))))))))))))))))))))))))))))
def Jl : SE := (.cell u0 u7 0)
def SK : SE := (.app 30 (.rcons (.c 0) (.rcons u27 (.rcons u28 (.rcons u29 (.rcons u30 (.rcons u31 (.rcons u8 (.rcons u9 (.rcons u10 (.rcons u11 Yf)))))))))))
def R1 : SE := (.app 30 (rl ([(.c 0)] ++ us 32 5 ++ [u12, u13, u14, u15, Jl])))
def Vz : SE := (.app 35 (rl [(.c 0), u24, u25, u26, (.sel SK 1), (.sel SK 2), (.sel SK 3), (.sel SK 4), (.sel SK 5), (.sel R1 1), (.sel R1 2), (.sel R1 3), (.sel R1 4), (.sel R1 5)]))
def WC : SE := (.arith .add .i64 u7 (.c 1))
def aZ : SE := (.arith .add .i64 u6 (.c 1))
def Sb : SE := (.app 30 (rl ([(.c 0)] ++ us 27 5 ++ [u8, u9, u10, u11, Jl])))
def RT : SE := (.app 30 (.rcons (.c 0) (.rcons u32 (.rcons u33 (.rcons u34 (.rcons u35 (.rcons u36 (.rcons u12 (.rcons u13 (.rcons u14 (.rcons u15 Yf)))))))))))
def WV : SE := (.app 35 (rl [(.c 0), u24, u25, u26, (.sel Sb 1), (.sel Sb 2), (.sel Sb 3), (.sel Sb 4), (.sel Sb 5), (.sel RT 1), (.sel RT 2), (.sel RT 3), (.sel RT 4), (.sel RT 5)]))
def W5 : SE := (.app 35 (rl [(.c 0), u20, u21, u22, gB, gl, cu, ZH, fj, (.cell u1 u3 5), (.cell u1 u3 6), (.cell u1 u3 7), (.cell u1 u3 8), (.cell u1 u3 9)]))
def BK : SE := (.app 44 (rl [(.c 0), u3, u4, u5, u6, u7, u8, u9, u10, u11, u12, u13, u14, u15, u16, u17, u18, (.cell u19 u1 0), (.cell u19 u1 1), (.cell u19 u1 2), (.cell u19 u1 3), (.cell u19 u1 4), (.cell u19 u1 5), (.cell u19 u1 6), (.cell u19 u1 7), (.cell u19 u1 8), (.cell u19 u1 9), u19, u20, u21]))
def aT : Tr Plf := (
 .leaf (.done 0 [u19, u20, (.lss u0 (.lenL u19)), u3, u4, u5, u6, u7, u8, u9, u10, u11, u12, u13, u14, u15, u16, u17, u18]))
def TH : SE := (.app 32 (.rcons (.c 0) (.rcons (.snoc .emptyL (.rcons (.c 0) (.rcons (.c 0) (.rcons (.c 0) (.rcons (.c 0) x87))))) (.rcons (.bc false) (.rcons (.c 2000) x80)))))
def fI : Tr Plf := (
 .leaf (.done 0 [(.strc 0 0), .nilL, (.bc true), (.strc 0 0), .nilL, (.bc true), (.c 0), (.c 0), (.bc false), (.c 7)]))
def cK : SE := (.cell u2 u5 1)
def ew : SE := (.cell u2 u5 2)
def gG : SE := (.cell u2 u5 3)
def af : SE := (.cell u2 u5 4)
def QB : SE := (.app 34 (rl ([(.c 0)] ++ us 8 8 ++ [u6, u16, u7, u17, VQ, cK, ew, gG, af])))
def ei : SE := (.arith .add .i64 u5 (.c 1))
def KO : SE := (.app 45 (.rcons (.c 0) (.rcons u0 (.rcons u1 (.rcons (.c 4000) (.rcons u8 (.rcons u9 (.rcons u10 (.rcons u11 (.rcons u12 (.rcons u13 (.rcons u14 (.rcons u15 (.rcons (.strc 0 0) (.rcons .nilL (.rcons (.bc true) (.rcons (.strc 0 0) (.rcons .nilL (.rcons (.bc true) (.rcons (.c 0) x87))))))))))))))))))))
def Of : Tr Plf := (
 .split (.eql (.sel (.app 0 x87) 0) (.c 1)) x11 x3)
def YW : SE := (rl [(.c 0), u2, u3, u4, u5])
def KN : SE := (.app 8 YW)
def gK : SE := (.cell u5 u0 0)
def Vy : SE := (.app 46 (.rcons (.c 0) (.rcons u1 (.rcons u2 (.rcons u3 (.rcons u4 cz))))))
def Wt : Tr Plf := (
 .leaf (.next 5 ([u0, x17] ++ us 2 8)))
def ij : Tr Plf :=
 .leaf (.done 0 [])
def t0 : List (Tr Plf) := [ij]
def iB : Tr Plf :=
 .split (.lss x0 (.c 1)) x1 (
 .split (.lss (.c 32) x0) x1 (
 .leaf (.next 1 [(.bytes u0), (.lenL (.bytes u0)), (.c 0)])))
def g6 : Tr Plf :=
 .split (.lss u2 u1) (
 .split x2 x3 (
 .split x5 (
 .split (.lss x7 (.c 97)) (
 .split (.lss x7 (.c 65)) (
 .split x8 x1 (
 .split (.lss x7 (.c 48)) x1 (
 .split (.lss (.c 57) x7) x1 x10))) (
 .split (.lss (.c 90) x7) (
 .split x8 x1 (
 .split (.eql x7 (.c 95)) x10 x1)) x10)) (
 .split (.lss (.c 122) x7) (
 .split x8 x1 x1) x10)) x3)) x11
def t1 : List (Tr Plf) := [iB, g6]
def hZ : Tr Plf :=
 .leaf x12
def ip : Tr Plf :=
 .split x13 x18 x19
def t2 : List (Tr Plf) := [hZ, ip]
def iA : Tr Plf :=
 .split x20 x21 x23
def iG : Tr Plf :=
 .split x24 (
 .split x14 x3 (
 .split x26 (
 .split (.eql (.sel x28 0) (.c 1)) (
 .split (.sel x28 1) (
 .split (.eql (.sel x29 0) (.c 1)) (
 .split (.lss (.sel x29 1) u1) x16 (
 .split (.lss x30 (.c 1)) x16 (
 .split (.lss (.c 1000) x30) x16 x31))) x3) x16) x3) x3)) x19
def t3 : List (Tr Plf) := [iA, iG]
def iN : Tr Plf :=
 .leaf x12
def ib : Tr Plf :=
 .split x13 x18 x19
def t4 : List (Tr Plf) := [iN, ib]
def iQ : Tr Plf :=
 .split x20 x21 x23
def iD : Tr Plf :=
 .split x24 (
 .split x14 x3 (
 .split x33 (
 .split (.eql (.sel x35 0) (.c 1)) (
 .split (.sel x35 1) (
 .split (.eql (.sel x36 0) (.c 1)) (
 .split (.lss (.sel x36 1) u1) x16 (
 .split (.lss x37 (.c 0)) x16 (
 .split (.lss (.c 1048576) x37) x16 x31))) x3) x16) x3) x3)) x19
def t5 : List (Tr Plf) := [iQ, iD]
def jd : Tr Plf :=
 .leaf (.next 1 ([u0, (.c 0)] ++ us 1 9))
def iq : Tr Plf :=
 .split x13 (
 .split x14 x3 (
 .split (.and (.eqSS u2 x15) (.and (.eqSS u3 x38) (.and (.eql u4 x39) (.and (.eqSS u5 x40) (.and (.eqSS u6 x41) (.and (.eqSS u7 x42) (.and (.eql u8 x43) (.and (.eql u9 x44) (.eql u10 x45))))))))) x16 (
 .leaf (.next 1 ([u0, x17] ++ us 2 9))))) x19
def t6 : List (Tr Plf) := [jd, iq]
def ii : Tr Plf :=
 .split x20 x21 x23
def i5 : Tr Plf :=
 .split x24 (
 .split x14 x3 (
 .split (.lss u1 x46) (
 .split (.eql x47 (.c 1)) x73 (
 .split (.eql x47 (.c 2)) x73 (
 .split (.eql x47 (.c 3)) (
 .split x50 (
 .split x53 (
 .split x54 x16 (
 .split x57 (
 .split x58 x16 (
 .split x59 x3 (
 .split x66 (
 .split x67 (
 .split x68 (
 .split (.lss (.c 0) (.cell u3 (.sel x49 1) 2)) x74 x16) x3) x16) x3))) x3)) x3) x3) (
 .split (.eql x47 (.c 4)) (
 .split x50 (
 .split x53 (
 .split x54 x16 (
 .split x57 (
 .split x58 x16 (
 .split x59 x3 (
 .split x66 (
 .split x67 (
 .split x68 x74 x3) x16) x3))) x3)) x3) x3) (
 .split x50 (
 .split x53 x16 x3) x3))))) x3)) x19
def t7 : List (Tr Plf) := [ii, i5]
def ir : Tr Plf :=
 .split x76 (
 .split (.sel (.app 1 x75) 1) (
 .split (.eql (.sel x81 0) (.c 1)) (
 .split (.lss (.sel x81 1) (.c 0)) (
 .split (.eql (.sel x83 0) (.c 1)) (
 .split (.lss (.sel x83 1) (.c 0)) (
 .split (.eql (.sel x84 0) (.c 1)) (
 .split (.lss (.sel x84 1) (.c 0)) (
 .leaf (.next 1 [u1, (.c 0), u0, u2, u3, .nilL, (.bc true)])) x85) x3) x85) x3) x85) x3) x85) x3
def iZ : Tr Plf :=
 .split x13 (
 .split x14 x3 (
 .split (.lss x46 x86) (
 .leaf (.next 1 [u0, x17, u2, u3, u4, (.snoc u5 (rl [x15, x15])), (.bc false)])) x3)) (
 .leaf (.next 2 [u3, (.c 0), u5, u6, .nilL, (.bc true)]))
def g9 : Tr Plf :=
 .split x13 (
 .split x14 x3 (
 .split (.lss x25 x86) (
 .leaf (.next 2 [u0, x17, u2, u3, (.snoc u4 (.rcons x15 (.rcons x15 x87))), (.bc false)])) x3)) (
 .leaf (.done 0 [u2, u3, u4, u5, (.c 0)]))
def t8 : List (Tr Plf) := [ir, iZ, g9]
def iK : Tr Plf :=
 .split (.lss x0 (.c 1)) x1 (
 .split (.lss (.c 32) x0) x1 (
 .split (.eql x88 (.c 95)) x1 (
 .split (.lss x88 (.c 48)) x89 (
 .split (.lss (.c 57) x88) x89 x1))))
def ic : Tr Plf :=
 .split (.lss u1 x0) (
 .split x14 x3 (
 .split (.lss x90 (.c 97)) (
 .split (.lss x90 (.c 65)) (
 .split (.lss x90 (.c 48)) x1 (
 .split (.lss (.c 57) x90) x1 x91)) (
 .split (.lss (.c 90) x90) (
 .split (.eql x90 (.c 95)) x91 x1) x91)) (
 .split (.lss (.c 122) x90) x1 x91))) x11
def t9 : List (Tr Plf) := [iK, ic]
def Z0 : Tr Plf :=
 .leaf x92
def aq : Tr Plf :=
 .split x26 (
 .split x14 x3 (
 .split (.eqSS x27 u0) x16 x31)) x19
def t10 : List (Tr Plf) := [Z0, aq]
def fU : Tr Plf :=
 .leaf x92
def eO : Tr Plf :=
 .split x33 (
 .split x14 x3 (
 .split (.eqSS x34 u0) x16 x31)) x19
def t11 : List (Tr Plf) := [fU, eO]
def cM : Tr Plf :=
 .split x93 x3 (
 .split (.lss u4 x32) (
 .split (.eql (.sel x95 0) (.c 1)) (
 .split (.lss (.sel x95 1) (.c 0)) x1 (
 .split (.eql (.sel x97 0) (.c 1)) (
 .split (.lss (.sel x97 1) (.c 0)) x1 (
 .split (.eqS x98 0 0) (
 .split (.eql x99 (.c 0)) (
 .split (.eql TL (.c 0)) (
 .split (.eql RW (.c 0)) eC x1) x1) x1) (
 .split (.eql (.sel W3 0) (.c 1)) (
 .split (.lss (.sel W3 1) (.c 0)) x1 (
 .split (.lss x99 (.c 0)) x1 (
 .split (.lss TL x99) x1 (
 .split (.lss (.sel W3 1) x77) (
 .split (.lss fR TL) x1 (
 .split (.lss RW (.c (-1000))) x1 (
 .split (.lss (.c 1000) RW) x1 (
 .split (.lss (.arith .add .i64 x99 RW) (.c 0)) x1 (
 .split (.lss fR (.arith .add .i64 TL RW)) x1 eC))))) x3)))) x3))) x3)) x3) x3)
def aP : Tr Plf :=
 .split (.lss u2 u0) (
 .split x2 x3 (
 .split (.lss u2 S8) (
 .split (.and (.eqSS (.cell u6 u2 0) u7) (.and (.eqSS (.cell u6 u2 1) u8) (.and (.eql (.cell u6 u2 2) u9) (.and (.eqSS (.cell u6 u2 3) u10) (.and (.eqSS (.cell u6 u2 4) u11) (.and (.eqSS (.cell u6 u2 5) u12) (.and (.eql (.cell u6 u2 6) u13) (.and (.eql (.cell u6 u2 7) u14) (.eql (.cell u6 u2 8) u15))))))))) x1 (
 .leaf (.next 1 ([u0, u1, x9] ++ us 3 13)))) x3)) (
 .split (.eql u9 (.c 1)) fg (
 .split (.eql u9 (.c 2)) fg (
 .split (.eql u9 (.c 3)) (
 .split (.eqS u10 0 0) (
 .split (.eqS u11 0 0) (
 .split x14 x3 (
 .split x26 (
 .leaf (.done 0 [(.lss (.c 0) (.cell u4 u1 2))])) x3)) x1) x1) (
 .split (.eql u9 (.c 4)) (
 .split (.eqS u10 0 0) (
 .leaf (.done 0 [(.eqS u11 0 0)])) x1) x1))))
def t12 : List (Tr Plf) := [cM, aP]
def gv : Tr Plf :=
 .split (.eql (.sel (.app 9 x75) 0) (.c 1)) (
 .split (.sel (.app 9 x75) 1) (
 .split (.lss (.c 4) x77) (
 .leaf (.done 0 [(.c 4), (.c 291)])) (
 .leaf (.next 1 [(.c 0), u0, u1, u2, u3]))) (
 .leaf (.done 0 [(.c 0), (.c 290)]))) x3
def fq : Tr Plf :=
 .split (.lss u0 x32) (
 .split Sz x3 (
 .split (.eql (.sel dg 0) (.c 1)) (
 .split (.sel dg 1) (
 .split (.eql (.sel dn 0) (.c 1)) (
 .split (.eql (.sel dn 1) u0) (
 .split (.lss ce (.c 1)) VP (
 .split (.lss (.c 1000) ce) VP (
 .leaf (.next 1 [SF, u1, u2, u3, u4])))) VP) x3) VP) x3)) (
 .split (.eql x77 (.c 0)) (
 .leaf (.done 0 [(.c 0), (.c 292)])) (
 .split (.lss (.c 24) x77) (
 .leaf (.done 0 [(.c 24), (.c 292)])) (
 .leaf (.next 2 [(.c 0), u1, u2, u3, u4]))))
def be : Tr Plf :=
 .split (.lss u0 x77) (
 .split Sz x3 (
 .split (.eql (.sel ff 0) (.c 1)) (
 .split (.sel ff 1) (
 .split (.eql (.sel de 0) (.c 1)) (
 .split (.eql (.sel de 1) u0) (
 .split (.lss bN (.c 0)) V2 (
 .split (.lss (.c 1048576) bN) V2 (
 .leaf (.next 2 [SF, u1, u2, u3, u4])))) V2) x3) V2) x3)) (
 .split (.lss (.c 80) x25) (
 .leaf (.done 0 [(.c 80), (.c 293)])) (
 .leaf (.next 3 [(.c 0), u1, u2, u3, u4])))
def bQ : Tr Plf :=
 .split (.lss u0 x25) (
 .split (.eql (.sel aa 0) (.c 1)) (
 .split (.sel aa 1) (
 .leaf (.next 3 [SF, u1, u2, u3, u4])) (
 .leaf (.done 0 [u0, (.c 293)]))) x3) Wh
def t13 : List (Tr Plf) := [gv, fq, be, bQ]
def bA : Tr Plf :=
 .leaf x12
def fK : Tr Plf :=
 .split x13 x18 x19
def t14 : List (Tr Plf) := [bA, fK]
def gj : Tr Plf :=
 .leaf x12
def eG : Tr Plf :=
 .split x13 x18 x19
def t15 : List (Tr Plf) := [gj, eG]
def bj : Tr Plf :=
 .split x76 (
 .split (.sel (.app 1 x75) 1) (
 .split (.eql (.sel x81 0) (.c 1)) (
 .split (.lss (.sel x81 1) (.c 0)) (
 .split (.eql (.sel x83 0) (.c 1)) (
 .split (.lss (.sel x83 1) (.c 0)) (
 .split (.eql (.sel x84 0) (.c 1)) (
 .split (.lss (.sel x84 1) (.c 0)) (
 .split (.eql (.sel ek 0) (.c 1)) (
 .split (.sel ek 1) (
 .split (.eql (.sel eM 0) (.c 1)) (
 .split (.lss (.sel eM 1) (.c 0)) (
 .split (.eql (.sel aQ 0) (.c 1)) (
 .split (.lss (.sel aQ 1) (.c 0)) (
 .split (.eql (.sel f4 0) (.c 1)) (
 .split (.lss (.sel f4 1) (.c 0)) (
 .split (.lss (.c 24) P5) (
 .leaf (.done 0 [(.c 24), (.c 490)])) (
 .leaf (.next 1 [u0, u1, u2, u3, u4, u5, u6, u7, u8, u9, u10, u11, (.lss (.c 24) P5), (.c 0), .emptyL]))) N8) x3) N8) x3) N8) x3) N8) x3) N8) x3) N8) x3) N8) x3) N8) x3
def eV : Tr Plf :=
 .split (.lss u13 P5) (
 .split (.lss u13 (.c 0)) x3 (
 .split (.eql (.sel dx 0) (.c 1)) (
 .split (.lss (.sel dx 1) (.c 0)) YH (
 .split (.eql (.sel gO 0) (.c 1)) (
 .split (.lss (.sel gO 1) (.c 0)) YH (
 .split (.lss Yi (.c 0)) (
 .leaf (.next 1 [u0, u1, u2, u3, u4, u5, u6, u7, u8, u9, u10, u11, u12, dq, (.snoc u14 (.rcons Zk UX))])) (
 .split (.cell u14 Yi 1) YH (
 .leaf (.next 1 [u0, u1, u2, u3, u4, u5, u6, u7, u8, u9, u10, u11, u12, dq, (.upd u14 Yi 1 (.bc true))]))))) x3)) x3)) (
 .split (.lss (.c 4) Sd) (
 .leaf (.done 0 [(.c 4), (.c 491)])) (
 .leaf (.next 2 [u0, u1, u2, u3, u4, u5, u6, u7, u8, u9, u10, u11, u12, u13, (.lss u13 P5), (.lss (.c 4) Sd), (.c 0), .emptyL])))
def fF : Tr Plf :=
 .split (.lss u16 Sd) (
 .split (.lss u16 (.c 0)) x3 (
 .split (.eql (.sel di 0) (.c 1)) (
 .split (.lss (.sel di 1) (.c 0)) Nz (
 .split (.eqS e6 0 0) ca (
 .split (.eql (.sel dr 0) (.c 1)) (
 .split (.lss (.sel dr 1) (.c 0)) Nz ca) x3))) x3)) Wh
def t16 : List (Tr Plf) := [bj, eV, fF]
def ay : Tr Plf :=
 .split (.lss Zo (.c 0)) (
 .split R3 (
 .leaf (.done 0 [dO, (.bc false), (.snoc u2 (.rcons u3 (.rcons u4 (.rcons u5 (.rcons u6 (.rcons u7 UX))))))])) x3) (
 .split (.cell u2 Zo 5) cO (
 .split R3 (
 .leaf (.done 0 [dO, (.bc false), (.upd u2 Zo 5 (.bc true))])) x3))
def t17 : List (Tr Plf) := [ay]
def Z1 : Tr Plf :=
 .leaf (.next 1 [u0, u1, (.c 0), u2])
def eH : Tr Plf :=
 .split x5 (
 .split x2 x3 (
 .split (.eqSS x6 u3) x22 (
 .leaf (.next 1 [u0, u1, x9, u3])))) x19
def t18 : List (Tr Plf) := [Z1, eH]
def eh : Tr Plf :=
 .split (.lss (.c 4) x4) Lj (
 .leaf (.next 1 [u0, (.c 0), .nilL, (.bc true)]))
def f5 : Tr Plf :=
 .split x13 (
 .split x14 x3 (
 .split (.eqS x15 0 0) Lj (
 .split (.lss x38 (.c 1)) Lj (
 .split (.lss (.c 1000) x38) Lj (
 .split (.eql (.sel fO 0) (.c 1)) (
 .split (.lss (.sel fO 1) (.c 0)) (
 .split (.lss x77 x86) (
 .leaf (.next 1 [u0, x17, (.snoc u2 (.rcons x15 (.rcons x38 x87))), (.bc false)])) x3) Lj) x3))))) (
 .leaf (.done 1 [u2, u3]))
def t19 : List (Tr Plf) := [eh, f5]
def gP : Tr Plf :=
 .leaf (.done 0 [])
def t20 : List (Tr Plf) := [gP]
def gk : Tr Plf :=
 .split u0 (
 .split (.eql x32 x82) (
 .leaf (.next 1 [u3, (.c 0), u0, u1, u2])) (
 .leaf (.done 0 [(.c 2), u1]))) (
 .leaf (.done 0 [(.c 1), u1]))
def dj : Tr Plf :=
 .split x13 (
 .split x14 x3 (
 .split (.lss x15 (.c 0)) cA (
 .split x33 (
 .split (.lss (.cell u3 u1 1) x15) cA (
 .leaf (.next 1 [u0, x17, u2, u3, u4]))) x3))) (
 .leaf (.next 2 [u0, x4, (.c 0), u2, u3, u4]))
def f7 : Tr Plf :=
 .split (.lss u2 u1) (
 .split x2 x3 (
 .split x5 (
 .split (.lss u2 x25) (
 .leaf (.next 2 [u0, u1, x9, u3, (.upd u4 u2 2 x6), u5])) x3) x3)) (
 .leaf (.done 0 [(.c 0), u4]))
def t21 : List (Tr Plf) := [gk, dj, f7]
def aH : Tr Plf :=
 .split (.eql (.sel WI 0) (.c 1)) (
 .split Zh (
 .split (.eql (.sel (.app 20 (rl [(.c 0), .emptyL])) 0) (.c 1)) Lj x3) (
 .split ZC (
 .split (.eql (.sel (.app 20 (rl [(.c 0), VF])) 0) (.c 1)) Lj x3) (
 .split Zr (
 .split (.eql (.sel (.app 20 (rl [(.c 0), W0])) 0) (.c 1)) Lj x3) (
 .split YI (
 .split (.eql (.sel (.app 20 (rl [(.c 0), Wc])) 0) (.c 1)) Lj x3) (
 .split Yg (
 .split (.eql (.sel (.app 20 (rl [(.c 0), Zb])) 0) (.c 1)) Lj x3) x3))))) (
 .split (.eql (.sel WI 0) (.c 2)) (
 .split Zh (
 .split (.eql (.sel gy 0) (.c 1)) (
 .leaf (.done 1 [(.lenL Lx), Lw, (.sel gy 2)])) x3) (
 .split ZC (
 .split (.eql (.sel ac 0) (.c 1)) (
 .leaf (.done 1 [(.lenL Lx), Lw, (.sel ac 2)])) x3) (
 .split Zr (
 .split (.eql (.sel bu 0) (.c 1)) (
 .leaf (.done 1 [(.lenL Lx), Lw, (.sel bu 2)])) x3) (
 .split YI (
 .split (.eql (.sel eP 0) (.c 1)) (
 .leaf (.done 1 [(.lenL Lx), Lw, (.sel eP 2)])) x3) (
 .split Yg (
 .split (.eql (.sel cH 0) (.c 1)) (
 .leaf (.done 1 [(.lenL Lx), Lw, (.sel cH 2)])) x3) x3))))) x3)
def t22 : List (Tr Plf) := [aH]
def fV : Tr Plf :=
 .leaf (.done 0 [])
def t23 : List (Tr Plf) := [fV]
def fu : Tr Plf :=
 .split u0 (
 .split (.eql (.sel VW 0) (.c 1)) (
 .split (.lss (.sel VW 1) (.c 0)) (
 .leaf (.done 0 [(.c 0), (.c 9)])) (
 .split (.lss (.sel VW 1) x82) (
 .leaf (.done 0 [(.cell u1 (.sel VW 1) 2), (.c 0)])) x3)) x3) (
 .leaf (.done 0 [(.c 0), (.c 1)]))
def t24 : List (Tr Plf) := [fu]
def dK : Tr Plf :=
 .split u0 (
 .split (.eqS u8 0 0) (
 .leaf (.done 0 [(.bc true), (.c 0)])) (
 .split (.eql (.sel VH 0) (.c 1)) (
 .split (.eql (.sel VH 2) (.c 0)) (
 .split aI (
 .split (.lss O2 (.c 0)) x3 (
 .split (.lss O2 x82) (
 .split (.lss Vw u9) Za (
 .split (.lss u10 Vw) Za (
 .split (.lss u11 (.arith .sub .i64 (.c 0) Vw)) Za (
 .leaf (.done 0 [(.neg (.lss (.arith .sub .i64 (.cell u1 O2 1) Vw) u11)), (.c 0)]))))) x3)) x3) (
 .leaf (.done 0 [(.bc false), (.sel VH 2)]))) x3)) (
 .leaf (.done 0 [(.bc false), (.c 1)]))
def t25 : List (Tr Plf) := [dK]
def cS : Tr Plf :=
 .split ej (
 .leaf (.next 1 ([u8, (.c 0)] ++ us 0 8))) (
 .split bR (
 .leaf (.next 2 [.nilL, (.bc true), u8, (.c 0), u0, u1, u2, u3, u4, u5, u6, u7, (.sel J7 1), (.sel J7 2), (.sel J7 3)])) x3)
def aU : Tr Plf :=
 .split x13 (
 .split x14 x3 (
 .split (.eql (.sel (.app 23 (rl [(.c 0), x15, x38, x39, x40, x41, x42, x43, x44, x45])) 0) (.c 1)) (
 .leaf (.next 1 ([u0, x17] ++ us 2 8))) x3)) (
 .leaf (.done 0 [.nilL, (.bc true)]))
def cX : Tr Plf :=
 .split (.lss u3 x77) (
 .split S9 x3 (
 .split (.eql Zv u12) (
 .split (.eql (.sel ao 0) (.c 1)) (
 .split (.sel ao 1) (
 .split x93 x3 (
 .split (.lss u4 Sd) (
 .split (.eqSS fw (.cell u10 u4 0)) (
 .split R3 (
 .leaf (.next 2 [(.snoc u0 x78), (.bc false), u2, PC, u4, u5, u6, u7, u8, u9, u10, u11, Zv, u13, u14])) x3) gC) x3)) gC) x3) x3)) cN
def t26 : List (Tr Plf) := [cS, aU, cX]
def bE : Tr Plf :=
 .split (.eql (.sel (.app 23 dL) 0) (.c 1)) Lj x3
def t27 : List (Tr Plf) := [bE]
def ZG : Tr Plf :=
 .split (.eql (.sel (.app 25 Px) 0) (.c 1)) (
 .split (.eql (.sel (.app 25 Px) 2) (.c 0)) (
 .split (.sel (.app 25 Px) 1) (
 .split (.eqS u8 0 0) (
 .leaf (.done 0 [(.c 0), u1])) (
 .split aI (
 .split (.lss O2 (.c 0)) x3 (
 .split (.lss O2 x82) (
 .leaf (.done 0 [(.c 0), (.upd u1 O2 2 (.arith .add .i64 (.cell u1 O2 2) u11))])) x3)) x3)) (
 .leaf (.done 0 [(.c 8), u1]))) (
 .leaf (.done 0 [(.sel (.app 25 Px) 2), u1]))) x3
def t28 : List (Tr Plf) := [ZG]
def fG : Tr Plf :=
 .leaf (.next 1 [u2, u3, (.c 0), u0, u1])
def aA : Tr Plf :=
 .split x5 (
 .split x2 x3 (
 .split (.lss x32 x86) (
 .leaf (.next 1 [u0, u1, x9, (.snoc u3 (rl [JV])), (.bc false)])) x3)) (
 .leaf (.done 0 [u3, u4]))
def t29 : List (Tr Plf) := [fG, aA]
def fT : Tr Plf :=
 .split ej (
 .split (.lss u9 (.c 0)) x3 (
 .split (.lss u9 P5) (
 .split (.eql (.sel (.app 27 (.rcons (.c 0) bS)) 0) (.c 1)) (
 .split ap Ye x3) x3) x3)) (
 .split bR (
 .split (.lss u9 (.c 0)) x3 (
 .split (.lss u9 P5) (
 .split (.eql (.lenL (.sel J7 3)) (.sel J7 1)) (
 .split (.eql (.sel Ya 0) (.c 1)) (
 .split ap (
 .split (.sel J7 2) Ye (
 .split (.eql (.lenL (.sel J7 3)) Yw) (
 .split (.lss Yw (.c 1048576)) (
 .split (.eql (.sel fH 0) (.c 1)) (
 .split (.lss Tu (.c 4)) (
 .split (.eql Tu (.c 0)) Ye (
 .split (.eql Tu (.c 1)) (
 .leaf (.done 0 [Vd, Wv, (.c 0), (.c 0), (.c 0)])) (
 .split (.eql Tu (.c 2)) (
 .leaf (.done 0 [Vd, Wv, Zn, (.c 0), (.c 0)])) (
 .split (.eql Tu (.c 3)) (
 .leaf (.done 0 [Vd, Wv, Zn, (.cell Ve (.c 2) 0), (.c 0)])) x3)))) (
 .leaf (.done 0 [Vd, Wv, Zn, (.cell Ve (.c 2) 0), (.cell Ve (.c 3) 0)]))) x3) x3) x3)) x3) x3) x3) x3)) x3)
def t30 : List (Tr Plf) := [fT]
def f9 : Tr Plf :=
 .split (.eql (.sel WZ 0) (.c 1)) (
 .leaf (.next 1 [(.sel WZ 1), (.sel WZ 2), (.lenL (.sel WZ 1)), (.c 0), u5, u6, u7, u8, u9, u10, u11, u0, u1, u2, u3, u4])) x3
def cw : Tr Plf :=
 .split (.lss u3 u2) (
 .split S9 x3 (
 .split (.lss u3 x4) (
 .split (.eql (.sel Se 0) (.c 1)) (
 .split (.eql (.sel We 0) (.c 1)) (
 .leaf (.next 1 [u0, u1, u2, PC, (.sel We 1), (.sel We 2), (.sel We 3), u7, u8, u9, u10, u11, u12, u13, u14, u15])) x3) x3) x3)) (
 .leaf (.done 0 [u4, u5, u6]))
def t31 : List (Tr Plf) := [f9, cw]
def dC : Tr Plf :=
 .leaf (.next 1 [u2, u0, u1, (.c 0), u3, u4, u5, u6, .nilL, (.bc true), .emptyL])
def gN : Tr Plf :=
 .split (.lss u3 x82) (
 .split S9 x3 (
 .split (.eql (.sel VE 0) (.c 1)) (
 .leaf (.next 1 [u0, u1, u2, PC, u4, u5, u6, u7, (.sel VE 1), (.sel VE 2), (.sel VE 3)])) x3)) (
 .leaf (.next 2 ([u0, (.c 0), u1] ++ us 4 7)))
def ax : Tr Plf :=
 .split (.lss u1 LB) (
 .split x24 (
 .split x14 x3 (
 .split (.eql (.sel W8 0) (.c 1)) (
 .leaf (.next 2 [u0, x17, u2, u3, u4, u5, u6, (.sel W8 1), (.sel W8 2), (.sel W8 3)])) x3)) bh) bh
def t32 : List (Tr Plf) := [dC, gN, ax]
def gn : Tr Plf :=
 .leaf bI
def fY : Tr Plf :=
 .split x5 (
 .split x2 x3 (
 .split YN x3 (
 .split (.lss u7 x25) (
 .split (.eqSS x6 (.cell u4 u7 0)) x22 aC) x3))) x19
def t33 : List (Tr Plf) := [gn, fY]
def ZZ : Tr Plf :=
 .split (.eql (.sel WY 0) (.c 1)) (
 .split (.lss (.sel WY 1) (.c 0)) (
 .leaf (.done 0 [(.c 0), (.c 0), (.c 0), (.c 0), (.c 0), (.c 9)])) (
 .split (.lss (.sel WY 1) P5) (
 .split (.eql (.sel bb 0) (.c 1)) (
 .leaf (.next 1 [u10, u11, (.c 0), u8, u0, u1, u2, u3, u4, u5, u6, u7, u12, u13, u14, u15, u16, (.sel bb 1), (.c 0), (.c 0), (.c 0), (.c 0)])) x3) x3)) x3
def Z4 : Tr Plf :=
 .split x5 (
 .split x2 x3 (
 .split (.eql (.sel ZV 0) (.c 1)) (
 .split (.eql (.sel dA 0) (.c 1)) (
 .split (.lss UY (.c 0)) (
 .split (.lss JV (.c 0)) Lq (
 .split Ud x3 (
 .split Ty (
 .split (.lss TJ JV) Lq (
 .split Uj (
 .leaf (.next 1 ([u0, u1, x9] ++ us 3 15 ++ [JV, u19, u20, u21]))) (
 .split UV (
 .leaf (.next 1 ([u0, u1, x9] ++ us 3 16 ++ [JV, u20, u21]))) (
 .split Ti (
 .leaf (.next 1 ([u0, u1, x9] ++ us 3 17 ++ [JV, u21]))) (
 .split T3 (
 .leaf (.next 1 ([u0, u1, x9] ++ us 3 18 ++ [JV]))) x3))))) x3))) (
 .split (.eql UY (.c 0)) (
 .split (.lss Sj (.c 0)) Lq (
 .split Ud x3 (
 .split Ty (
 .split (.lss TJ Sj) Lq (
 .split Uj (
 .leaf (.next 1 ([u0, u1, x9] ++ us 3 15 ++ [Sj, u19, u20, u21]))) (
 .split UV (
 .leaf (.next 1 ([u0, u1, x9] ++ us 3 16 ++ [Sj, u20, u21]))) (
 .split Ti (
 .leaf (.next 1 ([u0, u1, x9] ++ us 3 17 ++ [Sj, u21]))) (
 .split T3 (
 .leaf (.next 1 ([u0, u1, x9] ++ us 3 18 ++ [Sj]))) x3))))) x3))) (
 .split (.eql UY (.c 1)) (
 .split (.lss R7 (.c 0)) Lq (
 .split Ud x3 (
 .split Ty (
 .split (.lss TJ R7) Lq (
 .split Uj (
 .leaf (.next 1 ([u0, u1, x9] ++ us 3 15 ++ [R7, u19, u20, u21]))) (
 .split UV (
 .leaf (.next 1 ([u0, u1, x9] ++ us 3 16 ++ [R7, u20, u21]))) (
 .split Ti (
 .leaf (.next 1 ([u0, u1, x9] ++ us 3 17 ++ [R7, u21]))) (
 .split T3 (
 .leaf (.next 1 ([u0, u1, x9] ++ us 3 18 ++ [R7]))) x3))))) x3))) (
 .split (.eql UY (.c 2)) (
 .split (.lss RQ (.c 0)) Lq (
 .split Ud x3 (
 .split Ty (
 .split (.lss TJ RQ) Lq (
 .split Uj (
 .leaf (.next 1 ([u0, u1, x9] ++ us 3 15 ++ [RQ, u19, u20, u21]))) (
 .split UV (
 .leaf (.next 1 ([u0, u1, x9] ++ us 3 16 ++ [RQ, u20, u21]))) (
 .split Ti (
 .leaf (.next 1 ([u0, u1, x9] ++ us 3 17 ++ [RQ, u21]))) (
 .split T3 (
 .leaf (.next 1 ([u0, u1, x9] ++ us 3 18 ++ [RQ]))) x3))))) x3))) (
 .split (.eql UY (.c 3)) (
 .split (.lss SX (.c 0)) Lq (
 .split Ud x3 (
 .split Ty (
 .split (.lss TJ SX) Lq (
 .split Uj (
 .leaf (.next 1 ([u0, u1, x9] ++ us 3 15 ++ [SX, u19, u20, u21]))) (
 .split UV (
 .leaf (.next 1 ([u0, u1, x9] ++ us 3 16 ++ [SX, u20, u21]))) (
 .split Ti (
 .leaf (.next 1 ([u0, u1, x9] ++ us 3 17 ++ [SX, u21]))) (
 .split T3 (
 .leaf (.next 1 ([u0, u1, x9] ++ us 3 18 ++ [SX]))) x3))))) x3))) x3))))) x3) x3)) (
 .leaf (.done 0 (us 17 5 ++ [(.c 0)])))
def t34 : List (Tr Plf) := [ZZ, Z4]
def gM : Tr Plf :=
 .split (.lss X5 (.c 0)) (
 .split R3 (
 .leaf (.done 0 [(.snoc u0 Zm), (.bc false), (.snoc u2 (.rcons u3 (.rcons u4 (.rcons u5 (.rcons u6 (.rcons u7 (.rcons u8 (.rcons u9 (.rcons u10 (.rcons u11 (.rcons u12 UX)))))))))))])) x3) (
 .split (.cell u2 X5 10) cO (
 .split R3 (
 .leaf (.done 0 [(.snoc u0 Zm), (.bc false), (.upd u2 X5 10 (.bc true))])) x3))
def t35 : List (Tr Plf) := [gM]
def ab : Tr Plf :=
 .leaf (.next 1 ([u0, u1, (.c 0)] ++ us 2 5))
def ZF : Tr Plf :=
 .split x5 (
 .split x2 x3 (
 .split (.lss x6 (.c 0)) x3 (
 .split (.lss x6 S8) (
 .split (.eql (.cell u6 x6 2) (.c 2)) (
 .split u7 eX x22) (
 .split u7 x22 eX)) x3))) x19
def t36 : List (Tr Plf) := [ab, ZF]
def dM : Tr Plf :=
 .split (.eql (.sel V8 0) (.c 1)) (
 .split (.eql (.sel V8 1) (.c (-1))) cN (
 .leaf (.next 1 [u0, u1, (.sel V8 1), (.arith .add .i64 (.sel V8 1) (.c 1)), u2, u3, u4, u5, u6]))) x3
def ZE : Tr Plf :=
 .split (.lss u3 x4) (
 .split S9 x3 (
 .split (.lss T0 (.c 0)) x3 (
 .split (.lss T0 LB) (
 .split (.eql (.cell u7 T0 2) (.c 2)) (
 .split u8 ag fP) (
 .split u8 fP ag)) x3))) (
 .split x2 x3 (
 .split (.lss x4 u2) x3 (
 .split (.lss x4 x4) x3 (
 .split (.eql x4 (.lenL Zw)) gr gr))))
def t37 : List (Tr Plf) := [dM, ZE]
def gV : Tr Plf :=
 .split (.eql (.sel (.app 26 SJ) 0) (.c 1)) (
 .split (.eql (.sel Yl 0) (.c 1)) (
 .split (.eql (.sel (.app 26 Sk) 0) (.c 1)) (
 .split (.eql (.sel Zf 0) (.c 1)) (
 .leaf (.done 0 [(.sel Yl 1), (.sel Yl 2), (.sel Zf 1), (.sel Zf 2)])) x3) x3) x3) x3
def t38 : List (Tr Plf) := [gV]
def eY : Tr Plf :=
 .leaf (.done 0 [u2, u3, u4])
def t39 : List (Tr Plf) := [eY]
def fB : Tr Plf :=
 .leaf bI
def df : Tr Plf :=
 .split x5 (
 .split x2 x3 (
 .split (.lss x6 (.c 0)) x3 (
 .split (.lss x6 S8) (
 .split (.lss u11 (.c 0)) x3 (
 .split (.lss u11 Sd) (
 .split (.and (.eql (.cell u6 x6 2) (.cell u10 u11 2)) (.and (.eqSS (.cell u6 x6 3) (.cell u10 u11 3)) (.eqSS (.cell u6 x6 4) (.cell u10 u11 4)))) x22 aC) x3)) x3))) x19
def t40 : List (Tr Plf) := [fB, df]
def gH : Tr Plf :=
 .leaf (.next 1 [u10, u11, u4, u5, (.c 0), u0, u1, u2, u3, u6, u7, u8, u9])
def ZM : Tr Plf :=
 .split (.lss u4 x77) (
 .split x93 x3 (
 .split (.eql (.sel gE 0) (.c 1)) (
 .split (.lss (.sel gE 1) (.c 0)) (
 .leaf (.done 0 [ZO, (.bc true)])) (
 .leaf (.next 1 [u0, u1, u2, u3, (.arith .add .i64 u4 (.c 1)), u5, u6, u7, u8, u9, u10, u11, u12]))) x3)) (
 .leaf (.done 0 [(.c 0), (.bc false)]))
def t41 : List (Tr Plf) := [gH, ZM]
def bt : Tr Plf :=
 .split cy (
 .split (.eql (.sel YM 0) (.c 1)) (
 .split (.sel YM 2) (
 .leaf (.done 0 [(.c 1), (.sel YM 1)])) (
 .split (.eql (.sel Qg 0) (.c 1)) (
 .split (.eql (.sel YO 0) (.c 1)) (
 .split (.sel YO 2) (
 .leaf (.done 0 [(.c 2), (.sel YO 1)])) (
 .split (.lss (.c 0) (.lenL (.sel Qg 1))) (
 .split (.eql (.lenL (.sel Qg 3)) (.c 0)) (
 .leaf (.done 0 [(.c 3), (.c 0)])) dI) dI)) x3) x3)) x3) x3
def t42 : List (Tr Plf) := [bt]
def bM : Tr Plf :=
 .split Sz x3 (
 .split (.lss u0 S8) (
 .split Zh (
 .leaf (.done 0 [Vr, .emptyL])) (
 .split ZC (
 .leaf (.done 0 [Vr, VF])) (
 .split Zr (
 .leaf (.done 0 [Vr, W0])) (
 .split YI (
 .leaf (.done 0 [Vr, Wc])) (
 .split Yg (
 .leaf (.done 0 [Vr, Zb])) x3))))) x3)
def t43 : List (Tr Plf) := [bM]
def fM : Tr Plf :=
 .split (.eql (.sel WR 0) (.c 1)) (
 .split (.eql (.sel WR 1) (.c 0)) (
 .split cy (
 .leaf (.next 1 [(.sel Ls 3), (.sel Ls 4), (.sel Ls 1), (.sel Ls 2), (.lenL (.sel Ls 1)), (.c 0), u0, u1, u2, u3, u4, u5, u6, u7, u8, u9, u10, u11, u12, u13, u14, u15, u26, u27, u28, u16, u17, u18, u19, u20, u21, u22, u23, u24, u25])) x3) (
 .split (.eql (.sel (.app 43 SJ) 0) (.c 1)) (
 .split (.eql (.sel (.app 43 Sk) 0) (.c 1)) (
 .leaf (.done 0 [(.bc true), u0, u1, u2, u3, u4, u5, u6, u7, (.sel (.app 43 SJ) 1), (.sel (.app 43 SJ) 2), (.bc false), (.sel (.app 43 Sk) 1), (.sel (.app 43 Sk) 2), (.bc false), (.sel WR 1), (.sel WR 2), u26, u27, u28])) x3) x3)) x3
def aO : Tr Plf :=
 .split Y7 (
 .split Yt x3 (
 .split Yk (
 .leaf (.next 2 ([u0, u1, VQ, u2, u3, u4, u5, (.c 0)] ++ us 6 29))) x3)) (
 .split (.eql (.sel RY 0) (.c 1)) (
 .leaf (.next 3 [(.sel RY 1), (.sel RY 2), (.sel RY 3), (.sel RY 4), (.lenL (.sel RY 3)), (.c 0), u6, u7, u8, u9, u10, u11, u12, u13, u14, u15, u16, u17, u18, u19, u20, u21, u22, u23, u24, u25, u26, u27, u28, u29, u30, u31, u32, u33, u34])) x3)
def eJ : Tr Plf :=
 .split (.lss u7 x4) (
 .split YN x3 (
 .split x2 x3 (
 .split (.lss u2 (.lenL u11)) (
 .split (.lss Jl (.c 0)) x3 (
 .split (.lss Jl (.lenL u15)) (
 .split (.and (.eql (.cell u11 u2 2) (.cell u15 Jl 2)) (.and (.eqSS (.cell u11 u2 3) (.cell u15 Jl 3)) (.eqSS (.cell u11 u2 4) (.cell u15 Jl 4)))) (
 .split (.eql (.sel SK 0) (.c 1)) (
 .split (.eql (.sel R1 0) (.c 1)) (
 .split (.eql (.sel Vz 0) (.c 1)) (
 .leaf (.next 2 [u0, u1, u2, u3, u4, u5, u6, WC, u8, u9, u10, u11, u12, u13, u14, u15, u16, u17, u18, u19, u20, u21, u22, u23, (.sel Vz 1), (.sel Vz 2), (.sel Vz 3), u27, u28, u29, u30, u31, u32, u33, u34, u35, u36])) x3) x3) x3) (
 .leaf (.next 2 (us 0 7 ++ [WC] ++ us 8 29)))) x3)) x3))) (
 .leaf (.next 1 ([u0, u1, u3, u4, u5, aZ] ++ us 8 29)))
def bl : Tr Plf :=
 .split Y7 (
 .split Yt x3 (
 .split Yk (
 .leaf (.next 4 ([u0, u1, VQ, u2, u3, u4, u5, (.c 0)] ++ us 6 29))) x3)) (
 .leaf (.done 0 ([(.bc false)] ++ us 6 19)))
def dz : Tr Plf :=
 .split (.lss u7 x4) (
 .split YN x3 (
 .split (.lss Jl (.c 0)) x3 (
 .split (.lss Jl (.lenL u11)) (
 .split x2 x3 (
 .split (.lss u2 (.lenL u15)) (
 .split (.and (.eql (.cell u11 Jl 2) (.cell u15 u2 2)) (.and (.eqSS (.cell u11 Jl 3) (.cell u15 u2 3)) (.eqSS (.cell u11 Jl 4) (.cell u15 u2 4)))) (
 .split (.eql (.sel Sb 0) (.c 1)) (
 .split (.eql (.sel RT 0) (.c 1)) (
 .split (.eql (.sel WV 0) (.c 1)) (
 .leaf (.next 4 [u0, u1, u2, u3, u4, u5, u6, WC, u8, u9, u10, u11, u12, u13, u14, u15, u16, u17, u18, u19, u20, u21, u22, u23, (.sel WV 1), (.sel WV 2), (.sel WV 3), u27, u28, u29, u30, u31, u32, u33, u34, u35, u36])) x3) x3) x3) (
 .leaf (.next 4 (us 0 7 ++ [WC] ++ us 8 29)))) x3)) x3))) (
 .leaf (.next 3 ([u0, u1, u3, u4, u5, aZ] ++ us 8 29)))
def t44 : List (Tr Plf) := [fM, aO, eJ, bl, dz]
def Z3 : Tr Plf :=
 .leaf (.next 1 ([u2, u0, u1, (.c 0)] ++ us 3 16 ++ [.nilL, (.bc true), .emptyL]))
def ae : Tr Plf :=
 .split (.lss u3 x82) (
 .split S9 x3 (
 .split (.eql (.sel W5 0) (.c 1)) (
 .leaf (.next 1 [u0, u1, u2, PC, u4, u5, u6, u7, u8, u9, u10, u11, u12, u13, u14, u15, u16, u17, u18, u19, (.sel W5 1), (.sel W5 2), (.sel W5 3)])) x3)) (
 .leaf (.next 2 ([u0, (.c 0), u1] ++ us 4 19)))
def fC : Tr Plf :=
 .split (.lss u1 (.lenL u19)) (
 .split x24 (
 .split x14 x3 (
 .split (.eql (.sel BK 0) (.c 1)) (
 .split (.sel BK 1) (
 .leaf (.done 0 [(.sel BK 18), (.sel BK 19), (.bc false), (.sel BK 2), (.sel BK 3), (.sel BK 4), (.sel BK 5), (.sel BK 6), (.sel BK 7), (.sel BK 8), (.sel BK 9), (.sel BK 10), (.sel BK 11), (.sel BK 12), (.sel BK 13), (.sel BK 14), (.sel BK 15), (.sel BK 16), (.sel BK 17)])) (
 .leaf (.next 2 [u0, x17, u2, (.sel BK 2), (.sel BK 3), (.sel BK 4), (.sel BK 5), (.sel BK 6), (.sel BK 7), (.sel BK 8), (.sel BK 9), (.sel BK 10), (.sel BK 11), (.sel BK 12), (.sel BK 13), (.sel BK 14), (.sel BK 15), (.sel BK 16), (.sel BK 17), (.sel BK 18), (.sel BK 19), (.sel BK 20)]))) x3)) aT) aT
def t45 : List (Tr Plf) := [Z3, ae, fC]
def dJ : Tr Plf :=
 .split (.eql (.sel (.app 16 Px) 0) (.c 1)) (
 .split (.eql (.sel (.app 16 Px) 2) (.c 0)) (
 .split (.eql (.sel TH 0) (.c 1)) (
 .split (.sel TH 3) fI (
 .leaf (.next 1 [.nilL, (.bc true), (.sel TH 1), (.sel TH 2), (.lenL (.sel TH 1)), (.c 0), u8, u10, u0, u1, u2, u3, u4, u5, u6, u7, u9, u11]))) x3) (
 .leaf (.done 0 [(.strc 0 0), .nilL, (.bc true), (.strc 0 0), .nilL, (.bc true), (.c 0), (.c 0), (.bc false), (.sel (.app 16 Px) 2)]))) x3
def bf : Tr Plf :=
 .split Y7 (
 .split Yt x3 (
 .split Yk (
 .split (.eql (.sel QB 0) (.c 1)) (
 .split (.eql (.sel QB 6) (.c 0)) (
 .split R3 (
 .leaf (.next 1 [(.snoc u0 (rl [VQ, cK, ew, gG, af, (.sel QB 1), (.sel QB 2), (.sel QB 3), (.sel QB 4), (.sel QB 5)])), (.bc false), u2, u3, u4, ei, u6, u7, u8, u9, u10, u11, u12, u13, u14, u15, u16, u17])) x3) (
 .leaf (.next 1 (us 0 5 ++ [ei] ++ us 6 12)))) x3) x3)) (
 .split (.eql (.sel KO 0) (.c 1)) (
 .split (.sel KO 3) fI (
 .leaf (.done 0 [(.sel KO 12), (.sel KO 13), (.sel KO 14), (.sel KO 15), (.sel KO 16), (.sel KO 17), (.sel KO 18), (.sel KO 19), (.eql (.sel KO 18) (.c 0)), (.c 0)]))) x3)
def t46 : List (Tr Plf) := [dJ, bf]
def ZQ : Tr Plf :=
 .leaf (.next 1 [(.c 0), (.c 0), u0, u1, u2, u3])
def aM : Tr Plf :=
 .split x26 (
 .split x14 x3 (
 .split (.lss x30 (.c 0)) (
 .leaf (.next 1 [(.arith .add .i64 u0 (.c 0)), x17, u2, u3, u4, u5])) (
 .split (.lss (.c 100) x30) (
 .leaf (.next 1 [(.arith .add .i64 u0 (.c 100)), x17, u2, u3, u4, u5])) (
 .leaf (.next 1 [(.arith .add .i64 u0 x30), x17, u2, u3, u4, u5]))))) (
 .split (.lss (.c 8) x32) Of (
 .split (.lss (.c 20) x46) Of (
 .split (.lss (.c 5) x25) Of (
 .split (.lss (.c 40) u0) Of (
 .split (.eql (.sel KN 0) (.c 1)) (
 .split (.eql (.sel (.app 13 YW) 0) (.c 1)) (
 .split (.eql (.sel (.app 13 YW) 2) (.c 0)) (
 .split (.eql (.sel KN 5) (.c 0)) (
 .split (.eql (.lenL (.sel KN 1)) x32) (
 .split (.eql (.lenL (.sel KN 3)) x25) (
 .leaf (.next 2 [(.c 0), u2, u3, u4, u5, (.sel KN 1), (.sel KN 2), (.sel KN 3), (.sel KN 4)])) x1) x1) x1) (
 .split (.eql (.lenL (.sel KN 1)) (.c 0)) (
 .split (.eql (.lenL (.sel KN 3)) (.c 0)) (
 .split (.eql (.sel KN 5) (.c 2)) Of x1) x1) x1)) x3) x3)))))
def aS : Tr Plf :=
 .split (.lss u0 x77) (
 .split Sz x3 (
 .split (.lss u0 x46) (
 .split (.and (.eqSS gK Wz) (.eqSS (.cell u5 u0 1) Wz)) (
 .leaf (.next 2 ([SF] ++ us 1 8))) x1) x3)) (
 .leaf (.next 3 ([(.c 0)] ++ us 1 8)))
def gS : Tr Plf :=
 .split (.lss u0 x32) (
 .split Sz x3 (
 .split (.lss u0 LB) (
 .split (.and (.eqSS (.cell u7 u0 0) Wg) (.and (.eqSS (.cell u7 u0 1) Wg) (.eql (.cell u7 u0 2) (.c 0)))) (
 .leaf (.next 3 ([SF] ++ us 1 8))) x1) x3)) (
 .leaf (.next 4 ([(.c 0)] ++ us 1 8)))
def fy : Tr Plf :=
 .split (.lss u0 x25) (
 .leaf (.next 5 ([u0, (.c 0)] ++ us 1 8))) (
 .split (.eql (.sel Vy 0) (.c 1)) (
 .split (.eql (.sel Vy 10) (.c 0)) (
 .split (.sel Vy 9) Of x1) (
 .split (.eql (.sel Vy 10) (.c 7)) Of x1)) x3)
def gT : Tr Plf :=
 .split x24 (
 .split Sz x3 (
 .split (.lss u0 x46) (
 .split x14 x3 (
 .split (.lss u1 x46) (
 .split (.eqSS gK x48) (
 .split (.eql (.cell u5 u0 2) x47) (
 .split (.eqSS (.cell u5 u0 3) x60) (
 .split (.eqSS (.cell u5 u0 4) x61) Of Wt) Wt) Wt) Wt) x3)) x3)) (
 .leaf (.next 4 ([SF] ++ us 2 8)))
def t47 : List (Tr Plf) := [ZQ, aM, aS, gS, fy, gT]
def ts : List (List (Tr Plf)) := [t0, t1, t2, t3, t4, t5, t6, t7, t8, t9, t10, t11, t12, t13, t14, t15, t16, t17, t18, t19, t20, t21, t22, t23, t24, t25, t26, t27, t28, t29, t30, t31, t32, t33, t34, t35, t36, t37, t38, t39, t40, t41, t42, t43, t44, t45, t46, t47]
end Ci

