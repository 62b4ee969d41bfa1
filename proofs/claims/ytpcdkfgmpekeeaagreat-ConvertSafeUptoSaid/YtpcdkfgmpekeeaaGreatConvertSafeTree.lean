/- What is stated: the trees of tests of the functions that the law ConvertSafe reaches, as data. Conditions: none. -/
import Derived.Test.YtpcdkfgmpekeeaaGreatBeF
set_option linter.unusedVariables false
set_option linter.unusedSectionVars false
set_option linter.unusedSimpArgs false
namespace Cs
open Go.AE
def u0 : SE := .var 0
def u1 : SE := .var 1
def u2 : SE := .var 2
def u3 : SE := .var 3
def u4 : SE := .var 4
def u5 : SE := .var 5
def u6 : SE := .var 6
def u7 : SE := .var 7
def u8 : SE := .var 8
def u9 : SE := .var 9
def u10 : SE := .var 10
def u11 : SE := .var 11
def u12 : SE := .var 12
def u13 : SE := .var 13
def u14 : SE := .var 14
def u15 : SE := .var 15
def u16 : SE := .var 16
def u17 : SE := .var 17
def u18 : SE := .var 18
def u19 : SE := .var 19
def u20 : SE := .var 20
def u21 : SE := .var 21
def u22 : SE := .var 22
def u23 : SE := .var 23
def u24 : SE := .var 24
def u25 : SE := .var 25
def u26 : SE := .var 26
def u27 : SE := .var 27
def u28 : SE := .var 28
def u29 : SE := .var 29
def u30 : SE := .var 30
def u31 : SE := .var 31
def u32 : SE := .var 32
def u33 : SE := .var 33
def u34 : SE := .var 34
def u35 : SE := .var 35
def u36 : SE := .var 36
def x0 : SE := (.lenS u0)
def x1 : Tr Plf := (
 .leaf (.done 0 [(.bc false)]))
def x2 : SE := (.lss u2 (.c 0))
def x3 : Tr Plf := (
 .leaf .stuck)
def x4 : SE := (.lenL u0)
def x5 : SE := (.lss u2 x4)
def x6 : SE := (.cell u0 u2 0)
def x7 : SE := (.conv .u8 x6)
def x8 : SE := (.eql u2 (.c 0))
def x9 : SE := (.arith .add .i64 u2 (.c 1))
def x10 : Tr Plf := (
 .leaf (.next 1 [u0, u1, x9]))
def x11 : Tr Plf := (
 .leaf (.done 0 [(.bc true)]))
def x12 : Plf := (.next 1 [u0, (.c 0), u1])
def x13 : SE := (.lss u1 x4)
def x14 : SE := (.lss u1 (.c 0))
def x15 : SE := (.cell u0 u1 0)
def x16 : Tr Plf := (
 .leaf (.done 0 [u1]))
def x17 : SE := (.arith .add .i64 u1 (.c 1))
def x18 : Tr Plf := (
 .split x14 x3 (
 .split (.eqSS x15 u2) x16 (
 .leaf (.next 1 [u0, x17, u2]))))
def x19 : Tr Plf := (
 .leaf (.done 0 [(.c (-1))]))
def x20 : SE := (.lss u0 u1)
def x21 : Tr Plf := (
 .leaf (.done 0 [(.c 0)]))
def x22 : SE := (.lss u2 u0)
def x23 : Tr Plf := (
 .leaf (.done 0 [u2]))
def x24 : Tr Plf := (
 .split x22 x23 (
 .leaf (.next 1 [u0, (.c 0), u3, u4, u5, u6])))
def x25 : SE := (.lss u1 u0)
def x26 : SE := (.lenL u4)
def x27 : SE := (.lss u1 x26)
def x28 : SE := (.cell u4 u1 0)
def x29 : SE := (.app 1 (rl [(.c 0), x28]))
def x30 : SE := (.app 2 (rl [(.c 0), u4, x28]))
def x31 : SE := (.cell u4 u1 1)
def x32 : Tr Plf := (
 .leaf (.next 1 [u0, x17, u2, u3, u4, u5]))
def x33 : SE := (.lenL u3)
def x34 : SE := (.lss u1 x33)
def x35 : SE := (.cell u3 u1 0)
def x36 : SE := (.app 1 (rl [(.c 0), x35]))
def x37 : SE := (.app 4 (rl [(.c 0), u3, x35]))
def x38 : SE := (.cell u3 u1 2)
def x39 : Plf := (.next 1 ([u0, (.c 0)] ++ us 1 9))
def x40 : SE := (.cell u0 u1 1)
def x41 : SE := (.cell u0 u1 2)
def x42 : SE := (.cell u0 u1 3)
def x43 : SE := (.cell u0 u1 4)
def x44 : SE := (.cell u0 u1 5)
def x45 : SE := (.cell u0 u1 6)
def x46 : SE := (.cell u0 u1 7)
def x47 : SE := (.cell u0 u1 8)
def x48 : Tr Plf := (
 .leaf (.next 1 ([u0, x17] ++ us 2 9)))
def x49 : SE := (.lenL u5)
def x50 : SE := (.cell u5 u1 2)
def x51 : SE := (.cell u5 u1 0)
def x52 : SE := (.app 4 (rl [(.c 0), u3, x51]))
def x53 : SE := (.eql (.sel x52 0) (.c 1))
def x54 : SE := (.cell u5 u1 5)
def x55 : SE := (.app 2 (rl [(.c 0), u4, x54]))
def x56 : SE := (.eql (.sel x55 0) (.c 1))
def x57 : SE := (.lss (.sel x52 1) (.c 0))
def x58 : SE := (.cell u5 u1 1)
def x59 : SE := (.app 4 (rl [(.c 0), u3, x58]))
def x60 : SE := (.eql (.sel x59 0) (.c 1))
def x61 : SE := (.lss (.sel x59 1) (.c 0))
def x62 : SE := (.lss x49 u1)
def x63 : SE := (.cell u5 u1 3)
def x64 : SE := (.cell u5 u1 4)
def x65 : SE := (.cell u5 u1 6)
def x66 : SE := (.cell u5 u1 7)
def x67 : SE := (.cell u5 u1 8)
def x68 : SE := (.app 6 (rl [(.c 0), (.sub u5 (.c 0) u1), x51, x58, x50, x63, x64, x54, x65, x66, x67]))
def x69 : SE := (.eql (.sel x68 0) (.c 1))
def x70 : SE := (.lss (.sel x68 1) (.c 0))
def x71 : SE := (.lss (.sel x52 1) x33)
def x72 : SE := (.app 1 (rl [(.c 0), x63]))
def x73 : SE := (.app 1 (rl [(.c 0), x64]))
def x74 : SE := (.cell u4 (.sel x55 1) 1)
def x75 : Tr Plf := (
 .split (.eqS x54 0 0) (
 .split (.eql x65 (.c 0)) (
 .split (.eql x66 (.c 0)) (
 .split (.eql x67 (.c 0)) x32 x16) x16) x16) (
 .split (.lss (.sel x55 1) (.c 0)) x16 (
 .split (.lss x65 (.c 0)) x16 (
 .split (.lss x66 x65) x16 (
 .split (.lss x67 (.c (-1000))) x16 (
 .split (.lss (.c 1000) x67) x16 (
 .split (.lss (.sel x55 1) x26) (
 .split (.lss x74 x66) x16 (
 .split (.lss (.arith .add .i64 x65 x67) (.c 0)) x16 (
 .split (.lss x74 (.arith .add .i64 x66 x67)) x16 x32))) x3)))))))
def x76 : Tr Plf := (
 .split x53 (
 .split x56 (
 .split x57 x16 (
 .split x60 (
 .split x61 x16 (
 .split x62 x3 (
 .split x69 (
 .split x70 (
 .split x71 (
 .split (.eql (.sel x72 0) (.c 1)) (
 .split (.sel x72 1) (
 .split (.eql (.sel x73 0) (.c 1)) (
 .split (.sel x73 1) (
 .split (.eqSS x64 u2) x16 x75) x16) x3) x16) x3) x3) x16) x3))) x3)) x3) x3)
def x77 : Tr Plf := (
 .split (.lss (.lenS x63) (.c 4611686018427387904)) (
 .split (.lss (.lenS x64) (.c 4611686018427387904)) (
 .split (.eqS (.strCat x63 x64) 0 0) x75 x16) x3) x3)
def x78 : SE := (rl [(.c 0), u0])
def x79 : SE := (.lenL u2)
def x80 : SE := (rl [u3])
def x81 : SE := (.rcons u1 (.rcons u2 x80))
def x82 : SE := (.rcons u0 x81)
def x83 : SE := (.app 3 (.rcons (.c 0) (.rcons x79 (.rcons (.c 0) (.rcons (.c 4) x82)))))
def x84 : SE := (.lenL u1)
def x85 : SE := (.app 5 (.rcons (.c 0) (.rcons x84 (.rcons (.c 1) (.rcons (.c 24) x82)))))
def x86 : SE := (.app 7 (.rcons (.c 0) (.rcons x33 (.rcons (.c 0) (.rcons (.c 80) x82)))))
def x87 : SE := (rl [u4])
def x88 : SE := (.app 1 (.rcons (.c 0) x87))
def x89 : SE := (.lenL u6)
def x90 : SE := (rl [u4, u5, u6, u7])
def x91 : SE := (.app 3 (.rcons (.c 0) (.rcons x89 (.rcons (.c 0) (.rcons (.c 4) x90)))))
def x92 : SE := (.app 5 (.rcons (.c 0) (.rcons x49 (.rcons (.c 1) (.rcons (.c 24) x90)))))
def x93 : SE := (.lenL u7)
def x94 : SE := (.app 7 (.rcons (.c 0) (.rcons x93 (.rcons (.c 0) (.rcons (.c 80) x90)))))
def x95 : SE := (.lenL u8)
def x96 : SE := (.lss (.c 24) x95)
def x97 : Tr Plf := (
 .leaf (.done 0 [(.c 24), (.c 490)]))
def x98 : Tr Plf := (
 .leaf (.done 0 [(.c 0), (.c 2)]))
def x99 : SE := (.lss u11 x95)
def dA : SE := (.lss u11 (.c 0))
def Qh : SE := (.cell u8 u11 0)
def bo : SE := (rl [Qh])
def gX : SE := (.app 8 (.rcons (.c 0) (.rcons u1 bo)))
def aQ : Tr Plf := (
 .leaf (.done 0 [u11, (.c 490)]))
def fu : SE := (.app 8 (rl [(.c 0), u5, (.cell u8 u11 1)]))
def cw : SE := (.mIdx [.str] u12 bo)
def XO : SE := (.arith .add .i64 u11 (.c 1))
def Qk : SE := (rl [(.bc true)])
def Tt : SE := (.lenL u9)
def mf : Tr Plf := (
 .leaf (.done 0 [(.c 4), (.c 491)]))
def dO : SE := (.cell u9 u14 0)
def om : SE := (.app 9 (rl [(.c 0), u6, dO]))
def Oq : Tr Plf := (
 .leaf (.done 0 [u14, (.c 491)]))
def gN : SE := (.cell u9 u14 1)
def dB : SE := (.mIdx [.str] u15 (rl [dO]))
def Qq : SE := (.cell u9 u14 2)
def YE : SE := (.arith .sub .i64 (.c 0) Qq)
def fA : SE := (.arith .add .i64 u14 (.c 1))
def kY : Tr Plf := (
 .split (.lss Qq (.c (-1000))) Oq (
 .leaf (.next 2 [u0, u1, u2, u3, u4, u5, u6, u7, u8, u9, u10, u11, u12, u13, fA, (.snoc u15 (.rcons dO Qk))])))
def lX : Tr Plf := (
 .split (.lss Qq (.c (-1000))) Oq (
 .leaf (.next 2 [u0, u1, u2, u3, u4, u5, u6, u7, u8, u9, u10, u11, u12, u13, fA, (.upd u15 dB 1 (.bc true))])))
def kH : Tr Plf := (
 .split (.lss dB (.c 0)) (
 .split (.lss Qq YE) (
 .split (.lss (.c 1000) YE) Oq kY) (
 .split (.lss (.c 1000) Qq) Oq kY)) (
 .split (.cell u15 dB 1) Oq (
 .split (.lss Qq YE) (
 .split (.lss (.c 1000) YE) Oq lX) (
 .split (.lss (.c 1000) Qq) Oq lX))))
def fC : SE := (.app 9 (rl [(.c 0), u2, gN]))
def Ra : Tr Plf := (
 .leaf (.done 0 [(.c 0), (.c 0)]))
def dn : SE := (.mIdx [(.int .i64), (.int .i64), (.int .i64), (.int .i64), (.int .i64)] u2 (.rcons u3 x90))
def J1 : SE := (.lss x4 (.c 1073741824))
def lI : SE := (.snoc u0 (.rcons u3 x90))
def gL : Tr Plf := (
 .leaf (.done 0 [u0, u1, u2]))
def Ll : Tr Plf := (
 .leaf (.done 0 []))
def mZ : SE := (.app 12 (rl [(.c 0), u2, u3, x15]))
def Xk : SE := (rl [(.c 0)])
def oH : Tr Plf := (
 .leaf (.done 0 [(.c 3), u3]))
def YJ : SE := (.app 13 (rl [(.c 0), u7]))
def dp : SE := (.eql x93 (.c 0))
def bD : SE := (.eql x93 (.c 1))
def YK : SE := (.snoc .emptyL (rl [u1]))
def bi : SE := (.eql x93 (.c 2))
def UF : SE := (rl [u2])
def XK : SE := (.snoc YK UF)
def dw : SE := (.eql x93 (.c 3))
def Va : SE := (.snoc XK x80)
def ck : SE := (.eql x93 (.c 4))
def lj : SE := (rl [(.snoc Va x87)])
def Ms : SE := (.sel YJ 1)
def Mn : SE := (.sel YJ 2)
def il : SE := (.app 15 (rl [(.c 0), (.bc true), Ms, Mn, .emptyL]))
def mT : SE := (.app 15 (rl [(.c 0), (.bc true), Ms, Mn, YK]))
def lN : SE := (.app 15 (rl [(.c 0), (.bc true), Ms, Mn, XK]))
def lK : SE := (.app 15 (rl [(.c 0), (.bc true), Ms, Mn, Va]))
def i9 : SE := (.app 15 (.rcons (.c 0) (.rcons (.bc true) (.rcons Ms (.rcons Mn lj)))))
def XX : SE := (.app 12 (.rcons (.c 0) x81))
def cS : SE := (rl [u8])
def mi : SE := (.rcons u1 (.rcons u2 cS))
def XB : SE := (.app 18 (.rcons (.c 0) (.rcons u0 mi)))
def mW : SE := (.app 12 (.rcons (.c 0) mi))
def j6 : SE := (.eql (.sel mW 0) (.c 1))
def RI : SE := (.sel mW 1)
def Xx : SE := (.sel XB 1)
def aK : Tr Plf := (
 .leaf (.done 0 [(.bc false), (.c 0)]))
def fq : SE := (.rcons (.c 0) (.rcons u0 (.rcons u1 (.rcons u2 (.rcons u3 (.rcons u4 (.rcons u5 (.rcons u6 (.rcons u7 cS)))))))))
def KO : SE := (.app 16 fq)
def lH : SE := (.eql (.sel KO 0) (.c 1))
def gt : SE := (.eql (.sel KO 0) (.c 2))
def Vr : SE := (.lss u3 (.c 0))
def Uk : SE := (.lenL u14)
def mY : SE := (.cell u2 u3 0)
def oP : SE := (.app 19 (rl [(.c 0), (.bc true), u14, u13, mY, (.cell u2 u3 1), (.cell u2 u3 2), (.cell u2 u3 3), (.cell u2 u3 4), (.cell u2 u3 5), (.cell u2 u3 6), (.cell u2 u3 7), (.cell u2 u3 8)]))
def OH : SE := (.lss u4 (.c 0))
def Qo : SE := (.lenL u10)
def Qs : SE := (.arith .add .i64 u3 (.c 1))
def ja : Tr Plf := (
 .leaf (.next 2 ([u0, u1, u2, Qs] ++ us 4 8 ++ [Uk, u13, u14])))
def TN : Tr Plf := (
 .leaf (.done 0 [u0, u1]))
def de : SE := (rl [u10, u11])
def li : SE := (.rcons u8 (.rcons u9 de))
def Zf : SE := (.app 19 (.rcons (.c 0) (.rcons u0 (.rcons u1 (.rcons u2 (.rcons u3 (.rcons u4 (.rcons u5 (.rcons u6 (.rcons u7 li))))))))))
def dH : SE := (.cell u0 u2 2)
def lP : Tr Plf := (
 .leaf (.done 0 [u3, u4]))
def gO : SE := (.cell u8 u9 1)
def gF : SE := (rl [(.cell u8 u9 0), gO, (.cell u8 u9 2), (.cell u8 u9 3), (.cell u8 u9 4), (.cell u8 u9 5), (.cell u8 u9 6), (.cell u8 u9 7), (.cell u8 u9 8)])
def mO : SE := (.app 8 (rl [(.c 0), u6, gO]))
def fN : SE := (.eql (.sel mO 0) (.c 1))
def U0 : SE := (.sel mO 1)
def aJ : Tr Plf := (
 .leaf (.done 0 [U0, (.c 0), (.c 0), (.c 0), (.c 0)]))
def dg : SE := (.app 22 (.rcons (.c 0) (.rcons (.bc true) (.rcons (.sel KO 3) (.rcons (.sel KO 2) gF)))))
def cA : SE := (.lenL (.sel dg 2))
def mq : SE := (.cat .emptyL (.sel dg 2))
def f8 : SE := (.app 23 (rl [(.c 0), .nilL, (.bc true), mq, (.and (.bc false) (.eql cA (.c 0)))]))
def UW : SE := (.lenL (.sel f8 1))
def N4 : SE := (rl [(.bc false)])
def V3 : SE := (.sel (.app 23 (.rcons (.c 0) (.rcons .nilL (.rcons (.bc true) (.rcons mq N4))))) 1)
def Yg : SE := (.cell V3 (.c 0) 0)
def bK : SE := (.cell V3 (.c 1) 0)
def Ze : SE := (.app 20 (.rcons (.c 0) (.rcons u0 (.rcons u1 (.rcons u2 (.rcons u3 (.rcons u4 li)))))))
def Xc : SE := (.cell u0 u3 0)
def To : SE := (.app 24 (rl ([(.c 0)] ++ us 11 5 ++ [u7, u8, u9, u10, Xc])))
def XD : SE := (.app 11 (rl [(.c 0), u4, u5, u6, (.sel To 1), (.sel To 2), (.sel To 3), (.sel To 4), (.sel To 5)]))
def e6 : SE := (.cell u1 u3 0)
def gU : SE := (.cell u1 u3 1)
def mM : SE := (.cell u1 u3 2)
def kC : SE := (.cell u1 u3 3)
def oY : SE := (.cell u1 u3 4)
def Y5 : SE := (.app 11 (rl [(.c 0), u8, u9, u10, e6, gU, mM, kC, oY]))
def ld : SE := (rl [u3, u4, u5, u6])
def XR : SE := (.app 25 (.rcons (.c 0) (.rcons (.cell u7 u1 0) (.rcons (.cell u7 u1 1) (.rcons (.cell u7 u1 2) (.rcons (.cell u7 u1 3) (.rcons (.cell u7 u1 4) (.rcons u7 (.rcons u8 (.rcons u9 ld))))))))))
def gv : Tr Plf := (
 .leaf (.done 0 [u7, u8, (.lss u0 x93)]))
def W3 : SE := (.lss u6 (.c 0))
def XN : SE := (.app 27 (rl ([(.c 0), u8, u0, u1, u2, u3] ++ us 10 5)))
def nH : SE := (.app 8 (rl [(.c 0), u5, (.cell u8 (.sel XN 1) 1)]))
def mV : SE := (.app 9 (rl [(.c 0), u8, x15]))
def lB : SE := (.app 9 (rl [(.c 0), u4, x40]))
def Vp : SE := (.sel lB 1)
def Ml : Tr Plf := (
 .leaf (.done 0 [(.c 0), (.c 0), (.c 0), (.c 0), (.c 0), (.c 3)]))
def Qd : SE := (.sel mV 1)
def Xh : SE := (.lss Qd (.c 0))
def UD : SE := (.lss Qd x95)
def Xl : SE := (.cell u8 Qd 1)
def VD : SE := (.eql Qd (.c 0))
def UA : SE := (.eql Qd (.c 1))
def UR : SE := (.eql Qd (.c 2))
def U3 : SE := (.eql Qd (.c 3))
def TG : SE := (.arith .add .i64 x41 u11)
def TQ : SE := (.arith .add .i64 x41 u12)
def Tz : SE := (.arith .add .i64 x41 u13)
def Up : SE := (.arith .add .i64 x41 u14)
def aW : SE := (rl (us 3 10))
def dj : SE := (.mIdx [(.int .i64), (.int .i64), (.int .i64), (.int .i64), (.int .i64), (.int .i64), (.int .i64), (.int .i64), (.int .i64), (.int .i64)] u2 aW)
def pB : Tr Plf := (
 .leaf (.next 1 ([u0, u1, x9] ++ us 3 5)))
def Y7 : SE := (.app 30 (.rcons (.c 0) (.rcons u0 (.rcons u1 (.rcons u2 ld)))))
def og : Tr Plf := (
 .split x2 x3 (
 .split x5 (
 .leaf (.next 1 [(.upd u0 u2 0 Xc), u1, x9, Qs, u4, u5, u6, u7, u8])) x3))
def oK : Tr Plf := (
 .leaf (.next 1 ([u0, u1, u2, Qs] ++ us 4 5)))
def cH : SE := (.sub u0 (.c 0) u2)
def gn : Tr Plf := (
 .split (.lss (.lenL cH) u2) x3 (
 .leaf (.done 0 [(.sub cH (.c 0) u2), u1])))
def Ul : SE := (.rcons (.c 0) (.rcons u16 (.rcons u17 (.rcons u18 (.rcons u19 (.rcons u20 x82))))))
def bB : SE := (.app 31 (rl [(.c 0), (.sel (.app 20 Ul) 1), (.sel (.app 20 Ul) 2), u0, u1, u2, u3, u26]))
def TX : SE := (.rcons (.c 0) (.rcons u21 (.rcons u22 (.rcons u23 (.rcons u24 (.rcons u25 x90))))))
def aL : SE := (.app 31 (rl [(.c 0), (.sel (.app 20 TX) 1), (.sel (.app 20 TX) 2), u4, u5, u6, u7, u26]))
def YQ : SE := (.lss u4 x79)
def Zk : SE := (.cell u2 u4 0)
def gA : SE := (.app 34 (rl [(.c 0), u0, u1, u9, u10, u11, u12, u5, u6, u7, u8, Zk]))
def T0 : SE := (.arith .add .i64 u4 (.c 1))
def Mk : SE := (.app 32 (.rcons (.c 0) (.rcons u0 (.rcons u1 (.rcons u2 (.rcons u3 (.rcons u4 (.rcons u5 (.rcons u6 (.rcons u7 (.rcons u8 (.rcons u9 (.rcons u10 (.rcons u11 (.rcons u12 (.rcons u13 (.rcons u14 (.rcons u15 (.rcons u16 (.rcons u17 (.rcons u18 (.rcons u19 (.rcons u20 (.rcons u21 (.rcons u22 (.rcons u23 (.rcons u24 (.rcons u25 Qk))))))))))))))))))))))))))))
def nF : SE := (.eql (.sel Mk 0) (.c 1))
def bQ : SE := (.app 35 (rl [(.c 0), u0, u1, u2, u3, (.sel Mk 1), (.sel Mk 2), u4, u5, u6, u7, (.sel Mk 3), (.sel Mk 4)]))
def Q5 : SE := (.app 32 (.rcons (.c 0) (.rcons u0 (.rcons u1 (.rcons u2 (.rcons u3 (.rcons u4 (.rcons u5 (.rcons u6 (.rcons u7 (.rcons u8 (.rcons u9 (.rcons u10 (.rcons u11 (.rcons u12 (.rcons u13 (.rcons u14 (.rcons u15 (.rcons u16 (.rcons u17 (.rcons u18 (.rcons u19 (.rcons u20 (.rcons u21 (.rcons u22 (.rcons u23 (.rcons u24 (.rcons u25 N4))))))))))))))))))))))))))))
def cV : SE := (.app 35 (rl [(.c 0), u4, u5, u6, u7, (.sel Q5 3), (.sel Q5 4), u0, u1, u2, u3, (.sel Q5 1), (.sel Q5 2)]))
def lR : Tr Plf := (
 .leaf (.done 0 [(.c 3), (.c 0)]))
def eT : SE := (.cell u5 u21 1)
def Y4 : Tr Plf := (
 .leaf (.done 0 [(.c 4), (.c 0)]))
def nD : Tr Plf := (
 .split (.lss u16 (.c 0)) x3 (
 .split (.lss u16 x84) (
 .split (.lss u21 (.c 0)) x3 (
 .split (.lss u21 x49) (
 .split (.cell u1 u16 1) (
 .split eT Ra Y4) (
 .split eT Y4 Ra)) x3)) x3))
def Mv : SE := (.lss u0 (.c 0))
def V0 : SE := (.cell u6 u0 0)
def X3 : SE := (.app 36 (rl ([(.c 0)] ++ us 0 26)))
def cX : SE := (.lss u5 u4)
def Vn : SE := (.lss u5 (.c 0))
def bC : SE := (.lss u5 x79)
def Zm : SE := (.cell u2 u5 0)
def Ua : SE := (.app 32 (.rcons (.c 0) (.rcons u6 (.rcons u7 (.rcons u8 (.rcons u9 (.rcons u10 (.rcons u11 (.rcons u12 (.rcons u13 (.rcons u14 (.rcons u15 (.rcons u16 (.rcons u17 (.rcons u18 (.rcons u19 (.rcons u20 (.rcons u21 (.rcons u25 (.rcons u26 (.rcons u27 (.rcons u28 (.rcons u29 (.rcons u30 (.rcons u31 (.rcons u32 (.rcons u33 (.rcons u34 N4))))))))))))))))))))))))))))
def Zd : SE := (.lss u7 (.c 0))
def W7 : SE := (.lenL u11)
def JX : SE := (.cell u0 u7 0)
def WE : SE := (.lenL u15)
def Uu : SE := (.app 24 (.rcons (.c 0) (.rcons u27 (.rcons u28 (.rcons u29 (.rcons u30 (.rcons u31 (.rcons u8 (.rcons u9 (.rcons u10 (.rcons u11 UF)))))))))))
def T2 : SE := (.app 24 (rl ([(.c 0)] ++ us 32 5 ++ [u12, u13, u14, u15, JX])))
def YW : SE := (.app 29 (rl [(.c 0), u24, u25, u26, (.sel Uu 1), (.sel Uu 2), (.sel Uu 3), (.sel Uu 4), (.sel Uu 5), (.sel T2 1), (.sel T2 2), (.sel T2 3), (.sel T2 4), (.sel T2 5)]))
def T7 : SE := (.arith .add .i64 u7 (.c 1))
def NK : SE := (.arith .add .i64 u6 (.c 1))
def Uo : SE := (.app 24 (rl ([(.c 0)] ++ us 27 5 ++ [u8, u9, u10, u11, JX])))
def Ux : SE := (.app 24 (.rcons (.c 0) (.rcons u32 (.rcons u33 (.rcons u34 (.rcons u35 (.rcons u36 (.rcons u12 (.rcons u13 (.rcons u14 (.rcons u15 UF)))))))))))
def X6 : SE := (.app 29 (rl [(.c 0), u24, u25, u26, (.sel Uo 1), (.sel Uo 2), (.sel Uo 3), (.sel Uo 4), (.sel Uo 5), (.sel Ux 1), (.sel Ux 2), (.sel Ux 3), (.sel Ux 4), (.sel Ux 5)]))
def YH : SE := (.app 29 (rl [(.c 0), u20, u21, u22, e6, gU, mM, kC, oY, (.cell u1 u3 5), (.cell u1 u3 6), (.cell u1 u3 7), (.cell u1 u3 8), (.cell u1 u3 9)]))
def cU : SE := (.lenL u19)
def BS : SE := (.app 38 (rl [(.c 0), u3, u4, u5, u6, u7, u8, u9, u10, u11, u12, u13, u14, u15, u16, u17, u18, (.cell u19 u1 0), (.cell u19 u1 1), (.cell u19 u1 2), (.cell u19 u1 3), (.cell u19 u1 4), (.cell u19 u1 5), (.cell u19 u1 6), (.cell u19 u1 7), (.cell u19 u1 8), (.cell u19 u1 9), u19, u20, u21]))
def g0 : Tr Plf := (
 .leaf (.done 0 [u19, u20, (.lss u0 cU), u3, u4, u5, u6, u7, u8, u9, u10, u11, u12, u13, u14, u15, u16, u17, u18]))
def bg : SE := (rl [u8, u9])
def cW : SE := (.app 10 (.rcons (.c 0) (.rcons u0 (.rcons u1 (.rcons u2 (.rcons u3 (.rcons u4 (.rcons u5 (.rcons u6 (.rcons u7 bg))))))))))
def dS : SE := (.rcons (.c 0) Xk)
def UE : SE := (.app 26 (.rcons (.c 0) (.rcons (.snoc .emptyL (.rcons (.c 0) (.rcons (.c 0) (.rcons (.c 0) dS)))) (.rcons (.bc false) (.rcons (.c 2000) x82)))))
def iw : Tr Plf := (
 .leaf (.done 0 [(.strc 0 0), .nilL, (.bc true), (.strc 0 0), .nilL, (.bc true), (.c 0), (.c 0), (.bc false), (.c 7)]))
def eC : SE := (.cell u2 u5 1)
def f7 : SE := (.cell u2 u5 2)
def ej : SE := (.cell u2 u5 3)
def ii : SE := (.cell u2 u5 4)
def Qm : SE := (.app 28 (rl ([(.c 0)] ++ us 6 10 ++ [Zm, eC, f7, ej, ii])))
def TA : SE := (.arith .add .i64 u5 (.c 1))
def jE : SE := (.rcons (.strc 0 0) (.rcons .nilL (.rcons (.bc true) (.rcons (.strc 0 0) (.rcons .nilL (.rcons (.bc true) dS))))))
def Kw : SE := (.app 39 (.rcons (.c 0) (.rcons u0 (.rcons u1 (.rcons (.c 4000) (.rcons u6 (.rcons u7 (.rcons u8 (.rcons u9 (.rcons u10 (.rcons u11 (.rcons u12 (.rcons u13 jE)))))))))))))
def dQ : SE := (.strAt u0 (.c 0))
def mP : Tr Plf := (
 .leaf (.next 1 [u0, (.c 0)]))
def QC : SE := (.strAt u0 u1)
def Yj : Tr Plf := (
 .leaf (.next 1 [u0, x17]))
def YO : Plf := (.next 1 [u4, (.c 0), u0, u1, u2, u3])
def g9 : Tr Plf := (
 .split x14 x3 (
 .split (.eqSS x28 u0) x16 x32))
def jZ : Tr Plf := (
 .split x14 x3 (
 .split (.eqSS x35 u0) x16 x32))
def kx : SE := (.cell u3 u4 0)
def bh : SE := (.app 43 (rl [(.c 0), u0, u1, u2, u3, kx]))
def my : SE := (.cell u3 u4 1)
def nr : SE := (.app 43 (rl [(.c 0), u0, u1, u2, u3, my]))
def bO : SE := (.cell u3 u4 5)
def VX : SE := (.cell u3 u4 6)
def Vm : SE := (.cell u3 u4 7)
def Uj : SE := (.cell u3 u4 8)
def hI : Tr Plf := (
 .leaf (.next 1 [u4, (.sel bh 1), (.c 0), u0, u1, u2, u3, kx, my, (.cell u3 u4 2), (.cell u3 u4 3), (.cell u3 u4 4), bO, VX, Vm, Uj]))
def YM : SE := (.app 42 (rl [(.c 0), u0, u1, u2, u3, bO]))
def lF : SE := (.cell u2 (.sel YM 1) 1)
def mS : SE := (.eqSS (.cell u6 u2 0) u7)
def jP : SE := (.cell u6 u2 5)
def nb : SE := (.cell u6 u2 6)
def pa : SE := (.cell u6 u2 7)
def aS : SE := (rl [u10])
def kf : SE := (.app 41 (.rcons (.c 0) aS))
def eW : SE := (.app 41 (rl [(.c 0), u11]))
def dY : Tr Plf := (
 .split (.eql (.sel kf 0) (.c 1)) (
 .split (.sel kf 1) (
 .split (.eql (.sel eW 0) (.c 1)) (
 .split (.sel eW 1) (
 .leaf (.done 0 [(.neg (.eqSS u11 u3))])) x1) x3) x1) x3)
def f9 : Tr Plf := (
 .leaf (.next 1 [(.c 0), u0, u1, u2, u3]))
def bj : SE := (.cell u3 u0 0)
def px : SE := (.app 41 (rl [(.c 0), bj]))
def f5 : SE := (.app 42 (rl [(.c 0), u1, u2, u3, u4, bj]))
def eE : SE := (.cell u3 u0 1)
def Yk : Tr Plf := (
 .leaf (.done 0 [u0, (.c 291)]))
def NW : SE := (.arith .add .i64 u0 (.c 1))
def oR : Tr Plf := (
 .leaf (.next 1 [NW, u1, u2, u3, u4]))
def bp : SE := (.cell u2 u0 0)
def fW : SE := (.app 41 (rl [(.c 0), bp]))
def iR : SE := (.app 43 (rl [(.c 0), u1, u2, u3, u4, bp]))
def lM : SE := (.cell u2 u0 2)
def YV : Tr Plf := (
 .leaf (.done 0 [u0, (.c 292)]))
def br : SE := (.lss u0 x26)
def jy : SE := (.app 44 (rl [(.c 0), u1, u2, u3, u4, u0]))
def fG : SE := (.app 45 (.rcons (.c 0) x82))
def jk : SE := (.app 45 (.rcons (.c 0) x90))
def nV : Tr Plf := (
 .leaf (.next 1 ([(.c 0)] ++ us 0 10)))
def kw : SE := (.app 46 (rl [(.c 0), u1, u2, u3, u4, (.cell u9 u0 0)]))
def nE : SE := (.app 46 (rl [(.c 0), u5, u6, u7, u8, (.cell u9 u0 1)]))
def XL : SE := (.cell u10 u0 0)
def mG : SE := (.app 47 (rl [(.c 0), u5, u6, u7, u8, XL]))
def VH : SE := (.cell u10 u0 1)
def Tj : SE := (.cell u10 u0 2)
def bX : Tr Plf := (
 .leaf (.next 4 ([u0, (.bc true), (.c 0)] ++ us 1 10 ++ [XL, VH, Tj])))
def gE : Tr Plf := (
 .split (.lss (.c 1000) Tj) bX (
 .leaf (.next 4 [u0, (.lss Tj (.c (-1000))), (.c 0), u1, u2, u3, u4, u5, u6, u7, u8, u9, u10, XL, VH, Tj])))
def fh : SE := (.app 47 (rl [(.c 0), u1, u2, u3, u4, VH]))
def XH : SE := (.app 47 (rl [(.c 0), u4, u5, u6, u7, (.cell u7 u2 5)]))
def py : Tr Plf := (
 .split J1 (
 .leaf (.next 1 [(.snoc u0 UF), (.bc false), x9, u3, u4, u5, u6, u7, u8, u9])) x3)
def pk : SE := (.cell u3 (.sel XH 1) 0)
def cO : Tr Plf := (
 .leaf (.next 1 ([u0, u1, x9] ++ us 3 7)))
def ln : SE := (.app 47 (rl [(.c 0), u0, u1, u2, u3, (.cell u3 u7 5)]))
def XZ : SE := (.sel ln 1)
def nL : SE := (.cell u3 u7 1)
def Px : SE := (.cat .nilL u5)
def Y3 : SE := (.eql x49 (.c 0))
def bE : SE := (.cell u1 u0 0)
def VT : SE := (.cell u0 u2 1)
def kR : SE := (.app 51 (rl [(.c 0), x6, VT, u4, u3, u5]))
def jO : SE := (.app 47 (rl [(.c 0), u0, u1, u2, u3, (.cell u3 u6 5)]))
def YF : SE := (.sel jO 1)
def po : SE := (.cell u3 u6 1)
def YX : SE := (.app 47 (rl [(.c 0), u3, u4, u5, u6, jP]))
def oh : Tr Plf := (
 .split J1 (
 .leaf (.next 1 [(.snoc u0 UF), (.bc false), x9, u3, u4, u5, u6, u7, u8])) x3)
def eY : SE := (.cell u8 (.sel YX 1) 0)
def bA : Tr Plf := (
 .leaf (.next 1 ([u0, u1, x9] ++ us 3 6)))
def di : SE := (.app 54 (rl [(.c 0), u3, u4, u5, u6, x6, VT]))
def Q7 : SE := (.app 53 (rl [(.c 0), u6, u7, u8, u9, x6, VT, (.cell u3 u5 0)]))
def lW : SE := (.app 52 (rl [(.c 0), u0, u1, (.sel Q7 1), (.sel Q7 2), (.sel Q7 3)]))
def nT : Tr Plf := (
 .leaf (.done 0 [.nilL, (.bc true), (.bc false)]))
def lL : SE := (.snoc u0 (rl [(.sel Q7 1), (.nilIs (.sel Q7 2) (.sel Q7 3))]))
def lJ : SE := (.app 46 (.rcons (.c 0) (.rcons u0 (.rcons u1 (.rcons u2 (.rcons u3 x87))))))
def Xn : SE := (.app 47 (rl [(.c 0), u5, u6, u7, u8, VH]))
def fS : SE := (.app 47 (rl [(.c 0), u1, u2, u3, u4, XL]))
def kO : SE := (.eql (.sel fS 0) (.c 1))
def Tw : SE := (.sel fS 1)
def gP : SE := (.app 56 (.rcons (.c 0) (.rcons u1 (.rcons u2 (.rcons u3 (.rcons u4 (.rcons u13 (.rcons u14 N4))))))))
def iH : SE := (.cell u2 u4 1)
def nf : SE := (.app 58 (rl [(.c 0), (.cell u0 u6 0), (.cell u0 u6 1), Zk, iH]))
def nZ : SE := (rl [(.cell u2 u4 2), (.cell u2 u4 3)])
def od : SE := (.app 58 (.rcons (.c 0) (.rcons (.cell u0 u6 2) (.rcons (.cell u0 u6 3) nZ))))
def Yc : SE := (.cell u0 u5 0)
def eN : Tr Plf := (
 .split (.lss x33 (.c 1073741824)) (
 .leaf (.next 1 [u0, u1, u2, (.snoc u3 (rl [Yc])), (.bc false), TA, u6, u7, u8, u9])) x3)
def i4 : Tr Plf := (
 .leaf (.next 1 (us 0 5 ++ [TA, u6, u7, u8, u9])))
def YA : SE := (.lss u4 x4)
def OO : SE := (.cell u0 u4 0)
def Vb : SE := (.cell u2 u6 0)
def kZ : Tr Plf := (
 .leaf (.next 2 (us 0 5 ++ [(.bc false), NK] ++ us 7 8)))
def QW : SE := (.app 54 (.rcons (.c 0) (.rcons u0 (.rcons u1 (.rcons u2 (.rcons u3 bg))))))
def kK : SE := (.eql (.sel QW 0) (.c 1))
def Qf : SE := (.app 54 (.rcons (.c 0) (.rcons u4 (.rcons u5 (.rcons u6 (.rcons u7 de))))))
def nY : SE := (.eql (.sel Qf 0) (.c 1))
def Vu : SE := (.app 60 (.rcons (.c 0) (.rcons u0 (.rcons u1 (.rcons u2 (.rcons u3 (.rcons (.sel QW 1) (.rcons (.sel QW 2) Qk))))))))
def ia : SE := (.eql (.sel Vu 0) (.c 1))
def W5 : SE := (.app 60 (.rcons (.c 0) (.rcons u4 (.rcons u5 (.rcons u6 (.rcons u7 (.rcons (.sel Qf 1) (.rcons (.sel Qf 2) Qk))))))))
def lp : SE := (.eql (.sel W5 0) (.c 1))
def dh : SE := (.app 61 (rl [(.c 0), u0, u1, u2, u3, (.sel Vu 1), (.sel Vu 2), u4, u5, u6, u7, (.sel W5 1), (.sel W5 2)]))
def Xp : SE := (.app 60 (.rcons (.c 0) (.rcons u4 (.rcons u5 (.rcons u6 (.rcons u7 (.rcons (.sel Qf 1) (.rcons (.sel Qf 2) N4))))))))
def X0 : SE := (.app 60 (.rcons (.c 0) (.rcons u0 (.rcons u1 (.rcons u2 (.rcons u3 (.rcons (.sel QW 1) (.rcons (.sel QW 2) N4))))))))
def be : SE := (.app 61 (rl [(.c 0), u4, u5, u6, u7, (.sel Xp 1), (.sel Xp 2), u0, u1, u2, u3, (.sel X0 1), (.sel X0 2)]))
def XV : SE := (.app 46 (.rcons (.c 0) (.rcons u0 (.rcons u1 (.rcons u2 (.rcons u3 cS))))))
def Xz : SE := (.app 46 (.rcons (.c 0) (.rcons u4 (.rcons u5 (.rcons u6 (.rcons u7 aS))))))
def mQ : SE := (.cell u5 (.sel Xz 1) 1)
def gj : Tr Plf := (
 .split (.eql (.sel XV 0) (.c 1)) (
 .split (.lss (.sel XV 1) (.c 0)) x3 (
 .split (.lss (.sel XV 1) x84) (
 .split (.eql (.sel Xz 0) (.c 1)) (
 .split (.lss (.sel Xz 1) (.c 0)) x3 (
 .split (.lss (.sel Xz 1) x49) (
 .split (.cell u1 (.sel XV 1) 1) (
 .split mQ Ra Y4) (
 .split mQ Y4 Ra)) x3)) x3) x3)) x3)
def bU : SE := (.app 60 (.rcons (.c 0) (.rcons u11 (.rcons u12 (.rcons u13 (.rcons u14 (.rcons u2 (.rcons u3 N4))))))))
def aM : SE := (.app 60 (.rcons (.c 0) (.rcons u15 (.rcons u16 (.rcons u17 (.rcons u18 (.rcons u4 (.rcons u5 N4))))))))
def Ur : SE := (.cell u6 u10 0)
def YR : SE := (.app 53 (rl [(.c 0), u12, u13, u14, u15, u20, u21, Ur]))
def YD : SE := (.app 53 (.rcons (.c 0) (.rcons u16 (.rcons u17 (.rcons u18 (.rcons u19 (.rcons u22 (.rcons u23 bo))))))))
def aZ : Tr Plf := (
 .leaf (.next 2 (us 0 11 ++ [XO] ++ us 12 12)))
def TS : SE := (.cell u2 u7 0)
def Th : SE := (.cell u4 u6 0)
def XQ : SE := (.app 53 (rl [(.c 0), u8, u9, u10, u11, u16, u17, TS]))
def Xm : SE := (.app 53 (rl [(.c 0), u12, u13, u14, u15, u18, u19, Th]))
def ci : Tr Plf := (
 .leaf (.next 4 (us 0 7 ++ [T7] ++ us 8 12)))
def YN : SE := (.app 55 (.rcons (.c 0) x82))
def lx : SE := (.cell u0 u4 1)
def VQ : SE := (.app 57 (rl [(.c 0), u9, u10, u11, u12, u5, u6, u7, u8, u13, u14, OO, lx]))
def dJ : SE := (.app 59 (.rcons (.c 0) (.rcons u2 (.rcons u3 (.rcons (.snoc .emptyL (rl [OO, lx, (.sel VQ 1), (.nilIs (.sel VQ 2) (.sel VQ 3))])) N4)))))
def fX : SE := (.cell u0 u2 3)
def Qp : SE := (rl ([(.c 0)] ++ us 3 8 ++ [x6, VT, dH, fX]))
def bY : SE := (.app 59 (rl [(.c 0), u0, u1, (.sel (.app 63 Qp) 1), (.sel (.app 63 Qp) 2)]))
def oU : Tr Plf := (
 .split (.lss (.c 4000) x4) (
 .leaf (.done 0 [(.c 7)])) x21)
def aX : SE := (.nilIs u1 u2)
def ny : SE := (.app 58 (rl [(.c 0), u0, aX, u8, (.nilIs u9 u10)]))
def aG : SE := (.nilIs u4 u5)
def mt : SE := (.app 58 (rl [(.c 0), u3, aG, u11, (.nilIs u12 u13)]))
def j5 : Tr Plf := (
 .split (.eql u6 u14) (
 .leaf (.done 0 [(.eql u7 u15)])) x1)
def kz : SE := (.app 51 (rl [(.c 0), u3, aG, u11, u12, u13]))
def fv : Tr Plf := (
 .split (.eql (.sel mt 0) (.c 1)) (
 .split (.sel mt 1) j5 x1) (
 .split (.eql (.sel kz 0) (.c 1)) (
 .split (.sel kz 1) j5 x1) x3))
def gc : SE := (.rcons u8 (.rcons u9 aS))
def ph : SE := (.app 51 (.rcons (.c 0) (.rcons u0 (.rcons aX gc))))
def iS : SE := (.app 58 (.rcons (.c 0) (.rcons u0 (.rcons aX bg))))
def eM : SE := (.app 58 (.rcons (.c 0) (.rcons u3 (.rcons aG de))))
def J2 : Tr Plf := (
 .split (.eql (.sel (.app 0 Xk) 0) (.c 1)) x11 x3)
def U6 : SE := (.rcons (.c 0) (.rcons u1 (.rcons u2 (.rcons u3 (.rcons u4 (.rcons u5 (.rcons u6 (.rcons u7 gc))))))))
def C5 : SE := (.app 40 U6)
def Lv : SE := (.app 64 U6)
def dz : SE := (.app 66 (.rcons (.c 0) (.rcons (.sel C5 1) (.rcons (.sel C5 2) (.rcons (.sel C5 3) (.rcons (.sel C5 4) (.rcons (.sel C5 5) (.rcons (.sel C5 6) (.rcons (.sel C5 7) (.rcons (.sel C5 8) (.rcons (.strc 0 0) (.rcons .nilL (.rcons (.strc 0 0) (.rcons .nilL dS))))))))))))))
def jx : SE := (.eql (.sel dz 0) (.c 1))
def XF : SE := (.sel C5 9)
def j8 : Tr Plf := (
 .split (.eql (.sel C5 10) (.sel Lv 1)) J2 x1)
def jQ : Tr Plf := (
 .split (.eql (.sel Lv 1) (.c 0)) (
 .split XF j8 x1) (
 .split XF x1 j8))
def bR : SE := (.app 65 (.rcons (.c 0) (.rcons (.sel C5 1) (.rcons (.sel C5 2) (.rcons (.sel C5 3) (.rcons (.sel C5 4) (.rcons (.sel C5 5) (.rcons (.sel C5 6) (.rcons (.sel C5 7) (.rcons (.sel C5 8) jE))))))))))
def ku : SE := (.eql (.sel bR 0) (.c 1))
def jG : SE := (.app 66 (rl [(.c 0), (.sel C5 1), (.sel C5 2), (.sel C5 3), (.sel C5 4), (.sel C5 5), (.sel C5 6), (.sel C5 7), (.sel C5 8), (.sel Lv 1), (.sel Lv 2), (.sel Lv 3), (.sel Lv 4), (.sel Lv 5), (.sel Lv 6)]))
def mU : SE := (.eql (.sel Lv 5) (.c 0))
def fY : Tr Plf := (
 .split (.eql (.sel C5 10) (.c 0)) J2 x1)
def hJ : Tr Plf := (
 .split XF x1 (
 .split (.eql (.sel C5 10) (.sel (.app 48 U6) 2)) J2 x1))
def cM : SE := (.cell u15 u1 1)
def eB : Tr Plf := (
 .leaf (.next 1 ([x9] ++ us 3 10)))
def pS : Tr Plf :=
 .leaf (.done 0 [])
def t0 : List (Tr Plf) := [pS]
def pH : Tr Plf :=
 .split (.lss x0 (.c 1)) x1 (
 .split (.lss (.c 32) x0) x1 (
 .leaf (.next 1 [(.bytes u0), (.lenL (.bytes u0)), (.c 0)])))
def qC : Tr Plf :=
 .split (.lss u2 u1) (
 .split x2 x3 (
 .split x5 (
 .split (.lss x7 (.c 97)) (
 .split (.lss x7 (.c 65)) (
 .split x8 x1 (
 .split (.lss x7 (.c 48)) x1 (
 .split (.lss (.c 57) x7) x1 x10))) (
 .split (.lss (.c 90) x7) (
 .split x8 x1 (
 .split (.eql x7 (.c 95)) x10 x1)) x10)) (
 .split (.lss (.c 122) x7) (
 .split x8 x1 x1) x10)) x3)) x11
def t1 : List (Tr Plf) := [pH, qC]
def pZ : Tr Plf :=
 .leaf x12
def pW : Tr Plf :=
 .split x13 x18 x19
def t2 : List (Tr Plf) := [pZ, pW]
def qv : Tr Plf :=
 .split x20 x21 x24
def qa : Tr Plf :=
 .split x25 (
 .split x14 x3 (
 .split x27 (
 .split (.eql (.sel x29 0) (.c 1)) (
 .split (.sel x29 1) (
 .split (.eql (.sel x30 0) (.c 1)) (
 .split (.lss (.sel x30 1) u1) x16 (
 .split (.lss x31 (.c 1)) x16 (
 .split (.lss (.c 1000) x31) x16 x32))) x3) x16) x3) x3)) x19
def t3 : List (Tr Plf) := [qv, qa]
def qg : Tr Plf :=
 .leaf x12
def qU : Tr Plf :=
 .split x13 x18 x19
def t4 : List (Tr Plf) := [qg, qU]
def qy : Tr Plf :=
 .split x20 x21 x24
def pG : Tr Plf :=
 .split x25 (
 .split x14 x3 (
 .split x34 (
 .split (.eql (.sel x36 0) (.c 1)) (
 .split (.sel x36 1) (
 .split (.eql (.sel x37 0) (.c 1)) (
 .split (.lss (.sel x37 1) u1) x16 (
 .split (.lss x38 (.c 0)) x16 (
 .split (.lss (.c 1048576) x38) x16 x32))) x3) x16) x3) x3)) x19
def t5 : List (Tr Plf) := [qy, pG]
def qI : Tr Plf :=
 .leaf x39
def qo : Tr Plf :=
 .split x13 (
 .split x14 x3 (
 .split (.and (.eqSS u2 x15) (.and (.eqSS u3 x40) (.and (.eql u4 x41) (.and (.eqSS u5 x42) (.and (.eqSS u6 x43) (.and (.eqSS u7 x44) (.and (.eql u8 x45) (.and (.eql u9 x46) (.eql u10 x47))))))))) x16 x48)) x19
def t6 : List (Tr Plf) := [qI, qo]
def qq : Tr Plf :=
 .split x20 x21 x24
def qT : Tr Plf :=
 .split x25 (
 .split x14 x3 (
 .split (.lss u1 x49) (
 .split (.eql x50 (.c 1)) x76 (
 .split (.eql x50 (.c 2)) x76 (
 .split (.eql x50 (.c 3)) (
 .split x53 (
 .split x56 (
 .split x57 x16 (
 .split x60 (
 .split x61 x16 (
 .split x62 x3 (
 .split x69 (
 .split x70 (
 .split x71 (
 .split (.lss (.c 0) (.cell u3 (.sel x52 1) 2)) x77 x16) x3) x16) x3))) x3)) x3) x3) (
 .split (.eql x50 (.c 4)) (
 .split x53 (
 .split x56 (
 .split x57 x16 (
 .split x60 (
 .split x61 x16 (
 .split x62 x3 (
 .split x69 (
 .split x70 (
 .split x71 x77 x3) x16) x3))) x3)) x3) x3) (
 .split x53 (
 .split x56 x16 x3) x3))))) x3)) x19
def t7 : List (Tr Plf) := [qq, qT]
def qt : Tr Plf :=
 .leaf x12
def qW : Tr Plf :=
 .split x13 x18 x19
def t8 : List (Tr Plf) := [qt, qW]
def pU : Tr Plf :=
 .leaf x12
def pE : Tr Plf :=
 .split x13 x18 x19
def t9 : List (Tr Plf) := [pU, pE]
def kL : Tr Plf :=
 .split (.eql (.sel (.app 1 x78) 0) (.c 1)) (
 .split (.sel (.app 1 x78) 1) (
 .split (.eql (.sel x83 0) (.c 1)) (
 .split (.lss (.sel x83 1) (.c 0)) (
 .split (.eql (.sel x85 0) (.c 1)) (
 .split (.lss (.sel x85 1) (.c 0)) (
 .split (.eql (.sel x86 0) (.c 1)) (
 .split (.lss (.sel x86 1) (.c 0)) (
 .split (.eql (.sel x88 0) (.c 1)) (
 .split (.sel x88 1) (
 .split (.eql (.sel x91 0) (.c 1)) (
 .split (.lss (.sel x91 1) (.c 0)) (
 .split (.eql (.sel x92 0) (.c 1)) (
 .split (.lss (.sel x92 1) (.c 0)) (
 .split (.eql (.sel x94 0) (.c 1)) (
 .split (.lss (.sel x94 1) (.c 0)) (
 .split x96 x97 (
 .leaf (.next 1 (us 0 10 ++ [x96, (.c 0), .emptyL])))) x98) x3) x98) x3) x98) x3) x98) x3) x98) x3) x98) x3) x98) x3) x98) x3
def jC : Tr Plf :=
 .split x99 (
 .split dA x3 (
 .split (.eql (.sel gX 0) (.c 1)) (
 .split (.lss (.sel gX 1) (.c 0)) aQ (
 .split (.eql (.sel fu 0) (.c 1)) (
 .split (.lss (.sel fu 1) (.c 0)) aQ (
 .split (.lss cw (.c 0)) (
 .leaf (.next 1 [u0, u1, u2, u3, u4, u5, u6, u7, u8, u9, u10, XO, (.snoc u12 (.rcons Qh Qk))])) (
 .split (.cell u12 cw 1) aQ (
 .leaf (.next 1 [u0, u1, u2, u3, u4, u5, u6, u7, u8, u9, u10, XO, (.upd u12 cw 1 (.bc true))]))))) x3)) x3)) (
 .split (.lss (.c 4) Tt) mf (
 .leaf (.next 2 [u0, u1, u2, u3, u4, u5, u6, u7, u8, u9, u10, u11, x99, (.lss (.c 4) Tt), (.c 0), .emptyL])))
def pb : Tr Plf :=
 .split (.lss u14 Tt) (
 .split (.lss u14 (.c 0)) x3 (
 .split (.eql (.sel om 0) (.c 1)) (
 .split (.lss (.sel om 1) (.c 0)) Oq (
 .split (.eqS gN 0 0) kH (
 .split (.eql (.sel fC 0) (.c 1)) (
 .split (.lss (.sel fC 1) (.c 0)) Oq kH) x3))) x3)) Ra
def t10 : List (Tr Plf) := [kL, jC, pb]
def nO : Tr Plf :=
 .split (.lss dn (.c 0)) (
 .split J1 (
 .leaf (.done 0 [lI, (.bc false), (.snoc u2 (.rcons u3 (.rcons u4 (.rcons u5 (.rcons u6 (.rcons u7 Qk))))))])) x3) (
 .split (.cell u2 dn 5) gL (
 .split J1 (
 .leaf (.done 0 [lI, (.bc false), (.upd u2 dn 5 (.bc true))])) x3))
def t11 : List (Tr Plf) := [nO]
def ly : Tr Plf :=
 .leaf (.next 1 [u0, u1, (.c 0), u2])
def gu : Tr Plf :=
 .split x5 (
 .split x2 x3 (
 .split (.eqSS x6 u3) x23 (
 .leaf (.next 1 [u0, u1, x9, u3])))) x19
def t12 : List (Tr Plf) := [ly, gu]
def fw : Tr Plf :=
 .split (.lss (.c 4) x4) Ll (
 .leaf (.next 1 [u0, (.c 0), .nilL, (.bc true)]))
def ff : Tr Plf :=
 .split x13 (
 .split x14 x3 (
 .split (.eqS x15 0 0) Ll (
 .split (.lss x40 (.c 1)) Ll (
 .split (.lss (.c 1000) x40) Ll (
 .split (.eql (.sel mZ 0) (.c 1)) (
 .split (.lss (.sel mZ 1) (.c 0)) (
 .split (.lss x79 (.c 1073741824)) (
 .leaf (.next 1 [u0, x17, (.snoc u2 (.rcons x15 (.rcons x40 Xk))), (.bc false)])) x3) Ll) x3))))) (
 .leaf (.done 1 [u2, u3]))
def t13 : List (Tr Plf) := [fw, ff]
def hU : Tr Plf :=
 .leaf (.done 0 [])
def t14 : List (Tr Plf) := [hU]
def oF : Tr Plf :=
 .split u0 (
 .split (.eql x33 x84) (
 .leaf (.next 1 [u3, (.c 0), u0, u1, u2])) (
 .leaf (.done 0 [(.c 2), u1]))) (
 .leaf (.done 0 [(.c 1), u1]))
def kF : Tr Plf :=
 .split x13 (
 .split x14 x3 (
 .split (.lss x15 (.c 0)) oH (
 .split x34 (
 .split (.lss (.cell u3 u1 1) x15) oH (
 .leaf (.next 1 [u0, x17, u2, u3, u4]))) x3))) (
 .leaf (.next 2 [u0, x4, (.c 0), u2, u3, u4]))
def jv : Tr Plf :=
 .split (.lss u2 u1) (
 .split x2 x3 (
 .split x5 (
 .split (.lss u2 x26) (
 .leaf (.next 2 [u0, u1, x9, u3, (.upd u4 u2 2 x6), u5])) x3) x3)) (
 .leaf (.done 0 [(.c 0), u4]))
def t15 : List (Tr Plf) := [oF, kF, jv]
def nQ : Tr Plf :=
 .split (.eql (.sel YJ 0) (.c 1)) (
 .split dp (
 .split (.eql (.sel (.app 14 (rl [(.c 0), .emptyL])) 0) (.c 1)) Ll x3) (
 .split bD (
 .split (.eql (.sel (.app 14 (rl [(.c 0), YK])) 0) (.c 1)) Ll x3) (
 .split bi (
 .split (.eql (.sel (.app 14 (rl [(.c 0), XK])) 0) (.c 1)) Ll x3) (
 .split dw (
 .split (.eql (.sel (.app 14 (rl [(.c 0), Va])) 0) (.c 1)) Ll x3) (
 .split ck (
 .split (.eql (.sel (.app 14 (.rcons (.c 0) lj)) 0) (.c 1)) Ll x3) x3))))) (
 .split (.eql (.sel YJ 0) (.c 2)) (
 .split dp (
 .split (.eql (.sel il 0) (.c 1)) (
 .leaf (.done 1 [(.lenL Ms), Mn, (.sel il 2)])) x3) (
 .split bD (
 .split (.eql (.sel mT 0) (.c 1)) (
 .leaf (.done 1 [(.lenL Ms), Mn, (.sel mT 2)])) x3) (
 .split bi (
 .split (.eql (.sel lN 0) (.c 1)) (
 .leaf (.done 1 [(.lenL Ms), Mn, (.sel lN 2)])) x3) (
 .split dw (
 .split (.eql (.sel lK 0) (.c 1)) (
 .leaf (.done 1 [(.lenL Ms), Mn, (.sel lK 2)])) x3) (
 .split ck (
 .split (.eql (.sel i9 0) (.c 1)) (
 .leaf (.done 1 [(.lenL Ms), Mn, (.sel i9 2)])) x3) x3))))) x3)
def t16 : List (Tr Plf) := [nQ]
def ez : Tr Plf :=
 .leaf (.done 0 [])
def t17 : List (Tr Plf) := [ez]
def gQ : Tr Plf :=
 .split u0 (
 .split (.eql (.sel XX 0) (.c 1)) (
 .split (.lss (.sel XX 1) (.c 0)) (
 .leaf (.done 0 [(.c 0), (.c 9)])) (
 .split (.lss (.sel XX 1) x84) (
 .leaf (.done 0 [(.cell u1 (.sel XX 1) 2), (.c 0)])) x3)) x3) (
 .leaf (.done 0 [(.c 0), (.c 1)]))
def t18 : List (Tr Plf) := [gQ]
def fE : Tr Plf :=
 .split u0 (
 .split (.eqS u8 0 0) (
 .leaf (.done 0 [(.bc true), (.c 0)])) (
 .split (.eql (.sel XB 0) (.c 1)) (
 .split (.eql (.sel XB 2) (.c 0)) (
 .split j6 (
 .split (.lss RI (.c 0)) x3 (
 .split (.lss RI x84) (
 .split (.lss Xx u9) aK (
 .split (.lss u10 Xx) aK (
 .split (.lss u11 (.arith .sub .i64 (.c 0) Xx)) aK (
 .leaf (.done 0 [(.neg (.lss (.arith .sub .i64 (.cell u1 RI 1) Xx) u11)), (.c 0)]))))) x3)) x3) (
 .leaf (.done 0 [(.bc false), (.sel XB 2)]))) x3)) (
 .leaf (.done 0 [(.bc false), (.c 1)]))
def t19 : List (Tr Plf) := [fE]
def kE : Tr Plf :=
 .split lH (
 .leaf (.next 1 ([u8, (.c 0)] ++ us 0 8))) (
 .split gt (
 .leaf (.next 2 [.nilL, (.bc true), u8, (.c 0), u0, u1, u2, u3, u4, u5, u6, u7, (.sel KO 1), (.sel KO 2), (.sel KO 3)])) x3)
def jF : Tr Plf :=
 .split x13 (
 .split x14 x3 (
 .split (.eql (.sel (.app 17 (rl [(.c 0), x15, x40, x41, x42, x43, x44, x45, x46, x47])) 0) (.c 1)) (
 .leaf (.next 1 ([u0, x17] ++ us 2 8))) x3)) (
 .leaf (.done 0 [.nilL, (.bc true)]))
def pr : Tr Plf :=
 .split (.lss u3 x79) (
 .split Vr x3 (
 .split (.eql Uk u12) (
 .split (.eql (.sel oP 0) (.c 1)) (
 .split (.sel oP 1) (
 .split OH x3 (
 .split (.lss u4 Qo) (
 .split (.eqSS mY (.cell u10 u4 0)) (
 .split J1 (
 .leaf (.next 2 [(.snoc u0 x80), (.bc false), u2, Qs, u4, u5, u6, u7, u8, u9, u10, u11, Uk, u13, u14])) x3) ja) x3)) ja) x3) x3)) TN
def t20 : List (Tr Plf) := [kE, jF, pr]
def jj : Tr Plf :=
 .split (.eql (.sel (.app 17 fq) 0) (.c 1)) Ll x3
def t21 : List (Tr Plf) := [jj]
def eL : Tr Plf :=
 .split (.eql (.sel Zf 0) (.c 1)) (
 .split (.eql (.sel Zf 2) (.c 0)) (
 .split (.sel Zf 1) (
 .split (.eqS u8 0 0) (
 .leaf (.done 0 [(.c 0), u1])) (
 .split j6 (
 .split (.lss RI (.c 0)) x3 (
 .split (.lss RI x84) (
 .leaf (.done 0 [(.c 0), (.upd u1 RI 2 (.arith .add .i64 (.cell u1 RI 2) u11))])) x3)) x3)) (
 .leaf (.done 0 [(.c 8), u1]))) (
 .leaf (.done 0 [(.sel Zf 2), u1]))) x3
def t22 : List (Tr Plf) := [eL]
def kg : Tr Plf :=
 .leaf (.next 1 [u2, u3, (.c 0), u0, u1])
def f4 : Tr Plf :=
 .split x5 (
 .split x2 x3 (
 .split (.lss x33 (.c 1073741824)) (
 .leaf (.next 1 [u0, u1, x9, (.snoc u3 (rl [dH])), (.bc false)])) x3)) lP
def t23 : List (Tr Plf) := [kg, f4]
def lq : Tr Plf :=
 .split lH (
 .split (.lss u9 (.c 0)) x3 (
 .split (.lss u9 x95) (
 .split (.eql (.sel (.app 21 (.rcons (.c 0) gF)) 0) (.c 1)) (
 .split fN aJ x3) x3) x3)) (
 .split gt (
 .split (.lss u9 (.c 0)) x3 (
 .split (.lss u9 x95) (
 .split (.eql (.lenL (.sel KO 3)) (.sel KO 1)) (
 .split (.eql (.sel dg 0) (.c 1)) (
 .split fN (
 .split (.sel KO 2) aJ (
 .split (.eql (.lenL (.sel KO 3)) cA) (
 .split (.lss cA (.c 1048576)) (
 .split (.eql (.sel f8 0) (.c 1)) (
 .split (.lss UW (.c 4)) (
 .split (.eql UW (.c 0)) aJ (
 .split (.eql UW (.c 1)) (
 .leaf (.done 0 [U0, Yg, (.c 0), (.c 0), (.c 0)])) (
 .split (.eql UW (.c 2)) (
 .leaf (.done 0 [U0, Yg, bK, (.c 0), (.c 0)])) (
 .split (.eql UW (.c 3)) (
 .leaf (.done 0 [U0, Yg, bK, (.cell V3 (.c 2) 0), (.c 0)])) x3)))) (
 .leaf (.done 0 [U0, Yg, bK, (.cell V3 (.c 2) 0), (.cell V3 (.c 3) 0)]))) x3) x3) x3)) x3) x3) x3) x3)) x3)
def t24 : List (Tr Plf) := [lq]
def oG : Tr Plf :=
 .split (.eql (.sel Ze 0) (.c 1)) (
 .leaf (.next 1 [(.sel Ze 1), (.sel Ze 2), (.lenL (.sel Ze 1)), (.c 0), u5, u6, u7, u8, u9, u10, u11, u0, u1, u2, u3, u4])) x3
def fg : Tr Plf :=
 .split (.lss u3 u2) (
 .split Vr x3 (
 .split (.lss u3 x4) (
 .split (.eql (.sel To 0) (.c 1)) (
 .split (.eql (.sel XD 0) (.c 1)) (
 .leaf (.next 1 [u0, u1, u2, Qs, (.sel XD 1), (.sel XD 2), (.sel XD 3), u7, u8, u9, u10, u11, u12, u13, u14, u15])) x3) x3) x3)) (
 .leaf (.done 0 [u4, u5, u6]))
def t25 : List (Tr Plf) := [oG, fg]
def gI : Tr Plf :=
 .leaf (.next 1 [u2, u0, u1, (.c 0), u3, u4, u5, u6, .nilL, (.bc true), .emptyL])
def eK : Tr Plf :=
 .split (.lss u3 x84) (
 .split Vr x3 (
 .split (.eql (.sel Y5 0) (.c 1)) (
 .leaf (.next 1 [u0, u1, u2, Qs, u4, u5, u6, u7, (.sel Y5 1), (.sel Y5 2), (.sel Y5 3)])) x3)) (
 .leaf (.next 2 ([u0, (.c 0), u1] ++ us 4 7)))
def ng : Tr Plf :=
 .split (.lss u1 x93) (
 .split x25 (
 .split x14 x3 (
 .split (.eql (.sel XR 0) (.c 1)) (
 .leaf (.next 2 [u0, x17, u2, u3, u4, u5, u6, (.sel XR 1), (.sel XR 2), (.sel XR 3)])) x3)) gv) gv
def t26 : List (Tr Plf) := [gI, eK, ng]
def iu : Tr Plf :=
 .leaf x39
def gy : Tr Plf :=
 .split x13 (
 .split x14 x3 (
 .split W3 x3 (
 .split (.lss u6 x33) (
 .split (.eqSS x15 (.cell u3 u6 0)) x16 x48) x3))) x19
def t27 : List (Tr Plf) := [iu, gy]
def jT : Tr Plf :=
 .split (.eql (.sel XN 0) (.c 1)) (
 .split (.lss (.sel XN 1) (.c 0)) (
 .leaf (.done 0 [(.c 0), (.c 0), (.c 0), (.c 0), (.c 0), (.c 9)])) (
 .split (.lss (.sel XN 1) x95) (
 .split (.eql (.sel nH 0) (.c 1)) (
 .leaf (.next 1 [u9, (.c 0), u0, u1, u2, u3, u4, u5, u6, u7, u10, u11, u12, u13, u14, (.sel nH 1), (.c 0), (.c 0), (.c 0), (.c 0)])) x3) x3)) x3
def oe : Tr Plf :=
 .split x13 (
 .split x14 x3 (
 .split (.eql (.sel mV 0) (.c 1)) (
 .split (.eql (.sel lB 0) (.c 1)) (
 .split (.lss Vp (.c 0)) (
 .split (.lss x41 (.c 0)) Ml (
 .split Xh x3 (
 .split UD (
 .split (.lss Xl x41) Ml (
 .split VD (
 .leaf (.next 1 ([u0, x17] ++ us 2 14 ++ [x41, u17, u18, u19]))) (
 .split UA (
 .leaf (.next 1 ([u0, x17] ++ us 2 15 ++ [x41, u18, u19]))) (
 .split UR (
 .leaf (.next 1 ([u0, x17] ++ us 2 16 ++ [x41, u19]))) (
 .split U3 (
 .leaf (.next 1 ([u0, x17] ++ us 2 17 ++ [x41]))) x3))))) x3))) (
 .split (.eql Vp (.c 0)) (
 .split (.lss TG (.c 0)) Ml (
 .split Xh x3 (
 .split UD (
 .split (.lss Xl TG) Ml (
 .split VD (
 .leaf (.next 1 ([u0, x17] ++ us 2 14 ++ [TG, u17, u18, u19]))) (
 .split UA (
 .leaf (.next 1 ([u0, x17] ++ us 2 15 ++ [TG, u18, u19]))) (
 .split UR (
 .leaf (.next 1 ([u0, x17] ++ us 2 16 ++ [TG, u19]))) (
 .split U3 (
 .leaf (.next 1 ([u0, x17] ++ us 2 17 ++ [TG]))) x3))))) x3))) (
 .split (.eql Vp (.c 1)) (
 .split (.lss TQ (.c 0)) Ml (
 .split Xh x3 (
 .split UD (
 .split (.lss Xl TQ) Ml (
 .split VD (
 .leaf (.next 1 ([u0, x17] ++ us 2 14 ++ [TQ, u17, u18, u19]))) (
 .split UA (
 .leaf (.next 1 ([u0, x17] ++ us 2 15 ++ [TQ, u18, u19]))) (
 .split UR (
 .leaf (.next 1 ([u0, x17] ++ us 2 16 ++ [TQ, u19]))) (
 .split U3 (
 .leaf (.next 1 ([u0, x17] ++ us 2 17 ++ [TQ]))) x3))))) x3))) (
 .split (.eql Vp (.c 2)) (
 .split (.lss Tz (.c 0)) Ml (
 .split Xh x3 (
 .split UD (
 .split (.lss Xl Tz) Ml (
 .split VD (
 .leaf (.next 1 ([u0, x17] ++ us 2 14 ++ [Tz, u17, u18, u19]))) (
 .split UA (
 .leaf (.next 1 ([u0, x17] ++ us 2 15 ++ [Tz, u18, u19]))) (
 .split UR (
 .leaf (.next 1 ([u0, x17] ++ us 2 16 ++ [Tz, u19]))) (
 .split U3 (
 .leaf (.next 1 ([u0, x17] ++ us 2 17 ++ [Tz]))) x3))))) x3))) (
 .split (.eql Vp (.c 3)) (
 .split (.lss Up (.c 0)) Ml (
 .split Xh x3 (
 .split UD (
 .split (.lss Xl Up) Ml (
 .split VD (
 .leaf (.next 1 ([u0, x17] ++ us 2 14 ++ [Up, u17, u18, u19]))) (
 .split UA (
 .leaf (.next 1 ([u0, x17] ++ us 2 15 ++ [Up, u18, u19]))) (
 .split UR (
 .leaf (.next 1 ([u0, x17] ++ us 2 16 ++ [Up, u19]))) (
 .split U3 (
 .leaf (.next 1 ([u0, x17] ++ us 2 17 ++ [Up]))) x3))))) x3))) x3))))) x3) x3)) (
 .leaf (.done 0 (us 15 5 ++ [(.c 0)])))
def t28 : List (Tr Plf) := [jT, oe]
def gz : Tr Plf :=
 .split (.lss dj (.c 0)) (
 .split J1 (
 .leaf (.done 0 [(.snoc u0 aW), (.bc false), (.snoc u2 (.rcons u3 (.rcons u4 (.rcons u5 (.rcons u6 (.rcons u7 (.rcons u8 (.rcons u9 (.rcons u10 (.rcons u11 (.rcons u12 Qk)))))))))))])) x3) (
 .split (.cell u2 dj 10) gL (
 .split J1 (
 .leaf (.done 0 [(.snoc u0 aW), (.bc false), (.upd u2 dj 10 (.bc true))])) x3))
def t29 : List (Tr Plf) := [gz]
def mH : Tr Plf :=
 .leaf (.next 1 ([u0, u1, (.c 0)] ++ us 2 5))
def iG : Tr Plf :=
 .split x5 (
 .split x2 x3 (
 .split (.lss x6 (.c 0)) x3 (
 .split (.lss x6 x89) (
 .split (.eql (.cell u6 x6 2) (.c 2)) (
 .split u7 pB x23) (
 .split u7 x23 pB)) x3))) x19
def t30 : List (Tr Plf) := [mH, iG]
def oI : Tr Plf :=
 .split (.eql (.sel Y7 0) (.c 1)) (
 .split (.eql (.sel Y7 1) (.c (-1))) TN (
 .leaf (.next 1 [u0, u1, (.sel Y7 1), (.arith .add .i64 (.sel Y7 1) (.c 1)), u2, u3, u4, u5, u6]))) x3
def dW : Tr Plf :=
 .split (.lss u3 x4) (
 .split Vr x3 (
 .split (.lss Xc (.c 0)) x3 (
 .split (.lss Xc x93) (
 .split (.eql (.cell u7 Xc 2) (.c 2)) (
 .split u8 og oK) (
 .split u8 oK og)) x3))) (
 .split x2 x3 (
 .split (.lss x4 u2) x3 (
 .split (.lss x4 x4) x3 (
 .split (.eql x4 (.lenL cH)) gn gn))))
def t31 : List (Tr Plf) := [oI, dW]
def lZ : Tr Plf :=
 .split (.eql (.sel (.app 20 Ul) 0) (.c 1)) (
 .split (.eql (.sel bB 0) (.c 1)) (
 .split (.eql (.sel (.app 20 TX) 0) (.c 1)) (
 .split (.eql (.sel aL 0) (.c 1)) (
 .leaf (.done 0 [(.sel bB 1), (.sel bB 2), (.sel aL 1), (.sel aL 2)])) x3) x3) x3) x3
def t32 : List (Tr Plf) := [lZ]
def iy : Tr Plf :=
 .leaf (.done 0 [u2, u3, u4])
def t33 : List (Tr Plf) := [iy]
def eH : Tr Plf :=
 .leaf (.next 1 ([u0, u1, (.c 0)] ++ us 2 9))
def gM : Tr Plf :=
 .split x5 (
 .split x2 x3 (
 .split (.lss x6 (.c 0)) x3 (
 .split (.lss x6 x89) (
 .split dA x3 (
 .split (.lss u11 Qo) (
 .split (.and (.eql (.cell u6 x6 2) (.cell u10 u11 2)) (.and (.eqSS (.cell u6 x6 3) (.cell u10 u11 3)) (.eqSS (.cell u6 x6 4) (.cell u10 u11 4)))) x23 (
 .leaf (.next 1 ([u0, u1, x9] ++ us 3 9)))) x3)) x3))) x19
def t34 : List (Tr Plf) := [eH, gM]
def oj : Tr Plf :=
 .leaf (.next 1 [u10, u11, u4, u5, (.c 0), u0, u1, u2, u3, u6, u7, u8, u9])
def iJ : Tr Plf :=
 .split YQ (
 .split OH x3 (
 .split (.eql (.sel gA 0) (.c 1)) (
 .split (.lss (.sel gA 1) (.c 0)) (
 .leaf (.done 0 [Zk, (.bc true)])) (
 .leaf (.next 1 ([u0, u1, u2, u3, T0] ++ us 5 8)))) x3)) (
 .leaf (.done 0 [(.c 0), (.bc false)]))
def t35 : List (Tr Plf) := [oj, iJ]
def mK : Tr Plf :=
 .split nF (
 .split (.eql (.sel bQ 0) (.c 1)) (
 .split (.sel bQ 2) (
 .leaf (.done 0 [(.c 1), (.sel bQ 1)])) (
 .split (.eql (.sel Q5 0) (.c 1)) (
 .split (.eql (.sel cV 0) (.c 1)) (
 .split (.sel cV 2) (
 .leaf (.done 0 [(.c 2), (.sel cV 1)])) (
 .split (.lss (.c 0) (.lenL (.sel Q5 1))) (
 .split (.eql (.lenL (.sel Q5 3)) (.c 0)) lR nD) nD)) x3) x3)) x3) x3
def t36 : List (Tr Plf) := [mK]
def nB : Tr Plf :=
 .split Mv x3 (
 .split (.lss u0 x89) (
 .split dp (
 .leaf (.done 0 [V0, .emptyL])) (
 .split bD (
 .leaf (.done 0 [V0, YK])) (
 .split bi (
 .leaf (.done 0 [V0, XK])) (
 .split dw (
 .leaf (.done 0 [V0, Va])) (
 .split ck (
 .leaf (.done 0 [V0, (.snoc Va x87)])) x3))))) x3)
def t37 : List (Tr Plf) := [nB]
def i8 : Tr Plf :=
 .split (.eql (.sel X3 0) (.c 1)) (
 .split (.eql (.sel X3 1) (.c 0)) (
 .split nF (
 .leaf (.next 1 [(.sel Mk 3), (.sel Mk 4), (.sel Mk 1), (.sel Mk 2), (.lenL (.sel Mk 1)), (.c 0), u0, u1, u2, u3, u4, u5, u6, u7, u8, u9, u10, u11, u12, u13, u14, u15, u26, u27, u28, u16, u17, u18, u19, u20, u21, u22, u23, u24, u25])) x3) (
 .split (.eql (.sel (.app 37 Ul) 0) (.c 1)) (
 .split (.eql (.sel (.app 37 TX) 0) (.c 1)) (
 .leaf (.done 0 [(.bc true), u0, u1, u2, u3, u4, u5, u6, u7, (.sel (.app 37 Ul) 1), (.sel (.app 37 Ul) 2), (.bc false), (.sel (.app 37 TX) 1), (.sel (.app 37 TX) 2), (.bc false), (.sel X3 1), (.sel X3 2), u26, u27, u28])) x3) x3)) x3
def kN : Tr Plf :=
 .split cX (
 .split Vn x3 (
 .split bC (
 .leaf (.next 2 ([u0, u1, Zm, u2, u3, u4, u5, (.c 0)] ++ us 6 29))) x3)) (
 .split (.eql (.sel Ua 0) (.c 1)) (
 .leaf (.next 3 [(.sel Ua 1), (.sel Ua 2), (.sel Ua 3), (.sel Ua 4), (.lenL (.sel Ua 3)), (.c 0), u6, u7, u8, u9, u10, u11, u12, u13, u14, u15, u16, u17, u18, u19, u20, u21, u22, u23, u24, u25, u26, u27, u28, u29, u30, u31, u32, u33, u34])) x3)
def pz : Tr Plf :=
 .split (.lss u7 x4) (
 .split Zd x3 (
 .split x2 x3 (
 .split (.lss u2 W7) (
 .split (.lss JX (.c 0)) x3 (
 .split (.lss JX WE) (
 .split (.and (.eql (.cell u11 u2 2) (.cell u15 JX 2)) (.and (.eqSS (.cell u11 u2 3) (.cell u15 JX 3)) (.eqSS (.cell u11 u2 4) (.cell u15 JX 4)))) (
 .split (.eql (.sel Uu 0) (.c 1)) (
 .split (.eql (.sel T2 0) (.c 1)) (
 .split (.eql (.sel YW 0) (.c 1)) (
 .leaf (.next 2 [u0, u1, u2, u3, u4, u5, u6, T7, u8, u9, u10, u11, u12, u13, u14, u15, u16, u17, u18, u19, u20, u21, u22, u23, (.sel YW 1), (.sel YW 2), (.sel YW 3), u27, u28, u29, u30, u31, u32, u33, u34, u35, u36])) x3) x3) x3) (
 .leaf (.next 2 (us 0 7 ++ [T7] ++ us 8 29)))) x3)) x3))) (
 .leaf (.next 1 ([u0, u1, u3, u4, u5, NK] ++ us 8 29)))
def oE : Tr Plf :=
 .split cX (
 .split Vn x3 (
 .split bC (
 .leaf (.next 4 ([u0, u1, Zm, u2, u3, u4, u5, (.c 0)] ++ us 6 29))) x3)) (
 .leaf (.done 0 ([(.bc false)] ++ us 6 19)))
def nc : Tr Plf :=
 .split (.lss u7 x4) (
 .split Zd x3 (
 .split (.lss JX (.c 0)) x3 (
 .split (.lss JX W7) (
 .split x2 x3 (
 .split (.lss u2 WE) (
 .split (.and (.eql (.cell u11 JX 2) (.cell u15 u2 2)) (.and (.eqSS (.cell u11 JX 3) (.cell u15 u2 3)) (.eqSS (.cell u11 JX 4) (.cell u15 u2 4)))) (
 .split (.eql (.sel Uo 0) (.c 1)) (
 .split (.eql (.sel Ux 0) (.c 1)) (
 .split (.eql (.sel X6 0) (.c 1)) (
 .leaf (.next 4 [u0, u1, u2, u3, u4, u5, u6, T7, u8, u9, u10, u11, u12, u13, u14, u15, u16, u17, u18, u19, u20, u21, u22, u23, (.sel X6 1), (.sel X6 2), (.sel X6 3), u27, u28, u29, u30, u31, u32, u33, u34, u35, u36])) x3) x3) x3) (
 .leaf (.next 4 (us 0 7 ++ [T7] ++ us 8 29)))) x3)) x3))) (
 .leaf (.next 3 ([u0, u1, u3, u4, u5, NK] ++ us 8 29)))
def t38 : List (Tr Plf) := [i8, kN, pz, oE, nc]
def gZ : Tr Plf :=
 .leaf (.next 1 ([u2, u0, u1, (.c 0)] ++ us 3 16 ++ [.nilL, (.bc true), .emptyL]))
def iz : Tr Plf :=
 .split (.lss u3 x84) (
 .split Vr x3 (
 .split (.eql (.sel YH 0) (.c 1)) (
 .leaf (.next 1 [u0, u1, u2, Qs, u4, u5, u6, u7, u8, u9, u10, u11, u12, u13, u14, u15, u16, u17, u18, u19, (.sel YH 1), (.sel YH 2), (.sel YH 3)])) x3)) (
 .leaf (.next 2 ([u0, (.c 0), u1] ++ us 4 19)))
def jt : Tr Plf :=
 .split (.lss u1 cU) (
 .split x25 (
 .split x14 x3 (
 .split (.eql (.sel BS 0) (.c 1)) (
 .split (.sel BS 1) (
 .leaf (.done 0 [(.sel BS 18), (.sel BS 19), (.bc false), (.sel BS 2), (.sel BS 3), (.sel BS 4), (.sel BS 5), (.sel BS 6), (.sel BS 7), (.sel BS 8), (.sel BS 9), (.sel BS 10), (.sel BS 11), (.sel BS 12), (.sel BS 13), (.sel BS 14), (.sel BS 15), (.sel BS 16), (.sel BS 17)])) (
 .leaf (.next 2 [u0, x17, u2, (.sel BS 2), (.sel BS 3), (.sel BS 4), (.sel BS 5), (.sel BS 6), (.sel BS 7), (.sel BS 8), (.sel BS 9), (.sel BS 10), (.sel BS 11), (.sel BS 12), (.sel BS 13), (.sel BS 14), (.sel BS 15), (.sel BS 16), (.sel BS 17), (.sel BS 18), (.sel BS 19), (.sel BS 20)]))) x3)) g0) g0
def t39 : List (Tr Plf) := [gZ, iz, jt]
def pu : Tr Plf :=
 .split (.eql (.sel cW 0) (.c 1)) (
 .split (.eql (.sel cW 2) (.c 0)) (
 .split (.eql (.sel UE 0) (.c 1)) (
 .split (.sel UE 3) iw (
 .leaf (.next 1 [.nilL, (.bc true), (.sel UE 1), (.sel UE 2), (.lenL (.sel UE 1)), (.c 0), u0, u1, u2, u3, u4, u5, u6, u7, u8, u9]))) x3) (
 .leaf (.done 0 [(.strc 0 0), .nilL, (.bc true), (.strc 0 0), .nilL, (.bc true), (.c 0), (.c 0), (.bc false), (.sel cW 2)]))) x3
def oM : Tr Plf :=
 .split cX (
 .split Vn x3 (
 .split bC (
 .split (.eql (.sel Qm 0) (.c 1)) (
 .split (.eql (.sel Qm 6) (.c 0)) (
 .split J1 (
 .leaf (.next 1 [(.snoc u0 (rl [Zm, eC, f7, ej, ii, (.sel Qm 1), (.sel Qm 2), (.sel Qm 3), (.sel Qm 4), (.sel Qm 5)])), (.bc false), u2, u3, u4, TA, u6, u7, u8, u9, u10, u11, u12, u13, u14, u15])) x3) (
 .leaf (.next 1 (us 0 5 ++ [TA] ++ us 6 10)))) x3) x3)) (
 .split (.eql (.sel Kw 0) (.c 1)) (
 .split (.sel Kw 3) iw (
 .leaf (.done 0 [(.sel Kw 12), (.sel Kw 13), (.sel Kw 14), (.sel Kw 15), (.sel Kw 16), (.sel Kw 17), (.sel Kw 18), (.sel Kw 19), (.eql (.sel Kw 18) (.c 0)), (.c 0)]))) x3)
def t40 : List (Tr Plf) := [pu, oM]
def pp : Tr Plf :=
 .split (.lss x0 (.c 1)) x1 (
 .split (.lss (.c 32) x0) x1 (
 .split (.eql dQ (.c 95)) x1 (
 .split (.lss dQ (.c 48)) mP (
 .split (.lss (.c 57) dQ) mP x1))))
def oX : Tr Plf :=
 .split (.lss u1 x0) (
 .split x14 x3 (
 .split (.lss QC (.c 97)) (
 .split (.lss QC (.c 65)) (
 .split (.lss QC (.c 48)) x1 (
 .split (.lss (.c 57) QC) x1 Yj)) (
 .split (.lss (.c 90) QC) (
 .split (.eql QC (.c 95)) Yj x1) Yj)) (
 .split (.lss (.c 122) QC) x1 Yj))) x11
def t41 : List (Tr Plf) := [pp, oX]
def ij : Tr Plf :=
 .leaf YO
def eD : Tr Plf :=
 .split x27 g9 x19
def t42 : List (Tr Plf) := [ij, eD]
def gG : Tr Plf :=
 .leaf YO
def lC : Tr Plf :=
 .split x34 jZ x19
def t43 : List (Tr Plf) := [gG, lC]
def ir : Tr Plf :=
 .split OH x3 (
 .split (.lss u4 x33) (
 .split (.eql (.sel bh 0) (.c 1)) (
 .split (.lss (.sel bh 1) (.c 0)) x1 (
 .split (.eql (.sel nr 0) (.c 1)) (
 .split (.lss (.sel nr 1) (.c 0)) x1 (
 .split (.eqS bO 0 0) (
 .split (.eql VX (.c 0)) (
 .split (.eql Vm (.c 0)) (
 .split (.eql Uj (.c 0)) hI x1) x1) x1) (
 .split (.eql (.sel YM 0) (.c 1)) (
 .split (.lss (.sel YM 1) (.c 0)) x1 (
 .split (.lss VX (.c 0)) x1 (
 .split (.lss Vm VX) x1 (
 .split (.lss (.sel YM 1) x79) (
 .split (.lss lF Vm) x1 (
 .split (.lss Uj (.c (-1000))) x1 (
 .split (.lss (.c 1000) Uj) x1 (
 .split (.lss (.arith .add .i64 VX Uj) (.c 0)) x1 (
 .split (.lss lF (.arith .add .i64 Vm Uj)) x1 hI))))) x3)))) x3))) x3)) x3) x3)
def oV : Tr Plf :=
 .split x22 (
 .split x2 x3 (
 .split (.lss u2 x89) (
 .split (.and mS (.and (.eqSS (.cell u6 u2 1) u8) (.and (.eql (.cell u6 u2 2) u9) (.and (.eqSS (.cell u6 u2 3) u10) (.and (.eqSS (.cell u6 u2 4) u11) (.and (.eqSS jP u12) (.and (.eql nb u13) (.and (.eql pa u14) (.eql (.cell u6 u2 8) u15))))))))) x1 (
 .leaf (.next 1 ([u0, u1, x9] ++ us 3 13)))) x3)) (
 .split (.eql u9 (.c 1)) dY (
 .split (.eql u9 (.c 2)) dY (
 .split (.eql u9 (.c 3)) (
 .split (.eqS u10 0 0) (
 .split (.eqS u11 0 0) (
 .split x14 x3 (
 .split x27 (
 .leaf (.done 0 [(.lss (.c 0) (.cell u4 u1 2))])) x3)) x1) x1) (
 .split (.eql u9 (.c 4)) (
 .split (.eqS u10 0 0) (
 .leaf (.done 0 [(.eqS u11 0 0)])) x1) x1))))
def t44 : List (Tr Plf) := [ir, oV]
def ga : Tr Plf :=
 .split (.eql (.sel (.app 41 x78) 0) (.c 1)) (
 .split (.sel (.app 41 x78) 1) (
 .split (.lss (.c 4) x79) (
 .leaf (.done 0 [(.c 4), (.c 291)])) f9) (
 .leaf (.done 0 [(.c 0), (.c 290)]))) x3
def j3 : Tr Plf :=
 .split (.lss u0 x33) (
 .split Mv x3 (
 .split (.eql (.sel px 0) (.c 1)) (
 .split (.sel px 1) (
 .split (.eql (.sel f5 0) (.c 1)) (
 .split (.eql (.sel f5 1) u0) (
 .split (.lss eE (.c 1)) Yk (
 .split (.lss (.c 1000) eE) Yk oR)) Yk) x3) Yk) x3)) (
 .split (.eql x79 (.c 0)) (
 .leaf (.done 0 [(.c 0), (.c 292)])) (
 .split (.lss (.c 24) x79) (
 .leaf (.done 0 [(.c 24), (.c 292)])) (
 .leaf (.next 2 [(.c 0), u1, u2, u3, u4]))))
def mg : Tr Plf :=
 .split (.lss u0 x79) (
 .split Mv x3 (
 .split (.eql (.sel fW 0) (.c 1)) (
 .split (.sel fW 1) (
 .split (.eql (.sel iR 0) (.c 1)) (
 .split (.eql (.sel iR 1) u0) (
 .split (.lss lM (.c 0)) YV (
 .split (.lss (.c 1048576) lM) YV (
 .leaf (.next 2 [NW, u1, u2, u3, u4])))) YV) x3) YV) x3)) (
 .split (.lss (.c 80) x26) (
 .leaf (.done 0 [(.c 80), (.c 293)])) (
 .leaf (.next 3 [(.c 0), u1, u2, u3, u4])))
def j0 : Tr Plf :=
 .split br (
 .split (.eql (.sel jy 0) (.c 1)) (
 .split (.sel jy 1) (
 .leaf (.next 3 [NW, u1, u2, u3, u4])) (
 .leaf (.done 0 [u0, (.c 293)]))) x3) Ra
def t45 : List (Tr Plf) := [ga, j3, mg, j0]
def gi : Tr Plf :=
 .leaf YO
def km : Tr Plf :=
 .split x34 jZ x19
def t46 : List (Tr Plf) := [gi, km]
def jp : Tr Plf :=
 .leaf YO
def jc : Tr Plf :=
 .split x27 g9 x19
def t47 : List (Tr Plf) := [jp, jc]
def ow : Tr Plf :=
 .split (.eql (.sel fG 0) (.c 1)) (
 .split (.eql (.sel fG 2) (.c 0)) (
 .split (.eql (.sel jk 0) (.c 1)) (
 .split (.eql (.sel jk 2) (.c 0)) (
 .split x96 x97 nV) x98) x3) x98) x3
def je : Tr Plf :=
 .split (.lss u0 Tt) (
 .split Mv x3 (
 .split (.eql (.sel kw 0) (.c 1)) (
 .split (.lss (.sel kw 1) (.c 0)) (
 .leaf (.next 2 ([u0, (.bc true), (.c 0)] ++ us 1 10))) (
 .split (.eql (.sel nE 0) (.c 1)) (
 .leaf (.next 2 [u0, (.lss (.sel nE 1) (.c 0)), (.c 0), u1, u2, u3, u4, u5, u6, u7, u8, u9, u10])) x3)) x3)) (
 .split (.lss (.c 4) Qo) mf (
 .leaf (.next 3 ([(.c 0)] ++ us 1 10))))
def ei : Tr Plf :=
 .split x22 (
 .split u1 (
 .leaf (.next 2 ([u0, (.bc true), x9] ++ us 3 10))) (
 .split x2 x3 (
 .split (.lss u2 W7) (
 .split Mv x3 (
 .split (.lss u0 W7) (
 .leaf (.next 2 [u0, (.eqSS (.cell u11 u2 0) (.cell u11 u0 0)), x9, u3, u4, u5, u6, u7, u8, u9, u10, u11, u12])) x3)) x3))) (
 .split u1 (
 .leaf (.done 0 [u0, (.c 490)])) (
 .leaf (.next 1 ([NW] ++ us 3 10))))
def me : Tr Plf :=
 .split (.lss u0 Qo) (
 .split Mv x3 (
 .split (.eql (.sel mG 0) (.c 1)) (
 .split (.lss (.sel mG 1) (.c 0)) bX (
 .split (.eqS VH 0 0) gE (
 .split (.eql (.sel fh 0) (.c 1)) (
 .split (.lss (.sel fh 1) (.c 0)) bX gE) x3))) x3)) Ra
def fi : Tr Plf :=
 .split x22 (
 .split u1 (
 .leaf (.next 4 ([u0, (.bc true), x9] ++ us 3 13))) (
 .split x2 x3 (
 .split (.lss u2 (.lenL u12)) (
 .leaf (.next 4 [u0, (.eqSS (.cell u12 u2 0) u13), x9, u3, u4, u5, u6, u7, u8, u9, u10, u11, u12, u13, u14, u15])) x3))) (
 .split u1 (
 .leaf (.done 0 [u0, (.c 491)])) (
 .leaf (.next 3 ([NW] ++ us 3 10))))
def t48 : List (Tr Plf) := [ow, je, ei, me, fi]
def fL : Tr Plf :=
 .leaf (.next 1 ([.nilL, (.bc true), (.c 0), u5] ++ us 0 5 ++ [u6]))
def gY : Tr Plf :=
 .split (.lss u2 x93) (
 .split x2 x3 (
 .split (.eql (.sel XH 0) (.c 1)) (
 .split (.eqSS (.cell u7 u2 0) u8) (
 .split (.lss (.sel XH 1) (.c 0)) py (
 .split (.lss (.sel XH 1) x33) (
 .split (.lss pk (.cell u7 u2 6)) cO (
 .split (.lss (.cell u7 u2 7) pk) cO py)) x3)) cO) x3)) TN
def t49 : List (Tr Plf) := [fL, gY]
def eV : Tr Plf :=
 .split Zd x3 (
 .split (.lss u7 x33) (
 .split (.lss x49 (.c 1048576)) (
 .split (.eql (.sel ln 0) (.c 1)) (
 .split (.lss XZ (.c 0)) (
 .leaf (.done 0 [nL, Px, Y3])) (
 .split (.lss XZ (.lenL Px)) (
 .leaf (.done 0 [nL, (.upd Px XZ 0 (.arith .add .i64 (.cell Px XZ 0) (.cell u3 u7 8))), Y3])) x3)) x3) x3) x3)
def t50 : List (Tr Plf) := [eV]
def fk : Tr Plf :=
 .split (.eqSS u0 u2) (
 .split (.eql x84 x33) (
 .leaf (.next 1 [(.c 0), u3, u0, u1, u2, u4])) x1) x1
def nJ : Tr Plf :=
 .split (.lss u0 x33) (
 .split Mv x3 (
 .split (.lss u0 x84) (
 .split (.eql bj bE) (
 .leaf (.next 1 ([NW] ++ us 1 5))) x1) x3)) x11
def t51 : List (Tr Plf) := [fk, nJ]
def ju : Tr Plf :=
 .leaf (.next 1 [u0, u1, (.c 0), u3, u2, u4])
def fQ : Tr Plf :=
 .split x5 (
 .split x2 x3 (
 .split (.eql (.sel kR 0) (.c 1)) (
 .split (.sel kR 1) x11 (
 .leaf (.next 1 [u0, u1, x9, u3, u4, u5]))) x3)) x1
def t52 : List (Tr Plf) := [ju, fQ]
def jI : Tr Plf :=
 .split W3 x3 (
 .split (.lss u6 x33) (
 .split (.lss x49 (.c 1048576)) (
 .split (.eql (.sel jO 0) (.c 1)) (
 .split (.lss YF (.c 0)) (
 .leaf (.done 0 [po, Px, Y3])) (
 .split (.lss YF (.lenL Px)) (
 .leaf (.done 0 [po, (.upd Px YF 0 (.arith .add .i64 (.cell Px YF 0) (.cell u3 u6 8))), Y3])) x3)) x3) x3) x3)
def t53 : List (Tr Plf) := [jI]
def oQ : Tr Plf :=
 .leaf (.next 1 ([.nilL, (.bc true), (.c 0)] ++ us 0 6))
def eu : Tr Plf :=
 .split (.lss u2 x89) (
 .split x2 x3 (
 .split (.eql (.sel YX 0) (.c 1)) (
 .split mS (
 .split (.lss (.sel YX 1) (.c 0)) oh (
 .split (.lss (.sel YX 1) x95) (
 .split (.lss eY nb) bA (
 .split (.lss pa eY) bA oh)) x3)) bA) x3)) TN
def t54 : List (Tr Plf) := [oQ, eu]
def lc : Tr Plf :=
 .split (.lss (.c 0) x84) (
 .split (.lss x79 (.c 1048577)) (
 .leaf (.next 1 [(.snoc .emptyL (rl [(.cell u1 (.c 0) 0), (.nilIs (.rep x79 Xk) (.bc false))])), (.bc false), (.c 0), u0, u1, u2, u3, .nilL])) x3) x3
def oA : Tr Plf :=
 .split x5 (
 .split x2 x3 (
 .split (.eql (.sel di 0) (.c 1)) (
 .leaf (.next 2 [u0, u1, u2, (.sel di 1), (.sel di 2), (.c 0), u3, u4, u5, u6, .nilL])) x3)) (
 .leaf (.done 0 [u0, u1, (.bc true)]))
def kS : Tr Plf :=
 .split (.lss u5 x33) (
 .split x2 x3 (
 .split x5 (
 .split Vn x3 (
 .split (.eql (.sel Q7 0) (.c 1)) (
 .split (.eql (.sel lW 0) (.c 1)) (
 .split (.sel lW 1) (
 .split (.lss (.c 2000) x4) nT (
 .leaf (.next 2 (us 0 5 ++ [TA, u6, u7, u8, u9, .nilL])))) (
 .split J1 (
 .split (.lss (.c 2000) (.lenL lL)) nT (
 .leaf (.next 2 [lL, (.bc false), u2, u3, u4, TA, u6, u7, u8, u9, .nilL]))) x3)) x3) x3)) x3)) (
 .leaf (.next 1 [u0, u1, x9, u6, u7, u8, u9, .nilL]))
def t55 : List (Tr Plf) := [lc, oA, kS]
def mu : Tr Plf :=
 .split (.eql (.sel lJ 0) (.c 1)) (
 .split (.lss (.sel lJ 1) (.c 0)) x1 (
 .split (.eql x49 x79) (
 .leaf (.next 1 ([(.c 0), u5] ++ us 0 5 ++ [u6]))) x1)) x3
def ml : Tr Plf :=
 .split (.lss u0 x84) (
 .split Mv x3 (
 .split (.lss bE (.c 0)) x1 (
 .split br (
 .split (.lss (.cell u4 u0 1) bE) x1 (
 .leaf (.next 1 ([NW] ++ us 1 7)))) x3))) x11
def t56 : List (Tr Plf) := [mu, ml]
def oO : Tr Plf :=
 .split (.lss x79 (.c 1048577)) (
 .leaf (.next 1 [(.bc false), (.c 0), u0, u1, u2, u3, u4, u5, u6, u7, u8, u9, u10, u11, (.strc 0 0), (.rep x79 Xk)])) x3
def fK : Tr Plf :=
 .split (.lss u1 Qo) (
 .split x14 x3 (
 .split (.eqSS (.cell u10 u1 0) u12) (
 .leaf (.next 1 [(.bc true), x17, u2, u3, u4, u5, u6, u7, u8, u9, u10, u11, u12, u13, (.cell u10 u1 1), u15])) (
 .leaf (.next 1 ([u0, x17] ++ us 2 14))))) (
 .split u0 (
 .leaf (.next 2 ([(.c 0)] ++ us 2 14))) (
 .leaf (.done 0 [(.strc 0 0), .nilL, (.bc true), (.c 9)])))
def lm : Tr Plf :=
 .split (.lss u0 Qo) (
 .split Mv x3 (
 .split (.eql (.sel Xn 0) (.c 1)) (
 .split (.lss (.sel Xn 1) (.c 0)) (
 .split kO (
 .split (.lss Tw (.c 0)) x3 (
 .split (.lss Tw Uk) (
 .leaf (.next 2 [NW, u1, u2, u3, u4, u5, u6, u7, u8, u9, u10, u11, u12, u13, (.upd u14 Tw 0 Tj)])) x3)) x3) (
 .split (.lss (.sel Xn 1) (.lenL u12)) (
 .split kO (
 .split (.lss Tw (.c 0)) x3 (
 .split (.lss Tw Uk) (
 .leaf (.next 2 [NW, u1, u2, u3, u4, u5, u6, u7, u8, u9, u10, u11, u12, u13, (.upd u14 Tw 0 (.arith .add .i64 Tj (.cell u12 (.sel Xn 1) 0)))])) x3)) x3) x3)) x3)) (
 .split (.eql (.sel gP 0) (.c 1)) (
 .split (.sel gP 1) (
 .leaf (.done 0 [u13, u14, (.bc false), (.c 0)])) (
 .leaf (.done 0 [(.strc 0 0), .nilL, (.bc true), (.c 3)]))) x3)
def t57 : List (Tr Plf) := [oO, fK, lm]
def fR : Tr Plf :=
 .split (.eqSS u0 u2) (
 .split (.eql x84 x33) f9 x1) x1
def kT : Tr Plf :=
 .split (.lss u0 x79) (
 .split Mv x3 (
 .split br (
 .split (.eql bp (.cell u4 u0 0)) oR x1) x3)) x11
def t58 : List (Tr Plf) := [fR, kT]
def oW : Tr Plf :=
 .leaf (.next 1 [u0, u1, u2, u3, (.c 0)])
def ma : Tr Plf :=
 .split YQ (
 .leaf (.next 2 (us 0 5 ++ [(.bc false), (.c 0)]))) TN
def fF : Tr Plf :=
 .split (.lss u6 x4) (
 .split u5 (
 .leaf (.next 2 (us 0 5 ++ [(.bc true), NK]))) (
 .split W3 x3 (
 .split OH x3 (
 .split YQ (
 .split (.eql (.sel nf 0) (.c 1)) (
 .split (.sel nf 1) (
 .split (.eql (.sel od 0) (.c 1)) (
 .leaf (.next 2 [u0, u1, u2, u3, u4, (.sel od 1), NK])) x3) (
 .leaf (.next 2 (us 0 5 ++ [(.bc false), NK])))) x3) x3)))) (
 .split u5 (
 .leaf (.next 1 [u0, u1, u2, u3, T0])) (
 .split OH x3 (
 .split YQ (
 .split J1 (
 .leaf (.next 1 [(.snoc u0 (.rcons Zk (.rcons iH nZ))), (.bc false), u2, u3, T0])) x3) x3)))
def t59 : List (Tr Plf) := [oW, ma, fF]
def gR : Tr Plf :=
 .leaf (.next 1 [u4, u5, u6, .nilL, (.bc true), (.c 0), u0, u1, u2, u3])
def eZ : Tr Plf :=
 .split (.lss u5 x4) (
 .split Vn x3 (
 .split (.lss Yc (.c 0)) x3 (
 .split (.lss Yc Tt) (
 .split (.eql (.cell u9 Yc 2) (.c 2)) (
 .split u2 eN i4) (
 .split u2 i4 eN)) x3))) lP
def t60 : List (Tr Plf) := [gR, eZ]
def nn : Tr Plf :=
 .leaf (.next 1 [u4, u5, u10, u11, (.c 0), u0, u1, u2, u3, u6, u7, u8, u9])
def oL : Tr Plf :=
 .split YA (
 .leaf (.next 2 (us 0 5 ++ [(.bc false), (.c 0)] ++ us 5 8))) x19
def jf : Tr Plf :=
 .split (.lss u6 x79) (
 .split u5 (
 .leaf (.next 2 (us 0 5 ++ [(.bc true), NK] ++ us 7 8))) (
 .split OH x3 (
 .split YA (
 .split (.lss OO (.c 0)) x3 (
 .split (.lss OO Qo) (
 .split W3 x3 (
 .split (.lss Vb (.c 0)) x3 (
 .split (.lss Vb Uk) (
 .split (.eql (.cell u10 OO 2) (.cell u14 Vb 2)) (
 .split (.eqSS (.cell u10 OO 3) (.cell u14 Vb 3)) (
 .leaf (.next 2 [u0, u1, u2, u3, u4, (.eqSS (.cell u10 OO 4) (.cell u14 Vb 4)), NK, u7, u8, u9, u10, u11, u12, u13, u14])) kZ) kZ) x3))) x3)) x3))) (
 .split u5 (
 .leaf (.next 1 ([u0, u1, u2, u3, T0] ++ us 7 8))) (
 .split OH x3 (
 .split YA (
 .leaf (.done 0 [OO])) x3)))
def t61 : List (Tr Plf) := [nn, oL, jf]
def pq : Tr Plf :=
 .split kK (
 .split nY (
 .split ia (
 .split lp (
 .split (.eql (.sel dh 0) (.c 1)) (
 .split (.lss (.sel dh 1) (.c 0)) (
 .split (.eql (.sel Xp 0) (.c 1)) (
 .split (.eql (.sel X0 0) (.c 1)) (
 .split (.eql (.sel be 0) (.c 1)) (
 .split (.lss (.sel be 1) (.c 0)) (
 .split (.lss (.c 0) (.lenL (.sel X0 1))) (
 .split (.eql (.lenL (.sel Xp 1)) (.c 0)) lR gj) gj) (
 .leaf (.done 0 [(.c 2), (.sel be 1)]))) x3) x3) x3) (
 .leaf (.done 0 [(.c 1), (.sel dh 1)]))) x3) x3) x3) x3) x3
def t62 : List (Tr Plf) := [pq]
def mb : Tr Plf :=
 .split kK (
 .split nY (
 .split ia (
 .split lp (
 .leaf (.next 1 [.nilL, (.bc true), (.sel QW 1), (.sel QW 2), (.sel Qf 1), (.sel Qf 2), (.sel Vu 1), (.sel Vu 2), (.sel W5 1), (.sel W5 2), (.c 0), u0, u1, u2, u3, u4, u5, u6, u7, u8, u9, u10, u11])) x3) x3) x3) x3
def gB : Tr Plf :=
 .split (.lss u10 x89) (
 .leaf (.next 2 (us 0 11 ++ [(.c 0)] ++ us 11 12))) (
 .split (.eql (.sel bU 0) (.c 1)) (
 .split (.eql (.sel aM 0) (.c 1)) (
 .leaf (.next 3 [u0, u1, (.sel bU 1), (.sel bU 2), (.sel aM 1), (.sel aM 2), (.c 0), u11, u12, u13, u14, u15, u16, u17, u18, u19, u20, u21, u22])) x3) x3)
def mw : Tr Plf :=
 .split x99 (
 .split (.lss u10 (.c 0)) x3 (
 .split (.lss u10 x89) (
 .split (.lss Ur (.c 0)) x3 (
 .split (.lss Ur WE) (
 .split dA x3 (
 .split (.lss Qh (.c 0)) x3 (
 .split (.lss Qh cU) (
 .split (.eql (.cell u15 Ur 2) (.cell u19 Qh 2)) (
 .split (.eqSS (.cell u15 Ur 3) (.cell u19 Qh 3)) (
 .split (.eqSS (.cell u15 Ur 4) (.cell u19 Qh 4)) (
 .split (.eql (.sel YR 0) (.c 1)) (
 .split (.eql (.sel YD 0) (.c 1)) (
 .split J1 (
 .leaf (.next 2 [(.snoc u0 (rl [(.sel YR 1), (.nilIs (.sel YR 2) (.sel YR 3)), (.sel YD 1), (.nilIs (.sel YD 2) (.sel YD 3))])), (.bc false), u2, u3, u4, u5, u6, u7, u8, u9, u10, XO, u12, u13, u14, u15, u16, u17, u18, u19, u20, u21, u22, u23])) x3) x3) x3) aZ) aZ) aZ) x3))) x3)) x3)) (
 .leaf (.next 1 [u0, u1, u2, u3, u4, u5, u6, u7, u8, u9, (.arith .add .i64 u10 (.c 1)), u12, u13, u14, u15, u16, u17, u18, u19, u20, u21, u22, u23]))
def ey : Tr Plf :=
 .split (.lss u6 x26) (
 .leaf (.next 4 (us 0 7 ++ [(.c 0)] ++ us 7 12))) TN
def dZ : Tr Plf :=
 .split (.lss u7 x79) (
 .split Zd x3 (
 .split (.lss TS (.c 0)) x3 (
 .split (.lss TS W7) (
 .split W3 x3 (
 .split (.lss u6 x26) (
 .split (.lss Th (.c 0)) x3 (
 .split (.lss Th WE) (
 .split (.eql (.cell u11 TS 2) (.cell u15 Th 2)) (
 .split (.eqSS (.cell u11 TS 3) (.cell u15 Th 3)) (
 .split (.eqSS (.cell u11 TS 4) (.cell u15 Th 4)) (
 .split (.eql (.sel XQ 0) (.c 1)) (
 .split (.eql (.sel Xm 0) (.c 1)) (
 .split J1 (
 .leaf (.next 4 [(.snoc u0 (rl [(.sel XQ 1), (.nilIs (.sel XQ 2) (.sel XQ 3)), (.sel Xm 1), (.nilIs (.sel Xm 2) (.sel Xm 3))])), (.bc false), u2, u3, u4, u5, u6, T7, u8, u9, u10, u11, u12, u13, u14, u15, u16, u17, u18, u19])) x3) x3) x3) ci) ci) ci) x3)) x3)) x3))) (
 .leaf (.next 3 (us 0 6 ++ [NK] ++ us 8 12)))
def t63 : List (Tr Plf) := [mb, gB, mw, ey, dZ]
def fM : Tr Plf :=
 .split (.eql (.sel YN 0) (.c 1)) (
 .split (.sel YN 3) (
 .leaf (.next 1 [(.sel YN 1), (.sel YN 2), .nilL, (.bc true), (.c 0), u0, u1, u2, u3, u4, u5, u6, u7, u8, u9])) (
 .leaf (.done 0 [(.c 7)]))) x3
def nX : Tr Plf :=
 .split YA (
 .split OH x3 (
 .split (.eql (.sel VQ 0) (.c 1)) (
 .split (.eql (.sel VQ 4) (.c 0)) (
 .split (.eql (.sel dJ 0) (.c 1)) (
 .leaf (.next 1 [u0, u1, (.sel dJ 1), (.sel dJ 2), T0, u5, u6, u7, u8, u9, u10, u11, u12, u13, u14])) x3) (
 .leaf (.next 1 ([u0, u1, u2, u3, T0] ++ us 5 10)))) x3)) (
 .leaf (.next 2 ([u2, u3, (.c 0)] ++ us 5 8)))
def gq : Tr Plf :=
 .split x5 (
 .split (.lss u2 (.c 4000)) (
 .split x2 x3 (
 .split (.eql (.sel (.app 62 Qp) 0) (.c 1)) (
 .split (.eql (.sel (.app 62 Qp) 1) (.c 0)) (
 .split (.eql (.sel (.app 63 Qp) 0) (.c 1)) (
 .split (.eql (.sel bY 0) (.c 1)) (
 .leaf (.next 2 [(.sel bY 1), (.sel bY 2), x9, u3, u4, u5, u6, u7, u8, u9, u10])) x3) x3) (
 .leaf (.done 1 [x6, VT, dH, fX, (.sel (.app 62 Qp) 1), (.sel (.app 62 Qp) 2)]))) x3)) oU) oU
def t64 : List (Tr Plf) := [fM, nX, gq]
def ip : Tr Plf :=
 .split (.eql (.sel ny 0) (.c 1)) (
 .split (.sel ny 1) fv x1) (
 .split (.eql (.sel ph 0) (.c 1)) (
 .split (.sel ph 1) fv x1) x3)
def t65 : List (Tr Plf) := [ip]
def ls : Tr Plf :=
 .split (.eql (.sel iS 0) (.c 1)) (
 .split (.sel iS 1) (
 .split (.eql (.sel eM 0) (.c 1)) (
 .split (.sel eM 1) (
 .split (.eql u6 u12) (
 .leaf (.done 0 [(.eql u7 u13)])) x1) x1) x3) x1) x3
def t66 : List (Tr Plf) := [ls]
def jU : Tr Plf :=
 .split (.lss (.c 8) x84) J2 (
 .split (.lss (.c 20) x33) J2 (
 .split (.lss (.c 5) x79) J2 (
 .split (.lss (.c 8) x49) J2 (
 .split (.lss (.c 20) x93) J2 (
 .split (.lss (.c 5) x89) J2 (
 .split (.lss (.c 30) x95) J2 (
 .split (.lss (.c 8) Tt) J2 nV)))))))
def iE : Tr Plf :=
 .split (.lss u0 (.c 2)) (
 .split (.eql u0 (.c 0)) (
 .leaf (.next 2 ([(.c 0), (.c 0)] ++ us 0 11 ++ [u1, u2, u3, u4]))) (
 .split (.eql u0 (.c 1)) (
 .leaf (.next 2 ([(.c 0), (.c 0)] ++ us 0 11 ++ [u5, u6, u7, u8]))) x3)) (
 .split (.eql (.sel C5 0) (.c 1)) (
 .split (.eql (.sel (.app 48 U6) 0) (.c 1)) (
 .split (.eql (.sel (.app 48 U6) 2) (.c 0)) (
 .split (.eql (.sel Lv 0) (.c 1)) (
 .split jx (
 .split (.sel dz 1) jQ x1) (
 .split ku (
 .split (.sel bR 1) jQ x1) x3)) (
 .split (.eql (.sel Lv 0) (.c 2)) (
 .split (.eql (.sel jG 0) (.c 1)) (
 .split (.sel jG 1) (
 .split XF (
 .split mU fY x1) (
 .split mU x1 fY)) x1) x3) x3)) (
 .split jx (
 .split (.sel dz 1) hJ x1) (
 .split ku (
 .split (.sel bR 1) hJ x1) x3))) x3) x3)
def lw : Tr Plf :=
 .split (.lss u1 WE) (
 .split x14 x3 (
 .split (.lss cM (.c 0)) (
 .leaf (.next 2 [(.arith .add .i64 u0 (.c 0)), x17, u2, u3, u4, u5, u6, u7, u8, u9, u10, u11, u12, u13, u14, u15, u16])) (
 .split (.lss (.c 3000) cM) (
 .leaf (.next 2 [(.arith .add .i64 u0 (.c 3000)), x17, u2, u3, u4, u5, u6, u7, u8, u9, u10, u11, u12, u13, u14, u15, u16])) (
 .leaf (.next 2 [(.arith .add .i64 u0 cM), x17, u2, u3, u4, u5, u6, u7, u8, u9, u10, u11, u12, u13, u14, u15, u16]))))) (
 .split (.lss (.c 40) u0) (
 .split (.lss (.c 2000) u0) eB J2) eB)
def t67 : List (Tr Plf) := [jU, iE, lw]
def ts : List (List (Tr Plf)) := [t0, t1, t2, t3, t4, t5, t6, t7, t8, t9, t10, t11, t12, t13, t14, t15, t16, t17, t18, t19, t20, t21, t22, t23, t24, t25, t26, t27, t28, t29, t30, t31, t32, t33, t34, t35, t36, t37, t38, t39, t40, t41, t42, t43, t44, t45, t46, t47, t48, t49, t50, t51, t52, t53, t54, t55, t56, t57, t58, t59, t60, t61, t62, t63, t64, t65, t66, t67]
end Cs

