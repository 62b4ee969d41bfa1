/- What is stated: the trees of tests of the functions that the law MachineLoops reaches, as data. Conditions: none. -/
import Derived.Test.YthkffgljlhjggaaGreatBeF
set_option linter.unusedVariables false
set_option linter.unusedSectionVars false
set_option linter.unusedSimpArgs false
namespace Ml
open Go.AE
def u0 : SE := .var 0
def u1 : SE := .var 1
def u2 : SE := .var 2
def u3 : SE := .var 3
def u4 : SE := .var 4
def u5 : SE := .var 5
def u6 : SE := .var 6
def u7 : SE := .var 7
def u8 : SE := .var 8
def u9 : SE := .var 9
def u10 : SE := .var 10
def u11 : SE := .var 11
def u12 : SE := .var 12
def u13 : SE := .var 13
def u14 : SE := .var 14
def u15 : SE := .var 15
def u16 : SE := .var 16
def u17 : SE := .var 17
def u18 : SE := .var 18
def u19 : SE := .var 19
def u20 : SE := .var 20
def u21 : SE := .var 21
def u22 : SE := .var 22
def u23 : SE := .var 23
def u24 : SE := .var 24
def u25 : SE := .var 25
def u26 : SE := .var 26
def u27 : SE := .var 27
def u28 : SE := .var 28
def u29 : SE := .var 29
def u30 : SE := .var 30
def u31 : SE := .var 31
def u32 : SE := .var 32
def u33 : SE := .var 33
def u34 : SE := .var 34
def u35 : SE := .var 35
def u36 : SE := .var 36
def u37 : SE := .var 37
def u38 : SE := .var 38
def u39 : SE := .var 39
def u40 : SE := .var 40
def u41 : SE := .var 41
def u42 : SE := .var 42
def u43 : SE := .var 43
def u44 : SE := .var 44
def u45 : SE := .var 45
def u46 : SE := .var 46
def u47 : SE := .var 47
def x0 : SE := (.lenL u2)
def x1 : Tr Plf := (
 .leaf (.done 0 [(.bc true)]))
def x2 : SE := (.lenL u1)
def x3 : SE := (.lenL u3)
def x4 : SE := (.lenS u0)
def x5 : Tr Plf := (
 .leaf (.next 1 [(.c 0), u0, u1, u2, u3]))
def x6 : SE := (.lss u0 x3)
def x7 : SE := (.lss u0 (.c 0))
def x8 : Tr Plf := (
 .leaf .stuck)
def x9 : SE := (.cell u3 u0 0)
def x10 : SE := (.arith .add .i64 u0 (.c 1))
def x11 : Tr Plf := (
 .leaf (.next 1 [x10, u1, u2, u3, u4]))
def x12 : Tr Plf := (
 .leaf (.next 2 [(.c 0), u1, u2, u3, u4]))
def x13 : SE := (.lss u0 x0)
def x14 : SE := (.cell u2 u0 0)
def x15 : Tr Plf := (
 .leaf (.next 2 [x10, u1, u2, u3, u4]))
def x16 : Tr Plf := (
 .leaf (.next 3 [(.c 0), u1, u2, u3, u4]))
def x17 : SE := (.lenL u4)
def x18 : SE := (.lss u0 x17)
def x19 : Tr Plf := (
 .leaf (.next 3 [x10, u1, u2, u3, u4]))
def x20 : Tr Plf := (
 .leaf (.done 0 [(.bc false)]))
def x21 : SE := (.lss u2 (.c 0))
def x22 : SE := (.lenL u0)
def x23 : SE := (.lss u2 x22)
def x24 : SE := (.cell u0 u2 0)
def x25 : SE := (.conv .u8 x24)
def x26 : SE := (.eql u2 (.c 0))
def x27 : SE := (.arith .add .i64 u2 (.c 1))
def x28 : Tr Plf := (
 .leaf (.next 1 [u0, u1, x27]))
def x29 : Plf := (.next 1 [u0, (.c 0), u1])
def x30 : SE := (.lss u1 x22)
def x31 : SE := (.lss u1 (.c 0))
def x32 : SE := (.cell u0 u1 0)
def x33 : Tr Plf := (
 .leaf (.done 0 [u1]))
def x34 : SE := (.arith .add .i64 u1 (.c 1))
def x35 : Tr Plf := (
 .split x31 x8 (
 .split (.eqSS x32 u2) x33 (
 .leaf (.next 1 [u0, x34, u2]))))
def x36 : Tr Plf := (
 .leaf (.done 0 [(.c (-1))]))
def x37 : SE := (.lss u0 u1)
def x38 : Tr Plf := (
 .leaf (.done 0 [(.c 0)]))
def x39 : Tr Plf := (
 .leaf (.done 0 [u2]))
def x40 : Tr Plf := (
 .split (.lss u2 u0) x39 (
 .leaf (.next 1 [u0, (.c 0), u3, u4, u5, u6])))
def x41 : SE := (.lss u1 u0)
def x42 : SE := (.lss u1 x17)
def x43 : SE := (.cell u4 u1 0)
def x44 : SE := (.app 2 (rl [(.c 0), x43]))
def x45 : SE := (.app 3 (rl [(.c 0), u4, x43]))
def x46 : SE := (.cell u4 u1 1)
def x47 : Tr Plf := (
 .leaf (.next 1 [u0, x34, u2, u3, u4, u5]))
def x48 : SE := (.lss u1 x3)
def x49 : SE := (.cell u3 u1 0)
def x50 : SE := (.app 2 (rl [(.c 0), x49]))
def x51 : SE := (.app 5 (rl [(.c 0), u3, x49]))
def x52 : SE := (.cell u3 u1 2)
def x53 : SE := (.cell u0 u1 1)
def x54 : SE := (.lenL u5)
def x55 : SE := (.cell u5 u1 2)
def x56 : SE := (.cell u5 u1 0)
def x57 : SE := (.app 5 (rl [(.c 0), u3, x56]))
def x58 : SE := (.eql (.sel x57 0) (.c 1))
def x59 : SE := (.cell u5 u1 5)
def x60 : SE := (.app 3 (rl [(.c 0), u4, x59]))
def x61 : SE := (.eql (.sel x60 0) (.c 1))
def x62 : SE := (.lss (.sel x57 1) (.c 0))
def x63 : SE := (.cell u5 u1 1)
def x64 : SE := (.app 5 (rl [(.c 0), u3, x63]))
def x65 : SE := (.eql (.sel x64 0) (.c 1))
def x66 : SE := (.lss (.sel x64 1) (.c 0))
def x67 : SE := (.lss x54 u1)
def x68 : SE := (.cell u5 u1 3)
def x69 : SE := (.cell u5 u1 4)
def x70 : SE := (.cell u5 u1 6)
def x71 : SE := (.cell u5 u1 7)
def x72 : SE := (.cell u5 u1 8)
def x73 : SE := (.app 7 (rl [(.c 0), (.sub u5 (.c 0) u1), x56, x63, x55, x68, x69, x59, x70, x71, x72]))
def x74 : SE := (.eql (.sel x73 0) (.c 1))
def x75 : SE := (.lss (.sel x73 1) (.c 0))
def x76 : SE := (.lss (.sel x57 1) x3)
def x77 : SE := (.app 2 (rl [(.c 0), x68]))
def x78 : SE := (.app 2 (rl [(.c 0), x69]))
def x79 : SE := (.cell u4 (.sel x60 1) 1)
def x80 : Tr Plf := (
 .split (.eqS x59 0 0) (
 .split (.eql x70 (.c 0)) (
 .split (.eql x71 (.c 0)) (
 .split (.eql x72 (.c 0)) x47 x33) x33) x33) (
 .split (.lss (.sel x60 1) (.c 0)) x33 (
 .split (.lss x70 (.c 0)) x33 (
 .split (.lss x71 x70) x33 (
 .split (.lss x72 (.c (-1000))) x33 (
 .split (.lss (.c 1000) x72) x33 (
 .split (.lss (.sel x60 1) x17) (
 .split (.lss x79 x71) x33 (
 .split (.lss (.arith .add .i64 x70 x72) (.c 0)) x33 (
 .split (.lss x79 (.arith .add .i64 x71 x72)) x33 x47))) x8)))))))
def x81 : Tr Plf := (
 .split x58 (
 .split x61 (
 .split x62 x33 (
 .split x65 (
 .split x66 x33 (
 .split x67 x8 (
 .split x74 (
 .split x75 (
 .split x76 (
 .split (.eql (.sel x77 0) (.c 1)) (
 .split (.sel x77 1) (
 .split (.eql (.sel x78 0) (.c 1)) (
 .split (.sel x78 1) (
 .split (.eqSS x69 u2) x33 x80) x33) x8) x33) x8) x8) x33) x8))) x8)) x8) x8)
def x82 : Tr Plf := (
 .split (.lss (.lenS x68) (.c 4611686018427387904)) (
 .split (.lss (.lenS x69) (.c 4611686018427387904)) (
 .split (.eqS (.strCat x68 x69) 0 0) x80 x33) x8) x8)
def x83 : SE := (rl [u0])
def x84 : SE := (.app 2 (.rcons (.c 0) x83))
def x85 : SE := (rl [u3])
def x86 : SE := (.rcons u1 (.rcons u2 x85))
def x87 : SE := (.rcons u0 x86)
def x88 : SE := (.app 4 (.rcons (.c 0) (.rcons x0 (.rcons (.c 0) (.rcons (.c 4) x87)))))
def x89 : SE := (.app 6 (.rcons (.c 0) (.rcons x2 (.rcons (.c 1) (.rcons (.c 24) x87)))))
def x90 : SE := (.app 8 (.rcons (.c 0) (.rcons x3 (.rcons (.c 0) (.rcons (.c 80) x87)))))
def x91 : Tr Plf := (
 .leaf (.done 0 [(.c 0), (.c 0)]))
def x92 : Tr Plf := (
 .leaf (.done 0 [(.c 0), (.c 290)]))
def x93 : SE := (.app 10 (rl [(.c 0), u2, u3, x32]))
def x94 : SE := (.c 1073741824)
def x95 : SE := (rl [(.c 0)])
def x96 : Tr Plf := (
 .leaf (.done 0 [u2, u3]))
def x97 : SE := (.isNil u0)
def x98 : Tr Plf := (
 .leaf (.done 0 [.nilL, (.bc true)]))
def x99 : Tr Plf := (
 .split (.lss x22 (.c 1048576)) (
 .leaf (.done 0 [(.cat .emptyL u0), (.bc false)])) x8)
def ZQ : SE := (.lss u4 x0)
def Xk : SE := (.lss u4 (.c 0))
def WM : SE := (.cell u2 u4 0)
def aY : SE := (.cell u2 u4 1)
def aA : SE := (.cell u2 u4 2)
def TJ : SE := (.arith .add .i64 u4 (.c 1))
def fD : Tr Plf := (
 .leaf (.done 0 [u0, u1]))
def jX : Tr Plf := (
 .leaf (.done 0 [(.c 0), (.c 2)]))
def SS : Tr Plf := (
 .leaf (.done 0 [(.c 0), (.c 9)]))
def Wy : SE := (rl [u5])
def XK : SE := (.mIdx [(.int .i64)] u1 Wy)
def Zz : SE := (.lss XK (.c 0))
def ai : SE := (.app 16 (.rcons (.c 0) (.rcons u0 (.rcons u1 (.rcons u2 (.rcons u3 (.rcons u4 Wy)))))))
def eS : Tr Plf := (
 .leaf (.done 0 [(.c 0), u1]))
def f5 : SE := (.snoc u2 (.rcons u4 Wy))
def ID : SE := (.arith .quo .i64 (.arith .sub .i64 u0 (.c 1)) (.c 2))
def Z6 : SE := (.cell u2 ID 0)
def YQ : SE := (.cell u2 ID 1)
def Zn : SE := (.cell u2 u0 1)
def YU : SE := (.lss YQ Zn)
def Z8 : SE := (.lss Zn YQ)
def Xw : Tr Plf := (
 .leaf (.next 1 [ID, u1, (.upd (.upd (.upd (.upd u2 ID 0 x14) ID 1 Zn) u0 0 Z6) u0 1 YQ), u3, u4]))
def WK : SE := (rl [u5, u6])
def Z9 : SE := (.cell u3 ID 0)
def YM : SE := (.cell u3 ID 1)
def TC : SE := (.cell u3 u0 1)
def Zp : SE := (.lss YM TC)
def QN : Tr Plf := (
 .leaf (.done 0 [u3, u4]))
def Zx : SE := (.lss TC YM)
def W3 : Tr Plf := (
 .leaf (.next 1 [ID, u1, u2, (.upd (.upd (.upd (.upd u3 ID 0 x9) ID 1 TC) u0 0 Z9) u0 1 YM), u4, u5]))
def eu : Tr Plf := (
 .leaf (.done 0 [(.c 2), u2, u3, u4, u1]))
def eG : Tr Plf := (
 .leaf (.done 0 [(.c 3), u2, u3, u4, u1]))
def OJ : SE := (.c 1099511627776)
def Za : SE := (.arith .add .i64 u0 u6)
def W1 : SE := (rl [u5, Za])
def YK : SE := (.rcons u3 (.rcons u4 (.rcons Za Wy)))
def Zh : SE := (.app 19 (.rcons (.c 0) (.rcons u0 (.rcons (.snoc .emptyL W1) (.rcons (.bc false) YK)))))
def Zy : SE := (.app 19 (.rcons (.c 0) (.rcons u0 (.rcons (.snoc u1 W1) (.rcons u2 YK)))))
def cq : SE := (.upd u1 XK 1 Za)
def ZX : SE := (.app 19 (.rcons (.c 0) (.rcons u0 (.rcons cq (.rcons u2 YK)))))
def eJ : SE := (.app 15 (rl [(.c 0), u3, u4, u20]))
def S6 : SE := (.sel eJ 1)
def SZ : SE := (.rcons (.c 0) (.rcons u12 (.rcons u13 (.rcons u14 (.rcons u15 (.rcons u16 x95))))))
def Xu : SE := (.cell S6 (.c 0) 2)
def V0 : SE := (.app 20 (rl [(.c 0), u12, (.sel (.app 17 SZ) 2), u14, u15, u16, (.c 0), Xu]))
def L9 : SE := (.rcons (.c 0) x87)
def ap : SE := (rl [u2])
def Jf : SE := (.rcons (.c 0) ap)
def U3 : SE := (.app 12 (rl [(.c 0), u1]))
def TY : SE := (.app 14 (.rcons (.c 0) x85))
def Pz : SE := (.app 21 (rl [(.c 0), (.sel (.app 11 Jf) 1), (.sel (.app 11 Jf) 2), u0, (.sel U3 1), (.sel U3 2), (.sel (.app 13 Jf) 1), (.sel (.app 13 Jf) 2), (.sel TY 1), (.sel TY 2), (.strc 0 0), (.bc false), (.c 0), (.c 0), .emptyL, (.bc true), .nilL, (.bc true), (.bc false), .nilL, (.bc true), (.cell u1 (.c 0) 0)]))
def Z5 : SE := (.strAt u0 (.c 0))
def fC : Tr Plf := (
 .leaf (.next 1 [u0, (.c 0)]))
def QP : SE := (.strAt u0 u1)
def Xc : Tr Plf := (
 .leaf (.next 1 [u0, x34]))
def Zg : Plf := (.next 1 [u4, (.c 0), u0, u1, u2, u3])
def gS : SE := (.cell u3 u4 0)
def YI : SE := (.app 25 (rl [(.c 0), u0, u1, u2, u3, gS]))
def iw : SE := (.cell u3 u4 1)
def cW : SE := (.app 25 (rl [(.c 0), u0, u1, u2, u3, iw]))
def Zd : SE := (.cell u3 u4 5)
def U9 : SE := (.cell u3 u4 6)
def VM : SE := (.cell u3 u4 7)
def S9 : SE := (.cell u3 u4 8)
def dG : Tr Plf := (
 .leaf (.next 1 [u4, (.sel YI 1), (.c 0), u0, u1, u2, u3, gS, iw, (.cell u3 u4 2), (.cell u3 u4 3), (.cell u3 u4 4), Zd, U9, VM, S9]))
def WA : SE := (.app 24 (rl [(.c 0), u0, u1, u2, u3, Zd]))
def iA : SE := (.cell u2 (.sel WA 1) 1)
def Xs : SE := (.lenL u6)
def Xa : SE := (.lss u2 Xs)
def SX : SE := (.cell u6 u2 0)
def Po : SE := (.cell u6 u2 1)
def aB : SE := (rl [u10])
def cy : SE := (.app 23 (.rcons (.c 0) aB))
def gh : SE := (.app 23 (rl [(.c 0), u11]))
def dR : Tr Plf := (
 .split (.eql (.sel cy 0) (.c 1)) (
 .split (.sel cy 1) (
 .split (.eql (.sel gh 0) (.c 1)) (
 .split (.sel gh 1) (
 .leaf (.done 0 [(.neg (.eqSS u11 u3))])) x20) x8) x20) x8)
def e6 : SE := (.app 23 (.rcons (.c 0) x83))
def bS : SE := (.app 23 (rl [(.c 0), x9]))
def di : SE := (.app 24 (rl [(.c 0), u1, u2, u3, u4, x9]))
def W8 : Tr Plf := (
 .leaf (.done 0 [u0, (.c 291)]))
def iO : SE := (.app 23 (rl [(.c 0), x14]))
def gJ : SE := (.app 25 (rl [(.c 0), u1, u2, u3, u4, x14]))
def bT : SE := (.cell u2 u0 2)
def Wo : Tr Plf := (
 .leaf (.done 0 [u0, (.c 292)]))
def cx : SE := (.app 26 (.rcons (.c 0) (.rcons u1 (.rcons u2 (.rcons u3 (.rcons u4 x83))))))
def Uu : Tr Plf := (
 .leaf (.done 0 [.nilL, .nilL, (.c 2)]))
def jm : SE := (rl [u3, u4])
def T6 : SE := (.app 31 (.rcons (.c 0) jm))
def dO : SE := (.eql (.sel T6 0) (.c 1))
def Q8 : SE := (.arith .sub .i64 x3 (.c 1))
def gL : SE := (.upd (.upd u3 (.c 0) 0 (.cell u3 Q8 0)) (.c 0) 1 (.cell u3 Q8 1))
def ii : SE := (.arith .mul .i64 (.c 2) u1)
def cJ : SE := (.cell u6 u9 0)
def Y7 : SE := (.cell u6 u9 1)
def YN : SE := (.lss Y7 Po)
def ST : SE := (.arith .add .i64 u3 (.c 1))
def WG : Tr Plf := (
 .leaf (.next 2 ([u0, u1, u9, ST] ++ us 4 7)))
def On : Tr Plf := (
 .leaf (.next 2 ([u0, u1, u2, ST] ++ us 4 7)))
def f6 : Tr Plf := (
 .split (.lss Po Y7) On On)
def ew : SE := (.cell u6 u10 0)
def aj : SE := (.cell u6 u10 1)
def ZU : SE := (.lss aj Po)
def WD : Tr Plf := (
 .leaf (.next 2 ([u0, u1, u10, ST] ++ us 4 7)))
def bJ : Tr Plf := (
 .split (.lss Po aj) On On)
def ZM : SE := (.app 33 (.rcons (.c 0) (.rcons u0 (.rcons u4 x86))))
def aF : Tr Plf := (
 .split (.eql (.sel ZM 0) (.c 1)) (
 .leaf (.next 1 [u0, u1, (.sel ZM 1), (.sel ZM 2), u4])) x8)
def eM : SE := (.mIdx [(.int .i64)] u4 (rl [(.cell u2 (.c 0) 1)]))
def bt : SE := (.rcons u1 (.rcons u2 jm))
def Ty : SE := (.app 34 (.rcons (.c 0) (.rcons u5 bt)))
def WX : SE := (.rcons (.c 0) (.rcons u0 bt))
def S7 : SE := (.app 34 WX)
def cp : Tr Plf := (
 .leaf (.done 0 [u0, u1, (.c 0), u3, u5, u6, u7]))
def SY : SE := (.app 34 (.rcons (.c 0) (.rcons u3 (.rcons u7 (.rcons u4 WK)))))
def Xl : SE := (rl [u9])
def fH : Tr Plf := (
 .split (.eql (.sel SY 0) (.c 1)) (
 .leaf (.next 1 [(.snoc u0 Xl), (.bc false), (.sel SY 3), u3, u4, (.sel SY 4), (.sel SY 5), u7, (.sel SY 1), (.sel SY 2)])) x8)
def YR : SE := (.mIdx [(.int .i64)] u7 Xl)
def Td : SE := (.app 34 (.rcons (.c 0) (.rcons u3 (.rcons (.rmv u7 YR) (.rcons u4 WK)))))
def W5 : SE := (.app 10 (.rcons (.c 0) (.rcons u0 (.rcons u1 ap))))
def Wb : SE := (.eqS u7 0 0)
def ZJ : Tr Plf := (
 .leaf (.done 0 [(.bc true), (.c 0)]))
def OR : SE := (rl [(.c 0), u0, u1, u7])
def gl : SE := (.eql (.sel (.app 10 OR) 0) (.c 1))
def Qr : SE := (.sel (.app 10 OR) 1)
def XO : SE := (.sel (.app 37 OR) 1)
def Np : Tr Plf := (
 .leaf (.done 0 [(.bc false), (.c 0)]))
def ei : Plf := (.next 1 ([(.c 0)] ++ us 2 10 ++ [u17, u18, u19, u0, u1, u12, u14, u15, u16, u13] ++ us 21 9 ++ [u20]))
def Z7 : SE := (.lss u0 (.c 3))
def Un : Tr Plf := (
 .leaf (.next 1 ([x10] ++ us 1 30)))
def jN : SE := (rl (us 21 9))
def jW : SE := (.app 38 (.rcons (.c 0) (.rcons u14 (.rcons u15 jN))))
def dK : Tr Plf := (
 .split (.eql u0 (.c 0)) (
 .split (.eqSS u21 u8) Un x20) (
 .split (.eql u0 (.c 1)) (
 .split (.eql (.sel jW 0) (.c 1)) (
 .split (.sel jW 1) Un x20) x8) (
 .split (.eql u0 (.c 2)) (
 .split (.eql u23 (.c 3)) (
 .split u30 Un x20) Un) x8)))
def Xq : SE := (.cell u0 u2 1)
def ae : SE := (.cell u0 u2 2)
def Wl : SE := (.cell u0 u2 3)
def XH : SE := (.cell u0 u2 4)
def ca : SE := (rl [x24, Xq, ae, Wl, XH, (.cell u0 u2 5), (.cell u0 u2 6), (.cell u0 u2 7), (.cell u0 u2 8)])
def f9 : SE := (.app 39 (.rcons (.c 0) (.rcons u19 (.rcons u20 (.rcons u6 (.rcons u7 (.rcons u8 (.rcons u9 (.rcons u10 (.rcons u11 (.rcons u12 (.rcons u13 (.rcons u14 (.rcons u15 (.rcons u21 (.rcons u25 (.rcons u22 (.rcons u23 (.rcons u24 (.rcons u16 (.rcons u17 (.rcons u18 (.rcons u5 ca)))))))))))))))))))))))
def kb : Tr Plf := (
 .leaf (.next 1 ([u0, u1, x27] ++ us 3 24)))
def Z3 : SE := (.lss u20 u12)
def fi : Tr Plf := (
 .leaf (.done 0 [.nilL, (.bc true), (.c 3), u17, u12, u14, u15, u16, u13]))
def ZG : SE := (.lss OJ u20)
def Md : SE := (.app 32 (rl ([(.c 0)] ++ us 12 5)))
def We : SE := (.eql (.sel Md 0) (.c 1))
def HO : SE := (.sel Md 2)
def TB : SE := (.app 35 (rl [(.c 0), (.sel Md 1), (.sel Md 5), HO, (.sel Md 3), (.sel Md 4), u20]))
def ZC : SE := (.eql (.sel TB 0) (.c 1))
def Ze : SE := (.app 36 (rl [(.c 0), u7, u8]))
def Wz : SE := (.eql (.sel Ze 0) (.c 1))
def J1 : SE := (.sel TB 4)
def J2 : SE := (.sel TB 7)
def JX : SE := (.sel TB 5)
def JW : SE := (.sel TB 6)
def WI : SE := (.rcons (.sel Ze 1) (.rcons (.sel Ze 2) Xl))
def ay : SE := (.app 40 (.rcons (.c 0) (.rcons .nilL (.rcons (.bc true) (.rcons u0 (.rcons u1 (.rcons u2 (.rcons u3 (.rcons u4 (.rcons u5 (.rcons u6 (.rcons u7 (.rcons u8 (.rcons u9 (.rcons u10 (.rcons u11 (.rcons J1 (.rcons J2 (.rcons HO (.rcons JX (.rcons JW (.rcons (.bc true) (.rcons u18 (.rcons u19 (.rcons (.bc true) WI)))))))))))))))))))))))))
def Qo : SE := (.lss (.c 0) (.lenL (.sel TB 1)))
def ZY : SE := (.app 40 (.rcons (.c 0) (.rcons .nilL (.rcons (.bc true) (.rcons u0 (.rcons u1 (.rcons u2 (.rcons u3 (.rcons u4 (.rcons u5 (.rcons u6 (.rcons u7 (.rcons u8 (.rcons u9 (.rcons u10 (.rcons u11 (.rcons J1 (.rcons J2 (.rcons HO (.rcons JX (.rcons JW (.rcons Qo (.rcons u18 (.rcons u19 (.rcons Qo WI)))))))))))))))))))))))))
def fh : SE := (.eql (.sel (.app 42 OR) 0) (.c 1))
def Oe : SE := (.sel (.app 42 OR) 1)
def ZI : SE := (.cell u1 Oe 0)
def cn : SE := (.arith .add .i64 ZI u10)
def dH : SE := (.cell u3 u11 0)
def cN : SE := (.cell u3 u11 1)
def jd : SE := (.cell u3 u11 2)
def U8 : SE := (rl [(.c 0), u6, u7, dH, cN, jd, (.cell u3 u11 3), (.cell u3 u11 4), (.cell u3 u11 5), (.cell u3 u11 6), (.cell u3 u11 7), (.cell u3 u11 8)])
def aK : SE := (.eql (.sel (.app 44 WX) 0) (.c 1))
def Y9 : SE := (.lss u10 u8)
def cw : Tr Plf := (
 .leaf (.done 0 (us 0 10 ++ [.nilL, (.bc true), (.c 3)])))
def Zu : SE := (.lss OJ u10)
def U2 : SE := (.lenL u7)
def gm : SE := (.app 45 (.rcons (.c 0) (.rcons u4 (.rcons u5 (.rcons u6 (.rcons u7 (.rcons u8 (.rcons u9 (.rcons u10 (.rcons u11 (.rcons u0 (.rcons u12 (.rcons u0 x85)))))))))))))
def bj : SE := (rl [WM, aY, aA, (.cell u2 u4 3), (.cell u2 u4 4), (.cell u2 u4 5), (.cell u2 u4 6), (.cell u2 u4 7), (.cell u2 u4 8)])
def eO : SE := (.app 51 (.rcons (.c 0) (.rcons u18 (.rcons u19 (.rcons u6 (.rcons u7 (.rcons u8 (.rcons u9 (.rcons u10 (.rcons u2 (.rcons u11 (.rcons u12 (.rcons u13 (.rcons u14 (.rcons u20 (.rcons u24 (.rcons u21 (.rcons u22 (.rcons u23 (.rcons u15 (.rcons u16 (.rcons u17 (.rcons u5 bj)))))))))))))))))))))))
def kc : Tr Plf := (
 .leaf (.next 1 ([u0, u1, u2, u3, TJ] ++ us 5 20)))
def ek : SE := (.app 52 (rl ([(.c 0), u7, u8] ++ us 0 7 ++ us 8 12 ++ [(.bc true)])))
def jV : SE := (.arith .add .i64 u5 (.sel (.app 44 WX) 3))
def ZT : Tr Plf := (
 .leaf (.next 1 ([u0, x34] ++ us 2 10)))
def ac : SE := (rl [u0, u1])
def dX : SE := (.app 45 (.rcons (.c 0) (.rcons u2 (.rcons u3 (.rcons u4 (.rcons u5 (.rcons u6 (.rcons u7 (.rcons u8 (.rcons u9 (.rcons u10 (.rcons u11 ac))))))))))))
def Ws : Tr Plf := (
 .leaf (.done 0 [u14]))
def Zk : SE := (.app 44 (rl ([(.c 0)] ++ us 20 5)))
def bf : Tr Plf := (
 .split (.eql u12 u28) (
 .leaf (.next 1 ([(.c 0)] ++ us 2 10 ++ [u17, u18, u19, u0, u1, u12, u14, u15, u16, u13] ++ us 20 10))) x20)
def Zv : SE := (.app 37 (rl [(.c 0), u14, u15, (.cell u27 u0 0)]))
def bN : SE := (rl [u12, u13])
def ZZ : SE := (.app 53 (.rcons (.c 0) (.rcons u14 (.rcons u15 (.rcons u1 (.rcons u2 (.rcons u3 (.rcons u4 (.rcons u5 (.rcons u6 (.rcons u7 (.rcons u8 (.rcons u9 (.rcons u10 (.rcons u16 (.rcons u20 (.rcons u17 (.rcons u18 (.rcons u19 (.rcons u11 bN))))))))))))))))))))
def fI : SE := (rl [u29, u30])
def YX : SE := (.app 54 (.rcons (.c 0) (.rcons u21 (.rcons u22 (.rcons u23 (.rcons u24 (.rcons u25 (.rcons u26 (.rcons u27 (.rcons u28 fI))))))))))
def Zq : SE := (.app 55 (.rcons (.c 0) bN))
def aG : SE := (.app 56 (rl [(.c 0), u21, u22, u23, u24, u25, u26, u27, u28, u29, u30, (.bc false), (.c 0), (.sel Zq 1), (.sel Zq 2)]))
def WT : Tr Plf := (
 .leaf (.next 1 ([x10] ++ us 1 35)))
def aC : SE := (rl [u33, u34])
def br : SE := (.app 38 (.rcons (.c 0) (.rcons u14 (.rcons u15 (.rcons u26 (.rcons u27 (.rcons u28 (.rcons u29 (.rcons u30 (.rcons u31 (.rcons u32 aC)))))))))))
def OT : SE := (.rcons (.c 0) (.rcons u0 (.rcons u1 (.rcons u2 (.rcons u3 (.rcons u4 (.rcons u5 (.rcons u6 (.rcons u7 (.rcons u8 (.rcons u9 aB)))))))))))
def fN : SE := (.cell u7 u27 1)
def WY : SE := (.app 59 (rl [(.c 0), u0, u1, (.cell u7 u27 0), fN, (.cell u7 u27 2), (.cell u7 u27 3), (.cell u7 u27 4), (.cell u7 u27 5), (.cell u7 u27 6), (.cell u7 u27 7), (.cell u7 u27 8)]))
def OO : SE := (.app 21 (rl [(.c 0), (.sel WY 2), u1, u2, u3, u4, u5, u6, u7, u8, u9, u10, u11, u20, u21, u22, u23, u24, u25, u18, u19, fN]))
def bZ : Tr Plf := (
 .leaf (.done 0 [(.c 2), u9, u10, u11, u17, u18, u19, u0, u1, u12, u14, u15, u16, u13]))
def jZ : Tr Plf := (
 .leaf (.done 0 [(.c 3), u9, u10, u11, u17, u18, u19, u0, u1, u12, u14, u15, u16, u13]))
def eK : SE := (rl [(.cell u7 u21 0), (.cell u7 u21 1), (.cell u7 u21 2), (.cell u7 u21 3), (.cell u7 u21 4), (.cell u7 u21 5), (.cell u7 u21 6), (.cell u7 u21 7), (.cell u7 u21 8)])
def fL : SE := (.app 58 (.rcons (.c 0) (.rcons u0 (.rcons u1 (.rcons u2 (.rcons u3 (.rcons u4 (.rcons u5 (.rcons u6 (.rcons u7 (.rcons u8 (.rcons u9 (.rcons u10 (.rcons u11 (.rcons u12 (.rcons u13 (.rcons u14 (.rcons u15 (.rcons u16 (.rcons u17 (.rcons u18 (.rcons u19 (.rcons J1 (.rcons J2 (.rcons HO (.rcons JX (.rcons JW (.rcons (.bc true) eK))))))))))))))))))))))))))))
def eU : SE := (rl [u20, u21])
def II : SE := (.app 60 (.rcons (.c 0) (.rcons u0 (.rcons u1 (.rcons u2 (.rcons u3 (.rcons u4 (.rcons u5 (.rcons u6 (.rcons u7 (.rcons u8 (.rcons u9 (.rcons u10 (.rcons u11 (.rcons u12 (.rcons u13 (.rcons u14 (.rcons u15 (.rcons u16 (.rcons (.bc true) (.rcons u18 (.rcons u19 (.rcons J1 (.rcons J2 (.rcons HO (.rcons JX (.rcons JW (.rcons (.bc true) eU))))))))))))))))))))))))))))
def ik : SE := (.app 58 (.rcons (.c 0) (.rcons u0 (.rcons u1 (.rcons u2 (.rcons u3 (.rcons u4 (.rcons u5 (.rcons u6 (.rcons u7 (.rcons u8 (.rcons u9 (.rcons u10 (.rcons u11 (.rcons u12 (.rcons u13 (.rcons u14 (.rcons u15 (.rcons u16 (.rcons u17 (.rcons u18 (.rcons u19 (.rcons J1 (.rcons J2 (.rcons HO (.rcons JX (.rcons JW (.rcons Qo eK))))))))))))))))))))))))))))
def IX : SE := (.app 60 (.rcons (.c 0) (.rcons u0 (.rcons u1 (.rcons u2 (.rcons u3 (.rcons u4 (.rcons u5 (.rcons u6 (.rcons u7 (.rcons u8 (.rcons u9 (.rcons u10 (.rcons u11 (.rcons u12 (.rcons u13 (.rcons u14 (.rcons u15 (.rcons u16 (.rcons (.bc false) (.rcons u18 (.rcons u19 (.rcons J1 (.rcons J2 (.rcons HO (.rcons JX (.rcons JW (.rcons Qo eU))))))))))))))))))))))))))))
def Zb : SE := (.cat .emptyL u1)
def gN : Tr Plf := (
 .leaf (.done 0 (us 0 10 ++ [(.c 2)])))
def gp : Tr Plf := (
 .leaf (.done 0 (us 0 10 ++ [(.c 3)])))
def dh : SE := (.app 45 (rl ([(.c 0)] ++ us 0 12)))
def i4 : SE := (.app 58 (.rcons (.c 0) (.rcons u20 (.rcons u21 (.rcons u7 (.rcons u8 (.rcons u9 (.rcons u10 (.rcons u11 (.rcons u12 (.rcons u13 (.rcons u14 (.rcons u15 (.rcons u16 (.rcons u22 (.rcons u26 (.rcons u23 (.rcons u24 (.rcons u25 (.rcons u17 (.rcons u18 (.rcons u19 (.rcons u27 (.rcons u31 (.rcons u28 (.rcons u29 (.rcons u30 (.rcons u6 ca))))))))))))))))))))))))))))
def Vw : Tr Plf := (
 .leaf (.next 1 ([u0, u1, x27] ++ us 3 30)))
def ja : Tr Plf := (
 .leaf (.done 0 [(.c 0), (.c 3), u9, u10, u11, u17, u18, u19, u0, u1, u12, u14, u15, u16, u13]))
def T5 : SE := (.app 64 (.rcons (.c 0) (.rcons u21 (.rcons u22 (.rcons (.c (-1)) (.rcons u0 (.rcons u1 (.rcons u2 (.rcons u3 (.rcons u4 (.rcons u5 (.rcons u6 (.rcons u7 (.rcons u8 (.rcons u9 (.rcons u10 (.rcons u11 (.rcons u12 (.rcons u13 (.rcons u14 (.rcons u15 (.rcons u16 (.rcons u17 (.rcons u18 (.rcons u19 (.rcons J1 (.rcons J2 (.rcons HO (.rcons JX (.rcons JW (.rcons (.bc true) WI)))))))))))))))))))))))))))))))
def j5 : Tr Plf := (
 .leaf (.done 0 [(.c 0), (.c 9), u9, u10, u11, (.bc true), u18, u19, u0, u1, u12, u14, u15, u16, u13]))
def IT : SE := (.app 60 (rl [(.c 0), u0, u1, u2, u3, u4, u5, u6, u7, u8, u9, u10, u11, u12, u13, u14, u15, u16, (.bc true), u18, u19, J1, J2, HO, JX, JW, (.bc true), u20, (.sel T5 1)]))
def Vd : SE := (.app 64 (.rcons (.c 0) (.rcons u21 (.rcons u22 (.rcons (.c (-1)) (.rcons u0 (.rcons u1 (.rcons u2 (.rcons u3 (.rcons u4 (.rcons u5 (.rcons u6 (.rcons u7 (.rcons u8 (.rcons u9 (.rcons u10 (.rcons u11 (.rcons u12 (.rcons u13 (.rcons u14 (.rcons u15 (.rcons u16 (.rcons u17 (.rcons u18 (.rcons u19 (.rcons J1 (.rcons J2 (.rcons HO (.rcons JX (.rcons JW (.rcons Qo WI)))))))))))))))))))))))))))))))
def jS : Tr Plf := (
 .leaf (.done 0 [(.c 0), (.c 9), u9, u10, u11, (.bc false), u18, u19, u0, u1, u12, u14, u15, u16, u13]))
def I7 : SE := (.app 60 (rl [(.c 0), u0, u1, u2, u3, u4, u5, u6, u7, u8, u9, u10, u11, u12, u13, u14, u15, u16, (.bc false), u18, u19, J1, J2, HO, JX, JW, Qo, u20, (.sel Vd 1)]))
def dP : Tr Plf := (
 .leaf (.done 0 (us 0 10 ++ [(.c 0), (.c 3)])))
def ZB : SE := (.rcons (.c 0) (.rcons u4 (.rcons u5 (.rcons u6 (.rcons u7 (.rcons u8 (.rcons u9 (.rcons u10 (.rcons u11 (.rcons u12 (.rcons u13 (.rcons u0 x85))))))))))))
def LC : SE := (.app 63 ZB)
def Ww : Tr Plf := (
 .leaf (.next 1 ([u0, u1, u2, ST] ++ us 4 10)))
def ah : SE := (.app 67 (.rcons (.c 0) ac))
def ZF : SE := (.app 68 (.rcons (.c 0) ac))
def fg : SE := (rl [u18, u19])
def Zw : SE := (.app 55 (.rcons (.c 0) fg))
def Eu : SE := (.app 41 (rl ([(.c 0)] ++ us 0 20 ++ [u31])))
def Cf : SE := (.app 46 (rl ([(.c 0)] ++ us 20 10 ++ [u31])))
def da : SE := (.app 47 (rl [(.c 0), (.sel Eu 1), (.sel Eu 2), (.sel Cf 11), (.sel Cf 12)]))
def bz : SE := (.app 57 (rl [(.c 0), u0, u1, u2, u3, u4, u5, u6, u7, u8, u9, u10, u11, (.sel Eu 5), (.sel Eu 9), (.sel Eu 6), (.sel Eu 7), (.sel Eu 8), (.sel Eu 4), u18, u19, (.sel Cf 1), (.sel Cf 2), (.sel Cf 3), (.sel Cf 4), (.sel Cf 5), (.sel Cf 6), (.sel Cf 7), (.sel Cf 8), (.sel Cf 9), (.sel Cf 10)]))
def fS : Tr Plf := (
 .leaf (.done 0 [(.sel Cf 1), (.sel Cf 2), (.sel Cf 3), (.sel Cf 4), (.sel Cf 5), (.sel Cf 6), (.sel Cf 7), (.sel Cf 8), (.sel Cf 9), (.sel Cf 10), (.bc false), u3, u5, u7, (.sel Eu 5), (.sel Eu 6), (.sel Eu 7), (.sel Eu 8), (.sel Eu 9), u18, u2, u4, u6, u8, u9, u10, u11, (.sel Eu 4), u19, u0, u1]))
def eD : Tr Plf := (
 .split (.eql (.sel Eu 0) (.c 1)) (
 .split (.eql (.sel Cf 0) (.c 1)) (
 .split (.eql (.sel da 0) (.c 1)) (
 .split (.sel da 1) (
 .split (.eql (.sel Eu 3) (.sel Cf 13)) (
 .split (.eql (.sel bz 0) (.c 1)) (
 .leaf (.done 0 [(.sel Cf 1), (.sel Cf 2), (.sel Cf 3), (.sel Cf 4), (.sel Cf 5), (.sel Cf 6), (.sel Cf 7), (.sel Cf 8), (.sel Cf 9), (.sel Cf 10), (.sel bz 1), u3, u5, u7, (.sel Eu 5), (.sel Eu 6), (.sel Eu 7), (.sel Eu 8), (.sel Eu 9), u18, u2, u4, u6, u8, u9, u10, u11, (.sel Eu 4), u19, u0, u1])) x8) fS) fS) x8) x8) x8)
def i5 : SE := (rl [u31, u32])
def BH : SE := (.app 61 (.rcons (.c 0) (.rcons u0 (.rcons u1 (.rcons u2 (.rcons u3 (.rcons u4 (.rcons u5 (.rcons u6 (.rcons u7 (.rcons u8 (.rcons u9 (.rcons u10 (.rcons u11 (.rcons u12 (.rcons u13 (.rcons u14 (.rcons u15 (.rcons u16 (.rcons u17 (.rcons u18 (.rcons u19 i5))))))))))))))))))))))
def CB : SE := (.app 63 (.rcons (.c 0) (.rcons u20 (.rcons u21 (.rcons u22 (.rcons u23 (.rcons u24 (.rcons u25 (.rcons u26 (.rcons u27 (.rcons u28 (.rcons u29 i5))))))))))))
def bY : SE := (.app 57 (rl [(.c 0), (.sel BH 8), (.sel BH 9), u2, u3, u4, u5, u6, u7, u8, (.sel BH 2), (.sel BH 3), (.sel BH 4), (.sel BH 10), (.sel BH 14), (.sel BH 11), (.sel BH 12), (.sel BH 13), (.sel BH 5), (.sel BH 6), (.sel BH 7), (.sel CB 1), (.sel CB 2), (.sel CB 3), (.sel CB 4), (.sel CB 5), (.sel CB 6), (.sel CB 7), (.sel CB 8), (.sel CB 9), (.sel CB 10)]))
def YT : Tr Plf := (
 .split (.eql (.sel BH 0) (.c 1)) (
 .split (.eql (.sel CB 0) (.c 1)) (
 .split (.eql (.sel BH 1) (.sel CB 11)) (
 .split (.eql (.sel bY 0) (.c 1)) (
 .leaf (.done 0 [(.sel CB 1), (.sel CB 2), (.sel CB 3), (.sel CB 4), (.sel CB 5), (.sel CB 6), (.sel CB 7), (.sel CB 8), (.sel CB 9), (.sel CB 10), (.sel bY 1), u3, u5, u7, (.sel BH 10), (.sel BH 11), (.sel BH 12), (.sel BH 13), (.sel BH 14), (.sel BH 6), u2, u4, u6, u8, (.sel BH 2), (.sel BH 3), (.sel BH 4), (.sel BH 5), (.sel BH 7), (.sel BH 8), (.sel BH 9)])) x8) (
 .leaf (.done 0 [(.sel CB 1), (.sel CB 2), (.sel CB 3), (.sel CB 4), (.sel CB 5), (.sel CB 6), (.sel CB 7), (.sel CB 8), (.sel CB 9), (.sel CB 10), (.bc false), u3, u5, u7, (.sel BH 10), (.sel BH 11), (.sel BH 12), (.sel BH 13), (.sel BH 14), (.sel BH 6), u2, u4, u6, u8, (.sel BH 2), (.sel BH 3), (.sel BH 4), (.sel BH 5), (.sel BH 7), (.sel BH 8), (.sel BH 9)]))) x8) x8)
def BF : SE := (.app 65 (.rcons (.c 0) (.rcons u0 (.rcons u1 (.rcons u2 (.rcons u3 (.rcons u4 (.rcons u5 (.rcons u6 (.rcons u7 (.rcons u8 (.rcons u9 (.rcons u10 (.rcons u11 (.rcons u12 (.rcons u13 (.rcons u14 (.rcons u15 (.rcons u16 (.rcons u17 (.rcons u18 (.rcons u19 (.rcons u31 aC)))))))))))))))))))))))
def Cr : SE := (.app 66 (.rcons (.c 0) (.rcons u20 (.rcons u21 (.rcons u22 (.rcons u23 (.rcons u24 (.rcons u25 (.rcons u26 (.rcons u27 (.rcons u28 (.rcons u29 (.rcons u31 aC)))))))))))))
def ga : SE := (.app 57 (rl [(.c 0), (.sel BF 9), (.sel BF 10), u2, u3, u4, u5, u6, u7, u8, (.sel BF 3), (.sel BF 4), (.sel BF 5), (.sel BF 11), (.sel BF 15), (.sel BF 12), (.sel BF 13), (.sel BF 14), (.sel BF 6), (.sel BF 7), (.sel BF 8), (.sel Cr 1), (.sel Cr 2), (.sel Cr 3), (.sel Cr 4), (.sel Cr 5), (.sel Cr 6), (.sel Cr 7), (.sel Cr 8), (.sel Cr 9), (.sel Cr 10)]))
def gG : Tr Plf := (
 .leaf (.done 0 [(.sel Cr 1), (.sel Cr 2), (.sel Cr 3), (.sel Cr 4), (.sel Cr 5), (.sel Cr 6), (.sel Cr 7), (.sel Cr 8), (.sel Cr 9), (.sel Cr 10), (.bc false), u3, u5, u7, (.sel BF 11), (.sel BF 12), (.sel BF 13), (.sel BF 14), (.sel BF 15), (.sel BF 7), u2, u4, u6, u8, (.sel BF 3), (.sel BF 4), (.sel BF 5), (.sel BF 6), (.sel BF 8), (.sel BF 9), (.sel BF 10)]))
def cV : Tr Plf := (
 .split (.eql (.sel BF 0) (.c 1)) (
 .split (.eql (.sel Cr 0) (.c 1)) (
 .split (.eql (.sel BF 1) (.sel Cr 11)) (
 .split (.eql (.sel BF 2) (.sel Cr 12)) (
 .split (.eql (.sel ga 0) (.c 1)) (
 .leaf (.done 0 [(.sel Cr 1), (.sel Cr 2), (.sel Cr 3), (.sel Cr 4), (.sel Cr 5), (.sel Cr 6), (.sel Cr 7), (.sel Cr 8), (.sel Cr 9), (.sel Cr 10), (.sel ga 1), u3, u5, u7, (.sel BF 11), (.sel BF 12), (.sel BF 13), (.sel BF 14), (.sel BF 15), (.sel BF 7), u2, u4, u6, u8, (.sel BF 3), (.sel BF 4), (.sel BF 5), (.sel BF 6), (.sel BF 8), (.sel BF 9), (.sel BF 10)])) x8) gG) gG) x8) x8)
def Dg : SE := (.app 69 (.rcons (.c 0) (.rcons u0 (.rcons u1 (.rcons u2 (.rcons u3 (.rcons u4 (.rcons u5 (.rcons u6 (.rcons u7 (.rcons u8 (.rcons u9 (.rcons u10 (.rcons u11 (.rcons u12 (.rcons u13 (.rcons u14 (.rcons u15 (.rcons u16 (.rcons u17 fg))))))))))))))))))))
def P1 : SE := (.app 41 (rl [(.c 0), u0, u1, u2, (.sel Dg 1), u4, (.sel Dg 2), u6, (.sel Dg 3), u8, u9, u10, u11, u12, u13, u14, u15, u16, u17, u18, u19, OJ]))
def hZ : SE := (.app 54 (.rcons (.c 0) (.rcons u20 jN)))
def iZ : SE := (rl [(.sel hZ 1), u32])
def BM : SE := (.app 61 (.rcons (.c 0) (.rcons u0 (.rcons u1 (.rcons u2 (.rcons u3 (.rcons u4 (.rcons u5 (.rcons u6 (.rcons u7 (.rcons u8 (.rcons u9 (.rcons u10 (.rcons u11 (.rcons u12 (.rcons u13 (.rcons u14 (.rcons u15 (.rcons u16 (.rcons u17 (.rcons u18 (.rcons u19 iZ))))))))))))))))))))))
def Cx : SE := (.app 63 (.rcons (.c 0) (.rcons u20 (.rcons u21 (.rcons u22 (.rcons u23 (.rcons u24 (.rcons u25 (.rcons u26 (.rcons u27 (.rcons u28 (.rcons u29 iZ))))))))))))
def gB : SE := (.app 57 (rl [(.c 0), (.sel BM 8), (.sel BM 9), u2, u3, u4, u5, u6, u7, u8, (.sel BM 2), (.sel BM 3), (.sel BM 4), (.sel BM 10), (.sel BM 14), (.sel BM 11), (.sel BM 12), (.sel BM 13), (.sel BM 5), (.sel BM 6), (.sel BM 7), (.sel Cx 1), (.sel Cx 2), (.sel Cx 3), (.sel Cx 4), (.sel Cx 5), (.sel Cx 6), (.sel Cx 7), (.sel Cx 8), (.sel Cx 9), (.sel Cx 10)]))
def Ik : SE := (.app 61 (.rcons (.c 0) (.rcons u14 (.rcons u15 (.rcons u1 (.rcons u2 (.rcons u3 (.rcons u4 (.rcons u5 (.rcons u6 (.rcons u7 (.rcons u8 (.rcons u9 (.rcons u10 (.rcons u43 (.rcons u47 (.rcons u44 (.rcons u45 (.rcons u46 (.rcons u11 (.rcons u12 (.rcons u13 (.rcons OJ x83)))))))))))))))))))))))
def dS : SE := (.app 57 (rl ([(.c 0), u36, u37, u26, u2, u27, u4, u28, u6, u29, u30, u31, u32, u38, u42, u39, u40, u41, u33, u34, u35] ++ us 16 10)))
def Z4 : SE := (.arith .add .i64 u16 (.c 1))
def iu : Tr Plf := (
 .leaf (.next 1 ([u0, u1, x27] ++ us 3 13 ++ [Z4])))
def Xm : Tr Plf := (
 .leaf (.done 1 [u16]))
def fq : SE := (.eql (.sel (.app 1 x95) 0) (.c 1))
def Tc : Tr Plf := (
 .split fq x1 x8)
def E9 : SE := (.app 22 L9)
def LB : SE := (.app 29 L9)
def fR : SE := (.eql (.sel LB 0) (.c 1))
def iG : SE := (.eql (.sel LB 8) (.c 0))
def CA : SE := (.app 70 (rl ([(.c 0), u31, u32] ++ us 18 10 ++ [u33, u37, u34, u35, u36, u28, u29, u30] ++ us 8 10 ++ [x24, Xq, ae, Wl, XH])))
def ak : SE := (.app 55 (.rcons (.c 0) fI))
def dU : SE := (.eql (.sel ak 0) (.c 1))
def Ia : SE := (.app 61 (.rcons (.c 0) (.rcons u31 (.rcons u32 (.rcons u18 (.rcons u19 (.rcons u20 (.rcons u21 (.rcons u22 (.rcons u23 (.rcons u24 (.rcons u25 (.rcons u26 (.rcons u27 (.rcons u33 (.rcons u37 (.rcons u34 (.rcons u35 (.rcons u36 (.rcons u28 (.rcons u29 (.rcons u30 (.rcons OJ x83)))))))))))))))))))))))
def aL : SE := (rl [(.c 0), u11, u12])
def Tv : SE := (.app 71 (.rcons (.c 0) (.rcons u0 (.rcons (.bc false) (.rcons u1 (.rcons u2 (.rcons u3 (.rcons u4 (.rcons u5 (.rcons u6 (.rcons u7 (.rcons u8 (.rcons u9 (.rcons u10 (.rcons (.c 0) aL)))))))))))))))
def XG : SE := (.lenL u10)
def ZO : Tr Plf := (
 .leaf (.next 4 (us 0 13)))
def gQ : Tr Plf := (
 .split (.eql (.sel Tv 1) XG) ZO x20)
def cP : Tr Plf := (
 .split (.lss (.c 1) u0) (
 .split (.lss u0 XG) (
 .split (.eql (.sel Tv 1) u0) ZO x20) gQ) (
 .split (.lss (.c 1) XG) (
 .split (.eql (.sel Tv 1) (.c 1)) ZO x20) gQ))
def Wm : SE := (.app 71 (.rcons (.c 0) (.rcons u0 (.rcons (.bc false) (.rcons u1 (.rcons u2 (.rcons u3 (.rcons u4 (.rcons u5 (.rcons u6 (.rcons u7 (.rcons u8 (.rcons u9 (.rcons u10 (.rcons (.c 1) aL)))))))))))))))
def bg : Tr Plf := (
 .split (.eql (.sel Wm 1) XG) (
 .leaf (.next 5 (us 0 13))) x20)
def lp : Tr Plf :=
 .split (.lss (.c 6) x0) x1 (
 .split (.lss (.c 8) x2) x1 (
 .split (.lss (.c 14) x3) x1 (
 .split (.lss (.c 60) x4) x1 x5)))
def lw : Tr Plf :=
 .split x6 (
 .split x7 x8 (
 .split (.lss (.c 60) (.lenS x9)) x1 x11)) x12
def kX : Tr Plf :=
 .split x13 (
 .split x7 x8 (
 .split (.lss (.c 60) (.lenS x14)) x1 x15)) x16
def kp : Tr Plf :=
 .split x18 (
 .split x7 x8 (
 .split (.lss (.c 60) (.lenS (.cell u4 u0 0))) x1 (
 .split (.lss (.c 60) (.lenS (.cell u4 u0 1))) x1 (
 .split (.lss (.c 60) (.lenS (.cell u4 u0 3))) x1 (
 .split (.lss (.c 60) (.lenS (.cell u4 u0 4))) x1 (
 .split (.lss (.c 60) (.lenS (.cell u4 u0 5))) x1 x19)))))) x20
def t0 : List (Tr Plf) := [lp, lw, kX, kp]
def lu : Tr Plf :=
 .leaf (.done 0 [])
def t1 : List (Tr Plf) := [lu]
def lB : Tr Plf :=
 .split (.lss x4 (.c 1)) x20 (
 .split (.lss (.c 32) x4) x20 (
 .leaf (.next 1 [(.bytes u0), (.lenL (.bytes u0)), (.c 0)])))
def kz : Tr Plf :=
 .split (.lss u2 u1) (
 .split x21 x8 (
 .split x23 (
 .split (.lss x25 (.c 97)) (
 .split (.lss x25 (.c 65)) (
 .split x26 x20 (
 .split (.lss x25 (.c 48)) x20 (
 .split (.lss (.c 57) x25) x20 x28))) (
 .split (.lss (.c 90) x25) (
 .split x26 x20 (
 .split (.eql x25 (.c 95)) x28 x20)) x28)) (
 .split (.lss (.c 122) x25) (
 .split x26 x20 x20) x28)) x8)) x1
def t2 : List (Tr Plf) := [lB, kz]
def kU : Tr Plf :=
 .leaf x29
def kO : Tr Plf :=
 .split x30 x35 x36
def t3 : List (Tr Plf) := [kU, kO]
def k5 : Tr Plf :=
 .split x37 x38 x40
def lz : Tr Plf :=
 .split x41 (
 .split x31 x8 (
 .split x42 (
 .split (.eql (.sel x44 0) (.c 1)) (
 .split (.sel x44 1) (
 .split (.eql (.sel x45 0) (.c 1)) (
 .split (.lss (.sel x45 1) u1) x33 (
 .split (.lss x46 (.c 1)) x33 (
 .split (.lss (.c 1000) x46) x33 x47))) x8) x33) x8) x8)) x36
def t4 : List (Tr Plf) := [k5, lz]
def k7 : Tr Plf :=
 .leaf x29
def ko : Tr Plf :=
 .split x30 x35 x36
def t5 : List (Tr Plf) := [k7, ko]
def lK : Tr Plf :=
 .split x37 x38 x40
def kV : Tr Plf :=
 .split x41 (
 .split x31 x8 (
 .split x48 (
 .split (.eql (.sel x50 0) (.c 1)) (
 .split (.sel x50 1) (
 .split (.eql (.sel x51 0) (.c 1)) (
 .split (.lss (.sel x51 1) u1) x33 (
 .split (.lss x52 (.c 0)) x33 (
 .split (.lss (.c 1048576) x52) x33 x47))) x8) x33) x8) x8)) x36
def t6 : List (Tr Plf) := [lK, kV]
def lH : Tr Plf :=
 .leaf (.next 1 ([u0, (.c 0)] ++ us 1 9))
def kP : Tr Plf :=
 .split x30 (
 .split x31 x8 (
 .split (.and (.eqSS u2 x32) (.and (.eqSS u3 x53) (.and (.eql u4 (.cell u0 u1 2)) (.and (.eqSS u5 (.cell u0 u1 3)) (.and (.eqSS u6 (.cell u0 u1 4)) (.and (.eqSS u7 (.cell u0 u1 5)) (.and (.eql u8 (.cell u0 u1 6)) (.and (.eql u9 (.cell u0 u1 7)) (.eql u10 (.cell u0 u1 8)))))))))) x33 (
 .leaf (.next 1 ([u0, x34] ++ us 2 9))))) x36
def t7 : List (Tr Plf) := [lH, kP]
def kw : Tr Plf :=
 .split x37 x38 x40
def lJ : Tr Plf :=
 .split x41 (
 .split x31 x8 (
 .split (.lss u1 x54) (
 .split (.eql x55 (.c 1)) x81 (
 .split (.eql x55 (.c 2)) x81 (
 .split (.eql x55 (.c 3)) (
 .split x58 (
 .split x61 (
 .split x62 x33 (
 .split x65 (
 .split x66 x33 (
 .split x67 x8 (
 .split x74 (
 .split x75 (
 .split x76 (
 .split (.lss (.c 0) (.cell u3 (.sel x57 1) 2)) x82 x33) x8) x33) x8))) x8)) x8) x8) (
 .split (.eql x55 (.c 4)) (
 .split x58 (
 .split x61 (
 .split x62 x33 (
 .split x65 (
 .split x66 x33 (
 .split x67 x8 (
 .split x74 (
 .split x75 (
 .split x76 x82 x8) x33) x8))) x8)) x8) x8) (
 .split x58 (
 .split x61 x33 x8) x8))))) x8)) x36
def t8 : List (Tr Plf) := [kw, lJ]
def lC : Tr Plf :=
 .split (.eql (.sel x84 0) (.c 1)) (
 .split (.sel x84 1) (
 .split (.eql (.sel x88 0) (.c 1)) (
 .split (.lss (.sel x88 1) (.c 0)) (
 .split (.eql (.sel x89 0) (.c 1)) (
 .split (.lss (.sel x89 1) (.c 0)) (
 .split (.eql (.sel x90 0) (.c 1)) (
 .split (.lss (.sel x90 1) (.c 0)) x91 (
 .leaf (.done 0 [(.sel x90 1), (.c 293)]))) x8) (
 .leaf (.done 0 [(.sel x89 1), (.c 292)]))) x8) (
 .leaf (.done 0 [(.sel x88 1), (.c 291)]))) x8) x92) x8
def t9 : List (Tr Plf) := [lC]
def gV : Tr Plf :=
 .leaf (.next 1 [u0, u1, (.c 0), u2])
def f7 : Tr Plf :=
 .split x23 (
 .split x21 x8 (
 .split (.eqSS x24 u3) x39 (
 .leaf (.next 1 [u0, u1, x27, u3])))) x36
def t10 : List (Tr Plf) := [gV, f7]
def hI : Tr Plf :=
 .split (.lss (.c 4) x22) x8 (
 .leaf (.next 1 [u0, (.c 0), .nilL, (.bc true)]))
def gY : Tr Plf :=
 .split x30 (
 .split x31 x8 (
 .split (.eqS x32 0 0) x8 (
 .split (.lss x53 (.c 1)) x8 (
 .split (.lss (.c 1000) x53) x8 (
 .split (.eql (.sel x93 0) (.c 1)) (
 .split (.lss (.sel x93 1) (.c 0)) (
 .split (.lss x0 x94) (
 .leaf (.next 1 [u0, x34, (.snoc u2 (.rcons x32 (.rcons x53 x95))), (.bc false)])) x8) x8) x8))))) x96
def t11 : List (Tr Plf) := [hI, gY]
def jf : Tr Plf :=
 .split x97 x98 x99
def t12 : List (Tr Plf) := [jf]
def cX : Tr Plf :=
 .split x97 x98 x99
def t13 : List (Tr Plf) := [cX]
def bK : Tr Plf :=
 .split x97 x98 x99
def t14 : List (Tr Plf) := [bK]
def ci : Tr Plf :=
 .leaf (.next 1 [.nilL, (.bc true), u0, u1, (.c 0), u2])
def jY : Tr Plf :=
 .split ZQ (
 .split Xk x8 (
 .split (.eqSS WM u5) (
 .split (.lss x22 x94) (
 .leaf (.next 1 [(.snoc u0 (rl [WM, aY, aA])), (.bc false), u2, u3, TJ, u5])) x8) (
 .leaf (.next 1 [u0, u1, u2, u3, TJ, u5])))) fD
def t15 : List (Tr Plf) := [ci, jY]
def ji : Tr Plf :=
 .split (.lss u5 (.c 0)) jX (
 .split (.lss u5 (.c 256)) (
 .split u2 SS (
 .split Zz SS (
 .leaf (.done 0 [(.arith .sub .i64 (.cell u1 XK 1) u0), (.c 0)])))) jX)
def t16 : List (Tr Plf) := [ji]
def be : Tr Plf :=
 .split (.eql (.sel ai 0) (.c 1)) (
 .split (.eql (.sel ai 2) (.c 0)) (
 .split u2 eS (
 .split Zz eS (
 .leaf (.done 0 [(.c 0), (.rmv u1 XK)])))) (
 .leaf (.done 0 [(.sel ai 2), u1]))) x8
def t17 : List (Tr Plf) := [be]
def j7 : Tr Plf :=
 .split (.lss x0 x94) (
 .leaf (.next 1 [(.arith .sub .i64 (.lenL f5) (.c 1)), u0, f5, (.bc false), u1])) x8
def gF : Tr Plf :=
 .split (.lss (.c 0) u0) (
 .split (.lss ID (.c 0)) x8 (
 .split (.lss ID x0) (
 .split x13 (
 .split (.lss Z6 x14) (
 .split YU x96 (
 .split Z8 x96 x96)) (
 .split (.lss x14 Z6) (
 .split YU Xw (
 .split Z8 Xw Xw)) (
 .split YU x96 (
 .split Z8 Xw x96)))) x8) x8)) x96
def t18 : List (Tr Plf) := [j7, gF]
def ce : Tr Plf :=
 .split (.lss x3 x94) (
 .leaf (.next 1 [(.arith .sub .i64 (.lenL (.snoc u3 WK)) (.c 1)), u0, u2, (.snoc u3 WK), (.bc false), u1])) x8
def gH : Tr Plf :=
 .split (.lss (.c 0) u0) (
 .split (.lss ID (.c 0)) x8 (
 .split (.lss ID x3) (
 .split x6 (
 .split (.lss Z9 x9) (
 .split Zp QN (
 .split Zx QN QN)) (
 .split (.lss x9 Z9) (
 .split Zp W3 (
 .split Zx W3 W3)) (
 .split Zp QN (
 .split Zx W3 QN)))) x8) x8)) QN
def t19 : List (Tr Plf) := [ce, gH]
def ba : Tr Plf :=
 .split (.lss u5 (.c 0)) eu (
 .split (.lss u5 (.c 256)) (
 .split (.lss u6 (.c 0)) eG (
 .split (.lss (.arith .sub .i64 OJ u0) u6) eG (
 .split u2 (
 .split (.eql (.sel Zh 0) (.c 1)) (
 .leaf (.done 0 [(.c 0), (.bc false), (.sel Zh 1), (.sel Zh 2), (.snoc .emptyL W1)])) x8) (
 .split Zz (
 .split (.eql (.sel Zy 0) (.c 1)) (
 .leaf (.done 0 [(.c 0), u2, (.sel Zy 1), (.sel Zy 2), (.snoc u1 W1)])) x8) (
 .split (.eql (.sel ZX 0) (.c 1)) (
 .leaf (.done 0 [(.c 0), u2, (.sel ZX 1), (.sel ZX 2), cq])) x8))))) eu)
def t20 : List (Tr Plf) := [ba]
def jF : Tr Plf :=
 .split (.eql (.sel eJ 0) (.c 1)) (
 .split (.lss (.c 0) (.lenL S6)) (
 .split (.eql (.sel (.app 17 SZ) 0) (.c 1)) (
 .split (.lss (.c 0) Xu) (
 .split (.eql (.sel V0 0) (.c 1)) (
 .leaf (.done 0 [(.cell S6 (.c 0) 0), (.cell S6 (.c 0) 1), Xu, (.sel V0 2), (.sel V0 3), (.sel V0 4), (.sel V0 5)])) x8) (
 .leaf (.done 0 [(.cell S6 (.c 0) 0), (.cell S6 (.c 0) 1), Xu, u14, u15, u16, (.sel (.app 17 SZ) 2)]))) x8) x8) x8
def t21 : List (Tr Plf) := [jF]
def eB : Tr Plf :=
 .split (.eql (.sel (.app 9 L9) 0) (.c 1)) (
 .split (.eql (.sel (.app 9 L9) 2) (.c 0)) (
 .split (.eql (.sel (.app 11 Jf) 0) (.c 1)) (
 .split (.eql (.sel U3 0) (.c 1)) (
 .split (.eql (.sel (.app 13 Jf) 0) (.c 1)) (
 .split (.eql (.sel TY 0) (.c 1)) (
 .split (.lss (.c 0) x2) (
 .split (.eql (.sel Pz 0) (.c 1)) (
 .leaf (.done 0 [u0, (.sel U3 1), (.sel U3 2), (.sel (.app 13 Jf) 1), (.sel (.app 13 Jf) 2), (.sel TY 1), (.sel TY 2), (.sel Pz 1), (.sel Pz 2), (.sel Pz 3), .nilL, (.sel (.app 11 Jf) 1), (.sel (.app 11 Jf) 2), (.sel Pz 4), (.sel Pz 5), (.sel Pz 6), (.sel Pz 7)])) x8) x8) x8) x8) x8) x8) (
 .leaf (.done 1 [(.sel (.app 9 L9) 2)]))) x8
def t22 : List (Tr Plf) := [eB]
def bG : Tr Plf :=
 .split (.lss x4 (.c 1)) x20 (
 .split (.lss (.c 32) x4) x20 (
 .split (.eql Z5 (.c 95)) x20 (
 .split (.lss Z5 (.c 48)) fC (
 .split (.lss (.c 57) Z5) fC x20))))
def aJ : Tr Plf :=
 .split (.lss u1 x4) (
 .split x31 x8 (
 .split (.lss QP (.c 97)) (
 .split (.lss QP (.c 65)) (
 .split (.lss QP (.c 48)) x20 (
 .split (.lss (.c 57) QP) x20 Xc)) (
 .split (.lss (.c 90) QP) (
 .split (.eql QP (.c 95)) Xc x20) Xc)) (
 .split (.lss (.c 122) QP) x20 Xc))) x1
def t23 : List (Tr Plf) := [bG, aJ]
def ey : Tr Plf :=
 .leaf Zg
def gn : Tr Plf :=
 .split x42 (
 .split x31 x8 (
 .split (.eqSS x43 u0) x33 x47)) x36
def t24 : List (Tr Plf) := [ey, gn]
def iD : Tr Plf :=
 .leaf Zg
def db : Tr Plf :=
 .split x48 (
 .split x31 x8 (
 .split (.eqSS x49 u0) x33 x47)) x36
def t25 : List (Tr Plf) := [iD, db]
def fc : Tr Plf :=
 .split Xk x8 (
 .split (.lss u4 x3) (
 .split (.eql (.sel YI 0) (.c 1)) (
 .split (.lss (.sel YI 1) (.c 0)) x20 (
 .split (.eql (.sel cW 0) (.c 1)) (
 .split (.lss (.sel cW 1) (.c 0)) x20 (
 .split (.eqS Zd 0 0) (
 .split (.eql U9 (.c 0)) (
 .split (.eql VM (.c 0)) (
 .split (.eql S9 (.c 0)) dG x20) x20) x20) (
 .split (.eql (.sel WA 0) (.c 1)) (
 .split (.lss (.sel WA 1) (.c 0)) x20 (
 .split (.lss U9 (.c 0)) x20 (
 .split (.lss VM U9) x20 (
 .split (.lss (.sel WA 1) x0) (
 .split (.lss iA VM) x20 (
 .split (.lss S9 (.c (-1000))) x20 (
 .split (.lss (.c 1000) S9) x20 (
 .split (.lss (.arith .add .i64 U9 S9) (.c 0)) x20 (
 .split (.lss iA (.arith .add .i64 VM S9)) x20 dG))))) x8)))) x8))) x8)) x8) x8)
def eA : Tr Plf :=
 .split (.lss u2 u0) (
 .split x21 x8 (
 .split Xa (
 .split (.and (.eqSS SX u7) (.and (.eqSS Po u8) (.and (.eql (.cell u6 u2 2) u9) (.and (.eqSS (.cell u6 u2 3) u10) (.and (.eqSS (.cell u6 u2 4) u11) (.and (.eqSS (.cell u6 u2 5) u12) (.and (.eql (.cell u6 u2 6) u13) (.and (.eql (.cell u6 u2 7) u14) (.eql (.cell u6 u2 8) u15))))))))) x20 (
 .leaf (.next 1 ([u0, u1, x27] ++ us 3 13)))) x8)) (
 .split (.eql u9 (.c 1)) dR (
 .split (.eql u9 (.c 2)) dR (
 .split (.eql u9 (.c 3)) (
 .split (.eqS u10 0 0) (
 .split (.eqS u11 0 0) (
 .split x31 x8 (
 .split x42 (
 .leaf (.done 0 [(.lss (.c 0) (.cell u4 u1 2))])) x8)) x20) x20) (
 .split (.eql u9 (.c 4)) (
 .split (.eqS u10 0 0) (
 .leaf (.done 0 [(.eqS u11 0 0)])) x20) x20))))
def t26 : List (Tr Plf) := [fc, eA]
def iX : Tr Plf :=
 .split (.eql (.sel e6 0) (.c 1)) (
 .split (.sel e6 1) (
 .split (.lss (.c 4) x0) (
 .leaf (.done 0 [(.c 4), (.c 291)])) x5) x92) x8
def hP : Tr Plf :=
 .split x6 (
 .split x7 x8 (
 .split (.eql (.sel bS 0) (.c 1)) (
 .split (.sel bS 1) (
 .split (.eql (.sel di 0) (.c 1)) (
 .split (.eql (.sel di 1) u0) (
 .split (.lss TC (.c 1)) W8 (
 .split (.lss (.c 1000) TC) W8 x11)) W8) x8) W8) x8)) (
 .split (.eql x0 (.c 0)) (
 .leaf (.done 0 [(.c 0), (.c 292)])) (
 .split (.lss (.c 24) x0) (
 .leaf (.done 0 [(.c 24), (.c 292)])) x12))
def bU : Tr Plf :=
 .split x13 (
 .split x7 x8 (
 .split (.eql (.sel iO 0) (.c 1)) (
 .split (.sel iO 1) (
 .split (.eql (.sel gJ 0) (.c 1)) (
 .split (.eql (.sel gJ 1) u0) (
 .split (.lss bT (.c 0)) Wo (
 .split (.lss (.c 1048576) bT) Wo x15)) Wo) x8) Wo) x8)) (
 .split (.lss (.c 80) x17) (
 .leaf (.done 0 [(.c 80), (.c 293)])) x16)
def eI : Tr Plf :=
 .split x18 (
 .split (.eql (.sel cx 0) (.c 1)) (
 .split (.sel cx 1) x19 (
 .leaf (.done 0 [u0, (.c 293)]))) x8) x91
def t27 : List (Tr Plf) := [iX, hP, bU, eI]
def eX : Tr Plf :=
 .split (.lss (.c 4) x22) Uu (
 .leaf (.next 1 [u0, (.c 0), .nilL, (.bc true), .nilL, (.bc true)]))
def cB : Tr Plf :=
 .split x30 (
 .split x31 x8 (
 .split (.eqS x32 0 0) Uu (
 .split (.lss x53 (.c 1)) Uu (
 .split (.lss (.c 1000) x53) Uu (
 .leaf (.next 2 [u0, u1, (.c 0), u2, u3, u4, u5])))))) (
 .leaf (.done 0 [(.nilIs u2 u3), (.nilIs u4 u5), (.c 0)]))
def b8 : Tr Plf :=
 .split (.lss u2 u1) (
 .split x21 x8 (
 .split x23 (
 .split x31 x8 (
 .split x30 (
 .split (.eqSS x24 x32) Uu (
 .leaf (.next 2 [u0, u1, x27, u3, u4, u5, u6]))) x8)) x8)) (
 .split x31 x8 (
 .split x30 (
 .split (.lss x3 x94) (
 .split (.lss x54 x94) (
 .leaf (.next 1 [u0, x34, (.snoc u3 (rl [x32, x53])), (.bc false), (.snoc u5 x95), (.bc false)])) x8) x8) x8))
def t28 : List (Tr Plf) := [eX, cB, b8]
def j9 : Tr Plf :=
 .split (.eql (.sel (.app 27 L9) 0) (.c 1)) (
 .split (.eql (.sel (.app 27 L9) 2) (.c 0)) (
 .split (.eql (.sel (.app 28 Jf) 0) (.c 1)) (
 .split (.lss (.c 0) x2) (
 .leaf (.done 0 [u0, u1, u2, u3, (.cell u1 (.c 0) 0), (.sel (.app 28 Jf) 1), (.sel (.app 28 Jf) 2), (.c 0)])) x8) x8) (
 .leaf (.done 0 [(.strc 0 0), .nilL, .nilL, .nilL, (.strc 0 0), .nilL, .nilL, (.sel (.app 27 L9) 2)]))) x8
def t29 : List (Tr Plf) := [j9]
def ij : Tr Plf :=
 .split u1 (
 .leaf (.done 0 [(.bc true), .emptyL])) (
 .leaf (.done 0 [(.bc false), u0]))
def t30 : List (Tr Plf) := [ij]
def aQ : Tr Plf :=
 .split u1 x98 x99
def t31 : List (Tr Plf) := [aQ]
def aP : Tr Plf :=
 .split u2 (
 .split dO (
 .leaf (.done 0 [u0, (.bc true), (.sel T6 1), (.sel T6 2), .emptyL])) x8) (
 .split dO (
 .leaf (.done 0 [u0, (.bc false), (.sel T6 1), (.sel T6 2), u1])) x8)
def t32 : List (Tr Plf) := [aP]
def jk : Tr Plf :=
 .split (.lss Q8 (.c 0)) x8 (
 .split (.lss Q8 x3) (
 .split (.lss (.c 0) x3) (
 .split (.lss (.lenL gL) Q8) x8 (
 .leaf (.next 1 [Q8, (.c 0), u0, u2, (.sub gL (.c 0) Q8), u4, u1]))) x8) x8)
def iQ : Tr Plf :=
 .leaf (.next 2 [u0, u1, u1, (.c 0), u2, u3, u4, u5, u6, (.arith .add .i64 ii (.c 1)), (.arith .add .i64 ii (.c 2))])
def jp : Tr Plf :=
 .split (.lss u3 (.c 2)) (
 .split (.eql u3 (.c 0)) (
 .split (.lss u9 u0) (
 .split (.lss u9 (.c 0)) x8 (
 .split (.lss u9 Xs) (
 .split x21 x8 (
 .split Xa (
 .split (.lss cJ SX) (
 .split YN WG (
 .split (.lss Po Y7) WG WG)) (
 .split (.lss SX cJ) (
 .split YN On f6) (
 .split YN WG f6))) x8)) x8)) On) (
 .split (.eql u3 (.c 1)) (
 .split (.lss u10 u0) (
 .split (.lss u10 (.c 0)) x8 (
 .split (.lss u10 Xs) (
 .split x21 x8 (
 .split Xa (
 .split (.lss ew SX) (
 .split ZU WD (
 .split (.lss Po aj) WD WD)) (
 .split (.lss SX ew) (
 .split ZU On bJ) (
 .split ZU WD bJ))) x8)) x8)) On) x8)) (
 .split (.eql u2 u1) (
 .leaf (.done 0 [u6, u7])) (
 .split x21 x8 (
 .split Xa (
 .split x31 x8 (
 .split (.lss u1 Xs) (
 .leaf (.next 1 [u0, u2, u4, u5, (.upd (.upd (.upd (.upd u6 u1 0 SX) u1 1 Po) u2 0 (.cell u6 u1 0)) u2 1 (.cell u6 u1 1)), u7, u8])) x8)) x8)))
def t33 : List (Tr Plf) := [jk, iQ, jp]
def gq : Tr Plf :=
 .leaf (.next 1 [u0, u2, u3, u4, u1])
def gC : Tr Plf :=
 .split (.lss (.c 0) x0) (
 .split u1 aF (
 .split (.lss eM (.c 0)) aF (
 .split (.eql (.cell u4 eM 1) (.cell u2 (.c 0) 0)) (
 .leaf (.done 0 [(.cell u2 (.c 0) 0), (.cell u2 (.c 0) 1), (.bc true), u2, u3])) aF))) (
 .leaf (.done 0 [(.c 0), (.c 0), (.bc false), u2, u3]))
def t34 : List (Tr Plf) := [gq, gC]
def fW : Tr Plf :=
 .split (.lss OJ u5) (
 .leaf (.done 0 [.nilL, (.bc true), (.c 3), u0, u3, u4, u1])) (
 .split (.lss u0 u5) (
 .split (.eql (.sel Ty 0) (.c 1)) (
 .leaf (.next 1 [.nilL, (.bc true), (.sel Ty 3), u5, u2, (.sel Ty 4), (.sel Ty 5), u1, (.sel Ty 1), (.sel Ty 2)])) x8) (
 .split (.eql (.sel S7 0) (.c 1)) (
 .leaf (.next 1 [.nilL, (.bc true), (.sel S7 3), u0, u2, (.sel S7 4), (.sel S7 5), u1, (.sel S7 1), (.sel S7 2)])) x8))
def eF : Tr Plf :=
 .split u2 (
 .split (.lss u3 u8) cp (
 .split (.lss x22 x94) (
 .split u4 fH (
 .split (.lss YR (.c 0)) fH (
 .split (.eql (.sel Td 0) (.c 1)) (
 .leaf (.next 1 [(.snoc u0 Xl), (.bc false), (.sel Td 3), u3, u4, (.sel Td 4), (.sel Td 5), (.rmv u7 YR), (.sel Td 1), (.sel Td 2)])) x8))) x8)) cp
def t35 : List (Tr Plf) := [fW, eF]
def gP : Tr Plf :=
 .split u1 x98 x99
def t36 : List (Tr Plf) := [gP]
def de : Tr Plf :=
 .split (.eql (.sel W5 0) (.c 1)) (
 .split (.lss (.sel W5 1) (.c 0)) SS (
 .split (.lss (.sel W5 1) x22) (
 .leaf (.done 0 [(.cell u0 (.sel W5 1) 2), (.c 0)])) x8)) x8
def t37 : List (Tr Plf) := [de]
def jB : Tr Plf :=
 .split Wb ZJ (
 .split (.eql (.sel (.app 37 OR) 0) (.c 1)) (
 .split (.eql (.sel (.app 37 OR) 2) (.c 0)) (
 .split gl (
 .split (.lss Qr (.c 0)) x8 (
 .split (.lss Qr x22) (
 .split (.lss XO u8) Np (
 .split (.lss u9 XO) Np (
 .split (.lss u10 (.arith .sub .i64 (.c 0) XO)) Np (
 .leaf (.done 0 [(.neg (.lss (.arith .sub .i64 (.cell u0 Qr 1) XO) u10)), (.c 0)]))))) x8)) x8) (
 .leaf (.done 0 [(.bc false), (.sel (.app 37 OR) 2)]))) x8)
def t38 : List (Tr Plf) := [jB]
def bu : Tr Plf :=
 .leaf ei
def gu : Tr Plf :=
 .split Z7 dK x1
def t39 : List (Tr Plf) := [bu, gu]
def fu : Tr Plf :=
 .leaf (.next 1 ([u23, u24, (.c 0), u0, u1, u22] ++ us 4 10 ++ [u19, u20, u21, u2, u3, u14, u16, u17, u18, u15, u25]))
def bX : Tr Plf :=
 .split x23 (
 .split x21 x8 (
 .split (.eqSS x24 u26) (
 .split (.eql (.sel f9 0) (.c 1)) (
 .split (.sel f9 1) (
 .split (.lss x3 x94) (
 .leaf (.next 1 [u0, u1, x27, (.snoc u3 ap), (.bc false), u5, u6, u7, u8, u9, u10, u11, u12, u13, u14, u15, u16, u17, u18, u19, u20, u21, u22, u23, u24, u25, u26])) x8) kb) x8) kb)) QN
def t40 : List (Tr Plf) := [fu, bX]
def eE : Tr Plf :=
 .split Z3 fi (
 .split ZG fi (
 .split We (
 .split ZC (
 .split u17 (
 .split Wz (
 .split (.eql (.sel ay 0) (.c 1)) (
 .leaf (.done 0 [(.sel ay 1), (.sel ay 2), (.c 0), (.bc true), J1, HO, JX, JW, J2])) x8) x8) (
 .split Wz (
 .split (.eql (.sel ZY 0) (.c 1)) (
 .leaf (.done 0 [(.sel ZY 1), (.sel ZY 2), (.c 0), Qo, J1, HO, JX, JW, J2])) x8) x8)) x8) x8))
def t41 : List (Tr Plf) := [eE]
def jP : Tr Plf :=
 .leaf (.next 1 [u2, (.c 0), u0, u1])
def eY : Tr Plf :=
 .split (.lss u1 x0) (
 .split x31 x8 (
 .split (.eqSS (.cell u2 u1 0) u0) x33 (
 .leaf (.next 1 [u0, x34, u2, u3])))) x36
def t42 : List (Tr Plf) := [jP, eY]
def dB : Tr Plf :=
 .split Wb ZJ (
 .split fh (
 .split (.lss Oe (.c 0)) (
 .leaf (.done 0 [(.bc false), (.c 9)])) (
 .split (.lss Oe x22) (
 .split (.lss Oe x2) (
 .split (.lss ZI u8) Np (
 .split (.lss u9 ZI) Np (
 .split (.lss u10 (.c (-1000))) Np (
 .split (.lss (.c 1000) u10) Np (
 .split (.lss cn (.c 0)) Np (
 .split (.lss (.cell u0 Oe 1) cn) Np ZJ)))))) x8) x8)) x8)
def t43 : List (Tr Plf) := [dB]
def fb : Tr Plf :=
 .leaf Zg
def cO : Tr Plf :=
 .split x48 (
 .split x31 x8 (
 .split (.eqSS x49 u0) (
 .leaf (.done 0 [x49, (.cell u3 u1 1), x52])) x47)) (
 .leaf (.done 0 [(.strc 0 0), (.bc false), (.c 0)]))
def t44 : List (Tr Plf) := [fb, cO]
def gO : Tr Plf :=
 .split (.lss u11 (.c 0)) x8 (
 .split (.lss u11 x3) (
 .split (.eql (.sel (.app 43 U8) 0) (.c 1)) (
 .split (.eqSS dH u4) (
 .split (.sel (.app 43 U8) 1) (
 .split (.eql jd (.c 3)) (
 .split aK (
 .leaf (.done 0 [(.neg (.lss (.arith .sub .i64 u10 u5) (.sel (.app 44 WX) 3)))])) x8) x1) x20) x20) x8) x8)
def t45 : List (Tr Plf) := [gO]
def jh : Tr Plf :=
 .split Y9 cw (
 .split Zu cw (
 .leaf (.next 1 ([u10, .nilL, (.bc true), (.c 0)] ++ us 0 8 ++ [u9]))))
def iN : Tr Plf :=
 .split (.lss u3 U2) (
 .split (.eql (.sel gm 0) (.c 1)) (
 .split (.sel gm 1) (
 .split (.lss x2 x94) (
 .leaf (.next 1 [u0, (.snoc u1 x85), (.bc false), ST, u4, u5, u6, u7, u8, u9, u10, u11, u12])) x8) (
 .leaf (.next 1 ([u0, u1, u2, ST] ++ us 4 9)))) x8) (
 .leaf (.done 0 (us 4 8 ++ [u0, u12, u1, u2, (.c 0)])))
def t46 : List (Tr Plf) := [jh, iN]
def cG : Tr Plf :=
 .split (.eql x22 x0) (
 .leaf (.next 1 [u0, u1, u2, u3, (.c 0)])) x20
def jO : Tr Plf :=
 .split (.lss u4 x22) (
 .split Xk x8 (
 .split ZQ (
 .split (.eql (.cell u0 u4 0) WM) (
 .leaf (.next 1 [u0, u1, u2, u3, TJ])) x20) x8)) x1
def t47 : List (Tr Plf) := [cG, jO]
def jr : Tr Plf :=
 .leaf (.done 0 [u9])
def t48 : List (Tr Plf) := [jr]
def gt : Tr Plf :=
 .leaf (.done 0 [u10])
def t49 : List (Tr Plf) := [gt]
def dq : Tr Plf :=
 .leaf (.done 0 [u12])
def t50 : List (Tr Plf) := [dq]
def jT : Tr Plf :=
 .leaf ei
def cC : Tr Plf :=
 .split Z7 dK x1
def t51 : List (Tr Plf) := [jT, cC]
def bE : Tr Plf :=
 .leaf (.next 1 ([.nilL, (.bc true), u0, u1, (.c 0), u21] ++ us 4 9 ++ [u18, u19, u20, u2, u3, u13, u15, u16, u17, u14]))
def eP : Tr Plf :=
 .split ZQ (
 .split Xk x8 (
 .split (.eql aA (.c 3)) (
 .split (.eql (.sel eO 0) (.c 1)) (
 .split (.sel eO 1) (
 .split (.lss x22 x94) (
 .leaf (.next 1 [(.snoc u0 bj), (.bc false), u2, u3, TJ, u5, u6, u7, u8, u9, u10, u11, u12, u13, u14, u15, u16, u17, u18, u19, u20, u21, u22, u23, u24])) x8) kc) x8) kc)) fD
def t52 : List (Tr Plf) := [bE, eP]
def jx : Tr Plf :=
 .split (.eql (.sel (.app 16 SZ) 0) (.c 1)) (
 .split (.eql (.sel ek 0) (.c 1)) (
 .split (.eql (.lenL (.sel ek 1)) (.c 0)) SS (
 .split u17 (
 .leaf (.done 0 [u12, (.c 0)])) (
 .split (.eql (.sel (.app 16 SZ) 2) (.c 0)) (
 .leaf (.done 0 [(.arith .add .i64 u12 (.sel (.app 16 SZ) 1)), (.c 0)])) SS))) x8) x8
def t53 : List (Tr Plf) := [jx]
def gc : Tr Plf :=
 .split aK (
 .split (.lss jV u8) (
 .leaf (.next 1 ([u8, (.c 0)] ++ us 0 10))) (
 .leaf (.next 1 ([jV, (.c 0)] ++ us 0 10)))) x8
def iE : Tr Plf :=
 .split (.lss u1 x54) (
 .split x31 x8 (
 .split (.eql x55 (.c 3)) (
 .split (.lss OJ u0) ZT (
 .split (.eql (.sel dX 0) (.c 1)) (
 .split (.sel dX 1) (
 .leaf (.done 0 [u0, (.c 0)])) ZT) x8)) ZT)) SS
def t54 : List (Tr Plf) := [gc, iE]
def iB : Tr Plf :=
 .split u1 x98 x99
def t55 : List (Tr Plf) := [iB]
def bi : Tr Plf :=
 .leaf (.next 1 ([u12, u13, (.c 0)] ++ us 0 12))
def fE : Tr Plf :=
 .split x23 (
 .split x21 x8 (
 .split (.eql u2 u14) (
 .split (.lss u14 (.lenL u12)) (
 .split (.lss u14 (.c 0)) x8 (
 .split (.eql x24 (.cell u12 u14 0)) (
 .split (.eql Xq (.cell u12 u14 1)) (
 .leaf (.next 1 [u0, u1, x27, u3, u4, u5, u6, u7, u8, u9, u10, u11, u12, u13, (.arith .add .i64 u14 (.c 1))])) Ws) Ws)) Ws) Ws)) (
 .leaf (.done 1 [u14]))
def t56 : List (Tr Plf) := [bi, fE]
def dW : Tr Plf :=
 .split (.eqSS u9 u24) (
 .split (.eql (.sel Zk 0) (.c 1)) (
 .split u10 (
 .split (.sel Zk 2) bf x20) (
 .split (.sel Zk 2) x20 bf)) x8) x20
def dJ : Tr Plf :=
 .split (.lss u0 (.lenL u27)) (
 .split x7 x8 (
 .split (.eql (.sel Zv 0) (.c 1)) (
 .split (.lss u0 (.lenL u28)) (
 .split (.eql (.sel Zv 1) (.cell u28 u0 0)) (
 .split (.eql (.sel Zv 2) (.c 0)) Un x20) x20) x8) x8)) (
 .split (.eql (.sel ZZ 0) (.c 1)) (
 .split (.eql (.sel YX 0) (.c 1)) (
 .split (.eql (.sel ZZ 1) (.sel YX 1)) (
 .split (.eql (.sel ZZ 2) (.sel YX 2)) (
 .split (.eql (.sel Zq 0) (.c 1)) (
 .split (.eql (.sel aG 0) (.c 1)) x20 (
 .split (.eql (.sel aG 0) (.c 2)) (
 .leaf (.done 0 [(.eql (.sel aG 1) (.lenL u30))])) x8)) x8) x20) x20) x8) x8)
def t57 : List (Tr Plf) := [dW, dJ]
def aZ : Tr Plf :=
 .leaf (.next 1 ([(.c 0)] ++ us 2 10 ++ [u17, u18, u19, u0, u1, u12, u14, u15, u16, u13, u20, u22, u23, u24, u21] ++ us 26 9 ++ [u25]))
def jM : Tr Plf :=
 .split Z7 (
 .split (.eql u0 (.c 0)) (
 .split (.eqSS u26 u8) WT x20) (
 .split (.eql u0 (.c 1)) (
 .split (.eql (.sel br 0) (.c 1)) (
 .split (.sel br 1) WT x20) x8) (
 .split (.eql u0 (.c 2)) (
 .split (.eql u28 (.c 3)) (
 .split u35 WT x20) WT) x8))) x1
def t58 : List (Tr Plf) := [aZ, jM]
def gk : Tr Plf :=
 .split (.eql (.sel (.app 38 OT) 0) (.c 1)) (
 .split (.eql (.sel (.app 38 OT) 2) (.c 0)) (
 .split (.sel (.app 38 OT) 1) (
 .split Wb (
 .leaf (.done 0 [(.c 0), u0])) (
 .split gl (
 .split (.lss Qr (.c 0)) x8 (
 .split (.lss Qr x22) (
 .leaf (.done 0 [(.c 0), (.upd u0 Qr 2 (.arith .add .i64 (.cell u0 Qr 2) u10))])) x8)) x8)) (
 .leaf (.done 0 [(.c 8), u0]))) (
 .leaf (.done 0 [(.sel (.app 38 OT) 2), u0]))) x8
def t59 : List (Tr Plf) := [gk]
def g8 : Tr Plf :=
 .split (.lss (.lenL u18) (.c 100000)) (
 .split (.lss u27 (.c 0)) x8 (
 .split (.lss u27 U2) (
 .split (.eql (.sel WY 0) (.c 1)) (
 .split (.eql (.lenL (.sel WY 2)) x22) (
 .split (.eql (.sel OO 0) (.c 1)) (
 .leaf (.done 0 [(.sel OO 1), (.sel OO 2), (.sel OO 3), (.snoc u18 (rl [u27, u26])), (.bc false), (.sel WY 2), u1, u12, u14, u15, u16, u13, u20, (.sel OO 4), (.sel OO 5), (.sel OO 6), (.sel OO 7)])) x8) x8) x8) x8)) x8
def t60 : List (Tr Plf) := [g8]
def f8 : Tr Plf :=
 .split (.lss u21 (.c 0)) bZ (
 .split (.lss u21 U2) (
 .split Z3 jZ (
 .split ZG jZ (
 .split We (
 .split ZC (
 .split u17 (
 .split (.eql (.sel fL 0) (.c 1)) (
 .split (.sel fL 1) (
 .split (.eql (.sel II 0) (.c 1)) (
 .leaf (.done 0 [(.c 0), (.sel II 1), (.sel II 2), (.sel II 3), (.bc false), (.sel II 4), (.sel II 5), (.sel II 6), (.sel II 7), (.sel II 13), (.sel II 14), (.sel II 15), (.sel II 16), (.sel II 17)])) x8) (
 .leaf (.done 0 [(.c 8), u9, u10, u11, (.bc true), u18, u19, u0, u1, u12, u14, u15, u16, u13]))) x8) (
 .split (.eql (.sel ik 0) (.c 1)) (
 .split (.sel ik 1) (
 .split (.eql (.sel IX 0) (.c 1)) (
 .leaf (.done 0 [(.c 0), (.sel IX 1), (.sel IX 2), (.sel IX 3), (.bc false), (.sel IX 4), (.sel IX 5), (.sel IX 6), (.sel IX 7), (.sel IX 13), (.sel IX 14), (.sel IX 15), (.sel IX 16), (.sel IX 17)])) x8) (
 .leaf (.done 0 [(.c 8), u9, u10, u11, (.bc false), u18, u19, u0, u1, u12, u14, u15, u16, u13]))) x8)) x8) x8))) bZ)
def t61 : List (Tr Plf) := [f8]
def gR : Tr Plf :=
 .split (.eql (.sel (.app 43 OT) 0) (.c 1)) (
 .split (.eql (.sel (.app 43 OT) 2) (.c 0)) (
 .split (.sel (.app 43 OT) 1) (
 .split Wb (
 .leaf (.done 0 [u0, u1, (.c 0)])) (
 .split fh (
 .split (.lss x2 (.c 1048576)) (
 .split (.lss Oe (.c 0)) x8 (
 .split (.lss Oe (.lenL Zb)) (
 .leaf (.done 0 [u0, (.nilIs (.upd Zb Oe 0 (.arith .add .i64 (.cell Zb Oe 0) u10)) (.bc false)), (.c 0)])) x8)) x8) x8)) (
 .leaf (.done 0 [u0, u1, (.c 8)]))) (
 .leaf (.done 0 [u0, u1, (.sel (.app 43 OT) 2)]))) x8
def t62 : List (Tr Plf) := [gR]
def i8 : Tr Plf :=
 .split (.lss u11 (.c 0)) gN (
 .split (.lss u11 x3) (
 .split Y9 gp (
 .split Zu gp (
 .split (.eql (.sel dh 0) (.c 1)) (
 .split (.sel dh 1) (
 .split (.eql (.sel (.app 62 U8) 0) (.c 1)) (
 .split (.lss (.lenL u9) (.c 1048576)) (
 .split (.lss (.lenL (.cat .emptyL u9)) x94) (
 .leaf (.done 0 [u0, u1, u2, u3, cN, u10, (.sel (.app 62 U8) 1), (.sel (.app 62 U8) 2), u10, (.nilIs (.snoc (.cat .emptyL u9) (.rcons u11 aB)) (.bc false)), (.c 0)])) x8) x8) x8) (
 .leaf (.done 0 (us 0 10 ++ [(.c 8)])))) x8))) gN)
def t63 : List (Tr Plf) := [i8]
def cA : Tr Plf :=
 .leaf (.next 1 ([u29, u30, (.c 0), u0, u1, u2, u28] ++ us 5 10 ++ [u20, u21, u22, u3, u4, u15, u17, u18, u19, u16, u23, u25, u26, u27, u24, u31]))
def eo : Tr Plf :=
 .split x23 (
 .split x21 x8 (
 .split (.eqSS x24 u32) (
 .split (.eql ae (.c 2)) (
 .split (.eqSS Wl u3) (
 .split (.eqSS XH u4) (
 .split (.eql (.sel i4 0) (.c 1)) (
 .split (.sel i4 1) x39 Vw) x8) Vw) Vw) Vw) Vw)) (
 .leaf (.done 1 []))
def t64 : List (Tr Plf) := [cA, eo]
def hU : Tr Plf :=
 .split Z3 ja (
 .split ZG ja (
 .split We (
 .split ZC (
 .split u17 (
 .split Wz (
 .split (.eql (.sel T5 0) (.c 1)) (
 .split (.lss (.sel T5 1) (.c 0)) j5 (
 .split (.eql (.sel IT 0) (.c 1)) (
 .leaf (.done 0 [(.sel T5 1), (.c 0), (.sel IT 1), (.sel IT 2), (.sel IT 3), (.bc false), (.sel IT 4), (.sel IT 5), (.sel IT 6), (.sel IT 7), (.sel IT 13), (.sel IT 14), (.sel IT 15), (.sel IT 16), (.sel IT 17)])) x8)) (
 .split (.eql (.sel T5 0) (.c 2)) j5 x8)) x8) (
 .split Wz (
 .split (.eql (.sel Vd 0) (.c 1)) (
 .split (.lss (.sel Vd 1) (.c 0)) jS (
 .split (.eql (.sel I7 0) (.c 1)) (
 .leaf (.done 0 [(.sel Vd 1), (.c 0), (.sel I7 1), (.sel I7 2), (.sel I7 3), (.bc false), (.sel I7 4), (.sel I7 5), (.sel I7 6), (.sel I7 7), (.sel I7 13), (.sel I7 14), (.sel I7 15), (.sel I7 16), (.sel I7 17)])) x8)) (
 .split (.eql (.sel Vd 0) (.c 2)) jS x8)) x8)) x8) x8))
def t65 : List (Tr Plf) := [hU]
def dx : Tr Plf :=
 .split Y9 dP (
 .split Zu dP (
 .leaf (.next 1 ([u10, u11, u12, (.c 0)] ++ us 0 10))))
def bW : Tr Plf :=
 .split (.lss u3 U2) (
 .split (.lss u3 (.c 0)) x8 (
 .split (.eql (.cell u7 u3 2) (.c 2)) (
 .split (.eqSS (.cell u7 u3 3) u1) (
 .split (.eqSS (.cell u7 u3 4) u2) (
 .split (.eql (.sel (.app 45 ZB) 0) (.c 1)) (
 .split (.sel (.app 45 ZB) 1) (
 .split (.eql (.sel LC 0) (.c 1)) (
 .leaf (.done 0 [(.sel LC 1), (.sel LC 2), (.sel LC 3), (.sel LC 4), (.sel LC 5), (.sel LC 6), (.sel LC 7), (.sel LC 8), (.sel LC 9), (.sel LC 10), u3, (.c 0)])) x8) Ww) x8) Ww) Ww) Ww)) (
 .leaf (.done 0 (us 4 10 ++ [(.c 0), (.c 9)])))
def t66 : List (Tr Plf) := [dx, bW]
def gE : Tr Plf :=
 .split u1 x98 x99
def t67 : List (Tr Plf) := [gE]
def cu : Tr Plf :=
 .split (.eql (.sel ah 0) (.c 1)) (
 .leaf (.done 0 [(.sel ah 1), (.sel ah 2)])) x8
def t68 : List (Tr Plf) := [cu]
def fM : Tr Plf :=
 .split (.eql (.sel ZF 0) (.c 1)) (
 .split We (
 .split (.eql (.sel Zw 0) (.c 1)) (
 .leaf (.done 0 [u3, u5, u7, u2, u4, u6, u8, u9, u10, u11, u17, (.sel Zw 1), (.sel Zw 2), (.sel ZF 1), (.sel ZF 2), (.sel Md 1), HO, (.sel Md 3), (.sel Md 4), (.sel Md 5)])) x8) x8) x8
def t69 : List (Tr Plf) := [fM]
def fZ : Tr Plf :=
 .split (.eql u30 (.c 0)) eD (
 .split (.eql u30 (.c 1)) eD (
 .split (.eql u30 (.c 2)) YT (
 .split (.eql u30 (.c 3)) YT (
 .split (.eql u30 (.c 4)) YT (
 .split (.eql u30 (.c 5)) cV (
 .split (.eql u30 (.c 6)) cV (
 .split (.eql u30 (.c 7)) (
 .split (.eql (.sel Dg 0) (.c 1)) (
 .split (.eql (.lenL (.sel Dg 2)) x54) (
 .split (.eql (.lenL (.sel Dg 1)) x3) (
 .split (.eql (.lenL (.sel Dg 3)) U2) (
 .split (.eql (.sel P1 0) (.c 1)) (
 .leaf (.next 1 [(.c 0), u2, (.sel Dg 1), u4, (.sel Dg 2), u6, (.sel Dg 3), u8, u9, u10, u11, (.sel P1 4), u18, u19, u0, u1, u20, u21, u22, u23, u24, u25, u26, u27, u28, u29, (.sel Dg 4), (.sel Dg 5), (.sel Dg 6), (.sel Dg 7), (.sel Dg 8), (.sel Dg 9), (.sel Dg 10), (.sel Dg 11), (.sel Dg 12), (.sel Dg 13), (.sel Dg 14), (.sel Dg 15), (.sel Dg 16), (.sel Dg 17), (.sel Dg 18), (.sel Dg 19), (.sel Dg 20), (.sel P1 5), (.sel P1 6), (.sel P1 7), (.sel P1 8), (.sel P1 9)])) x8) x8) x8) x8) x8) (
 .split (.eql (.sel hZ 0) (.c 1)) (
 .split (.eql (.sel BM 0) (.c 1)) (
 .split (.eql (.sel Cx 0) (.c 1)) (
 .split (.eql (.sel BM 1) (.sel Cx 11)) (
 .split (.eql (.sel gB 0) (.c 1)) (
 .leaf (.done 0 [(.sel Cx 1), (.sel Cx 2), (.sel Cx 3), (.sel Cx 4), (.sel Cx 5), (.sel Cx 6), (.sel Cx 7), (.sel Cx 8), (.sel Cx 9), (.sel Cx 10), (.sel gB 1), u3, u5, u7, (.sel BM 10), (.sel BM 11), (.sel BM 12), (.sel BM 13), (.sel BM 14), (.sel BM 6), u2, u4, u6, u8, (.sel BM 2), (.sel BM 3), (.sel BM 4), (.sel BM 5), (.sel BM 7), (.sel BM 8), (.sel BM 9)])) x8) (
 .leaf (.done 0 [(.sel Cx 1), (.sel Cx 2), (.sel Cx 3), (.sel Cx 4), (.sel Cx 5), (.sel Cx 6), (.sel Cx 7), (.sel Cx 8), (.sel Cx 9), (.sel Cx 10), (.bc false), u3, u5, u7, (.sel BM 10), (.sel BM 11), (.sel BM 12), (.sel BM 13), (.sel BM 14), (.sel BM 6), u2, u4, u6, u8, (.sel BM 2), (.sel BM 3), (.sel BM 4), (.sel BM 5), (.sel BM 7), (.sel BM 8), (.sel BM 9)]))) x8) x8) x8))))))))
def eT : Tr Plf :=
 .split (.lss u0 (.lenL u19)) (
 .split (.eql (.sel Ik 0) (.c 1)) (
 .leaf (.next 1 [x10, u1, u2, u3, u4, u5, u6, u7, (.sel Ik 2), (.sel Ik 3), (.sel Ik 4), (.sel Ik 5), (.sel Ik 6), (.sel Ik 7), (.sel Ik 8), (.sel Ik 9), u16, u17, u18, u19, u20, u21, u22, u23, u24, u25, u26, u27, u28, u29, u30, u31, u32, u33, u34, u35, u36, u37, u38, u39, u40, u41, u42, (.sel Ik 10), (.sel Ik 11), (.sel Ik 12), (.sel Ik 13), (.sel Ik 14)])) x8) (
 .split (.eql (.sel dS 0) (.c 1)) (
 .leaf (.done 0 [u16, u17, u18, u19, u20, u21, u22, u23, u24, u25, (.sel dS 1), u2, u4, u6, u38, u39, u40, u41, u42, u34, u26, u27, u28, u29, u30, u31, u32, u33, u35, u36, u37])) x8)
def t70 : List (Tr Plf) := [fZ, eT]
def fK : Tr Plf :=
 .leaf (.next 1 ([u14, u15, (.c 0)] ++ us 0 14))
def ir : Tr Plf :=
 .split x23 (
 .split x21 x8 (
 .split (.eql u2 u16) (
 .split (.lss u16 (.lenL u14)) (
 .split (.lss u16 (.c 0)) x8 (
 .split (.eql x24 (.cell u14 u16 0)) (
 .split (.eql Xq (.cell u14 u16 1)) (
 .split (.eql u15 (.c 0)) (
 .split (.lss Z4 u3) iu (
 .leaf (.done 0 [Z4]))) iu) Xm) Xm)) Xm) Xm)) (
 .leaf (.done 2 [u16]))
def t71 : List (Tr Plf) := [fK, ir]
def eh : Tr Plf :=
 .split (.eql (.sel (.app 0 L9) 0) (.c 1)) (
 .split (.sel (.app 0 L9) 1) Tc (
 .split (.lss (.c 60) x17) Tc (
 .split (.eql (.sel E9 0) (.c 1)) (
 .split fR (
 .split (.eql (.c 0) (.sel LB 8)) (
 .split iG (
 .leaf (.next 1 [u4, (.bc true), (.c 0), u0, u1, u2, u3, u5, (.sel LB 1), (.sel LB 2), (.sel LB 3), (.sel LB 4), (.sel LB 5), (.c 0), (.sel LB 6), (.sel LB 7), (.c 0), .nilL, (.sel E9 1), (.sel E9 2), (.sel E9 3), (.sel E9 4), (.sel E9 5), (.sel E9 6), (.sel E9 7), (.sel E9 8), (.sel E9 9), (.sel E9 10), (.bc false), (.sel E9 11), (.bc true), (.sel E9 12), (.sel E9 13), (.c 0), (.sel E9 14), (.sel E9 15), (.sel E9 16), (.sel E9 17)])) Tc) x20) x8) (
 .split (.eql (.sel E9 0) (.c 2)) (
 .split fR (
 .split (.eql (.sel E9 1) (.sel LB 8)) (
 .split iG x8 Tc) x20) x8) x8)))) x8
def il : Tr Plf :=
 .split x23 (
 .split u1 (
 .split x21 x8 (
 .split (.lss (.c 60) (.lenS Wl)) Tc (
 .split (.lss (.c 60) (.lenS XH)) Tc (
 .split (.eql (.sel CA 0) (.c 1)) (
 .leaf (.next 1 [u0, (.sel CA 11), x27, u3, u4, u5, u6, u7, (.sel CA 1), (.sel CA 2), (.sel CA 3), (.sel CA 4), (.sel CA 5), (.sel CA 6), (.sel CA 7), (.sel CA 8), (.sel CA 9), (.sel CA 10), (.sel CA 21), (.sel CA 12), (.sel CA 22), (.sel CA 13), (.sel CA 23), (.sel CA 14), (.sel CA 24), (.sel CA 25), (.sel CA 26), (.sel CA 27), (.sel CA 28), (.sel CA 20), (.sel CA 29), (.sel CA 30), (.sel CA 31), (.sel CA 15), (.sel CA 16), (.sel CA 17), (.sel CA 18), (.sel CA 19)])) x8)))) (
 .split dU x20 x8)) (
 .split dU (
 .split u1 (
 .leaf (.next 2 [(.c 0), u3, u4, u5, u6, u7, u8, u9, u10, u11, u12, u13, u14, u15, u16, u17, (.sel ak 1), (.sel ak 2), u18, u19, u20, u21, u22, u23, u24, u25, u26, u27, u28, u29, u30, u31, u32, u33, u34, u35, u36, u37])) x20) x8)
def iz : Tr Plf :=
 .split x18 (
 .split (.eql (.sel Ia 0) (.c 1)) (
 .leaf (.next 2 [x10, u1, u2, u3, u4, u5, u6, u7, u8, u9, u10, u11, u12, u13, u14, u15, u16, u17, u18, u19, u20, u21, u22, u23, u24, (.sel Ia 2), (.sel Ia 3), (.sel Ia 4), (.sel Ia 5), (.sel Ia 6), (.sel Ia 7), (.sel Ia 8), (.sel Ia 9), (.sel Ia 10), (.sel Ia 11), (.sel Ia 12), (.sel Ia 13), (.sel Ia 14)])) x8) (
 .leaf (.next 3 (us 5 13)))
def iK : Tr Plf :=
 .split (.eql (.sel Tv 0) (.c 1)) cP (
 .split (.eql (.sel Tv 0) (.c 2)) x20 (
 .split (.eql (.sel Tv 0) (.c 3)) cP x8))
def gA : Tr Plf :=
 .split (.eql (.sel Wm 0) (.c 1)) bg (
 .split (.eql (.sel Wm 0) (.c 2)) x20 (
 .split (.eql (.sel Wm 0) (.c 3)) bg x8))
def fY : Tr Plf :=
 .split fq x1 x8
def t72 : List (Tr Plf) := [eh, il, iz, iK, gA, fY]
def ts : List (List (Tr Plf)) := [t0, t1, t2, t3, t4, t5, t6, t7, t8, t9, t10, t11, t12, t13, t14, t15, t16, t17, t18, t19, t20, t21, t22, t23, t24, t25, t26, t27, t28, t29, t30, t31, t32, t33, t34, t35, t36, t37, t38, t39, t40, t41, t42, t43, t44, t45, t46, t47, t48, t49, t50, t51, t52, t53, t54, t55, t56, t57, t58, t59, t60, t61, t62, t63, t64, t65, t66, t67, t68, t69, t70, t71, t72]
end Ml

