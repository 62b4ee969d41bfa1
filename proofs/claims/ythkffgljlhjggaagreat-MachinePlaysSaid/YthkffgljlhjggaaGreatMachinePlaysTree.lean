/- What is stated: the trees of tests of the functions that the law MachinePlays reaches, as data. Conditions: none. -/
import Derived.Test.YthkffgljlhjggaaGreatBeF
set_option linter.unusedVariables false
set_option linter.unusedSectionVars false
set_option linter.unusedSimpArgs false
namespace Mp
open Go.AE
def u0 : SE := .var 0
def u1 : SE := .var 1
def u2 : SE := .var 2
def u3 : SE := .var 3
def u4 : SE := .var 4
def u5 : SE := .var 5
def u6 : SE := .var 6
def u7 : SE := .var 7
def u8 : SE := .var 8
def u9 : SE := .var 9
def u10 : SE := .var 10
def u11 : SE := .var 11
def u12 : SE := .var 12
def u13 : SE := .var 13
def u14 : SE := .var 14
def u15 : SE := .var 15
def u16 : SE := .var 16
def u17 : SE := .var 17
def u18 : SE := .var 18
def u19 : SE := .var 19
def u20 : SE := .var 20
def u21 : SE := .var 21
def u22 : SE := .var 22
def u23 : SE := .var 23
def u24 : SE := .var 24
def u25 : SE := .var 25
def u26 : SE := .var 26
def u27 : SE := .var 27
def u28 : SE := .var 28
def u29 : SE := .var 29
def u30 : SE := .var 30
def u31 : SE := .var 31
def u32 : SE := .var 32
def u33 : SE := .var 33
def u34 : SE := .var 34
def u35 : SE := .var 35
def u36 : SE := .var 36
def u37 : SE := .var 37
def u38 : SE := .var 38
def u39 : SE := .var 39
def u40 : SE := .var 40
def u41 : SE := .var 41
def u42 : SE := .var 42
def u43 : SE := .var 43
def u44 : SE := .var 44
def u45 : SE := .var 45
def u46 : SE := .var 46
def u47 : SE := .var 47
def x0 : SE := (.lenL u2)
def x1 : Tr Plf := (
 .leaf (.done 0 [(.bc true)]))
def x2 : SE := (.lenL u1)
def x3 : SE := (.lenL u3)
def x4 : SE := (.lenS u0)
def x5 : Tr Plf := (
 .leaf (.next 1 [(.c 0), u0, u1, u2, u3]))
def x6 : SE := (.lss u0 x3)
def x7 : SE := (.lss u0 (.c 0))
def x8 : Tr Plf := (
 .leaf .stuck)
def x9 : SE := (.cell u3 u0 0)
def x10 : SE := (.arith .add .i64 u0 (.c 1))
def x11 : Tr Plf := (
 .leaf (.next 1 [x10, u1, u2, u3, u4]))
def x12 : Tr Plf := (
 .leaf (.next 2 [(.c 0), u1, u2, u3, u4]))
def x13 : SE := (.lss u0 x0)
def x14 : SE := (.cell u2 u0 0)
def x15 : Tr Plf := (
 .leaf (.next 2 [x10, u1, u2, u3, u4]))
def x16 : Tr Plf := (
 .leaf (.next 3 [(.c 0), u1, u2, u3, u4]))
def x17 : SE := (.lenL u4)
def x18 : SE := (.lss u0 x17)
def x19 : SE := (.cell u4 u0 0)
def x20 : SE := (.cell u4 u0 1)
def x21 : SE := (.cell u4 u0 3)
def x22 : SE := (.cell u4 u0 4)
def x23 : SE := (.cell u4 u0 5)
def x24 : Tr Plf := (
 .leaf (.next 3 [x10, u1, u2, u3, u4]))
def x25 : Tr Plf := (
 .leaf (.done 0 [(.bc false)]))
def x26 : SE := (.lss u2 (.c 0))
def x27 : SE := (.lenL u0)
def x28 : SE := (.lss u2 x27)
def x29 : SE := (.cell u0 u2 0)
def x30 : SE := (.conv .u8 x29)
def x31 : SE := (.eql u2 (.c 0))
def x32 : SE := (.arith .add .i64 u2 (.c 1))
def x33 : Tr Plf := (
 .leaf (.next 1 [u0, u1, x32]))
def x34 : Plf := (.next 1 [u0, (.c 0), u1])
def x35 : SE := (.lss u1 x27)
def x36 : SE := (.lss u1 (.c 0))
def x37 : SE := (.cell u0 u1 0)
def x38 : Tr Plf := (
 .leaf (.done 0 [u1]))
def x39 : SE := (.arith .add .i64 u1 (.c 1))
def x40 : Tr Plf := (
 .split x36 x8 (
 .split (.eqSS x37 u2) x38 (
 .leaf (.next 1 [u0, x39, u2]))))
def x41 : Tr Plf := (
 .leaf (.done 0 [(.c (-1))]))
def x42 : SE := (.lss u0 u1)
def x43 : Tr Plf := (
 .leaf (.done 0 [(.c 0)]))
def x44 : Tr Plf := (
 .leaf (.done 0 [u2]))
def x45 : Tr Plf := (
 .split (.lss u2 u0) x44 (
 .leaf (.next 1 [u0, (.c 0), u3, u4, u5, u6])))
def x46 : SE := (.lss u1 u0)
def x47 : SE := (.lss u1 x17)
def x48 : SE := (.cell u4 u1 0)
def x49 : SE := (.app 2 (rl [(.c 0), x48]))
def x50 : SE := (.app 3 (rl [(.c 0), u4, x48]))
def x51 : SE := (.cell u4 u1 1)
def x52 : Tr Plf := (
 .leaf (.next 1 [u0, x39, u2, u3, u4, u5]))
def x53 : SE := (.lss u1 x3)
def x54 : SE := (.cell u3 u1 0)
def x55 : SE := (.app 2 (rl [(.c 0), x54]))
def x56 : SE := (.app 5 (rl [(.c 0), u3, x54]))
def x57 : SE := (.cell u3 u1 2)
def x58 : SE := (.cell u0 u1 1)
def x59 : SE := (.cell u0 u1 3)
def x60 : SE := (.cell u0 u1 4)
def x61 : SE := (.lenL u5)
def x62 : SE := (.cell u5 u1 2)
def x63 : SE := (.cell u5 u1 0)
def x64 : SE := (.app 5 (rl [(.c 0), u3, x63]))
def x65 : SE := (.eql (.sel x64 0) (.c 1))
def x66 : SE := (.cell u5 u1 5)
def x67 : SE := (.app 3 (rl [(.c 0), u4, x66]))
def x68 : SE := (.eql (.sel x67 0) (.c 1))
def x69 : SE := (.lss (.sel x64 1) (.c 0))
def x70 : SE := (.cell u5 u1 1)
def x71 : SE := (.app 5 (rl [(.c 0), u3, x70]))
def x72 : SE := (.eql (.sel x71 0) (.c 1))
def x73 : SE := (.lss (.sel x71 1) (.c 0))
def x74 : SE := (.lss x61 u1)
def x75 : SE := (.cell u5 u1 3)
def x76 : SE := (.cell u5 u1 4)
def x77 : SE := (.cell u5 u1 6)
def x78 : SE := (.cell u5 u1 7)
def x79 : SE := (.cell u5 u1 8)
def x80 : SE := (.app 7 (rl [(.c 0), (.sub u5 (.c 0) u1), x63, x70, x62, x75, x76, x66, x77, x78, x79]))
def x81 : SE := (.eql (.sel x80 0) (.c 1))
def x82 : SE := (.lss (.sel x80 1) (.c 0))
def x83 : SE := (.lss (.sel x64 1) x3)
def x84 : SE := (.app 2 (rl [(.c 0), x75]))
def x85 : SE := (.app 2 (rl [(.c 0), x76]))
def x86 : SE := (.cell u4 (.sel x67 1) 1)
def x87 : Tr Plf := (
 .split (.eqS x66 0 0) (
 .split (.eql x77 (.c 0)) (
 .split (.eql x78 (.c 0)) (
 .split (.eql x79 (.c 0)) x52 x38) x38) x38) (
 .split (.lss (.sel x67 1) (.c 0)) x38 (
 .split (.lss x77 (.c 0)) x38 (
 .split (.lss x78 x77) x38 (
 .split (.lss x79 (.c (-1000))) x38 (
 .split (.lss (.c 1000) x79) x38 (
 .split (.lss (.sel x67 1) x17) (
 .split (.lss x86 x78) x38 (
 .split (.lss (.arith .add .i64 x77 x79) (.c 0)) x38 (
 .split (.lss x86 (.arith .add .i64 x78 x79)) x38 x52))) x8)))))))
def x88 : Tr Plf := (
 .split x65 (
 .split x68 (
 .split x69 x38 (
 .split x72 (
 .split x73 x38 (
 .split x74 x8 (
 .split x81 (
 .split x82 (
 .split x83 (
 .split (.eql (.sel x84 0) (.c 1)) (
 .split (.sel x84 1) (
 .split (.eql (.sel x85 0) (.c 1)) (
 .split (.sel x85 1) (
 .split (.eqSS x76 u2) x38 x87) x38) x8) x38) x8) x8) x38) x8))) x8)) x8) x8)
def x89 : Tr Plf := (
 .split (.lss (.lenS x75) (.c 4611686018427387904)) (
 .split (.lss (.lenS x76) (.c 4611686018427387904)) (
 .split (.eqS (.strCat x75 x76) 0 0) x87 x38) x8) x8)
def x90 : SE := (rl [u0])
def x91 : SE := (.app 2 (.rcons (.c 0) x90))
def x92 : SE := (rl [u3])
def x93 : SE := (.rcons u1 (.rcons u2 x92))
def x94 : SE := (.rcons u0 x93)
def x95 : SE := (.app 4 (.rcons (.c 0) (.rcons x0 (.rcons (.c 0) (.rcons (.c 4) x94)))))
def x96 : SE := (.app 6 (.rcons (.c 0) (.rcons x2 (.rcons (.c 1) (.rcons (.c 24) x94)))))
def x97 : SE := (.app 8 (.rcons (.c 0) (.rcons x3 (.rcons (.c 0) (.rcons (.c 80) x94)))))
def x98 : Tr Plf := (
 .leaf (.done 0 [(.c 0), (.c 0)]))
def x99 : Tr Plf := (
 .leaf (.done 0 [(.c 0), (.c 290)]))
def Ut : Tr Plf := (
 .leaf (.done 0 []))
def bJ : SE := (.app 10 (rl [(.c 0), u2, u3, x37]))
def LB : SE := (.c 1073741824)
def U2 : SE := (rl [(.c 0)])
def aa : SE := (.isNil u0)
def Nx : Tr Plf := (
 .leaf (.done 0 [.nilL, (.bc true)]))
def NE : Tr Plf := (
 .split (.lss x27 (.c 1048576)) (
 .leaf (.done 0 [(.cat .emptyL u0), (.bc false)])) x8)
def ZA : SE := (.lss u4 x0)
def XS : SE := (.lss u4 (.c 0))
def XM : SE := (.cell u2 u4 0)
def dr : SE := (.cell u2 u4 1)
def aP : SE := (.cell u2 u4 2)
def Wk : SE := (.arith .add .i64 u4 (.c 1))
def gF : Tr Plf := (
 .leaf (.done 0 [u0, u1]))
def cp : Tr Plf := (
 .leaf (.done 0 [(.c 0), (.c 2)]))
def Tb : Tr Plf := (
 .leaf (.done 0 [(.c 0), (.c 9)]))
def Xo : SE := (rl [u5])
def X0 : SE := (.mIdx [(.int .i64)] u1 Xo)
def Zv : SE := (.lss X0 (.c 0))
def XE : SE := (.rcons u2 (.rcons u3 (.rcons u4 Xo)))
def Zs : SE := (.app 16 (.rcons (.c 0) (.rcons u0 (.rcons u1 XE))))
def hI : Tr Plf := (
 .leaf (.done 0 [(.c 0), u1]))
def je : SE := (.snoc u2 (.rcons u4 Xo))
def Is : SE := (.arith .quo .i64 (.arith .sub .i64 u0 (.c 1)) (.c 2))
def aU : SE := (.cell u2 Is 0)
def ao : SE := (.cell u2 Is 1)
def T6 : SE := (.cell u2 u0 1)
def Zu : SE := (.lss ao T6)
def SW : Tr Plf := (
 .leaf (.done 0 [u2, u3]))
def Y1 : SE := (.lss T6 ao)
def WN : Tr Plf := (
 .leaf (.next 1 [Is, u1, (.upd (.upd (.upd (.upd u2 Is 0 x14) Is 1 T6) u0 0 aU) u0 1 ao), u3, u4]))
def UW : SE := (rl [u5, u6])
def ZU : SE := (.cell u3 Is 0)
def YY : SE := (.cell u3 Is 1)
def SL : SE := (.cell u3 u0 1)
def aW : SE := (.lss YY SL)
def QS : Tr Plf := (
 .leaf (.done 0 [u3, u4]))
def ah : SE := (.lss SL YY)
def Xn : Tr Plf := (
 .leaf (.next 1 [Is, u1, u2, (.upd (.upd (.upd (.upd u3 Is 0 x9) Is 1 SL) u0 0 ZU) u0 1 YY), u4, u5]))
def cy : Tr Plf := (
 .leaf (.done 0 [(.c 2), u2, u3, u4, u1]))
def jM : Tr Plf := (
 .leaf (.done 0 [(.c 3), u2, u3, u4, u1]))
def Qj : SE := (.c 1099511627776)
def aH : SE := (.arith .add .i64 u0 u6)
def Xv : SE := (rl [u5, aH])
def ZB : SE := (.rcons u3 (.rcons u4 (.rcons aH Xo)))
def ZJ : SE := (.app 19 (.rcons (.c 0) (.rcons u0 (.rcons (.snoc .emptyL Xv) (.rcons (.bc false) ZB)))))
def Z6 : SE := (.app 19 (.rcons (.c 0) (.rcons u0 (.rcons (.snoc u1 Xv) (.rcons u2 ZB)))))
def dR : SE := (.upd u1 X0 1 aH)
def aq : SE := (.app 19 (.rcons (.c 0) (.rcons u0 (.rcons dR (.rcons u2 ZB)))))
def gS : SE := (.app 15 (rl [(.c 0), u1, u2, u18]))
def S7 : SE := (.sel gS 1)
def Zj : SE := (.app 17 (.rcons (.c 0) (.rcons u10 (.rcons u11 (.rcons u12 (.rcons u13 (.rcons u14 U2)))))))
def WC : SE := (.cell S7 (.c 0) 2)
def V6 : SE := (.app 20 (rl [(.c 0), u10, (.sel Zj 2), u12, u13, u14, (.c 0), WC]))
def bR : SE := (.app 15 (rl [(.c 0), u3, u4, u20]))
def Tz : SE := (.sel bR 1)
def SJ : SE := (.rcons (.c 0) (.rcons u12 (.rcons u13 (.rcons u14 (.rcons u15 (.rcons u16 U2))))))
def WD : SE := (.cell Tz (.c 0) 2)
def Vi : SE := (.app 20 (rl [(.c 0), u12, (.sel (.app 17 SJ) 2), u14, u15, u16, (.c 0), WD]))
def OD : SE := (.rcons (.c 0) x94)
def Z9 : SE := (rl [u2])
def JX : SE := (.rcons (.c 0) Z9)
def Ra : SE := (.app 12 (rl [(.c 0), u1]))
def eG : SE := (.eql (.sel Ra 0) (.c 1))
def fy : SE := (.eql (.sel (.app 13 JX) 0) (.c 1))
def Qs : SE := (.app 14 (.rcons (.c 0) x92))
def fZ : SE := (.eql (.sel Qs 0) (.c 1))
def Y8 : SE := (.lss (.c 0) x2)
def aZ : SE := (.sel (.app 13 JX) 1)
def Z5 : SE := (.sel (.app 13 JX) 2)
def kM : SE := (rl [u0, (.sel Ra 1), (.sel Ra 2), aZ, Z5, (.sel Qs 1), (.sel Qs 2), (.strc 0 0), (.bc false), (.c 0), (.c 0), .emptyL, (.bc true), .nilL, (.bc true), (.bc false), .nilL, (.bc true), (.cell u1 (.c 0) 0)])
def OT : SE := (.app 21 (.rcons (.c 0) kM))
def PE : SE := (.app 22 (.rcons (.c 0) (.rcons (.sel (.app 11 JX) 1) (.rcons (.sel (.app 11 JX) 2) kM))))
def aL : SE := (.strAt u0 (.c 0))
def jO : Tr Plf := (
 .leaf (.next 1 [u0, (.c 0)]))
def QQ : SE := (.strAt u0 u1)
def XB : Tr Plf := (
 .leaf (.next 1 [u0, x39]))
def WW : Plf := (.next 1 [u4, (.c 0), u0, u1, u2, u3])
def ft : SE := (.cell u3 u4 0)
def Zw : SE := (.app 26 (rl [(.c 0), u0, u1, u2, u3, ft]))
def kO : SE := (.cell u3 u4 1)
def bg : SE := (.app 26 (rl [(.c 0), u0, u1, u2, u3, kO]))
def ZD : SE := (.cell u3 u4 5)
def TZ : SE := (.cell u3 u4 6)
def U4 : SE := (.cell u3 u4 7)
def Tj : SE := (.cell u3 u4 8)
def cw : Tr Plf := (
 .leaf (.next 1 [u4, (.sel Zw 1), (.c 0), u0, u1, u2, u3, ft, kO, (.cell u3 u4 2), (.cell u3 u4 3), (.cell u3 u4 4), ZD, TZ, U4, Tj]))
def Xm : SE := (.app 25 (rl [(.c 0), u0, u1, u2, u3, ZD]))
def eL : SE := (.cell u2 (.sel Xm 1) 1)
def Ty : SE := (.lenL u6)
def Wv : SE := (.lss u2 Ty)
def Tt : SE := (.cell u6 u2 0)
def OW : SE := (.cell u6 u2 1)
def Zl : SE := (rl [u10])
def dM : SE := (.app 24 (.rcons (.c 0) Zl))
def eY : SE := (.app 24 (rl [(.c 0), u11]))
def jg : Tr Plf := (
 .split (.eql (.sel dM 0) (.c 1)) (
 .split (.sel dM 1) (
 .split (.eql (.sel eY 0) (.c 1)) (
 .split (.sel eY 1) (
 .leaf (.done 0 [(.neg (.eqSS u11 u3))])) x25) x8) x25) x8)
def iA : SE := (.app 24 (.rcons (.c 0) x90))
def j7 : SE := (.app 24 (rl [(.c 0), x9]))
def bi : SE := (.app 25 (rl [(.c 0), u1, u2, u3, u4, x9]))
def Wr : Tr Plf := (
 .leaf (.done 0 [u0, (.c 291)]))
def eT : SE := (.app 24 (rl [(.c 0), x14]))
def jw : SE := (.app 26 (rl [(.c 0), u1, u2, u3, u4, x14]))
def ZK : SE := (.cell u2 u0 2)
def WK : Tr Plf := (
 .leaf (.done 0 [u0, (.c 292)]))
def i7 : SE := (.app 27 (.rcons (.c 0) (.rcons u1 (.rcons u2 (.rcons u3 (.rcons u4 x90))))))
def Wf : Tr Plf := (
 .leaf (.done 0 [.nilL, .nilL, (.c 2)]))
def Xy : SE := (.app 10 (.rcons (.c 0) (.rcons u0 (.rcons u1 Z9))))
def aY : SE := (rl [u3, u4])
def Y0 : SE := (.app 32 (.rcons (.c 0) aY))
def Zp : SE := (.app 33 (.rcons (.c 0) UW))
def Uu : SE := (.app 34 (rl [(.c 0), u7, u8]))
def Wi : SE := (.eql (.sel Uu 0) (.c 1))
def QN : SE := (.lenL u7)
def bl : SE := (.and (.cell u6 u0 1) (.bc true))
def XA : SE := (.eqS u7 0 0)
def Z8 : Tr Plf := (
 .leaf (.done 0 [(.bc true), (.c 0)]))
def PB : SE := (rl [(.c 0), u0, u1, u7])
def gk : SE := (.eql (.sel (.app 10 PB) 0) (.c 1))
def Qb : SE := (.sel (.app 10 PB) 1)
def XN : SE := (.sel (.app 31 PB) 1)
def Oa : Tr Plf := (
 .leaf (.done 0 [(.bc false), (.c 0)]))
def gz : Plf := (.next 1 ([(.c 0)] ++ us 2 10 ++ [u17, u18, u19, u0, u1, u12, u14, u15, u16, u13] ++ us 21 9 ++ [u20]))
def ai : SE := (.lss u0 (.c 3))
def UI : Tr Plf := (
 .leaf (.next 1 ([x10] ++ us 1 30)))
def dO : SE := (rl (us 21 9))
def bH : SE := (.app 41 (.rcons (.c 0) (.rcons u14 (.rcons u15 dO))))
def ka : Tr Plf := (
 .split (.eql u0 (.c 0)) (
 .split (.eqSS u21 u8) UI x25) (
 .split (.eql u0 (.c 1)) (
 .split (.eql (.sel bH 0) (.c 1)) (
 .split (.sel bH 1) UI x25) x8) (
 .split (.eql u0 (.c 2)) (
 .split (.eql u23 (.c 3)) (
 .split u30 UI x25) UI) x8)))
def fG : SE := (rl [XM, dr, aP, (.cell u2 u4 3), (.cell u2 u4 4), (.cell u2 u4 5), (.cell u2 u4 6), (.cell u2 u4 7), (.cell u2 u4 8)])
def iz : SE := (.app 42 (.rcons (.c 0) (.rcons u18 (.rcons u19 (.rcons u6 (.rcons u7 (.rcons u8 (.rcons u9 (.rcons u10 (.rcons u2 (.rcons u11 (.rcons u12 (.rcons u13 (.rcons u14 (.rcons u20 (.rcons u24 (.rcons u21 (.rcons u22 (.rcons u23 (.rcons u15 (.rcons u16 (.rcons u17 (.rcons u5 fG)))))))))))))))))))))))
def iE : Tr Plf := (
 .leaf (.next 1 ([u0, u1, u2, u3, Wk] ++ us 5 20)))
def eN : SE := (.app 43 (rl ([(.c 0), u7, u8] ++ us 0 7 ++ us 8 12 ++ [(.bc true)])))
def dg : SE := (.eql (.sel (.app 45 PB) 0) (.c 1))
def NW : SE := (.sel (.app 45 PB) 1)
def Zo : SE := (.cell u1 NW 0)
def dj : SE := (.arith .add .i64 Zo u10)
def ep : SE := (.cell u3 u11 0)
def fx : SE := (.cell u3 u11 1)
def gu : SE := (.cell u3 u11 2)
def Vk : SE := (rl [(.c 0), u6, u7, ep, fx, gu, (.cell u3 u11 3), (.cell u3 u11 4), (.cell u3 u11 5), (.cell u3 u11 6), (.cell u3 u11 7), (.cell u3 u11 8)])
def cn : SE := (.rcons u1 (.rcons u2 aY))
def XG : SE := (.rcons (.c 0) (.rcons u0 cn))
def kk : SE := (.eql (.sel (.app 39 XG) 0) (.c 1))
def jI : SE := (.arith .add .i64 u5 (.sel (.app 39 XG) 3))
def aM : Tr Plf := (
 .leaf (.next 1 ([u0, x39] ++ us 2 10)))
def ZV : SE := (rl [u0, u1])
def jx : SE := (.app 47 (.rcons (.c 0) (.rcons u2 (.rcons u3 (.rcons u4 (.rcons u5 (.rcons u6 (.rcons u7 (.rcons u8 (.rcons u9 (.rcons u10 (.rcons u11 ZV))))))))))))
def az : SE := (.cell u0 u2 1)
def Xa : Tr Plf := (
 .leaf (.done 0 [u14]))
def Zd : SE := (.app 39 (rl ([(.c 0)] ++ us 20 5)))
def kR : Tr Plf := (
 .split (.eql u12 u28) (
 .leaf (.next 1 ([(.c 0)] ++ us 2 10 ++ [u17, u18, u19, u0, u1, u12, u14, u15, u16, u13] ++ us 20 10))) x25)
def ZC : SE := (.app 31 (rl [(.c 0), u14, u15, (.cell u27 u0 0)]))
def cK : SE := (rl [u12, u13])
def ba : SE := (.app 44 (.rcons (.c 0) (.rcons u14 (.rcons u15 (.rcons u1 (.rcons u2 (.rcons u3 (.rcons u4 (.rcons u5 (.rcons u6 (.rcons u7 (.rcons u8 (.rcons u9 (.rcons u10 (.rcons u16 (.rcons u20 (.rcons u17 (.rcons u18 (.rcons u19 (.rcons u11 cK))))))))))))))))))))
def aF : SE := (.app 48 (rl ([(.c 0)] ++ us 21 10)))
def Z1 : SE := (.app 49 (.rcons (.c 0) cK))
def ae : SE := (.app 50 (rl [(.c 0), u21, u22, u23, u24, u25, u26, u27, u28, u29, u30, (.bc false), (.c 0), (.sel Z1 1), (.sel Z1 2)]))
def Ux : SE := (.app 53 (.rcons (.c 0) aY))
def km : SE := (.eql (.sel Ux 0) (.c 1))
def Ri : SE := (.arith .sub .i64 x3 (.c 1))
def jV : SE := (.upd (.upd u3 (.c 0) 0 (.cell u3 Ri 0)) (.c 0) 1 (.cell u3 Ri 1))
def ky : SE := (.arith .mul .i64 (.c 2) u1)
def ei : SE := (.cell u6 u9 0)
def ZQ : SE := (.cell u6 u9 1)
def YX : SE := (.lss ZQ OW)
def TA : SE := (.arith .add .i64 u3 (.c 1))
def WH : Tr Plf := (
 .leaf (.next 2 ([u0, u1, u9, TA] ++ us 4 7)))
def Pp : Tr Plf := (
 .leaf (.next 2 ([u0, u1, u2, TA] ++ us 4 7)))
def gY : Tr Plf := (
 .split (.lss OW ZQ) Pp Pp)
def jv : SE := (.cell u6 u10 0)
def Ze : SE := (.cell u6 u10 1)
def aT : SE := (.lss Ze OW)
def WU : Tr Plf := (
 .leaf (.next 2 ([u0, u1, u10, TA] ++ us 4 7)))
def j6 : Tr Plf := (
 .split (.lss OW Ze) Pp Pp)
def ZG : SE := (.app 55 (.rcons (.c 0) (.rcons u0 (.rcons u4 x93))))
def Zz : Tr Plf := (
 .split (.eql (.sel ZG 0) (.c 1)) (
 .leaf (.next 1 [u0, u1, (.sel ZG 1), (.sel ZG 2), u4])) x8)
def fF : SE := (.mIdx [(.int .i64)] u4 (rl [(.cell u2 (.c 0) 1)]))
def SU : SE := (.app 56 (.rcons (.c 0) (.rcons u5 cn)))
def SZ : SE := (.app 56 XG)
def g9 : Tr Plf := (
 .leaf (.done 0 [u0, u1, (.c 0), u3, u5, u6, u7]))
def Tg : SE := (.app 56 (.rcons (.c 0) (.rcons u3 (.rcons u7 (.rcons u4 UW)))))
def W9 : SE := (rl [u9])
def jZ : Tr Plf := (
 .split (.eql (.sel Tg 0) (.c 1)) (
 .leaf (.next 1 [(.snoc u0 W9), (.bc false), (.sel Tg 3), u3, u4, (.sel Tg 4), (.sel Tg 5), u7, (.sel Tg 1), (.sel Tg 2)])) x8)
def Y6 : SE := (.mIdx [(.int .i64)] u7 W9)
def S2 : SE := (.app 56 (.rcons (.c 0) (.rcons u3 (.rcons (.rmv u7 Y6) (.rcons u4 UW)))))
def ZR : SE := (.cell u0 u2 2)
def Z3 : SE := (.cell u0 u2 3)
def Zc : SE := (.cell u0 u2 4)
def jP : SE := (rl [x29, az, ZR, Z3, Zc, (.cell u0 u2 5), (.cell u0 u2 6), (.cell u0 u2 7), (.cell u0 u2 8)])
def gp : SE := (.app 58 (.rcons (.c 0) (.rcons u19 (.rcons u20 (.rcons u6 (.rcons u7 (.rcons u8 (.rcons u9 (.rcons u10 (.rcons u11 (.rcons u12 (.rcons u13 (.rcons u14 (.rcons u15 (.rcons u21 (.rcons u25 (.rcons u22 (.rcons u23 (.rcons u24 (.rcons u16 (.rcons u17 (.rcons u18 (.rcons u5 jP)))))))))))))))))))))))
def jc : Tr Plf := (
 .leaf (.next 1 ([u0, u1, x32] ++ us 3 24)))
def Y9 : SE := (.lss u20 u12)
def kK : Tr Plf := (
 .leaf (.done 0 [.nilL, (.bc true), (.c 3), u17, u12, u14, u15, u16, u13]))
def Zk : SE := (.lss Qj u20)
def Mc : SE := (.app 54 (rl ([(.c 0)] ++ us 12 5)))
def Xu : SE := (.eql (.sel Mc 0) (.c 1))
def H5 : SE := (.sel Mc 2)
def Te : SE := (.app 57 (rl [(.c 0), (.sel Mc 1), (.sel Mc 5), H5, (.sel Mc 3), (.sel Mc 4), u20]))
def Zb : SE := (.eql (.sel Te 0) (.c 1))
def J2 : SE := (.sel Te 4)
def JW : SE := (.sel Te 7)
def JT : SE := (.sel Te 5)
def JZ : SE := (.sel Te 6)
def XK : SE := (.rcons (.sel Uu 1) (.rcons (.sel Uu 2) W9))
def ZE : SE := (.app 59 (.rcons (.c 0) (.rcons .nilL (.rcons (.bc true) (.rcons u0 (.rcons u1 (.rcons u2 (.rcons u3 (.rcons u4 (.rcons u5 (.rcons u6 (.rcons u7 (.rcons u8 (.rcons u9 (.rcons u10 (.rcons u11 (.rcons J2 (.rcons JW (.rcons H5 (.rcons JT (.rcons JZ (.rcons (.bc true) (.rcons u18 (.rcons u19 (.rcons (.bc true) XK)))))))))))))))))))))))))
def P4 : SE := (.lss (.c 0) (.lenL (.sel Te 1)))
def aN : SE := (.app 59 (.rcons (.c 0) (.rcons .nilL (.rcons (.bc true) (.rcons u0 (.rcons u1 (.rcons u2 (.rcons u3 (.rcons u4 (.rcons u5 (.rcons u6 (.rcons u7 (.rcons u8 (.rcons u9 (.rcons u10 (.rcons u11 (.rcons J2 (.rcons JW (.rcons H5 (.rcons JT (.rcons JZ (.rcons P4 (.rcons u18 (.rcons u19 (.rcons P4 XK)))))))))))))))))))))))))
def Y7 : SE := (.lss u10 u8)
def jq : Tr Plf := (
 .leaf (.done 0 (us 0 10 ++ [.nilL, (.bc true), (.c 3)])))
def Zx : SE := (.lss Qj u10)
def kE : SE := (.app 47 (.rcons (.c 0) (.rcons u4 (.rcons u5 (.rcons u6 (.rcons u7 (.rcons u8 (.rcons u9 (.rcons u10 (.rcons u11 (.rcons u0 (.rcons u12 (.rcons u0 x92)))))))))))))
def WQ : Tr Plf := (
 .leaf (.next 1 ([x10] ++ us 1 35)))
def Y4 : SE := (rl [u33, u34])
def cV : SE := (.app 41 (.rcons (.c 0) (.rcons u14 (.rcons u15 (.rcons u26 (.rcons u27 (.rcons u28 (.rcons u29 (.rcons u30 (.rcons u31 (.rcons u32 Y4)))))))))))
def OY : SE := (.rcons (.c 0) (.rcons u0 (.rcons u1 (.rcons u2 (.rcons u3 (.rcons u4 (.rcons u5 (.rcons u6 (.rcons u7 (.rcons u8 (.rcons u9 Zl)))))))))))
def cq : SE := (.cell u7 u27 1)
def XF : SE := (.app 64 (rl [(.c 0), u0, u1, (.cell u7 u27 0), cq, (.cell u7 u27 2), (.cell u7 u27 3), (.cell u7 u27 4), (.cell u7 u27 5), (.cell u7 u27 6), (.cell u7 u27 7), (.cell u7 u27 8)]))
def O1 : SE := (.app 22 (rl [(.c 0), (.sel XF 2), u1, u2, u3, u4, u5, u6, u7, u8, u9, u10, u11, u20, u21, u22, u23, u24, u25, u18, u19, cq]))
def gh : Tr Plf := (
 .leaf (.done 0 [(.c 2), u9, u10, u11, u17, u18, u19, u0, u1, u12, u14, u15, u16, u13]))
def jj : Tr Plf := (
 .leaf (.done 0 [(.c 3), u9, u10, u11, u17, u18, u19, u0, u1, u12, u14, u15, u16, u13]))
def iU : SE := (rl [(.cell u7 u21 0), (.cell u7 u21 1), (.cell u7 u21 2), (.cell u7 u21 3), (.cell u7 u21 4), (.cell u7 u21 5), (.cell u7 u21 6), (.cell u7 u21 7), (.cell u7 u21 8)])
def gj : SE := (.app 63 (.rcons (.c 0) (.rcons u0 (.rcons u1 (.rcons u2 (.rcons u3 (.rcons u4 (.rcons u5 (.rcons u6 (.rcons u7 (.rcons u8 (.rcons u9 (.rcons u10 (.rcons u11 (.rcons u12 (.rcons u13 (.rcons u14 (.rcons u15 (.rcons u16 (.rcons u17 (.rcons u18 (.rcons u19 (.rcons J2 (.rcons JW (.rcons H5 (.rcons JT (.rcons JZ (.rcons (.bc true) iU))))))))))))))))))))))))))))
def jF : SE := (rl [u20, u21])
def Je : SE := (.app 65 (.rcons (.c 0) (.rcons u0 (.rcons u1 (.rcons u2 (.rcons u3 (.rcons u4 (.rcons u5 (.rcons u6 (.rcons u7 (.rcons u8 (.rcons u9 (.rcons u10 (.rcons u11 (.rcons u12 (.rcons u13 (.rcons u14 (.rcons u15 (.rcons u16 (.rcons (.bc true) (.rcons u18 (.rcons u19 (.rcons J2 (.rcons JW (.rcons H5 (.rcons JT (.rcons JZ (.rcons (.bc true) jF))))))))))))))))))))))))))))
def dS : SE := (.app 63 (.rcons (.c 0) (.rcons u0 (.rcons u1 (.rcons u2 (.rcons u3 (.rcons u4 (.rcons u5 (.rcons u6 (.rcons u7 (.rcons u8 (.rcons u9 (.rcons u10 (.rcons u11 (.rcons u12 (.rcons u13 (.rcons u14 (.rcons u15 (.rcons u16 (.rcons u17 (.rcons u18 (.rcons u19 (.rcons J2 (.rcons JW (.rcons H5 (.rcons JT (.rcons JZ (.rcons P4 iU))))))))))))))))))))))))))))
def IV : SE := (.app 65 (.rcons (.c 0) (.rcons u0 (.rcons u1 (.rcons u2 (.rcons u3 (.rcons u4 (.rcons u5 (.rcons u6 (.rcons u7 (.rcons u8 (.rcons u9 (.rcons u10 (.rcons u11 (.rcons u12 (.rcons u13 (.rcons u14 (.rcons u15 (.rcons u16 (.rcons (.bc false) (.rcons u18 (.rcons u19 (.rcons J2 (.rcons JW (.rcons H5 (.rcons JT (.rcons JZ (.rcons P4 jF))))))))))))))))))))))))))))
def bb : SE := (.cat .emptyL u1)
def bE : Tr Plf := (
 .leaf (.done 0 (us 0 10 ++ [(.c 2)])))
def i6 : Tr Plf := (
 .leaf (.done 0 (us 0 10 ++ [(.c 3)])))
def i8 : SE := (.app 47 (rl ([(.c 0)] ++ us 0 12)))
def ii : SE := (.app 63 (.rcons (.c 0) (.rcons u20 (.rcons u21 (.rcons u7 (.rcons u8 (.rcons u9 (.rcons u10 (.rcons u11 (.rcons u12 (.rcons u13 (.rcons u14 (.rcons u15 (.rcons u16 (.rcons u22 (.rcons u26 (.rcons u23 (.rcons u24 (.rcons u25 (.rcons u17 (.rcons u18 (.rcons u19 (.rcons u27 (.rcons u31 (.rcons u28 (.rcons u29 (.rcons u30 (.rcons u6 jP))))))))))))))))))))))))))))
def Vh : Tr Plf := (
 .leaf (.next 1 ([u0, u1, x32] ++ us 3 30)))
def jb : Tr Plf := (
 .leaf (.done 0 [(.c 0), (.c 3), u9, u10, u11, u17, u18, u19, u0, u1, u12, u14, u15, u16, u13]))
def T5 : SE := (.app 69 (.rcons (.c 0) (.rcons u21 (.rcons u22 (.rcons (.c (-1)) (.rcons u0 (.rcons u1 (.rcons u2 (.rcons u3 (.rcons u4 (.rcons u5 (.rcons u6 (.rcons u7 (.rcons u8 (.rcons u9 (.rcons u10 (.rcons u11 (.rcons u12 (.rcons u13 (.rcons u14 (.rcons u15 (.rcons u16 (.rcons u17 (.rcons u18 (.rcons u19 (.rcons J2 (.rcons JW (.rcons H5 (.rcons JT (.rcons JZ (.rcons (.bc true) XK)))))))))))))))))))))))))))))))
def dk : Tr Plf := (
 .leaf (.done 0 [(.c 0), (.c 9), u9, u10, u11, (.bc true), u18, u19, u0, u1, u12, u14, u15, u16, u13]))
def Jb : SE := (.app 65 (rl [(.c 0), u0, u1, u2, u3, u4, u5, u6, u7, u8, u9, u10, u11, u12, u13, u14, u15, u16, (.bc true), u18, u19, J2, JW, H5, JT, JZ, (.bc true), u20, (.sel T5 1)]))
def UT : SE := (.app 69 (.rcons (.c 0) (.rcons u21 (.rcons u22 (.rcons (.c (-1)) (.rcons u0 (.rcons u1 (.rcons u2 (.rcons u3 (.rcons u4 (.rcons u5 (.rcons u6 (.rcons u7 (.rcons u8 (.rcons u9 (.rcons u10 (.rcons u11 (.rcons u12 (.rcons u13 (.rcons u14 (.rcons u15 (.rcons u16 (.rcons u17 (.rcons u18 (.rcons u19 (.rcons J2 (.rcons JW (.rcons H5 (.rcons JT (.rcons JZ (.rcons P4 XK)))))))))))))))))))))))))))))))
def cZ : Tr Plf := (
 .leaf (.done 0 [(.c 0), (.c 9), u9, u10, u11, (.bc false), u18, u19, u0, u1, u12, u14, u15, u16, u13]))
def I2 : SE := (.app 65 (rl [(.c 0), u0, u1, u2, u3, u4, u5, u6, u7, u8, u9, u10, u11, u12, u13, u14, u15, u16, (.bc false), u18, u19, J2, JW, H5, JT, JZ, P4, u20, (.sel UT 1)]))
def eO : Tr Plf := (
 .leaf (.done 0 (us 0 10 ++ [(.c 0), (.c 3)])))
def be : SE := (.rcons (.c 0) (.rcons u4 (.rcons u5 (.rcons u6 (.rcons u7 (.rcons u8 (.rcons u9 (.rcons u10 (.rcons u11 (.rcons u12 (.rcons u13 (.rcons u0 x92))))))))))))
def La : SE := (.app 68 be)
def XT : Tr Plf := (
 .leaf (.next 1 ([u0, u1, u2, TA] ++ us 4 10)))
def ZO : SE := (.app 72 (.rcons (.c 0) ZV))
def aJ : SE := (.app 73 (.rcons (.c 0) ZV))
def dU : SE := (rl [u18, u19])
def Y5 : SE := (.app 49 (.rcons (.c 0) dU))
def Ex : SE := (.app 60 (rl ([(.c 0)] ++ us 0 20 ++ [u31])))
def Co : SE := (.app 61 (rl ([(.c 0)] ++ us 20 10 ++ [u31])))
def dY : SE := (.app 62 (rl [(.c 0), (.sel Ex 1), (.sel Ex 2), (.sel Co 11), (.sel Co 12)]))
def bF : SE := (.app 51 (rl [(.c 0), u0, u1, u2, u3, u4, u5, u6, u7, u8, u9, u10, u11, (.sel Ex 5), (.sel Ex 9), (.sel Ex 6), (.sel Ex 7), (.sel Ex 8), (.sel Ex 4), u18, u19, (.sel Co 1), (.sel Co 2), (.sel Co 3), (.sel Co 4), (.sel Co 5), (.sel Co 6), (.sel Co 7), (.sel Co 8), (.sel Co 9), (.sel Co 10)]))
def gW : Tr Plf := (
 .leaf (.done 0 [(.sel Co 1), (.sel Co 2), (.sel Co 3), (.sel Co 4), (.sel Co 5), (.sel Co 6), (.sel Co 7), (.sel Co 8), (.sel Co 9), (.sel Co 10), (.bc false), u3, u5, u7, (.sel Ex 5), (.sel Ex 6), (.sel Ex 7), (.sel Ex 8), (.sel Ex 9), u18, u2, u4, u6, u8, u9, u10, u11, (.sel Ex 4), u19, u0, u1]))
def dy : Tr Plf := (
 .split (.eql (.sel Ex 0) (.c 1)) (
 .split (.eql (.sel Co 0) (.c 1)) (
 .split (.eql (.sel dY 0) (.c 1)) (
 .split (.sel dY 1) (
 .split (.eql (.sel Ex 3) (.sel Co 13)) (
 .split (.eql (.sel bF 0) (.c 1)) (
 .leaf (.done 0 [(.sel Co 1), (.sel Co 2), (.sel Co 3), (.sel Co 4), (.sel Co 5), (.sel Co 6), (.sel Co 7), (.sel Co 8), (.sel Co 9), (.sel Co 10), (.sel bF 1), u3, u5, u7, (.sel Ex 5), (.sel Ex 6), (.sel Ex 7), (.sel Ex 8), (.sel Ex 9), u18, u2, u4, u6, u8, u9, u10, u11, (.sel Ex 4), u19, u0, u1])) x8) gW) gW) x8) x8) x8)
def jL : SE := (rl [u31, u32])
def BT : SE := (.app 66 (.rcons (.c 0) (.rcons u0 (.rcons u1 (.rcons u2 (.rcons u3 (.rcons u4 (.rcons u5 (.rcons u6 (.rcons u7 (.rcons u8 (.rcons u9 (.rcons u10 (.rcons u11 (.rcons u12 (.rcons u13 (.rcons u14 (.rcons u15 (.rcons u16 (.rcons u17 (.rcons u18 (.rcons u19 jL))))))))))))))))))))))
def Cy : SE := (.app 68 (.rcons (.c 0) (.rcons u20 (.rcons u21 (.rcons u22 (.rcons u23 (.rcons u24 (.rcons u25 (.rcons u26 (.rcons u27 (.rcons u28 (.rcons u29 jL))))))))))))
def eH : SE := (.app 51 (rl [(.c 0), (.sel BT 8), (.sel BT 9), u2, u3, u4, u5, u6, u7, u8, (.sel BT 2), (.sel BT 3), (.sel BT 4), (.sel BT 10), (.sel BT 14), (.sel BT 11), (.sel BT 12), (.sel BT 13), (.sel BT 5), (.sel BT 6), (.sel BT 7), (.sel Cy 1), (.sel Cy 2), (.sel Cy 3), (.sel Cy 4), (.sel Cy 5), (.sel Cy 6), (.sel Cy 7), (.sel Cy 8), (.sel Cy 9), (.sel Cy 10)]))
def Y2 : Tr Plf := (
 .split (.eql (.sel BT 0) (.c 1)) (
 .split (.eql (.sel Cy 0) (.c 1)) (
 .split (.eql (.sel BT 1) (.sel Cy 11)) (
 .split (.eql (.sel eH 0) (.c 1)) (
 .leaf (.done 0 [(.sel Cy 1), (.sel Cy 2), (.sel Cy 3), (.sel Cy 4), (.sel Cy 5), (.sel Cy 6), (.sel Cy 7), (.sel Cy 8), (.sel Cy 9), (.sel Cy 10), (.sel eH 1), u3, u5, u7, (.sel BT 10), (.sel BT 11), (.sel BT 12), (.sel BT 13), (.sel BT 14), (.sel BT 6), u2, u4, u6, u8, (.sel BT 2), (.sel BT 3), (.sel BT 4), (.sel BT 5), (.sel BT 7), (.sel BT 8), (.sel BT 9)])) x8) (
 .leaf (.done 0 [(.sel Cy 1), (.sel Cy 2), (.sel Cy 3), (.sel Cy 4), (.sel Cy 5), (.sel Cy 6), (.sel Cy 7), (.sel Cy 8), (.sel Cy 9), (.sel Cy 10), (.bc false), u3, u5, u7, (.sel BT 10), (.sel BT 11), (.sel BT 12), (.sel BT 13), (.sel BT 14), (.sel BT 6), u2, u4, u6, u8, (.sel BT 2), (.sel BT 3), (.sel BT 4), (.sel BT 5), (.sel BT 7), (.sel BT 8), (.sel BT 9)]))) x8) x8)
def BK : SE := (.app 70 (.rcons (.c 0) (.rcons u0 (.rcons u1 (.rcons u2 (.rcons u3 (.rcons u4 (.rcons u5 (.rcons u6 (.rcons u7 (.rcons u8 (.rcons u9 (.rcons u10 (.rcons u11 (.rcons u12 (.rcons u13 (.rcons u14 (.rcons u15 (.rcons u16 (.rcons u17 (.rcons u18 (.rcons u19 (.rcons u31 Y4)))))))))))))))))))))))
def Cw : SE := (.app 71 (.rcons (.c 0) (.rcons u20 (.rcons u21 (.rcons u22 (.rcons u23 (.rcons u24 (.rcons u25 (.rcons u26 (.rcons u27 (.rcons u28 (.rcons u29 (.rcons u31 Y4)))))))))))))
def kw : SE := (.app 51 (rl [(.c 0), (.sel BK 9), (.sel BK 10), u2, u3, u4, u5, u6, u7, u8, (.sel BK 3), (.sel BK 4), (.sel BK 5), (.sel BK 11), (.sel BK 15), (.sel BK 12), (.sel BK 13), (.sel BK 14), (.sel BK 6), (.sel BK 7), (.sel BK 8), (.sel Cw 1), (.sel Cw 2), (.sel Cw 3), (.sel Cw 4), (.sel Cw 5), (.sel Cw 6), (.sel Cw 7), (.sel Cw 8), (.sel Cw 9), (.sel Cw 10)]))
def g0 : Tr Plf := (
 .leaf (.done 0 [(.sel Cw 1), (.sel Cw 2), (.sel Cw 3), (.sel Cw 4), (.sel Cw 5), (.sel Cw 6), (.sel Cw 7), (.sel Cw 8), (.sel Cw 9), (.sel Cw 10), (.bc false), u3, u5, u7, (.sel BK 11), (.sel BK 12), (.sel BK 13), (.sel BK 14), (.sel BK 15), (.sel BK 7), u2, u4, u6, u8, (.sel BK 3), (.sel BK 4), (.sel BK 5), (.sel BK 6), (.sel BK 8), (.sel BK 9), (.sel BK 10)]))
def bY : Tr Plf := (
 .split (.eql (.sel BK 0) (.c 1)) (
 .split (.eql (.sel Cw 0) (.c 1)) (
 .split (.eql (.sel BK 1) (.sel Cw 11)) (
 .split (.eql (.sel BK 2) (.sel Cw 12)) (
 .split (.eql (.sel kw 0) (.c 1)) (
 .leaf (.done 0 [(.sel Cw 1), (.sel Cw 2), (.sel Cw 3), (.sel Cw 4), (.sel Cw 5), (.sel Cw 6), (.sel Cw 7), (.sel Cw 8), (.sel Cw 9), (.sel Cw 10), (.sel kw 1), u3, u5, u7, (.sel BK 11), (.sel BK 12), (.sel BK 13), (.sel BK 14), (.sel BK 15), (.sel BK 7), u2, u4, u6, u8, (.sel BK 3), (.sel BK 4), (.sel BK 5), (.sel BK 6), (.sel BK 8), (.sel BK 9), (.sel BK 10)])) x8) g0) g0) x8) x8)
def Dn : SE := (.app 74 (.rcons (.c 0) (.rcons u0 (.rcons u1 (.rcons u2 (.rcons u3 (.rcons u4 (.rcons u5 (.rcons u6 (.rcons u7 (.rcons u8 (.rcons u9 (.rcons u10 (.rcons u11 (.rcons u12 (.rcons u13 (.rcons u14 (.rcons u15 (.rcons u16 (.rcons u17 dU))))))))))))))))))))
def Q8 : SE := (.app 60 (rl [(.c 0), u0, u1, u2, (.sel Dn 1), u4, (.sel Dn 2), u6, (.sel Dn 3), u8, u9, u10, u11, u12, u13, u14, u15, u16, u17, u18, u19, Qj]))
def i4 : SE := (.app 48 (.rcons (.c 0) (.rcons u20 dO)))
def dc : SE := (rl [(.sel i4 1), u32])
def BP : SE := (.app 66 (.rcons (.c 0) (.rcons u0 (.rcons u1 (.rcons u2 (.rcons u3 (.rcons u4 (.rcons u5 (.rcons u6 (.rcons u7 (.rcons u8 (.rcons u9 (.rcons u10 (.rcons u11 (.rcons u12 (.rcons u13 (.rcons u14 (.rcons u15 (.rcons u16 (.rcons u17 (.rcons u18 (.rcons u19 dc))))))))))))))))))))))
def Cz : SE := (.app 68 (.rcons (.c 0) (.rcons u20 (.rcons u21 (.rcons u22 (.rcons u23 (.rcons u24 (.rcons u25 (.rcons u26 (.rcons u27 (.rcons u28 (.rcons u29 dc))))))))))))
def ij : SE := (.app 51 (rl [(.c 0), (.sel BP 8), (.sel BP 9), u2, u3, u4, u5, u6, u7, u8, (.sel BP 2), (.sel BP 3), (.sel BP 4), (.sel BP 10), (.sel BP 14), (.sel BP 11), (.sel BP 12), (.sel BP 13), (.sel BP 5), (.sel BP 6), (.sel BP 7), (.sel Cz 1), (.sel Cz 2), (.sel Cz 3), (.sel Cz 4), (.sel Cz 5), (.sel Cz 6), (.sel Cz 7), (.sel Cz 8), (.sel Cz 9), (.sel Cz 10)]))
def HX : SE := (.app 66 (.rcons (.c 0) (.rcons u14 (.rcons u15 (.rcons u1 (.rcons u2 (.rcons u3 (.rcons u4 (.rcons u5 (.rcons u6 (.rcons u7 (.rcons u8 (.rcons u9 (.rcons u10 (.rcons u43 (.rcons u47 (.rcons u44 (.rcons u45 (.rcons u46 (.rcons u11 (.rcons u12 (.rcons u13 (.rcons Qj x90)))))))))))))))))))))))
def iS : SE := (.app 51 (rl ([(.c 0), u36, u37, u26, u2, u27, u4, u28, u6, u29, u30, u31, u32, u38, u42, u39, u40, u41, u33, u34, u35] ++ us 16 10)))
def SQ : Tr Plf := (
 .split (.eql (.sel (.app 1 U2) 0) (.c 1)) x1 x8)
def Bv : SE := (.app 23 (.rcons (.c 0) XE))
def FW : SE := (.app 30 (.rcons (.c 0) XE))
def ak : SE := (.eql (.sel FW 0) (.c 1))
def cj : SE := (.eql (.c 0) (.sel FW 8))
def ay : SE := (.eql (.sel FW 8) (.c 0))
def Xx : SE := (.sel Bv 12)
def WY : SE := (.sel Bv 13)
def bD : SE := (.app 31 (rl [(.c 0), Xx, WY, (.strc 15 593979589895112235513812868925517678)]))
def WS : SE := (.sel Bv 1)
def UA : SE := (.app 35 (rl [(.c 0), Xx, WY, WS, (.sel Bv 2), (.sel Bv 3), (.sel Bv 4), (.sel Bv 5), (.sel Bv 6), (.sel Bv 7), (.sel Bv 8), (.sel Bv 9), (.sel Bv 10), (.c 0), (.sel Bv 17), (.sel Bv 14), (.sel Bv 15), (.sel Bv 16), (.bc false), (.sel Bv 11), (.bc true)]))
def fw : SE := (.app 36 (.rcons (.c 0) (.rcons (.sel UA 1) (.rcons (.sel UA 2) (.rcons (.sel UA 3) (.rcons (.sel UA 4) XE))))))
def j5 : SE := (.app 51 (rl [(.c 0), Xx, WY, WS, (.sel Bv 2), (.sel Bv 3), (.sel Bv 4), (.sel Bv 5), (.sel Bv 6), (.sel Bv 7), (.sel Bv 8), (.sel Bv 9), (.sel Bv 10), (.c 0), (.sel Bv 17), (.sel Bv 14), (.sel Bv 15), (.sel Bv 16), (.bc false), (.sel Bv 11), (.bc true), (.sel FW 1), (.sel FW 2), (.sel FW 3), (.sel FW 4), (.sel FW 5), (.c 0), (.sel FW 6), (.sel FW 7), (.c 0), .nilL]))
def CA : SE := (.app 75 (rl ([(.c 0), u26, u27] ++ us 13 10 ++ [u28, u32, u29, u30, u31, u23, u24, u25] ++ us 3 10 ++ [x29, az, ZR, Z3, Zc])))
def lP : Tr Plf :=
 .split (.lss (.c 6) x0) x1 (
 .split (.lss (.c 8) x2) x1 (
 .split (.lss (.c 14) x3) x1 (
 .split (.lss (.c 60) x4) x1 x5)))
def kU : Tr Plf :=
 .split x6 (
 .split x7 x8 (
 .split (.lss (.c 60) (.lenS x9)) x1 x11)) x12
def lL : Tr Plf :=
 .split x13 (
 .split x7 x8 (
 .split (.lss (.c 60) (.lenS x14)) x1 x15)) x16
def lh : Tr Plf :=
 .split x18 (
 .split x7 x8 (
 .split (.lss (.c 60) (.lenS x19)) x1 (
 .split (.lss (.c 60) (.lenS x20)) x1 (
 .split (.lss (.c 60) (.lenS x21)) x1 (
 .split (.lss (.c 60) (.lenS x22)) x1 (
 .split (.lss (.c 60) (.lenS x23)) x1 x24)))))) x25
def t0 : List (Tr Plf) := [lP, kU, lL, lh]
def lV : Tr Plf :=
 .leaf (.done 0 [])
def t1 : List (Tr Plf) := [lV]
def l5 : Tr Plf :=
 .split (.lss x4 (.c 1)) x25 (
 .split (.lss (.c 32) x4) x25 (
 .leaf (.next 1 [(.bytes u0), (.lenL (.bytes u0)), (.c 0)])))
def kZ : Tr Plf :=
 .split (.lss u2 u1) (
 .split x26 x8 (
 .split x28 (
 .split (.lss x30 (.c 97)) (
 .split (.lss x30 (.c 65)) (
 .split x31 x25 (
 .split (.lss x30 (.c 48)) x25 (
 .split (.lss (.c 57) x30) x25 x33))) (
 .split (.lss (.c 90) x30) (
 .split x31 x25 (
 .split (.eql x30 (.c 95)) x33 x25)) x33)) (
 .split (.lss (.c 122) x30) (
 .split x31 x25 x25) x33)) x8)) x1
def t2 : List (Tr Plf) := [l5, kZ]
def lG : Tr Plf :=
 .leaf x34
def lM : Tr Plf :=
 .split x35 x40 x41
def t3 : List (Tr Plf) := [lG, lM]
def ly : Tr Plf :=
 .split x42 x43 x45
def lH : Tr Plf :=
 .split x46 (
 .split x36 x8 (
 .split x47 (
 .split (.eql (.sel x49 0) (.c 1)) (
 .split (.sel x49 1) (
 .split (.eql (.sel x50 0) (.c 1)) (
 .split (.lss (.sel x50 1) u1) x38 (
 .split (.lss x51 (.c 1)) x38 (
 .split (.lss (.c 1000) x51) x38 x52))) x8) x38) x8) x8)) x41
def t4 : List (Tr Plf) := [ly, lH]
def lO : Tr Plf :=
 .leaf x34
def lX : Tr Plf :=
 .split x35 x40 x41
def t5 : List (Tr Plf) := [lO, lX]
def kT : Tr Plf :=
 .split x42 x43 x45
def lI : Tr Plf :=
 .split x46 (
 .split x36 x8 (
 .split x53 (
 .split (.eql (.sel x55 0) (.c 1)) (
 .split (.sel x55 1) (
 .split (.eql (.sel x56 0) (.c 1)) (
 .split (.lss (.sel x56 1) u1) x38 (
 .split (.lss x57 (.c 0)) x38 (
 .split (.lss (.c 1048576) x57) x38 x52))) x8) x38) x8) x8)) x41
def t6 : List (Tr Plf) := [kT, lI]
def kW : Tr Plf :=
 .leaf (.next 1 ([u0, (.c 0)] ++ us 1 9))
def lR : Tr Plf :=
 .split x35 (
 .split x36 x8 (
 .split (.and (.eqSS u2 x37) (.and (.eqSS u3 x58) (.and (.eql u4 (.cell u0 u1 2)) (.and (.eqSS u5 x59) (.and (.eqSS u6 x60) (.and (.eqSS u7 (.cell u0 u1 5)) (.and (.eql u8 (.cell u0 u1 6)) (.and (.eql u9 (.cell u0 u1 7)) (.eql u10 (.cell u0 u1 8)))))))))) x38 (
 .leaf (.next 1 ([u0, x39] ++ us 2 9))))) x41
def t7 : List (Tr Plf) := [kW, lR]
def lj : Tr Plf :=
 .split x42 x43 x45
def lT : Tr Plf :=
 .split x46 (
 .split x36 x8 (
 .split (.lss u1 x61) (
 .split (.eql x62 (.c 1)) x88 (
 .split (.eql x62 (.c 2)) x88 (
 .split (.eql x62 (.c 3)) (
 .split x65 (
 .split x68 (
 .split x69 x38 (
 .split x72 (
 .split x73 x38 (
 .split x74 x8 (
 .split x81 (
 .split x82 (
 .split x83 (
 .split (.lss (.c 0) (.cell u3 (.sel x64 1) 2)) x89 x38) x8) x38) x8))) x8)) x8) x8) (
 .split (.eql x62 (.c 4)) (
 .split x65 (
 .split x68 (
 .split x69 x38 (
 .split x72 (
 .split x73 x38 (
 .split x74 x8 (
 .split x81 (
 .split x82 (
 .split x83 x89 x8) x38) x8))) x8)) x8) x8) (
 .split x65 (
 .split x68 x38 x8) x8))))) x8)) x41
def t8 : List (Tr Plf) := [lj, lT]
def lZ : Tr Plf :=
 .split (.eql (.sel x91 0) (.c 1)) (
 .split (.sel x91 1) (
 .split (.eql (.sel x95 0) (.c 1)) (
 .split (.lss (.sel x95 1) (.c 0)) (
 .split (.eql (.sel x96 0) (.c 1)) (
 .split (.lss (.sel x96 1) (.c 0)) (
 .split (.eql (.sel x97 0) (.c 1)) (
 .split (.lss (.sel x97 1) (.c 0)) x98 (
 .leaf (.done 0 [(.sel x97 1), (.c 293)]))) x8) (
 .leaf (.done 0 [(.sel x96 1), (.c 292)]))) x8) (
 .leaf (.done 0 [(.sel x95 1), (.c 291)]))) x8) x99) x8
def t9 : List (Tr Plf) := [lZ]
def gy : Tr Plf :=
 .leaf (.next 1 [u0, u1, (.c 0), u2])
def jN : Tr Plf :=
 .split x28 (
 .split x26 x8 (
 .split (.eqSS x29 u3) x44 (
 .leaf (.next 1 [u0, u1, x32, u3])))) x41
def t10 : List (Tr Plf) := [gy, jN]
def ey : Tr Plf :=
 .split (.lss (.c 4) x27) Ut (
 .leaf (.next 1 [u0, (.c 0), .nilL, (.bc true)]))
def cz : Tr Plf :=
 .split x35 (
 .split x36 x8 (
 .split (.eqS x37 0 0) Ut (
 .split (.lss x58 (.c 1)) Ut (
 .split (.lss (.c 1000) x58) Ut (
 .split (.eql (.sel bJ 0) (.c 1)) (
 .split (.lss (.sel bJ 1) (.c 0)) (
 .split (.lss x0 LB) (
 .leaf (.next 1 [u0, x39, (.snoc u2 (.rcons x37 (.rcons x58 U2))), (.bc false)])) x8) Ut) x8))))) (
 .leaf (.done 1 [u2, u3]))
def t11 : List (Tr Plf) := [ey, cz]
def f6 : Tr Plf :=
 .split aa Nx NE
def t12 : List (Tr Plf) := [f6]
def gl : Tr Plf :=
 .split aa Nx NE
def t13 : List (Tr Plf) := [gl]
def kA : Tr Plf :=
 .split aa Nx NE
def t14 : List (Tr Plf) := [kA]
def eP : Tr Plf :=
 .leaf (.next 1 [.nilL, (.bc true), u0, u1, (.c 0), u2])
def kQ : Tr Plf :=
 .split ZA (
 .split XS x8 (
 .split (.eqSS XM u5) (
 .split (.lss x27 LB) (
 .leaf (.next 1 [(.snoc u0 (rl [XM, dr, aP])), (.bc false), u2, u3, Wk, u5])) x8) (
 .leaf (.next 1 [u0, u1, u2, u3, Wk, u5])))) gF
def t15 : List (Tr Plf) := [eP, kQ]
def fa : Tr Plf :=
 .split (.lss u5 (.c 0)) cp (
 .split (.lss u5 (.c 256)) (
 .split u2 Tb (
 .split Zv Tb (
 .leaf (.done 0 [(.arith .sub .i64 (.cell u1 X0 1) u0), (.c 0)])))) cp)
def t16 : List (Tr Plf) := [fa]
def cN : Tr Plf :=
 .split (.eql (.sel Zs 0) (.c 1)) (
 .split (.eql (.sel Zs 2) (.c 0)) (
 .split u2 hI (
 .split Zv hI (
 .leaf (.done 0 [(.c 0), (.rmv u1 X0)])))) (
 .leaf (.done 0 [(.sel Zs 2), u1]))) x8
def t17 : List (Tr Plf) := [cN]
def j8 : Tr Plf :=
 .split (.lss x0 LB) (
 .leaf (.next 1 [(.arith .sub .i64 (.lenL je) (.c 1)), u0, je, (.bc false), u1])) x8
def cR : Tr Plf :=
 .split (.lss (.c 0) u0) (
 .split (.lss Is (.c 0)) x8 (
 .split (.lss Is x0) (
 .split x13 (
 .split (.lss aU x14) (
 .split Zu SW (
 .split Y1 SW SW)) (
 .split (.lss x14 aU) (
 .split Zu WN (
 .split Y1 WN WN)) (
 .split Zu SW (
 .split Y1 WN SW)))) x8) x8)) SW
def t18 : List (Tr Plf) := [j8, cR]
def cC : Tr Plf :=
 .split (.lss x3 LB) (
 .leaf (.next 1 [(.arith .sub .i64 (.lenL (.snoc u3 UW)) (.c 1)), u0, u2, (.snoc u3 UW), (.bc false), u1])) x8
def fR : Tr Plf :=
 .split (.lss (.c 0) u0) (
 .split (.lss Is (.c 0)) x8 (
 .split (.lss Is x3) (
 .split x6 (
 .split (.lss ZU x9) (
 .split aW QS (
 .split ah QS QS)) (
 .split (.lss x9 ZU) (
 .split aW Xn (
 .split ah Xn Xn)) (
 .split aW QS (
 .split ah Xn QS)))) x8) x8)) QS
def t19 : List (Tr Plf) := [cC, fR]
def fO : Tr Plf :=
 .split (.lss u5 (.c 0)) cy (
 .split (.lss u5 (.c 256)) (
 .split (.lss u6 (.c 0)) jM (
 .split (.lss (.arith .sub .i64 Qj u0) u6) jM (
 .split u2 (
 .split (.eql (.sel ZJ 0) (.c 1)) (
 .leaf (.done 0 [(.c 0), (.bc false), (.sel ZJ 1), (.sel ZJ 2), (.snoc .emptyL Xv)])) x8) (
 .split Zv (
 .split (.eql (.sel Z6 0) (.c 1)) (
 .leaf (.done 0 [(.c 0), u2, (.sel Z6 1), (.sel Z6 2), (.snoc u1 Xv)])) x8) (
 .split (.eql (.sel aq 0) (.c 1)) (
 .leaf (.done 0 [(.c 0), u2, (.sel aq 1), (.sel aq 2), dR])) x8))))) cy)
def t20 : List (Tr Plf) := [fO]
def cJ : Tr Plf :=
 .split (.eql (.sel gS 0) (.c 1)) (
 .split (.lss (.c 0) (.lenL S7)) (
 .split (.eql (.sel Zj 0) (.c 1)) (
 .split (.lss (.c 0) WC) (
 .split (.eql (.sel V6 0) (.c 1)) (
 .leaf (.done 0 [(.cell S7 (.c 0) 0), (.cell S7 (.c 0) 1), WC, (.sel V6 2), (.sel V6 3), (.sel V6 4), (.sel V6 5)])) x8) (
 .leaf (.done 0 [(.cell S7 (.c 0) 0), (.cell S7 (.c 0) 1), WC, u12, u13, u14, (.sel Zj 2)]))) x8) x8) x8
def t21 : List (Tr Plf) := [cJ]
def bU : Tr Plf :=
 .split (.eql (.sel bR 0) (.c 1)) (
 .split (.lss (.c 0) (.lenL Tz)) (
 .split (.eql (.sel (.app 17 SJ) 0) (.c 1)) (
 .split (.lss (.c 0) WD) (
 .split (.eql (.sel Vi 0) (.c 1)) (
 .leaf (.done 0 [(.cell Tz (.c 0) 0), (.cell Tz (.c 0) 1), WD, (.sel Vi 2), (.sel Vi 3), (.sel Vi 4), (.sel Vi 5)])) x8) (
 .leaf (.done 0 [(.cell Tz (.c 0) 0), (.cell Tz (.c 0) 1), WD, u14, u15, u16, (.sel (.app 17 SJ) 2)]))) x8) x8) x8
def t22 : List (Tr Plf) := [bU]
def e9 : Tr Plf :=
 .split (.eql (.sel (.app 9 OD) 0) (.c 1)) (
 .split (.eql (.sel (.app 9 OD) 2) (.c 0)) (
 .split (.eql (.sel (.app 11 JX) 0) (.c 1)) (
 .split eG (
 .split fy (
 .split fZ (
 .split Y8 (
 .split (.eql (.sel OT 0) (.c 1)) (
 .leaf (.done 0 [u0, (.sel Ra 1), (.sel Ra 2), aZ, Z5, (.sel Qs 1), (.sel Qs 2), (.sel OT 1), (.sel OT 2), (.sel OT 3), .nilL, (.sel OT 4), (.sel OT 5), (.sel OT 6), (.sel OT 7)])) x8) x8) x8) x8) x8) (
 .split (.eql (.sel (.app 11 JX) 0) (.c 2)) (
 .split eG (
 .split fy (
 .split fZ (
 .split Y8 (
 .split (.eql (.sel PE 0) (.c 1)) (
 .leaf (.done 1 [u0, (.sel Ra 1), (.sel Ra 2), aZ, Z5, (.sel Qs 1), (.sel Qs 2), (.sel PE 1), (.sel PE 2), (.sel PE 3), .nilL, (.sel (.app 11 JX) 1), (.sel (.app 11 JX) 2), (.sel PE 4), (.sel PE 5), (.sel PE 6), (.sel PE 7)])) x8) x8) x8) x8) x8) x8)) (
 .leaf (.done 2 [(.sel (.app 9 OD) 2)]))) x8
def t23 : List (Tr Plf) := [e9]
def ig : Tr Plf :=
 .split (.lss x4 (.c 1)) x25 (
 .split (.lss (.c 32) x4) x25 (
 .split (.eql aL (.c 95)) x25 (
 .split (.lss aL (.c 48)) jO (
 .split (.lss (.c 57) aL) jO x25))))
def ia : Tr Plf :=
 .split (.lss u1 x4) (
 .split x36 x8 (
 .split (.lss QQ (.c 97)) (
 .split (.lss QQ (.c 65)) (
 .split (.lss QQ (.c 48)) x25 (
 .split (.lss (.c 57) QQ) x25 XB)) (
 .split (.lss (.c 90) QQ) (
 .split (.eql QQ (.c 95)) XB x25) XB)) (
 .split (.lss (.c 122) QQ) x25 XB))) x1
def t24 : List (Tr Plf) := [ig, ia]
def gv : Tr Plf :=
 .leaf WW
def fM : Tr Plf :=
 .split x47 (
 .split x36 x8 (
 .split (.eqSS x48 u0) x38 x52)) x41
def t25 : List (Tr Plf) := [gv, fM]
def gn : Tr Plf :=
 .leaf WW
def gB : Tr Plf :=
 .split x53 (
 .split x36 x8 (
 .split (.eqSS x54 u0) x38 x52)) x41
def t26 : List (Tr Plf) := [gn, gB]
def dI : Tr Plf :=
 .split XS x8 (
 .split (.lss u4 x3) (
 .split (.eql (.sel Zw 0) (.c 1)) (
 .split (.lss (.sel Zw 1) (.c 0)) x25 (
 .split (.eql (.sel bg 0) (.c 1)) (
 .split (.lss (.sel bg 1) (.c 0)) x25 (
 .split (.eqS ZD 0 0) (
 .split (.eql TZ (.c 0)) (
 .split (.eql U4 (.c 0)) (
 .split (.eql Tj (.c 0)) cw x25) x25) x25) (
 .split (.eql (.sel Xm 0) (.c 1)) (
 .split (.lss (.sel Xm 1) (.c 0)) x25 (
 .split (.lss TZ (.c 0)) x25 (
 .split (.lss U4 TZ) x25 (
 .split (.lss (.sel Xm 1) x0) (
 .split (.lss eL U4) x25 (
 .split (.lss Tj (.c (-1000))) x25 (
 .split (.lss (.c 1000) Tj) x25 (
 .split (.lss (.arith .add .i64 TZ Tj) (.c 0)) x25 (
 .split (.lss eL (.arith .add .i64 U4 Tj)) x25 cw))))) x8)))) x8))) x8)) x8) x8)
def db : Tr Plf :=
 .split (.lss u2 u0) (
 .split x26 x8 (
 .split Wv (
 .split (.and (.eqSS Tt u7) (.and (.eqSS OW u8) (.and (.eql (.cell u6 u2 2) u9) (.and (.eqSS (.cell u6 u2 3) u10) (.and (.eqSS (.cell u6 u2 4) u11) (.and (.eqSS (.cell u6 u2 5) u12) (.and (.eql (.cell u6 u2 6) u13) (.and (.eql (.cell u6 u2 7) u14) (.eql (.cell u6 u2 8) u15))))))))) x25 (
 .leaf (.next 1 ([u0, u1, x32] ++ us 3 13)))) x8)) (
 .split (.eql u9 (.c 1)) jg (
 .split (.eql u9 (.c 2)) jg (
 .split (.eql u9 (.c 3)) (
 .split (.eqS u10 0 0) (
 .split (.eqS u11 0 0) (
 .split x36 x8 (
 .split x47 (
 .leaf (.done 0 [(.lss (.c 0) (.cell u4 u1 2))])) x8)) x25) x25) (
 .split (.eql u9 (.c 4)) (
 .split (.eqS u10 0 0) (
 .leaf (.done 0 [(.eqS u11 0 0)])) x25) x25))))
def t27 : List (Tr Plf) := [dI, db]
def bw : Tr Plf :=
 .split (.eql (.sel iA 0) (.c 1)) (
 .split (.sel iA 1) (
 .split (.lss (.c 4) x0) (
 .leaf (.done 0 [(.c 4), (.c 291)])) x5) x99) x8
def f8 : Tr Plf :=
 .split x6 (
 .split x7 x8 (
 .split (.eql (.sel j7 0) (.c 1)) (
 .split (.sel j7 1) (
 .split (.eql (.sel bi 0) (.c 1)) (
 .split (.eql (.sel bi 1) u0) (
 .split (.lss SL (.c 1)) Wr (
 .split (.lss (.c 1000) SL) Wr x11)) Wr) x8) Wr) x8)) (
 .split (.eql x0 (.c 0)) (
 .leaf (.done 0 [(.c 0), (.c 292)])) (
 .split (.lss (.c 24) x0) (
 .leaf (.done 0 [(.c 24), (.c 292)])) x12))
def fB : Tr Plf :=
 .split x13 (
 .split x7 x8 (
 .split (.eql (.sel eT 0) (.c 1)) (
 .split (.sel eT 1) (
 .split (.eql (.sel jw 0) (.c 1)) (
 .split (.eql (.sel jw 1) u0) (
 .split (.lss ZK (.c 0)) WK (
 .split (.lss (.c 1048576) ZK) WK x15)) WK) x8) WK) x8)) (
 .split (.lss (.c 80) x17) (
 .leaf (.done 0 [(.c 80), (.c 293)])) x16)
def gO : Tr Plf :=
 .split x18 (
 .split (.eql (.sel i7 0) (.c 1)) (
 .split (.sel i7 1) x24 (
 .leaf (.done 0 [u0, (.c 293)]))) x8) x98
def t28 : List (Tr Plf) := [bw, f8, fB, gO]
def gT : Tr Plf :=
 .split (.lss (.c 4) x27) Wf (
 .leaf (.next 1 [u0, (.c 0), .nilL, (.bc true), .nilL, (.bc true)]))
def bA : Tr Plf :=
 .split x35 (
 .split x36 x8 (
 .split (.eqS x37 0 0) Wf (
 .split (.lss x58 (.c 1)) Wf (
 .split (.lss (.c 1000) x58) Wf (
 .leaf (.next 2 [u0, u1, (.c 0), u2, u3, u4, u5])))))) (
 .leaf (.done 0 [(.nilIs u2 u3), (.nilIs u4 u5), (.c 0)]))
def gC : Tr Plf :=
 .split (.lss u2 u1) (
 .split x26 x8 (
 .split x28 (
 .split x36 x8 (
 .split x35 (
 .split (.eqSS x29 x37) Wf (
 .leaf (.next 2 [u0, u1, x32, u3, u4, u5, u6]))) x8)) x8)) (
 .split x36 x8 (
 .split x35 (
 .split (.lss x3 LB) (
 .split (.lss x61 LB) (
 .leaf (.next 1 [u0, x39, (.snoc u3 (rl [x37, x58])), (.bc false), (.snoc u5 U2), (.bc false)])) x8) x8) x8))
def t29 : List (Tr Plf) := [gT, bA, gC]
def f7 : Tr Plf :=
 .split (.eql (.sel (.app 28 OD) 0) (.c 1)) (
 .split (.eql (.sel (.app 28 OD) 2) (.c 0)) (
 .split (.eql (.sel (.app 29 JX) 0) (.c 1)) (
 .split Y8 (
 .leaf (.done 0 [u0, u1, u2, u3, (.cell u1 (.c 0) 0), (.sel (.app 29 JX) 1), (.sel (.app 29 JX) 2), (.c 0)])) x8) x8) (
 .leaf (.done 0 [(.strc 0 0), .nilL, .nilL, .nilL, (.strc 0 0), .nilL, .nilL, (.sel (.app 28 OD) 2)]))) x8
def t30 : List (Tr Plf) := [f7]
def kh : Tr Plf :=
 .split (.eql (.sel Xy 0) (.c 1)) (
 .split (.lss (.sel Xy 1) (.c 0)) Tb (
 .split (.lss (.sel Xy 1) x27) (
 .leaf (.done 0 [(.cell u0 (.sel Xy 1) 2), (.c 0)])) x8)) x8
def t31 : List (Tr Plf) := [kh]
def io : Tr Plf :=
 .split u1 Nx NE
def t32 : List (Tr Plf) := [io]
def hJ : Tr Plf :=
 .split u1 Nx NE
def t33 : List (Tr Plf) := [hJ]
def eQ : Tr Plf :=
 .split u1 Nx NE
def t34 : List (Tr Plf) := [eQ]
def kg : Tr Plf :=
 .split (.eql (.sel Y0 0) (.c 1)) (
 .split (.eql (.sel Zp 0) (.c 1)) (
 .split Wi (
 .leaf (.done 0 [u2, (.nilIs (.sel Y0 1) (.sel Y0 2)), (.nilIs (.sel Zp 1) (.sel Zp 2)), (.nilIs (.sel Uu 1) (.sel Uu 2))])) x8) x8) x8
def t35 : List (Tr Plf) := [kg]
def gZ : Tr Plf :=
 .split (.eqSS u0 u4) (
 .split (.eql x0 Ty) (
 .split (.eql x2 x61) (
 .split (.eql x3 QN) (
 .leaf (.next 1 ([(.c 0)] ++ us 0 8))) x25) x25) x25) x25
def b8 : Tr Plf :=
 .split x6 (
 .split x7 x8 (
 .split (.lss u0 QN) (
 .split (.and (.eqSS x9 (.cell u7 u0 0)) (.eql SL (.cell u7 u0 1))) (
 .leaf (.next 1 ([x10] ++ us 1 8))) x25) x8)) (
 .leaf (.next 2 ([(.c 0)] ++ us 1 8)))
def bz : Tr Plf :=
 .split x13 (
 .split x7 x8 (
 .split (.lss u0 Ty) (
 .split (.and (.eqSS x14 (.cell u6 u0 0)) (.and (.neg (.and (.neg (.and (.and T6 (.bc true)) bl)) (.neg (.and (.neg (.and T6 (.bc true))) (.neg bl))))) (.eql ZK (.cell u6 u0 2)))) (
 .leaf (.next 2 ([x10] ++ us 1 8))) x25) x8)) (
 .leaf (.next 3 ([(.c 0)] ++ us 1 8)))
def fA : Tr Plf :=
 .split x18 (
 .split x7 x8 (
 .split (.lss u0 (.lenL u8)) (
 .split (.and (.eqSS x19 (.cell u8 u0 0)) (.and (.eqSS x20 (.cell u8 u0 1)) (.and (.eql (.cell u4 u0 2) (.cell u8 u0 2)) (.and (.eqSS x21 (.cell u8 u0 3)) (.and (.eqSS x22 (.cell u8 u0 4)) (.and (.eqSS x23 (.cell u8 u0 5)) (.and (.eql (.cell u4 u0 6) (.cell u8 u0 6)) (.and (.eql (.cell u4 u0 7) (.cell u8 u0 7)) (.eql (.cell u4 u0 8) (.cell u8 u0 8)))))))))) (
 .leaf (.next 3 ([x10] ++ us 1 8))) x25) x8)) x1
def t36 : List (Tr Plf) := [gZ, b8, bz, fA]
def dB : Tr Plf :=
 .leaf (.done 0 [u9])
def t37 : List (Tr Plf) := [dB]
def ja : Tr Plf :=
 .leaf (.done 0 [u10])
def t38 : List (Tr Plf) := [ja]
def dz : Tr Plf :=
 .leaf WW
def bW : Tr Plf :=
 .split x53 (
 .split x36 x8 (
 .split (.eqSS x54 u0) (
 .leaf (.done 0 [x54, (.cell u3 u1 1), x57])) x52)) (
 .leaf (.done 0 [(.strc 0 0), (.bc false), (.c 0)]))
def t39 : List (Tr Plf) := [dz, bW]
def kD : Tr Plf :=
 .leaf (.done 0 [u12])
def t40 : List (Tr Plf) := [kD]
def iR : Tr Plf :=
 .split XA Z8 (
 .split (.eql (.sel (.app 31 PB) 0) (.c 1)) (
 .split (.eql (.sel (.app 31 PB) 2) (.c 0)) (
 .split gk (
 .split (.lss Qb (.c 0)) x8 (
 .split (.lss Qb x27) (
 .split (.lss XN u8) Oa (
 .split (.lss u9 XN) Oa (
 .split (.lss u10 (.arith .sub .i64 (.c 0) XN)) Oa (
 .leaf (.done 0 [(.neg (.lss (.arith .sub .i64 (.cell u0 Qb 1) XN) u10)), (.c 0)]))))) x8)) x8) (
 .leaf (.done 0 [(.bc false), (.sel (.app 31 PB) 2)]))) x8)
def t41 : List (Tr Plf) := [iR]
def ik : Tr Plf :=
 .leaf gz
def jT : Tr Plf :=
 .split ai ka x1
def t42 : List (Tr Plf) := [ik, jT]
def ce : Tr Plf :=
 .leaf (.next 1 ([.nilL, (.bc true), u0, u1, (.c 0), u21] ++ us 4 9 ++ [u18, u19, u20, u2, u3, u13, u15, u16, u17, u14]))
def ji : Tr Plf :=
 .split ZA (
 .split XS x8 (
 .split (.eql aP (.c 3)) (
 .split (.eql (.sel iz 0) (.c 1)) (
 .split (.sel iz 1) (
 .split (.lss x27 LB) (
 .leaf (.next 1 [(.snoc u0 fG), (.bc false), u2, u3, Wk, u5, u6, u7, u8, u9, u10, u11, u12, u13, u14, u15, u16, u17, u18, u19, u20, u21, u22, u23, u24])) x8) iE) x8) iE)) gF
def t43 : List (Tr Plf) := [ce, ji]
def gH : Tr Plf :=
 .split (.eql (.sel (.app 16 SJ) 0) (.c 1)) (
 .split (.eql (.sel eN 0) (.c 1)) (
 .split (.eql (.lenL (.sel eN 1)) (.c 0)) Tb (
 .split u17 (
 .leaf (.done 0 [u12, (.c 0)])) (
 .split (.eql (.sel (.app 16 SJ) 2) (.c 0)) (
 .leaf (.done 0 [(.arith .add .i64 u12 (.sel (.app 16 SJ) 1)), (.c 0)])) Tb))) x8) x8
def t44 : List (Tr Plf) := [gH]
def ku : Tr Plf :=
 .leaf (.next 1 [u2, (.c 0), u0, u1])
def gK : Tr Plf :=
 .split (.lss u1 x0) (
 .split x36 x8 (
 .split (.eqSS (.cell u2 u1 0) u0) x38 (
 .leaf (.next 1 [u0, x39, u2, u3])))) x41
def t45 : List (Tr Plf) := [ku, gK]
def bu : Tr Plf :=
 .split XA Z8 (
 .split dg (
 .split (.lss NW (.c 0)) (
 .leaf (.done 0 [(.bc false), (.c 9)])) (
 .split (.lss NW x27) (
 .split (.lss NW x2) (
 .split (.lss Zo u8) Oa (
 .split (.lss u9 Zo) Oa (
 .split (.lss u10 (.c (-1000))) Oa (
 .split (.lss (.c 1000) u10) Oa (
 .split (.lss dj (.c 0)) Oa (
 .split (.lss (.cell u0 NW 1) dj) Oa Z8)))))) x8) x8)) x8)
def t46 : List (Tr Plf) := [bu]
def kS : Tr Plf :=
 .split (.lss u11 (.c 0)) x8 (
 .split (.lss u11 x3) (
 .split (.eql (.sel (.app 46 Vk) 0) (.c 1)) (
 .split (.eqSS ep u4) (
 .split (.sel (.app 46 Vk) 1) (
 .split (.eql gu (.c 3)) (
 .split kk (
 .leaf (.done 0 [(.neg (.lss (.arith .sub .i64 u10 u5) (.sel (.app 39 XG) 3)))])) x8) x1) x25) x25) x8) x8)
def t47 : List (Tr Plf) := [kS]
def cB : Tr Plf :=
 .split kk (
 .split (.lss jI u8) (
 .leaf (.next 1 ([u8, (.c 0)] ++ us 0 10))) (
 .leaf (.next 1 ([jI, (.c 0)] ++ us 0 10)))) x8
def cP : Tr Plf :=
 .split (.lss u1 x61) (
 .split x36 x8 (
 .split (.eql x62 (.c 3)) (
 .split (.lss Qj u0) aM (
 .split (.eql (.sel jx 0) (.c 1)) (
 .split (.sel jx 1) (
 .leaf (.done 0 [u0, (.c 0)])) aM) x8)) aM)) Tb
def t48 : List (Tr Plf) := [cB, cP]
def e6 : Tr Plf :=
 .split u1 Nx NE
def t49 : List (Tr Plf) := [e6]
def f9 : Tr Plf :=
 .leaf (.next 1 ([u12, u13, (.c 0)] ++ us 0 12))
def b9 : Tr Plf :=
 .split x28 (
 .split x26 x8 (
 .split (.eql u2 u14) (
 .split (.lss u14 (.lenL u12)) (
 .split (.lss u14 (.c 0)) x8 (
 .split (.eql x29 (.cell u12 u14 0)) (
 .split (.eql az (.cell u12 u14 1)) (
 .leaf (.next 1 [u0, u1, x32, u3, u4, u5, u6, u7, u8, u9, u10, u11, u12, u13, (.arith .add .i64 u14 (.c 1))])) Xa) Xa)) Xa) Xa)) (
 .leaf (.done 1 [u14]))
def t50 : List (Tr Plf) := [f9, b9]
def dH : Tr Plf :=
 .split (.eqSS u9 u24) (
 .split (.eql (.sel Zd 0) (.c 1)) (
 .split u10 (
 .split (.sel Zd 2) kR x25) (
 .split (.sel Zd 2) x25 kR)) x8) x25
def eo : Tr Plf :=
 .split (.lss u0 (.lenL u27)) (
 .split x7 x8 (
 .split (.eql (.sel ZC 0) (.c 1)) (
 .split (.lss u0 (.lenL u28)) (
 .split (.eql (.sel ZC 1) (.cell u28 u0 0)) (
 .split (.eql (.sel ZC 2) (.c 0)) UI x25) x25) x8) x8)) (
 .split (.eql (.sel ba 0) (.c 1)) (
 .split (.eql (.sel aF 0) (.c 1)) (
 .split (.eql (.sel ba 1) (.sel aF 1)) (
 .split (.eql (.sel ba 2) (.sel aF 2)) (
 .split (.eql (.sel Z1 0) (.c 1)) (
 .split (.eql (.sel ae 0) (.c 1)) x25 (
 .split (.eql (.sel ae 0) (.c 2)) (
 .leaf (.done 0 [(.eql (.sel ae 1) (.lenL u30))])) x8)) x8) x25) x25) x8) x8)
def t51 : List (Tr Plf) := [dH, eo]
def i5 : Tr Plf :=
 .split u1 (
 .leaf (.done 0 [(.bc true), .emptyL])) (
 .leaf (.done 0 [(.bc false), u0]))
def t52 : List (Tr Plf) := [i5]
def kB : Tr Plf :=
 .split u1 Nx NE
def t53 : List (Tr Plf) := [kB]
def jd : Tr Plf :=
 .split u2 (
 .split km (
 .leaf (.done 0 [u0, (.bc true), (.sel Ux 1), (.sel Ux 2), .emptyL])) x8) (
 .split km (
 .leaf (.done 0 [u0, (.bc false), (.sel Ux 1), (.sel Ux 2), u1])) x8)
def t54 : List (Tr Plf) := [jd]
def ir : Tr Plf :=
 .split (.lss Ri (.c 0)) x8 (
 .split (.lss Ri x3) (
 .split (.lss (.c 0) x3) (
 .split (.lss (.lenL jV) Ri) x8 (
 .leaf (.next 1 [Ri, (.c 0), u0, u2, (.sub jV (.c 0) Ri), u4, u1]))) x8) x8)
def kC : Tr Plf :=
 .leaf (.next 2 [u0, u1, u1, (.c 0), u2, u3, u4, u5, u6, (.arith .add .i64 ky (.c 1)), (.arith .add .i64 ky (.c 2))])
def fq : Tr Plf :=
 .split (.lss u3 (.c 2)) (
 .split (.eql u3 (.c 0)) (
 .split (.lss u9 u0) (
 .split (.lss u9 (.c 0)) x8 (
 .split (.lss u9 Ty) (
 .split x26 x8 (
 .split Wv (
 .split (.lss ei Tt) (
 .split YX WH (
 .split (.lss OW ZQ) WH WH)) (
 .split (.lss Tt ei) (
 .split YX Pp gY) (
 .split YX WH gY))) x8)) x8)) Pp) (
 .split (.eql u3 (.c 1)) (
 .split (.lss u10 u0) (
 .split (.lss u10 (.c 0)) x8 (
 .split (.lss u10 Ty) (
 .split x26 x8 (
 .split Wv (
 .split (.lss jv Tt) (
 .split aT WU (
 .split (.lss OW Ze) WU WU)) (
 .split (.lss Tt jv) (
 .split aT Pp j6) (
 .split aT WU j6))) x8)) x8)) Pp) x8)) (
 .split (.eql u2 u1) (
 .leaf (.done 0 [u6, u7])) (
 .split x26 x8 (
 .split Wv (
 .split x36 x8 (
 .split (.lss u1 Ty) (
 .leaf (.next 1 [u0, u2, u4, u5, (.upd (.upd (.upd (.upd u6 u1 0 Tt) u1 1 OW) u2 0 (.cell u6 u1 0)) u2 1 (.cell u6 u1 1)), u7, u8])) x8)) x8)))
def t55 : List (Tr Plf) := [ir, kC, fq]
def fc : Tr Plf :=
 .leaf (.next 1 [u0, u2, u3, u4, u1])
def gR : Tr Plf :=
 .split (.lss (.c 0) x0) (
 .split u1 Zz (
 .split (.lss fF (.c 0)) Zz (
 .split (.eql (.cell u4 fF 1) (.cell u2 (.c 0) 0)) (
 .leaf (.done 0 [(.cell u2 (.c 0) 0), (.cell u2 (.c 0) 1), (.bc true), u2, u3])) Zz))) (
 .leaf (.done 0 [(.c 0), (.c 0), (.bc false), u2, u3]))
def t56 : List (Tr Plf) := [fc, gR]
def eJ : Tr Plf :=
 .split (.lss Qj u5) (
 .leaf (.done 0 [.nilL, (.bc true), (.c 3), u0, u3, u4, u1])) (
 .split (.lss u0 u5) (
 .split (.eql (.sel SU 0) (.c 1)) (
 .leaf (.next 1 [.nilL, (.bc true), (.sel SU 3), u5, u2, (.sel SU 4), (.sel SU 5), u1, (.sel SU 1), (.sel SU 2)])) x8) (
 .split (.eql (.sel SZ 0) (.c 1)) (
 .leaf (.next 1 [.nilL, (.bc true), (.sel SZ 3), u0, u2, (.sel SZ 4), (.sel SZ 5), u1, (.sel SZ 1), (.sel SZ 2)])) x8))
def cM : Tr Plf :=
 .split u2 (
 .split (.lss u3 u8) g9 (
 .split (.lss x27 LB) (
 .split u4 jZ (
 .split (.lss Y6 (.c 0)) jZ (
 .split (.eql (.sel S2 0) (.c 1)) (
 .leaf (.next 1 [(.snoc u0 W9), (.bc false), (.sel S2 3), u3, u4, (.sel S2 4), (.sel S2 5), (.rmv u7 Y6), (.sel S2 1), (.sel S2 2)])) x8))) x8)) g9
def t57 : List (Tr Plf) := [eJ, cM]
def bO : Tr Plf :=
 .leaf gz
def jR : Tr Plf :=
 .split ai ka x1
def t58 : List (Tr Plf) := [bO, jR]
def eX : Tr Plf :=
 .leaf (.next 1 ([u23, u24, (.c 0), u0, u1, u22] ++ us 4 10 ++ [u19, u20, u21, u2, u3, u14, u16, u17, u18, u15, u25]))
def iO : Tr Plf :=
 .split x28 (
 .split x26 x8 (
 .split (.eqSS x29 u26) (
 .split (.eql (.sel gp 0) (.c 1)) (
 .split (.sel gp 1) (
 .split (.lss x3 LB) (
 .leaf (.next 1 [u0, u1, x32, (.snoc u3 Z9), (.bc false), u5, u6, u7, u8, u9, u10, u11, u12, u13, u14, u15, u16, u17, u18, u19, u20, u21, u22, u23, u24, u25, u26])) x8) jc) x8) jc)) QS
def t59 : List (Tr Plf) := [eX, iO]
def bf : Tr Plf :=
 .split Y9 kK (
 .split Zk kK (
 .split Xu (
 .split Zb (
 .split u17 (
 .split Wi (
 .split (.eql (.sel ZE 0) (.c 1)) (
 .leaf (.done 0 [(.sel ZE 1), (.sel ZE 2), (.c 0), (.bc true), J2, H5, JT, JZ, JW])) x8) x8) (
 .split Wi (
 .split (.eql (.sel aN 0) (.c 1)) (
 .leaf (.done 0 [(.sel aN 1), (.sel aN 2), (.c 0), P4, J2, H5, JT, JZ, JW])) x8) x8)) x8) x8))
def t60 : List (Tr Plf) := [bf]
def iZ : Tr Plf :=
 .split Y7 jq (
 .split Zx jq (
 .leaf (.next 1 ([u10, .nilL, (.bc true), (.c 0)] ++ us 0 8 ++ [u9]))))
def kH : Tr Plf :=
 .split (.lss u3 QN) (
 .split (.eql (.sel kE 0) (.c 1)) (
 .split (.sel kE 1) (
 .split (.lss x2 LB) (
 .leaf (.next 1 [u0, (.snoc u1 x92), (.bc false), TA, u4, u5, u6, u7, u8, u9, u10, u11, u12])) x8) (
 .leaf (.next 1 ([u0, u1, u2, TA] ++ us 4 9)))) x8) (
 .leaf (.done 0 (us 4 8 ++ [u0, u12, u1, u2, (.c 0)])))
def t61 : List (Tr Plf) := [iZ, kH]
def di : Tr Plf :=
 .split (.eql x27 x0) (
 .leaf (.next 1 [u0, u1, u2, u3, (.c 0)])) x25
def gx : Tr Plf :=
 .split (.lss u4 x27) (
 .split XS x8 (
 .split ZA (
 .split (.eql (.cell u0 u4 0) XM) (
 .leaf (.next 1 [u0, u1, u2, u3, Wk])) x25) x8)) x1
def t62 : List (Tr Plf) := [di, gx]
def jk : Tr Plf :=
 .leaf (.next 1 ([(.c 0)] ++ us 2 10 ++ [u17, u18, u19, u0, u1, u12, u14, u15, u16, u13, u20, u22, u23, u24, u21] ++ us 26 9 ++ [u25]))
def fV : Tr Plf :=
 .split ai (
 .split (.eql u0 (.c 0)) (
 .split (.eqSS u26 u8) WQ x25) (
 .split (.eql u0 (.c 1)) (
 .split (.eql (.sel cV 0) (.c 1)) (
 .split (.sel cV 1) WQ x25) x8) (
 .split (.eql u0 (.c 2)) (
 .split (.eql u28 (.c 3)) (
 .split u35 WQ x25) WQ) x8))) x1
def t63 : List (Tr Plf) := [jk, fV]
def fh : Tr Plf :=
 .split (.eql (.sel (.app 41 OY) 0) (.c 1)) (
 .split (.eql (.sel (.app 41 OY) 2) (.c 0)) (
 .split (.sel (.app 41 OY) 1) (
 .split XA (
 .leaf (.done 0 [(.c 0), u0])) (
 .split gk (
 .split (.lss Qb (.c 0)) x8 (
 .split (.lss Qb x27) (
 .leaf (.done 0 [(.c 0), (.upd u0 Qb 2 (.arith .add .i64 (.cell u0 Qb 2) u10))])) x8)) x8)) (
 .leaf (.done 0 [(.c 8), u0]))) (
 .leaf (.done 0 [(.sel (.app 41 OY) 2), u0]))) x8
def t64 : List (Tr Plf) := [fh]
def iq : Tr Plf :=
 .split (.lss (.lenL u18) (.c 100000)) (
 .split (.lss u27 (.c 0)) x8 (
 .split (.lss u27 QN) (
 .split (.eql (.sel XF 0) (.c 1)) (
 .split (.eql (.lenL (.sel XF 2)) x27) (
 .split (.eql (.sel O1 0) (.c 1)) (
 .leaf (.done 0 [(.sel O1 1), (.sel O1 2), (.sel O1 3), (.snoc u18 (rl [u27, u26])), (.bc false), (.sel XF 2), u1, u12, u14, u15, u16, u13, u20, (.sel O1 4), (.sel O1 5), (.sel O1 6), (.sel O1 7)])) x8) x8) x8) x8)) x8
def t65 : List (Tr Plf) := [iq]
def dJ : Tr Plf :=
 .split (.lss u21 (.c 0)) gh (
 .split (.lss u21 QN) (
 .split Y9 jj (
 .split Zk jj (
 .split Xu (
 .split Zb (
 .split u17 (
 .split (.eql (.sel gj 0) (.c 1)) (
 .split (.sel gj 1) (
 .split (.eql (.sel Je 0) (.c 1)) (
 .leaf (.done 0 [(.c 0), (.sel Je 1), (.sel Je 2), (.sel Je 3), (.bc false), (.sel Je 4), (.sel Je 5), (.sel Je 6), (.sel Je 7), (.sel Je 13), (.sel Je 14), (.sel Je 15), (.sel Je 16), (.sel Je 17)])) x8) (
 .leaf (.done 0 [(.c 8), u9, u10, u11, (.bc true), u18, u19, u0, u1, u12, u14, u15, u16, u13]))) x8) (
 .split (.eql (.sel dS 0) (.c 1)) (
 .split (.sel dS 1) (
 .split (.eql (.sel IV 0) (.c 1)) (
 .leaf (.done 0 [(.c 0), (.sel IV 1), (.sel IV 2), (.sel IV 3), (.bc false), (.sel IV 4), (.sel IV 5), (.sel IV 6), (.sel IV 7), (.sel IV 13), (.sel IV 14), (.sel IV 15), (.sel IV 16), (.sel IV 17)])) x8) (
 .leaf (.done 0 [(.c 8), u9, u10, u11, (.bc false), u18, u19, u0, u1, u12, u14, u15, u16, u13]))) x8)) x8) x8))) gh)
def t66 : List (Tr Plf) := [dJ]
def eV : Tr Plf :=
 .split (.eql (.sel (.app 46 OY) 0) (.c 1)) (
 .split (.eql (.sel (.app 46 OY) 2) (.c 0)) (
 .split (.sel (.app 46 OY) 1) (
 .split XA (
 .leaf (.done 0 [u0, u1, (.c 0)])) (
 .split dg (
 .split (.lss x2 (.c 1048576)) (
 .split (.lss NW (.c 0)) x8 (
 .split (.lss NW (.lenL bb)) (
 .leaf (.done 0 [u0, (.nilIs (.upd bb NW 0 (.arith .add .i64 (.cell bb NW 0) u10)) (.bc false)), (.c 0)])) x8)) x8) x8)) (
 .leaf (.done 0 [u0, u1, (.c 8)]))) (
 .leaf (.done 0 [u0, u1, (.sel (.app 46 OY) 2)]))) x8
def t67 : List (Tr Plf) := [eV]
def eF : Tr Plf :=
 .split (.lss u11 (.c 0)) bE (
 .split (.lss u11 x3) (
 .split Y7 i6 (
 .split Zx i6 (
 .split (.eql (.sel i8 0) (.c 1)) (
 .split (.sel i8 1) (
 .split (.eql (.sel (.app 67 Vk) 0) (.c 1)) (
 .split (.lss (.lenL u9) (.c 1048576)) (
 .split (.lss (.lenL (.cat .emptyL u9)) LB) (
 .leaf (.done 0 [u0, u1, u2, u3, fx, u10, (.sel (.app 67 Vk) 1), (.sel (.app 67 Vk) 2), u10, (.nilIs (.snoc (.cat .emptyL u9) (.rcons u11 Zl)) (.bc false)), (.c 0)])) x8) x8) x8) (
 .leaf (.done 0 (us 0 10 ++ [(.c 8)])))) x8))) bE)
def t68 : List (Tr Plf) := [eF]
def dX : Tr Plf :=
 .leaf (.next 1 ([u29, u30, (.c 0), u0, u1, u2, u28] ++ us 5 10 ++ [u20, u21, u22, u3, u4, u15, u17, u18, u19, u16, u23, u25, u26, u27, u24, u31]))
def ew : Tr Plf :=
 .split x28 (
 .split x26 x8 (
 .split (.eqSS x29 u32) (
 .split (.eql ZR (.c 2)) (
 .split (.eqSS Z3 u3) (
 .split (.eqSS Zc u4) (
 .split (.eql (.sel ii 0) (.c 1)) (
 .split (.sel ii 1) x44 Vh) x8) Vh) Vh) Vh) Vh)) (
 .leaf (.done 1 []))
def t69 : List (Tr Plf) := [dX, ew]
def bC : Tr Plf :=
 .split Y9 jb (
 .split Zk jb (
 .split Xu (
 .split Zb (
 .split u17 (
 .split Wi (
 .split (.eql (.sel T5 0) (.c 1)) (
 .split (.lss (.sel T5 1) (.c 0)) dk (
 .split (.eql (.sel Jb 0) (.c 1)) (
 .leaf (.done 0 [(.sel T5 1), (.c 0), (.sel Jb 1), (.sel Jb 2), (.sel Jb 3), (.bc false), (.sel Jb 4), (.sel Jb 5), (.sel Jb 6), (.sel Jb 7), (.sel Jb 13), (.sel Jb 14), (.sel Jb 15), (.sel Jb 16), (.sel Jb 17)])) x8)) (
 .split (.eql (.sel T5 0) (.c 2)) dk x8)) x8) (
 .split Wi (
 .split (.eql (.sel UT 0) (.c 1)) (
 .split (.lss (.sel UT 1) (.c 0)) cZ (
 .split (.eql (.sel I2 0) (.c 1)) (
 .leaf (.done 0 [(.sel UT 1), (.c 0), (.sel I2 1), (.sel I2 2), (.sel I2 3), (.bc false), (.sel I2 4), (.sel I2 5), (.sel I2 6), (.sel I2 7), (.sel I2 13), (.sel I2 14), (.sel I2 15), (.sel I2 16), (.sel I2 17)])) x8)) (
 .split (.eql (.sel UT 0) (.c 2)) cZ x8)) x8)) x8) x8))
def t70 : List (Tr Plf) := [bC]
def eS : Tr Plf :=
 .split Y7 eO (
 .split Zx eO (
 .leaf (.next 1 ([u10, u11, u12, (.c 0)] ++ us 0 10))))
def fD : Tr Plf :=
 .split (.lss u3 QN) (
 .split (.lss u3 (.c 0)) x8 (
 .split (.eql (.cell u7 u3 2) (.c 2)) (
 .split (.eqSS (.cell u7 u3 3) u1) (
 .split (.eqSS (.cell u7 u3 4) u2) (
 .split (.eql (.sel (.app 47 be) 0) (.c 1)) (
 .split (.sel (.app 47 be) 1) (
 .split (.eql (.sel La 0) (.c 1)) (
 .leaf (.done 0 [(.sel La 1), (.sel La 2), (.sel La 3), (.sel La 4), (.sel La 5), (.sel La 6), (.sel La 7), (.sel La 8), (.sel La 9), (.sel La 10), u3, (.c 0)])) x8) XT) x8) XT) XT) XT)) (
 .leaf (.done 0 (us 4 10 ++ [(.c 0), (.c 9)])))
def t71 : List (Tr Plf) := [eS, fD]
def jm : Tr Plf :=
 .split u1 Nx NE
def t72 : List (Tr Plf) := [jm]
def jK : Tr Plf :=
 .split (.eql (.sel ZO 0) (.c 1)) (
 .leaf (.done 0 [(.sel ZO 1), (.sel ZO 2)])) x8
def t73 : List (Tr Plf) := [jK]
def cX : Tr Plf :=
 .split (.eql (.sel aJ 0) (.c 1)) (
 .split Xu (
 .split (.eql (.sel Y5 0) (.c 1)) (
 .leaf (.done 0 [u3, u5, u7, u2, u4, u6, u8, u9, u10, u11, u17, (.sel Y5 1), (.sel Y5 2), (.sel aJ 1), (.sel aJ 2), (.sel Mc 1), H5, (.sel Mc 3), (.sel Mc 4), (.sel Mc 5)])) x8) x8) x8
def t74 : List (Tr Plf) := [cX]
def bx : Tr Plf :=
 .split (.eql u30 (.c 0)) dy (
 .split (.eql u30 (.c 1)) dy (
 .split (.eql u30 (.c 2)) Y2 (
 .split (.eql u30 (.c 3)) Y2 (
 .split (.eql u30 (.c 4)) Y2 (
 .split (.eql u30 (.c 5)) bY (
 .split (.eql u30 (.c 6)) bY (
 .split (.eql u30 (.c 7)) (
 .split (.eql (.sel Dn 0) (.c 1)) (
 .split (.eql (.lenL (.sel Dn 2)) x61) (
 .split (.eql (.lenL (.sel Dn 1)) x3) (
 .split (.eql (.lenL (.sel Dn 3)) QN) (
 .split (.eql (.sel Q8 0) (.c 1)) (
 .leaf (.next 1 [(.c 0), u2, (.sel Dn 1), u4, (.sel Dn 2), u6, (.sel Dn 3), u8, u9, u10, u11, (.sel Q8 4), u18, u19, u0, u1, u20, u21, u22, u23, u24, u25, u26, u27, u28, u29, (.sel Dn 4), (.sel Dn 5), (.sel Dn 6), (.sel Dn 7), (.sel Dn 8), (.sel Dn 9), (.sel Dn 10), (.sel Dn 11), (.sel Dn 12), (.sel Dn 13), (.sel Dn 14), (.sel Dn 15), (.sel Dn 16), (.sel Dn 17), (.sel Dn 18), (.sel Dn 19), (.sel Dn 20), (.sel Q8 5), (.sel Q8 6), (.sel Q8 7), (.sel Q8 8), (.sel Q8 9)])) x8) x8) x8) x8) x8) (
 .split (.eql (.sel i4 0) (.c 1)) (
 .split (.eql (.sel BP 0) (.c 1)) (
 .split (.eql (.sel Cz 0) (.c 1)) (
 .split (.eql (.sel BP 1) (.sel Cz 11)) (
 .split (.eql (.sel ij 0) (.c 1)) (
 .leaf (.done 0 [(.sel Cz 1), (.sel Cz 2), (.sel Cz 3), (.sel Cz 4), (.sel Cz 5), (.sel Cz 6), (.sel Cz 7), (.sel Cz 8), (.sel Cz 9), (.sel Cz 10), (.sel ij 1), u3, u5, u7, (.sel BP 10), (.sel BP 11), (.sel BP 12), (.sel BP 13), (.sel BP 14), (.sel BP 6), u2, u4, u6, u8, (.sel BP 2), (.sel BP 3), (.sel BP 4), (.sel BP 5), (.sel BP 7), (.sel BP 8), (.sel BP 9)])) x8) (
 .leaf (.done 0 [(.sel Cz 1), (.sel Cz 2), (.sel Cz 3), (.sel Cz 4), (.sel Cz 5), (.sel Cz 6), (.sel Cz 7), (.sel Cz 8), (.sel Cz 9), (.sel Cz 10), (.bc false), u3, u5, u7, (.sel BP 10), (.sel BP 11), (.sel BP 12), (.sel BP 13), (.sel BP 14), (.sel BP 6), u2, u4, u6, u8, (.sel BP 2), (.sel BP 3), (.sel BP 4), (.sel BP 5), (.sel BP 7), (.sel BP 8), (.sel BP 9)]))) x8) x8) x8))))))))
def ix : Tr Plf :=
 .split (.lss u0 (.lenL u19)) (
 .split (.eql (.sel HX 0) (.c 1)) (
 .leaf (.next 1 [x10, u1, u2, u3, u4, u5, u6, u7, (.sel HX 2), (.sel HX 3), (.sel HX 4), (.sel HX 5), (.sel HX 6), (.sel HX 7), (.sel HX 8), (.sel HX 9), u16, u17, u18, u19, u20, u21, u22, u23, u24, u25, u26, u27, u28, u29, u30, u31, u32, u33, u34, u35, u36, u37, u38, u39, u40, u41, u42, (.sel HX 10), (.sel HX 11), (.sel HX 12), (.sel HX 13), (.sel HX 14)])) x8) (
 .split (.eql (.sel iS 0) (.c 1)) (
 .leaf (.done 0 [u16, u17, u18, u19, u20, u21, u22, u23, u24, u25, (.sel iS 1), u2, u4, u6, u38, u39, u40, u41, u42, u34, u26, u27, u28, u29, u30, u31, u32, u33, u35, u36, u37])) x8)
def t75 : List (Tr Plf) := [bx, ix]
def fi : Tr Plf :=
 .split (.eql (.sel (.app 0 OD) 0) (.c 1)) (
 .split (.sel (.app 0 OD) 1) SQ (
 .split (.lss (.c 60) x17) SQ (
 .leaf WW))) x8
def jf : Tr Plf :=
 .split x35 (
 .split x36 x8 (
 .split (.lss (.c 60) (.lenS x59)) SQ (
 .split (.lss (.c 60) (.lenS x60)) SQ x52))) (
 .split (.eql (.sel Bv 0) (.c 1)) (
 .split ak (
 .split cj (
 .split ay x25 x25) x25) x8) (
 .split (.eql (.sel Bv 0) (.c 2)) (
 .split ak (
 .split cj (
 .split ay (
 .split (.eql (.sel bD 0) (.c 1)) (
 .split (.eql (.sel bD 2) (.c 9)) (
 .split (.eql (.sel UA 0) (.c 1)) (
 .split (.eql (.sel fw 0) (.c 1)) (
 .split (.sel fw 1) (
 .split (.eql (.sel j5 0) (.c 1)) (
 .split (.sel j5 1) (
 .leaf (.next 2 [u0, (.bc true), (.c 0), (.sel FW 1), (.sel FW 2), (.sel FW 3), (.sel FW 4), (.sel FW 5), (.c 0), (.sel FW 6), (.sel FW 7), (.c 0), .nilL, WS, (.sel Bv 2), (.sel Bv 3), (.sel Bv 4), (.sel Bv 5), (.sel Bv 6), (.sel Bv 7), (.sel Bv 8), (.sel Bv 9), (.sel Bv 10), (.bc false), (.sel Bv 11), (.bc true), Xx, WY, (.c 0), (.sel Bv 14), (.sel Bv 15), (.sel Bv 16), (.sel Bv 17)])) x25) x8) x25) x8) x8) x25) x8) x25) x25) x8) (
 .split (.eql (.sel Bv 0) (.c 3)) (
 .split ak (
 .split (.eql WS (.sel FW 8)) (
 .split ay x25 SQ) x25) x8) x8)))
def cS : Tr Plf :=
 .split x28 (
 .split u1 (
 .split x26 x8 (
 .split (.eql (.sel CA 0) (.c 1)) (
 .leaf (.next 2 [u0, (.sel CA 11), x32, (.sel CA 1), (.sel CA 2), (.sel CA 3), (.sel CA 4), (.sel CA 5), (.sel CA 6), (.sel CA 7), (.sel CA 8), (.sel CA 9), (.sel CA 10), (.sel CA 21), (.sel CA 12), (.sel CA 22), (.sel CA 13), (.sel CA 23), (.sel CA 14), (.sel CA 24), (.sel CA 25), (.sel CA 26), (.sel CA 27), (.sel CA 28), (.sel CA 20), (.sel CA 29), (.sel CA 30), (.sel CA 31), (.sel CA 15), (.sel CA 16), (.sel CA 17), (.sel CA 18), (.sel CA 19)])) x8)) x25) (
 .split u1 SQ x25)
def t76 : List (Tr Plf) := [fi, jf, cS]
def ts : List (List (Tr Plf)) := [t0, t1, t2, t3, t4, t5, t6, t7, t8, t9, t10, t11, t12, t13, t14, t15, t16, t17, t18, t19, t20, t21, t22, t23, t24, t25, t26, t27, t28, t29, t30, t31, t32, t33, t34, t35, t36, t37, t38, t39, t40, t41, t42, t43, t44, t45, t46, t47, t48, t49, t50, t51, t52, t53, t54, t55, t56, t57, t58, t59, t60, t61, t62, t63, t64, t65, t66, t67, t68, t69, t70, t71, t72, t73, t74, t75, t76]
end Mp

