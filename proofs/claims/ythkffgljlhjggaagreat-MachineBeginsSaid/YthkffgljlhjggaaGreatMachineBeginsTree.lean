/- What is stated: the trees of tests of the functions that the law MachineBegins reaches, as data. Conditions: none. -/
import Derived.Test.YthkffgljlhjggaaGreatBeF
set_option linter.unusedVariables false
set_option linter.unusedSectionVars false
set_option linter.unusedSimpArgs false
namespace Mb
open Go.AE
def u0 : SE := .var 0
def u1 : SE := .var 1
def u2 : SE := .var 2
def u3 : SE := .var 3
def u4 : SE := .var 4
def u5 : SE := .var 5
def u6 : SE := .var 6
def u7 : SE := .var 7
def u8 : SE := .var 8
def u9 : SE := .var 9
def u10 : SE := .var 10
def u11 : SE := .var 11
def u12 : SE := .var 12
def u13 : SE := .var 13
def u14 : SE := .var 14
def u15 : SE := .var 15
def u16 : SE := .var 16
def u17 : SE := .var 17
def u18 : SE := .var 18
def u19 : SE := .var 19
def u20 : SE := .var 20
def u21 : SE := .var 21
def u22 : SE := .var 22
def u23 : SE := .var 23
def u24 : SE := .var 24
def u25 : SE := .var 25
def u26 : SE := .var 26
def u27 : SE := .var 27
def u28 : SE := .var 28
def u29 : SE := .var 29
def u30 : SE := .var 30
def u31 : SE := .var 31
def u32 : SE := .var 32
def u33 : SE := .var 33
def u34 : SE := .var 34
def u35 : SE := .var 35
def u36 : SE := .var 36
def u37 : SE := .var 37
def u38 : SE := .var 38
def u39 : SE := .var 39
def u40 : SE := .var 40
def u41 : SE := .var 41
def u42 : SE := .var 42
def u43 : SE := .var 43
def u44 : SE := .var 44
def u45 : SE := .var 45
def u46 : SE := .var 46
def u47 : SE := .var 47
def x0 : SE := (.lenL u2)
def x1 : Tr Plf := (
 .leaf (.done 0 [(.bc true)]))
def x2 : SE := (.lenL u1)
def x3 : SE := (.lenL u3)
def x4 : SE := (.lenS u0)
def x5 : Tr Plf := (
 .leaf (.next 1 [(.c 0), u0, u1, u2, u3]))
def x6 : SE := (.lss u0 x3)
def x7 : SE := (.lss u0 (.c 0))
def x8 : Tr Plf := (
 .leaf .stuck)
def x9 : SE := (.cell u3 u0 0)
def x10 : SE := (.arith .add .i64 u0 (.c 1))
def x11 : Tr Plf := (
 .leaf (.next 1 [x10, u1, u2, u3, u4]))
def x12 : Tr Plf := (
 .leaf (.next 2 [(.c 0), u1, u2, u3, u4]))
def x13 : SE := (.lss u0 x0)
def x14 : SE := (.cell u2 u0 0)
def x15 : Tr Plf := (
 .leaf (.next 2 [x10, u1, u2, u3, u4]))
def x16 : Tr Plf := (
 .leaf (.next 3 [(.c 0), u1, u2, u3, u4]))
def x17 : SE := (.lenL u4)
def x18 : Tr Plf := (
 .leaf (.next 3 [x10, u1, u2, u3, u4]))
def x19 : Tr Plf := (
 .leaf (.done 0 [(.bc false)]))
def x20 : SE := (.lss u2 (.c 0))
def x21 : SE := (.lenL u0)
def x22 : SE := (.lss u2 x21)
def x23 : SE := (.cell u0 u2 0)
def x24 : SE := (.conv .u8 x23)
def x25 : SE := (.eql u2 (.c 0))
def x26 : SE := (.arith .add .i64 u2 (.c 1))
def x27 : Tr Plf := (
 .leaf (.next 1 [u0, u1, x26]))
def x28 : Plf := (.next 1 [u0, (.c 0), u1])
def x29 : SE := (.lss u1 x21)
def x30 : SE := (.lss u1 (.c 0))
def x31 : SE := (.cell u0 u1 0)
def x32 : Tr Plf := (
 .leaf (.done 0 [u1]))
def x33 : SE := (.arith .add .i64 u1 (.c 1))
def x34 : Tr Plf := (
 .split x30 x8 (
 .split (.eqSS x31 u2) x32 (
 .leaf (.next 1 [u0, x33, u2]))))
def x35 : Tr Plf := (
 .leaf (.done 0 [(.c (-1))]))
def x36 : SE := (.lss u0 u1)
def x37 : Tr Plf := (
 .leaf (.done 0 [(.c 0)]))
def x38 : Tr Plf := (
 .leaf (.done 0 [u2]))
def x39 : Tr Plf := (
 .split (.lss u2 u0) x38 (
 .leaf (.next 1 [u0, (.c 0), u3, u4, u5, u6])))
def x40 : SE := (.lss u1 u0)
def x41 : SE := (.lss u1 x17)
def x42 : SE := (.cell u4 u1 0)
def x43 : SE := (.app 2 (rl [(.c 0), x42]))
def x44 : SE := (.app 3 (rl [(.c 0), u4, x42]))
def x45 : SE := (.cell u4 u1 1)
def x46 : Tr Plf := (
 .leaf (.next 1 [u0, x33, u2, u3, u4, u5]))
def x47 : SE := (.lss u1 x3)
def x48 : SE := (.cell u3 u1 0)
def x49 : SE := (.app 2 (rl [(.c 0), x48]))
def x50 : SE := (.app 5 (rl [(.c 0), u3, x48]))
def x51 : SE := (.cell u3 u1 2)
def x52 : SE := (.cell u0 u1 1)
def x53 : SE := (.lenL u5)
def x54 : SE := (.cell u5 u1 2)
def x55 : SE := (.cell u5 u1 0)
def x56 : SE := (.app 5 (rl [(.c 0), u3, x55]))
def x57 : SE := (.eql (.sel x56 0) (.c 1))
def x58 : SE := (.cell u5 u1 5)
def x59 : SE := (.app 3 (rl [(.c 0), u4, x58]))
def x60 : SE := (.eql (.sel x59 0) (.c 1))
def x61 : SE := (.lss (.sel x56 1) (.c 0))
def x62 : SE := (.cell u5 u1 1)
def x63 : SE := (.app 5 (rl [(.c 0), u3, x62]))
def x64 : SE := (.eql (.sel x63 0) (.c 1))
def x65 : SE := (.lss (.sel x63 1) (.c 0))
def x66 : SE := (.lss x53 u1)
def x67 : SE := (.cell u5 u1 3)
def x68 : SE := (.cell u5 u1 4)
def x69 : SE := (.cell u5 u1 6)
def x70 : SE := (.cell u5 u1 7)
def x71 : SE := (.cell u5 u1 8)
def x72 : SE := (.app 7 (rl [(.c 0), (.sub u5 (.c 0) u1), x55, x62, x54, x67, x68, x58, x69, x70, x71]))
def x73 : SE := (.eql (.sel x72 0) (.c 1))
def x74 : SE := (.lss (.sel x72 1) (.c 0))
def x75 : SE := (.lss (.sel x56 1) x3)
def x76 : SE := (.app 2 (rl [(.c 0), x67]))
def x77 : SE := (.app 2 (rl [(.c 0), x68]))
def x78 : SE := (.cell u4 (.sel x59 1) 1)
def x79 : Tr Plf := (
 .split (.eqS x58 0 0) (
 .split (.eql x69 (.c 0)) (
 .split (.eql x70 (.c 0)) (
 .split (.eql x71 (.c 0)) x46 x32) x32) x32) (
 .split (.lss (.sel x59 1) (.c 0)) x32 (
 .split (.lss x69 (.c 0)) x32 (
 .split (.lss x70 x69) x32 (
 .split (.lss x71 (.c (-1000))) x32 (
 .split (.lss (.c 1000) x71) x32 (
 .split (.lss (.sel x59 1) x17) (
 .split (.lss x78 x70) x32 (
 .split (.lss (.arith .add .i64 x69 x71) (.c 0)) x32 (
 .split (.lss x78 (.arith .add .i64 x70 x71)) x32 x46))) x8)))))))
def x80 : Tr Plf := (
 .split x57 (
 .split x60 (
 .split x61 x32 (
 .split x64 (
 .split x65 x32 (
 .split x66 x8 (
 .split x73 (
 .split x74 (
 .split x75 (
 .split (.eql (.sel x76 0) (.c 1)) (
 .split (.sel x76 1) (
 .split (.eql (.sel x77 0) (.c 1)) (
 .split (.sel x77 1) (
 .split (.eqSS x68 u2) x32 x79) x32) x8) x32) x8) x8) x32) x8))) x8)) x8) x8)
def x81 : Tr Plf := (
 .split (.lss (.lenS x67) (.c 4611686018427387904)) (
 .split (.lss (.lenS x68) (.c 4611686018427387904)) (
 .split (.eqS (.strCat x67 x68) 0 0) x79 x32) x8) x8)
def x82 : SE := (rl [u0])
def x83 : SE := (.app 2 (.rcons (.c 0) x82))
def x84 : SE := (rl [u3])
def x85 : SE := (.rcons u1 (.rcons u2 x84))
def x86 : SE := (.rcons u0 x85)
def x87 : SE := (.app 4 (.rcons (.c 0) (.rcons x0 (.rcons (.c 0) (.rcons (.c 4) x86)))))
def x88 : SE := (.app 6 (.rcons (.c 0) (.rcons x2 (.rcons (.c 1) (.rcons (.c 24) x86)))))
def x89 : SE := (.app 8 (.rcons (.c 0) (.rcons x3 (.rcons (.c 0) (.rcons (.c 80) x86)))))
def x90 : Tr Plf := (
 .leaf (.done 0 [(.c 0), (.c 0)]))
def x91 : Tr Plf := (
 .leaf (.done 0 [(.c 0), (.c 290)]))
def x92 : SE := (.app 10 (rl [(.c 0), u2, u3, x31]))
def x93 : SE := (.c 1073741824)
def x94 : SE := (rl [(.c 0)])
def x95 : Tr Plf := (
 .leaf (.done 0 [u2, u3]))
def x96 : SE := (.isNil u0)
def x97 : Tr Plf := (
 .leaf (.done 0 [.nilL, (.bc true)]))
def x98 : Tr Plf := (
 .split (.lss x21 (.c 1048576)) (
 .leaf (.done 0 [(.cat .emptyL u0), (.bc false)])) x8)
def x99 : SE := (.lss u4 x0)
def Xw : SE := (.lss u4 (.c 0))
def Xu : SE := (.cell u2 u4 0)
def fS : SE := (.cell u2 u4 1)
def ZV : SE := (.cell u2 u4 2)
def WO : SE := (.arith .add .i64 u4 (.c 1))
def gG : Tr Plf := (
 .leaf (.done 0 [u0, u1]))
def eo : Tr Plf := (
 .leaf (.done 0 [(.c 0), (.c 2)]))
def Td : Tr Plf := (
 .leaf (.done 0 [(.c 0), (.c 9)]))
def Tk : SE := (rl [u5])
def XL : SE := (.mIdx [(.int .i64)] u1 Tk)
def Z2 : SE := (.lss XL (.c 0))
def ZW : SE := (.app 16 (.rcons (.c 0) (.rcons u0 (.rcons u1 (.rcons u2 (.rcons u3 (.rcons u4 Tk)))))))
def jb : Tr Plf := (
 .leaf (.done 0 [(.c 0), u1]))
def gJ : SE := (.snoc u2 (.rcons u4 Tk))
def IH : SE := (.arith .quo .i64 (.arith .sub .i64 u0 (.c 1)) (.c 2))
def ai : SE := (.cell u2 IH 0)
def Zq : SE := (.cell u2 IH 1)
def bz : SE := (.cell u2 u0 1)
def ZN : SE := (.lss Zq bz)
def bC : SE := (.lss bz Zq)
def Xj : Tr Plf := (
 .leaf (.next 1 [IH, u1, (.upd (.upd (.upd (.upd u2 IH 0 x14) IH 1 bz) u0 0 ai) u0 1 Zq), u3, u4]))
def Xo : SE := (.lss x3 x93)
def au : SE := (rl [u6])
def XS : SE := (.rcons u5 au)
def bu : SE := (.cell u3 IH 0)
def bt : SE := (.cell u3 IH 1)
def Uh : SE := (.cell u3 u0 1)
def ac : SE := (.lss bt Uh)
def PK : Tr Plf := (
 .leaf (.done 0 [u3, u4]))
def ZY : SE := (.lss Uh bt)
def Xx : Tr Plf := (
 .leaf (.next 1 [IH, u1, u2, (.upd (.upd (.upd (.upd u3 IH 0 x9) IH 1 Uh) u0 0 bu) u0 1 bt), u4, u5]))
def cq : Tr Plf := (
 .leaf (.done 0 [(.c 2), u2, u3, u4, u1]))
def dq : Tr Plf := (
 .leaf (.done 0 [(.c 3), u2, u3, u4, u1]))
def NT : SE := (.c 1099511627776)
def aG : SE := (.arith .add .i64 u0 u6)
def W6 : SE := (rl [u5, aG])
def Zz : SE := (.rcons u3 (.rcons u4 (.rcons aG Tk)))
def ba : SE := (.app 19 (.rcons (.c 0) (.rcons u0 (.rcons (.snoc .emptyL W6) (.rcons (.bc false) Zz)))))
def bl : SE := (.app 19 (.rcons (.c 0) (.rcons u0 (.rcons (.snoc u1 W6) (.rcons u2 Zz)))))
def kL : SE := (.upd u1 XL 1 aG)
def aP : SE := (.app 19 (.rcons (.c 0) (.rcons u0 (.rcons kL (.rcons u2 Zz)))))
def ey : SE := (.app 15 (rl [(.c 0), u3, u4, u20]))
def Te : SE := (.sel ey 1)
def Tb : SE := (.rcons (.c 0) (.rcons u12 (.rcons u13 (.rcons u14 (.rcons u15 (.rcons u16 x94))))))
def XQ : SE := (.cell Te (.c 0) 2)
def Wq : SE := (.app 20 (rl [(.c 0), u12, (.sel (.app 17 Tb) 2), u14, u15, u16, (.c 0), XQ]))
def Kk : SE := (.rcons (.c 0) x86)
def aT : SE := (rl [u2])
def Jw : SE := (.rcons (.c 0) aT)
def Vn : SE := (.app 12 (rl [(.c 0), u1]))
def Uu : SE := (.app 14 (.rcons (.c 0) x84))
def Pj : SE := (.app 21 (rl [(.c 0), (.sel (.app 11 Jw) 1), (.sel (.app 11 Jw) 2), u0, (.sel Vn 1), (.sel Vn 2), (.sel (.app 13 Jw) 1), (.sel (.app 13 Jw) 2), (.sel Uu 1), (.sel Uu 2), (.strc 0 0), (.bc false), (.c 0), (.c 0), .emptyL, (.bc true), .nilL, (.bc true), (.bc false), .nilL, (.bc true), (.cell u1 (.c 0) 0)]))
def dY : Plf := (.next 1 [u2, u3, (.c 0), u0, u1])
def fP : Tr Plf := (
 .leaf (.done 0 [(.c 3), u3]))
def Ye : SE := (.lss u3 (.c 0))
def OG : SE := (.arith .add .i64 u3 (.c 1))
def lS : SE := (.cell u0 u3 0)
def Qs : SE := (.arith .sub .i64 x3 (.c 1))
def jv : SE := (.upd (.upd u3 (.c 0) 0 (.cell u3 Qs 0)) (.c 0) 1 (.cell u3 Qs 1))
def iW : SE := (.arith .mul .i64 (.c 2) u1)
def X3 : SE := (.lenL u6)
def Yg : SE := (.lss u2 X3)
def bZ : SE := (.cell u6 u9 0)
def Tl : SE := (.cell u6 u2 0)
def aY : SE := (.cell u6 u9 1)
def PM : SE := (.cell u6 u2 1)
def Zr : SE := (.lss aY PM)
def Xt : Tr Plf := (
 .leaf (.next 2 ([u0, u1, u9, OG] ++ us 4 7)))
def OZ : Tr Plf := (
 .leaf (.next 2 ([u0, u1, u2, OG] ++ us 4 7)))
def kb : Tr Plf := (
 .split (.lss PM aY) OZ OZ)
def ff : SE := (.cell u6 u10 0)
def ZK : SE := (.cell u6 u10 1)
def ah : SE := (.lss ZK PM)
def X2 : Tr Plf := (
 .leaf (.next 2 ([u0, u1, u10, OG] ++ us 4 7)))
def fD : Tr Plf := (
 .split (.lss PM ZK) OZ OZ)
def ZH : SE := (.app 26 (.rcons (.c 0) (.rcons u0 (.rcons u4 x85))))
def aO : Tr Plf := (
 .split (.eql (.sel ZH 0) (.c 1)) (
 .leaf (.next 1 [u0, u1, (.sel ZH 1), (.sel ZH 2), u4])) x8)
def jd : SE := (.mIdx [(.int .i64)] u4 (rl [(.cell u2 (.c 0) 1)]))
def jA : SE := (rl [u3, u4])
def lW : SE := (.rcons u1 (.rcons u2 jA))
def Tt : SE := (.app 27 (.rcons (.c 0) (.rcons u5 lW)))
def Wn : SE := (.rcons (.c 0) (.rcons u0 lW))
def TK : SE := (.app 27 Wn)
def gB : Tr Plf := (
 .leaf (.done 0 [u0, u1, (.c 0), u3, u5, u6, u7]))
def XC : SE := (.rcons u4 XS)
def Tf : SE := (.app 27 (.rcons (.c 0) (.rcons u3 (.rcons u7 XC))))
def X5 : SE := (rl [u9])
def kD : Tr Plf := (
 .split (.eql (.sel Tf 0) (.c 1)) (
 .leaf (.next 1 [(.snoc u0 X5), (.bc false), (.sel Tf 3), u3, u4, (.sel Tf 4), (.sel Tf 5), u7, (.sel Tf 1), (.sel Tf 2)])) x8)
def Zp : SE := (.mIdx [(.int .i64)] u7 X5)
def T7 : SE := (.app 27 (.rcons (.c 0) (.rcons u3 (.rcons (.rmv u7 Zp) XC))))
def CI : SE := (.app 22 Kk)
def ZQ : SE := (.app 24 (.rcons (.c 0) (.rcons u1 XC)))
def lN : SE := (.eql (.sel ZQ 0) (.c 1))
def VE : SE := (.app 25 (.rcons (.c 0) (.rcons (.sel CI 12) (.rcons (.sel CI 13) XS))))
def TZ : Tr Plf := (
 .leaf (.done 0 []))
def TW : SE := (.app 28 (rl [(.c 0), (.c 0), (.sel CI 17), (.sel CI 14), (.sel CI 15), (.sel CI 16), u7]))
def Po : SE := (.app 21 (rl [(.c 0), (.sel VE 2), (.sel CI 13), (.sel CI 1), (.sel CI 2), (.sel CI 3), (.sel CI 4), (.sel CI 5), (.sel CI 6), (.sel CI 7), (.sel CI 8), (.sel CI 9), (.sel CI 10), (.sel TW 4), (.sel TW 7), (.sel CI 14), (.sel TW 5), (.sel TW 6), (.bc false), (.sel CI 11), (.bc true), u4]))
def ZS : SE := (.strAt u0 (.c 0))
def gm : Tr Plf := (
 .leaf (.next 1 [u0, (.c 0)]))
def Qx : SE := (.strAt u0 u1)
def Yb : Tr Plf := (
 .leaf (.next 1 [u0, x33]))
def ae : Plf := (.next 1 [u4, (.c 0), u0, u1, u2, u3])
def kQ : SE := (.cell u3 u4 0)
def Z4 : SE := (.app 32 (rl [(.c 0), u0, u1, u2, u3, kQ]))
def iG : SE := (.cell u3 u4 1)
def jN : SE := (.app 32 (rl [(.c 0), u0, u1, u2, u3, iG]))
def ZI : SE := (.cell u3 u4 5)
def VV : SE := (.cell u3 u4 6)
def WA : SE := (.cell u3 u4 7)
def Th : SE := (.cell u3 u4 8)
def kK : Tr Plf := (
 .leaf (.next 1 [u4, (.sel Z4 1), (.c 0), u0, u1, u2, u3, kQ, iG, (.cell u3 u4 2), (.cell u3 u4 3), (.cell u3 u4 4), ZI, VV, WA, Th]))
def Xn : SE := (.app 31 (rl [(.c 0), u0, u1, u2, u3, ZI]))
def lJ : SE := (.cell u2 (.sel Xn 1) 1)
def Vw : SE := (rl [u10])
def dA : SE := (.app 30 (.rcons (.c 0) Vw))
def jj : SE := (.app 30 (rl [(.c 0), u11]))
def gp : Tr Plf := (
 .split (.eql (.sel dA 0) (.c 1)) (
 .split (.sel dA 1) (
 .split (.eql (.sel jj 0) (.c 1)) (
 .split (.sel jj 1) (
 .leaf (.done 0 [(.neg (.eqSS u11 u3))])) x19) x8) x19) x8)
def ca : SE := (.app 30 (.rcons (.c 0) x82))
def jR : SE := (.app 30 (rl [(.c 0), x9]))
def jQ : SE := (.app 31 (rl [(.c 0), u1, u2, u3, u4, x9]))
def Xv : Tr Plf := (
 .leaf (.done 0 [u0, (.c 291)]))
def fb : SE := (.app 30 (rl [(.c 0), x14]))
def kW : SE := (.app 32 (rl [(.c 0), u1, u2, u3, u4, x14]))
def iY : SE := (.cell u2 u0 2)
def W3 : Tr Plf := (
 .leaf (.done 0 [u0, (.c 292)]))
def fI : SE := (.app 33 (.rcons (.c 0) (.rcons u1 (.rcons u2 (.rcons u3 (.rcons u4 x82))))))
def WD : Tr Plf := (
 .leaf (.done 0 [.nilL, .nilL, (.c 2)]))
def cj : Plf := (.next 1 [u2, (.c 0), u0, u1])
def f9 : Tr Plf := (
 .leaf (.done 0 [u2, u3, (.c 3)]))
def jK : Tr Plf := (
 .leaf (.next 1 [u0, x33, u2, u3]))
def OQ : SE := (.app 36 Kk)
def ZL : SE := (.eql (.sel (.app 37 Wn) 0) (.c 1))
def TA : Tr Plf := (
 .leaf (.done 0 [(.strc 0 0), .nilL, .nilL, .nilL, (.strc 0 0), (.c 0), .nilL, .nilL, (.c 0), (.c 2)]))
def Yi : SE := (.app 38 (.rcons (.c 0) (.rcons (.sel OQ 6) (.rcons (.sel OQ 7) Tk))))
def WX : SE := (.app 10 (.rcons (.c 0) (.rcons u0 (.rcons u1 aT))))
def Xs : SE := (.eqS u7 0 0)
def aX : Tr Plf := (
 .leaf (.done 0 [(.bc true), (.c 0)]))
def OM : SE := (rl [(.c 0), u0, u1, u7])
def g9 : SE := (.eql (.sel (.app 10 OM) 0) (.c 1))
def QE : SE := (.sel (.app 10 OM) 1)
def XY : SE := (.sel (.app 44 OM) 1)
def OE : Tr Plf := (
 .leaf (.done 0 [(.bc false), (.c 0)]))
def li : Plf := (.next 1 ([(.c 0)] ++ us 2 10 ++ [u17, u18, u19, u0, u1, u12, u14, u15, u16, u13] ++ us 21 9 ++ [u20]))
def aq : SE := (.lss u0 (.c 3))
def Wg : Tr Plf := (
 .leaf (.next 1 ([x10] ++ us 1 30)))
def gn : SE := (rl (us 21 9))
def eO : SE := (.app 45 (.rcons (.c 0) (.rcons u14 (.rcons u15 gn))))
def gv : Tr Plf := (
 .split (.eql u0 (.c 0)) (
 .split (.eqSS u21 u8) Wg x19) (
 .split (.eql u0 (.c 1)) (
 .split (.eql (.sel eO 0) (.c 1)) (
 .split (.sel eO 1) Wg x19) x8) (
 .split (.eql u0 (.c 2)) (
 .split (.eql u23 (.c 3)) (
 .split u30 Wg x19) Wg) x8)))
def jk : SE := (rl [Xu, fS, ZV, (.cell u2 u4 3), (.cell u2 u4 4), (.cell u2 u4 5), (.cell u2 u4 6), (.cell u2 u4 7), (.cell u2 u4 8)])
def bW : SE := (.app 46 (.rcons (.c 0) (.rcons u18 (.rcons u19 (.rcons u6 (.rcons u7 (.rcons u8 (.rcons u9 (.rcons u10 (.rcons u2 (.rcons u11 (.rcons u12 (.rcons u13 (.rcons u14 (.rcons u20 (.rcons u24 (.rcons u21 (.rcons u22 (.rcons u23 (.rcons u15 (.rcons u16 (.rcons u17 (.rcons u5 jk)))))))))))))))))))))))
def da : Tr Plf := (
 .leaf (.next 1 ([u0, u1, u2, u3, WO] ++ us 5 20)))
def jJ : SE := (.app 47 (rl ([(.c 0), u7, u8] ++ us 0 7 ++ us 8 12 ++ [(.bc true)])))
def dz : SE := (.eql (.sel (.app 49 OM) 0) (.c 1))
def N7 : SE := (.sel (.app 49 OM) 1)
def ay : SE := (.cell u1 N7 0)
def mb : SE := (.arith .add .i64 ay u10)
def kB : SE := (.cell u3 u11 0)
def dO : SE := (.cell u3 u11 1)
def gq : SE := (.cell u3 u11 2)
def Vi : SE := (rl [(.c 0), u6, u7, kB, dO, gq, (.cell u3 u11 3), (.cell u3 u11 4), (.cell u3 u11 5), (.cell u3 u11 6), (.cell u3 u11 7), (.cell u3 u11 8)])
def gi : SE := (.arith .add .i64 u5 (.sel (.app 37 Wn) 3))
def Zw : Tr Plf := (
 .leaf (.next 1 ([u0, x33] ++ us 2 10)))
def jy : SE := (rl [u0, u1])
def f5 : SE := (.app 51 (.rcons (.c 0) (.rcons u2 (.rcons u3 (.rcons u4 (.rcons u5 (.rcons u6 (.rcons u7 (.rcons u8 (.rcons u9 (.rcons u10 (.rcons u11 jy))))))))))))
def ZB : SE := (.cell u0 u2 1)
def XN : Tr Plf := (
 .leaf (.done 0 [u14]))
def bA : SE := (.app 37 (rl ([(.c 0)] ++ us 20 5)))
def ik : Tr Plf := (
 .split (.eql u12 u28) (
 .leaf (.next 1 ([(.c 0)] ++ us 2 10 ++ [u17, u18, u19, u0, u1, u12, u14, u15, u16, u13] ++ us 20 10))) x19)
def Zu : SE := (.app 44 (rl [(.c 0), u14, u15, (.cell u27 u0 0)]))
def cr : SE := (rl [u12, u13])
def Z5 : SE := (.app 48 (.rcons (.c 0) (.rcons u14 (.rcons u15 (.rcons u1 (.rcons u2 (.rcons u3 (.rcons u4 (.rcons u5 (.rcons u6 (.rcons u7 (.rcons u8 (.rcons u9 (.rcons u10 (.rcons u16 (.rcons u20 (.rcons u17 (.rcons u18 (.rcons u19 (.rcons u11 cr))))))))))))))))))))
def Zy : SE := (.app 52 (rl ([(.c 0)] ++ us 21 10)))
def ZD : SE := (.app 53 (.rcons (.c 0) cr))
def bq : SE := (.app 54 (rl [(.c 0), u21, u22, u23, u24, u25, u26, u27, u28, u29, u30, (.bc false), (.c 0), (.sel ZD 1), (.sel ZD 2)]))
def Uj : SE := (.app 57 (.rcons (.c 0) jA))
def b7 : SE := (.eql (.sel Uj 0) (.c 1))
def Xq : SE := (.cell u0 u2 2)
def XU : SE := (.cell u0 u2 3)
def W5 : SE := (.cell u0 u2 4)
def ji : SE := (rl [x23, ZB, Xq, XU, W5, (.cell u0 u2 5), (.cell u0 u2 6), (.cell u0 u2 7), (.cell u0 u2 8)])
def b9 : SE := (.app 60 (.rcons (.c 0) (.rcons u19 (.rcons u20 (.rcons u6 (.rcons u7 (.rcons u8 (.rcons u9 (.rcons u10 (.rcons u11 (.rcons u12 (.rcons u13 (.rcons u14 (.rcons u15 (.rcons u21 (.rcons u25 (.rcons u22 (.rcons u23 (.rcons u24 (.rcons u16 (.rcons u17 (.rcons u18 (.rcons u5 ji)))))))))))))))))))))))
def cU : Tr Plf := (
 .leaf (.next 1 ([u0, u1, x26] ++ us 3 24)))
def aU : SE := (.lss u20 u12)
def ir : Tr Plf := (
 .leaf (.done 0 [.nilL, (.bc true), (.c 3), u17, u12, u14, u15, u16, u13]))
def bf : SE := (.lss NT u20)
def Mk : SE := (.app 58 (rl ([(.c 0)] ++ us 12 5)))
def Yl : SE := (.eql (.sel Mk 0) (.c 1))
def Iu : SE := (.sel Mk 2)
def T9 : SE := (.app 28 (rl [(.c 0), (.sel Mk 1), (.sel Mk 5), Iu, (.sel Mk 3), (.sel Mk 4), u20]))
def aN : SE := (.eql (.sel T9 0) (.c 1))
def aj : SE := (.app 59 (rl [(.c 0), u7, u8]))
def XI : SE := (.eql (.sel aj 0) (.c 1))
def Kg : SE := (.sel T9 4)
def Kb : SE := (.sel T9 7)
def Kj : SE := (.sel T9 5)
def Kh : SE := (.sel T9 6)
def Yd : SE := (.rcons (.sel aj 1) (.rcons (.sel aj 2) X5))
def bi : SE := (.app 61 (.rcons (.c 0) (.rcons .nilL (.rcons (.bc true) (.rcons u0 (.rcons u1 (.rcons u2 (.rcons u3 (.rcons u4 (.rcons u5 (.rcons u6 (.rcons u7 (.rcons u8 (.rcons u9 (.rcons u10 (.rcons u11 (.rcons Kg (.rcons Kb (.rcons Iu (.rcons Kj (.rcons Kh (.rcons (.bc true) (.rcons u18 (.rcons u19 (.rcons (.bc true) Yd)))))))))))))))))))))))))
def Rs : SE := (.lss (.c 0) (.lenL (.sel T9 1)))
def bp : SE := (.app 61 (.rcons (.c 0) (.rcons .nilL (.rcons (.bc true) (.rcons u0 (.rcons u1 (.rcons u2 (.rcons u3 (.rcons u4 (.rcons u5 (.rcons u6 (.rcons u7 (.rcons u8 (.rcons u9 (.rcons u10 (.rcons u11 (.rcons Kg (.rcons Kb (.rcons Iu (.rcons Kj (.rcons Kh (.rcons Rs (.rcons u18 (.rcons u19 (.rcons Rs Yd)))))))))))))))))))))))))
def bF : SE := (.lss u10 u8)
def fQ : Tr Plf := (
 .leaf (.done 0 (us 0 10 ++ [.nilL, (.bc true), (.c 3)])))
def bj : SE := (.lss NT u10)
def T1 : SE := (.lenL u7)
def cD : SE := (.app 51 (.rcons (.c 0) (.rcons u4 (.rcons u5 (.rcons u6 (.rcons u7 (.rcons u8 (.rcons u9 (.rcons u10 (.rcons u11 (.rcons u0 (.rcons u12 (.rcons u0 x84)))))))))))))
def Ym : Tr Plf := (
 .leaf (.next 1 ([x10] ++ us 1 35)))
def ZX : SE := (rl [u33, u34])
def eP : SE := (.app 45 (.rcons (.c 0) (.rcons u14 (.rcons u15 (.rcons u26 (.rcons u27 (.rcons u28 (.rcons u29 (.rcons u30 (.rcons u31 (.rcons u32 ZX)))))))))))
def O8 : SE := (.rcons (.c 0) (.rcons u0 (.rcons u1 (.rcons u2 (.rcons u3 (.rcons u4 (.rcons u5 (.rcons u6 (.rcons u7 (.rcons u8 (.rcons u9 Vw)))))))))))
def j7 : SE := (.cell u7 u27 1)
def W7 : SE := (.app 66 (rl [(.c 0), u0, u1, (.cell u7 u27 0), j7, (.cell u7 u27 2), (.cell u7 u27 3), (.cell u7 u27 4), (.cell u7 u27 5), (.cell u7 u27 6), (.cell u7 u27 7), (.cell u7 u27 8)]))
def PT : SE := (.app 21 (rl [(.c 0), (.sel W7 2), u1, u2, u3, u4, u5, u6, u7, u8, u9, u10, u11, u20, u21, u22, u23, u24, u25, u18, u19, j7]))
def kh : Tr Plf := (
 .leaf (.done 0 [(.c 2), u9, u10, u11, u17, u18, u19, u0, u1, u12, u14, u15, u16, u13]))
def gc : Tr Plf := (
 .leaf (.done 0 [(.c 3), u9, u10, u11, u17, u18, u19, u0, u1, u12, u14, u15, u16, u13]))
def iS : SE := (rl [(.cell u7 u21 0), (.cell u7 u21 1), (.cell u7 u21 2), (.cell u7 u21 3), (.cell u7 u21 4), (.cell u7 u21 5), (.cell u7 u21 6), (.cell u7 u21 7), (.cell u7 u21 8)])
def fE : SE := (.app 65 (.rcons (.c 0) (.rcons u0 (.rcons u1 (.rcons u2 (.rcons u3 (.rcons u4 (.rcons u5 (.rcons u6 (.rcons u7 (.rcons u8 (.rcons u9 (.rcons u10 (.rcons u11 (.rcons u12 (.rcons u13 (.rcons u14 (.rcons u15 (.rcons u16 (.rcons u17 (.rcons u18 (.rcons u19 (.rcons Kg (.rcons Kb (.rcons Iu (.rcons Kj (.rcons Kh (.rcons (.bc true) iS))))))))))))))))))))))))))))
def ft : SE := (rl [u20, u21])
def Jj : SE := (.app 67 (.rcons (.c 0) (.rcons u0 (.rcons u1 (.rcons u2 (.rcons u3 (.rcons u4 (.rcons u5 (.rcons u6 (.rcons u7 (.rcons u8 (.rcons u9 (.rcons u10 (.rcons u11 (.rcons u12 (.rcons u13 (.rcons u14 (.rcons u15 (.rcons u16 (.rcons (.bc true) (.rcons u18 (.rcons u19 (.rcons Kg (.rcons Kb (.rcons Iu (.rcons Kj (.rcons Kh (.rcons (.bc true) ft))))))))))))))))))))))))))))
def lx : SE := (.app 65 (.rcons (.c 0) (.rcons u0 (.rcons u1 (.rcons u2 (.rcons u3 (.rcons u4 (.rcons u5 (.rcons u6 (.rcons u7 (.rcons u8 (.rcons u9 (.rcons u10 (.rcons u11 (.rcons u12 (.rcons u13 (.rcons u14 (.rcons u15 (.rcons u16 (.rcons u17 (.rcons u18 (.rcons u19 (.rcons Kg (.rcons Kb (.rcons Iu (.rcons Kj (.rcons Kh (.rcons Rs iS))))))))))))))))))))))))))))
def I1 : SE := (.app 67 (.rcons (.c 0) (.rcons u0 (.rcons u1 (.rcons u2 (.rcons u3 (.rcons u4 (.rcons u5 (.rcons u6 (.rcons u7 (.rcons u8 (.rcons u9 (.rcons u10 (.rcons u11 (.rcons u12 (.rcons u13 (.rcons u14 (.rcons u15 (.rcons u16 (.rcons (.bc false) (.rcons u18 (.rcons u19 (.rcons Kg (.rcons Kb (.rcons Iu (.rcons Kj (.rcons Kh (.rcons Rs ft))))))))))))))))))))))))))))
def bI : SE := (.cat .emptyL u1)
def lQ : Tr Plf := (
 .leaf (.done 0 (us 0 10 ++ [(.c 2)])))
def fg : Tr Plf := (
 .leaf (.done 0 (us 0 10 ++ [(.c 3)])))
def j2 : SE := (.app 51 (rl ([(.c 0)] ++ us 0 12)))
def iM : SE := (.app 65 (.rcons (.c 0) (.rcons u20 (.rcons u21 (.rcons u7 (.rcons u8 (.rcons u9 (.rcons u10 (.rcons u11 (.rcons u12 (.rcons u13 (.rcons u14 (.rcons u15 (.rcons u16 (.rcons u22 (.rcons u26 (.rcons u23 (.rcons u24 (.rcons u25 (.rcons u17 (.rcons u18 (.rcons u19 (.rcons u27 (.rcons u31 (.rcons u28 (.rcons u29 (.rcons u30 (.rcons u6 ji))))))))))))))))))))))))))))
def VO : Tr Plf := (
 .leaf (.next 1 ([u0, u1, x26] ++ us 3 30)))
def fZ : Tr Plf := (
 .leaf (.done 0 [(.c 0), (.c 3), u9, u10, u11, u17, u18, u19, u0, u1, u12, u14, u15, u16, u13]))
def UK : SE := (.app 71 (.rcons (.c 0) (.rcons u21 (.rcons u22 (.rcons (.c (-1)) (.rcons u0 (.rcons u1 (.rcons u2 (.rcons u3 (.rcons u4 (.rcons u5 (.rcons u6 (.rcons u7 (.rcons u8 (.rcons u9 (.rcons u10 (.rcons u11 (.rcons u12 (.rcons u13 (.rcons u14 (.rcons u15 (.rcons u16 (.rcons u17 (.rcons u18 (.rcons u19 (.rcons Kg (.rcons Kb (.rcons Iu (.rcons Kj (.rcons Kh (.rcons (.bc true) Yd)))))))))))))))))))))))))))))))
def cN : Tr Plf := (
 .leaf (.done 0 [(.c 0), (.c 9), u9, u10, u11, (.bc true), u18, u19, u0, u1, u12, u14, u15, u16, u13]))
def Ji : SE := (.app 67 (rl [(.c 0), u0, u1, u2, u3, u4, u5, u6, u7, u8, u9, u10, u11, u12, u13, u14, u15, u16, (.bc true), u18, u19, Kg, Kb, Iu, Kj, Kh, (.bc true), u20, (.sel UK 1)]))
def U2 : SE := (.app 71 (.rcons (.c 0) (.rcons u21 (.rcons u22 (.rcons (.c (-1)) (.rcons u0 (.rcons u1 (.rcons u2 (.rcons u3 (.rcons u4 (.rcons u5 (.rcons u6 (.rcons u7 (.rcons u8 (.rcons u9 (.rcons u10 (.rcons u11 (.rcons u12 (.rcons u13 (.rcons u14 (.rcons u15 (.rcons u16 (.rcons u17 (.rcons u18 (.rcons u19 (.rcons Kg (.rcons Kb (.rcons Iu (.rcons Kj (.rcons Kh (.rcons Rs Yd)))))))))))))))))))))))))))))))
def kc : Tr Plf := (
 .leaf (.done 0 [(.c 0), (.c 9), u9, u10, u11, (.bc false), u18, u19, u0, u1, u12, u14, u15, u16, u13]))
def Jn : SE := (.app 67 (rl [(.c 0), u0, u1, u2, u3, u4, u5, u6, u7, u8, u9, u10, u11, u12, u13, u14, u15, u16, (.bc false), u18, u19, Kg, Kb, Iu, Kj, Kh, Rs, u20, (.sel U2 1)]))
def fG : Tr Plf := (
 .leaf (.done 0 (us 0 10 ++ [(.c 0), (.c 3)])))
def Zt : SE := (.rcons (.c 0) (.rcons u4 (.rcons u5 (.rcons u6 (.rcons u7 (.rcons u8 (.rcons u9 (.rcons u10 (.rcons u11 (.rcons u12 (.rcons u13 (.rcons u0 x84))))))))))))
def KH : SE := (.app 70 Zt)
def Yn : Tr Plf := (
 .leaf (.next 1 ([u0, u1, u2, OG] ++ us 4 10)))
def Lb : SE := (.rcons (.c 0) jy)
def gH : SE := (.eql (.sel (.app 74 Lb) 0) (.c 1))
def bK : SE := (rl [u18, u19])
def Z7 : SE := (.app 53 (.rcons (.c 0) bK))
def EI : SE := (.app 62 (rl ([(.c 0)] ++ us 0 20 ++ [u31])))
def Cs : SE := (.app 63 (rl ([(.c 0)] ++ us 20 10 ++ [u31])))
def hJ : SE := (.app 64 (rl [(.c 0), (.sel EI 1), (.sel EI 2), (.sel Cs 11), (.sel Cs 12)]))
def eF : SE := (.app 55 (rl [(.c 0), u0, u1, u2, u3, u4, u5, u6, u7, u8, u9, u10, u11, (.sel EI 5), (.sel EI 9), (.sel EI 6), (.sel EI 7), (.sel EI 8), (.sel EI 4), u18, u19, (.sel Cs 1), (.sel Cs 2), (.sel Cs 3), (.sel Cs 4), (.sel Cs 5), (.sel Cs 6), (.sel Cs 7), (.sel Cs 8), (.sel Cs 9), (.sel Cs 10)]))
def eU : Tr Plf := (
 .leaf (.done 0 [(.sel Cs 1), (.sel Cs 2), (.sel Cs 3), (.sel Cs 4), (.sel Cs 5), (.sel Cs 6), (.sel Cs 7), (.sel Cs 8), (.sel Cs 9), (.sel Cs 10), (.bc false), u3, u5, u7, (.sel EI 5), (.sel EI 6), (.sel EI 7), (.sel EI 8), (.sel EI 9), u18, u2, u4, u6, u8, u9, u10, u11, (.sel EI 4), u19, u0, u1]))
def gI : Tr Plf := (
 .split (.eql (.sel EI 0) (.c 1)) (
 .split (.eql (.sel Cs 0) (.c 1)) (
 .split (.eql (.sel hJ 0) (.c 1)) (
 .split (.sel hJ 1) (
 .split (.eql (.sel EI 3) (.sel Cs 13)) (
 .split (.eql (.sel eF 0) (.c 1)) (
 .leaf (.done 0 [(.sel Cs 1), (.sel Cs 2), (.sel Cs 3), (.sel Cs 4), (.sel Cs 5), (.sel Cs 6), (.sel Cs 7), (.sel Cs 8), (.sel Cs 9), (.sel Cs 10), (.sel eF 1), u3, u5, u7, (.sel EI 5), (.sel EI 6), (.sel EI 7), (.sel EI 8), (.sel EI 9), u18, u2, u4, u6, u8, u9, u10, u11, (.sel EI 4), u19, u0, u1])) x8) eU) eU) x8) x8) x8)
def cz : SE := (rl [u31, u32])
def BW : SE := (.app 68 (.rcons (.c 0) (.rcons u0 (.rcons u1 (.rcons u2 (.rcons u3 (.rcons u4 (.rcons u5 (.rcons u6 (.rcons u7 (.rcons u8 (.rcons u9 (.rcons u10 (.rcons u11 (.rcons u12 (.rcons u13 (.rcons u14 (.rcons u15 (.rcons u16 (.rcons u17 (.rcons u18 (.rcons u19 cz))))))))))))))))))))))
def CD : SE := (.app 70 (.rcons (.c 0) (.rcons u20 (.rcons u21 (.rcons u22 (.rcons u23 (.rcons u24 (.rcons u25 (.rcons u26 (.rcons u27 (.rcons u28 (.rcons u29 cz))))))))))))
def kG : SE := (.app 55 (rl [(.c 0), (.sel BW 8), (.sel BW 9), u2, u3, u4, u5, u6, u7, u8, (.sel BW 2), (.sel BW 3), (.sel BW 4), (.sel BW 10), (.sel BW 14), (.sel BW 11), (.sel BW 12), (.sel BW 13), (.sel BW 5), (.sel BW 6), (.sel BW 7), (.sel CD 1), (.sel CD 2), (.sel CD 3), (.sel CD 4), (.sel CD 5), (.sel CD 6), (.sel CD 7), (.sel CD 8), (.sel CD 9), (.sel CD 10)]))
def br : Tr Plf := (
 .split (.eql (.sel BW 0) (.c 1)) (
 .split (.eql (.sel CD 0) (.c 1)) (
 .split (.eql (.sel BW 1) (.sel CD 11)) (
 .split (.eql (.sel kG 0) (.c 1)) (
 .leaf (.done 0 [(.sel CD 1), (.sel CD 2), (.sel CD 3), (.sel CD 4), (.sel CD 5), (.sel CD 6), (.sel CD 7), (.sel CD 8), (.sel CD 9), (.sel CD 10), (.sel kG 1), u3, u5, u7, (.sel BW 10), (.sel BW 11), (.sel BW 12), (.sel BW 13), (.sel BW 14), (.sel BW 6), u2, u4, u6, u8, (.sel BW 2), (.sel BW 3), (.sel BW 4), (.sel BW 5), (.sel BW 7), (.sel BW 8), (.sel BW 9)])) x8) (
 .leaf (.done 0 [(.sel CD 1), (.sel CD 2), (.sel CD 3), (.sel CD 4), (.sel CD 5), (.sel CD 6), (.sel CD 7), (.sel CD 8), (.sel CD 9), (.sel CD 10), (.bc false), u3, u5, u7, (.sel BW 10), (.sel BW 11), (.sel BW 12), (.sel BW 13), (.sel BW 14), (.sel BW 6), u2, u4, u6, u8, (.sel BW 2), (.sel BW 3), (.sel BW 4), (.sel BW 5), (.sel BW 7), (.sel BW 8), (.sel BW 9)]))) x8) x8)
def BM : SE := (.app 72 (.rcons (.c 0) (.rcons u0 (.rcons u1 (.rcons u2 (.rcons u3 (.rcons u4 (.rcons u5 (.rcons u6 (.rcons u7 (.rcons u8 (.rcons u9 (.rcons u10 (.rcons u11 (.rcons u12 (.rcons u13 (.rcons u14 (.rcons u15 (.rcons u16 (.rcons u17 (.rcons u18 (.rcons u19 (.rcons u31 ZX)))))))))))))))))))))))
def Cz : SE := (.app 73 (.rcons (.c 0) (.rcons u20 (.rcons u21 (.rcons u22 (.rcons u23 (.rcons u24 (.rcons u25 (.rcons u26 (.rcons u27 (.rcons u28 (.rcons u29 (.rcons u31 ZX)))))))))))))
def eL : SE := (.app 55 (rl [(.c 0), (.sel BM 9), (.sel BM 10), u2, u3, u4, u5, u6, u7, u8, (.sel BM 3), (.sel BM 4), (.sel BM 5), (.sel BM 11), (.sel BM 15), (.sel BM 12), (.sel BM 13), (.sel BM 14), (.sel BM 6), (.sel BM 7), (.sel BM 8), (.sel Cz 1), (.sel Cz 2), (.sel Cz 3), (.sel Cz 4), (.sel Cz 5), (.sel Cz 6), (.sel Cz 7), (.sel Cz 8), (.sel Cz 9), (.sel Cz 10)]))
def jc : Tr Plf := (
 .leaf (.done 0 [(.sel Cz 1), (.sel Cz 2), (.sel Cz 3), (.sel Cz 4), (.sel Cz 5), (.sel Cz 6), (.sel Cz 7), (.sel Cz 8), (.sel Cz 9), (.sel Cz 10), (.bc false), u3, u5, u7, (.sel BM 11), (.sel BM 12), (.sel BM 13), (.sel BM 14), (.sel BM 15), (.sel BM 7), u2, u4, u6, u8, (.sel BM 3), (.sel BM 4), (.sel BM 5), (.sel BM 6), (.sel BM 8), (.sel BM 9), (.sel BM 10)]))
def iw : Tr Plf := (
 .split (.eql (.sel BM 0) (.c 1)) (
 .split (.eql (.sel Cz 0) (.c 1)) (
 .split (.eql (.sel BM 1) (.sel Cz 11)) (
 .split (.eql (.sel BM 2) (.sel Cz 12)) (
 .split (.eql (.sel eL 0) (.c 1)) (
 .leaf (.done 0 [(.sel Cz 1), (.sel Cz 2), (.sel Cz 3), (.sel Cz 4), (.sel Cz 5), (.sel Cz 6), (.sel Cz 7), (.sel Cz 8), (.sel Cz 9), (.sel Cz 10), (.sel eL 1), u3, u5, u7, (.sel BM 11), (.sel BM 12), (.sel BM 13), (.sel BM 14), (.sel BM 15), (.sel BM 7), u2, u4, u6, u8, (.sel BM 3), (.sel BM 4), (.sel BM 5), (.sel BM 6), (.sel BM 8), (.sel BM 9), (.sel BM 10)])) x8) jc) jc) x8) x8)
def Dt : SE := (.app 76 (.rcons (.c 0) (.rcons u0 (.rcons u1 (.rcons u2 (.rcons u3 (.rcons u4 (.rcons u5 (.rcons u6 (.rcons u7 (.rcons u8 (.rcons u9 (.rcons u10 (.rcons u11 (.rcons u12 (.rcons u13 (.rcons u14 (.rcons u15 (.rcons u16 (.rcons u17 bK))))))))))))))))))))
def Rj : SE := (.app 62 (rl [(.c 0), u0, u1, u2, (.sel Dt 1), u4, (.sel Dt 2), u6, (.sel Dt 3), u8, u9, u10, u11, u12, u13, u14, u15, u16, u17, u18, u19, NT]))
def eK : SE := (.app 52 (.rcons (.c 0) (.rcons u20 gn)))
def bP : SE := (rl [(.sel eK 1), u32])
def BQ : SE := (.app 68 (.rcons (.c 0) (.rcons u0 (.rcons u1 (.rcons u2 (.rcons u3 (.rcons u4 (.rcons u5 (.rcons u6 (.rcons u7 (.rcons u8 (.rcons u9 (.rcons u10 (.rcons u11 (.rcons u12 (.rcons u13 (.rcons u14 (.rcons u15 (.rcons u16 (.rcons u17 (.rcons u18 (.rcons u19 bP))))))))))))))))))))))
def CN : SE := (.app 70 (.rcons (.c 0) (.rcons u20 (.rcons u21 (.rcons u22 (.rcons u23 (.rcons u24 (.rcons u25 (.rcons u26 (.rcons u27 (.rcons u28 (.rcons u29 bP))))))))))))
def jU : SE := (.app 55 (rl [(.c 0), (.sel BQ 8), (.sel BQ 9), u2, u3, u4, u5, u6, u7, u8, (.sel BQ 2), (.sel BQ 3), (.sel BQ 4), (.sel BQ 10), (.sel BQ 14), (.sel BQ 11), (.sel BQ 12), (.sel BQ 13), (.sel BQ 5), (.sel BQ 6), (.sel BQ 7), (.sel CN 1), (.sel CN 2), (.sel CN 3), (.sel CN 4), (.sel CN 5), (.sel CN 6), (.sel CN 7), (.sel CN 8), (.sel CN 9), (.sel CN 10)]))
def IU : SE := (.app 68 (.rcons (.c 0) (.rcons u14 (.rcons u15 (.rcons u1 (.rcons u2 (.rcons u3 (.rcons u4 (.rcons u5 (.rcons u6 (.rcons u7 (.rcons u8 (.rcons u9 (.rcons u10 (.rcons u43 (.rcons u47 (.rcons u44 (.rcons u45 (.rcons u46 (.rcons u11 (.rcons u12 (.rcons u13 (.rcons NT x82)))))))))))))))))))))))
def i4 : SE := (rl [u23, u24, u25])
def iQ : SE := (.app 55 (.rcons (.c 0) (.rcons u36 (.rcons u37 (.rcons u26 (.rcons u2 (.rcons u27 (.rcons u4 (.rcons u28 (.rcons u6 (.rcons u29 (.rcons u30 (.rcons u31 (.rcons u32 (.rcons u38 (.rcons u42 (.rcons u39 (.rcons u40 (.rcons u41 (.rcons u33 (.rcons u34 (.rcons u35 (.rcons u16 (.rcons u17 (.rcons u18 (.rcons u19 (.rcons u20 (.rcons u21 (.rcons u22 i4)))))))))))))))))))))))))))))
def ZE : SE := (.app 78 (rl [(.c 0), .nilL, (.bc true), (.sel (.app 74 Lb) 1), (.sel (.app 74 Lb) 2)]))
def O1 : Tr Plf := (
 .split (.eql (.sel (.app 1 x94) 0) (.c 1)) x1 x8)
def bE : SE := (.cat .emptyL u5)
def ei : SE := (.and (.bc false) (.eql x53 (.c 0)))
def FD : SE := (.app 29 (.rcons (.c 0) (.rcons u0 (.rcons u1 (.rcons u2 (.rcons u3 (.rcons u4 (.rcons bE (.rcons ei au)))))))))
def EH : SE := (.app 39 (.rcons (.c 0) (.rcons u0 (.rcons u1 (.rcons u2 (.rcons u3 XC))))))
def io : SE := (.eql (.sel EH 0) (.c 1))
def kP : SE := (.eql (.sel EH 10) (.c 0))
def az : SE := (.app 40 (.rcons (.c 0) (.rcons bE (.rcons ei Tk))))
def dH : SE := (.eql (.sel az 0) (.c 1))
def lG : SE := (rl [(.bc true), (.sel EH 1), (.sel EH 2), (.sel EH 3), (.sel EH 4), (.sel EH 5), (.sel EH 6), (.sel EH 7), (.sel EH 8), (.sel EH 9), .nilL])
def Cb : SE := (.app 29 (.rcons (.c 0) (.rcons u0 (.rcons u1 (.rcons u2 (.rcons u3 (.rcons u4 (.rcons bE (.rcons (.bc false) au)))))))))
def Bl : SE := (.app 77 (rl ([(.c 0), u26, u27] ++ us 13 10 ++ [u28, u32, u29, u30, u31, u23, u24, u25] ++ us 3 10 ++ [x23, ZB, Xq, XU, W5])))
def Xk : SE := (.app 80 (rl [(.c 0), (.sel Bl 30), (.sel Bl 31), (.sel Bl 21), (.sel Bl 12), (.sel Bl 22), (.sel Bl 13), (.sel Bl 23), (.sel Bl 14), (.sel Bl 24), (.sel Bl 25), (.sel Bl 26), (.sel Bl 27), (.sel Bl 15), (.sel Bl 19), (.sel Bl 16), (.sel Bl 17), (.sel Bl 18), (.sel Bl 28), (.sel Bl 20), (.sel Bl 29)]))
def aC : SE := (.app 80 (.rcons (.c 0) (.rcons u26 (.rcons u27 (.rcons u13 (.rcons u14 (.rcons u15 (.rcons u16 (.rcons u17 (.rcons u18 (.rcons u19 (.rcons u20 (.rcons u21 (.rcons u22 (.rcons u28 (.rcons u32 (.rcons u29 (.rcons u30 (.rcons u31 i4)))))))))))))))))))
def ep : SE := (.app 40 (.rcons (.c 0) (.rcons (.sel aC 2) (.rcons (.sel aC 3) Vw))))
def di : SE := (.app 40 (.rcons (.c 0) (.rcons u14 (.rcons u15 Vw))))
def jH : Tr Plf := (
 .leaf (.next 3 ([u0, (.bc false), u2, (.c 0)] ++ us 3 33)))
def nu : Tr Plf :=
 .split (.lss (.c 6) x0) x1 (
 .split (.lss (.c 8) x2) x1 (
 .split (.lss (.c 14) x3) x1 (
 .split (.lss (.c 60) x4) x1 x5)))
def nC : Tr Plf :=
 .split x6 (
 .split x7 x8 (
 .split (.lss (.c 60) (.lenS x9)) x1 x11)) x12
def mu : Tr Plf :=
 .split x13 (
 .split x7 x8 (
 .split (.lss (.c 60) (.lenS x14)) x1 x15)) x16
def nf : Tr Plf :=
 .split (.lss u0 x17) (
 .split x7 x8 (
 .split (.lss (.c 60) (.lenS (.cell u4 u0 0))) x1 (
 .split (.lss (.c 60) (.lenS (.cell u4 u0 1))) x1 (
 .split (.lss (.c 60) (.lenS (.cell u4 u0 3))) x1 (
 .split (.lss (.c 60) (.lenS (.cell u4 u0 4))) x1 (
 .split (.lss (.c 60) (.lenS (.cell u4 u0 5))) x1 x18)))))) x19
def t0 : List (Tr Plf) := [nu, nC, mu, nf]
def mM : Tr Plf :=
 .leaf (.done 0 [])
def t1 : List (Tr Plf) := [mM]
def nc : Tr Plf :=
 .split (.lss x4 (.c 1)) x19 (
 .split (.lss (.c 32) x4) x19 (
 .leaf (.next 1 [(.bytes u0), (.lenL (.bytes u0)), (.c 0)])))
def nn : Tr Plf :=
 .split (.lss u2 u1) (
 .split x20 x8 (
 .split x22 (
 .split (.lss x24 (.c 97)) (
 .split (.lss x24 (.c 65)) (
 .split x25 x19 (
 .split (.lss x24 (.c 48)) x19 (
 .split (.lss (.c 57) x24) x19 x27))) (
 .split (.lss (.c 90) x24) (
 .split x25 x19 (
 .split (.eql x24 (.c 95)) x27 x19)) x27)) (
 .split (.lss (.c 122) x24) (
 .split x25 x19 x19) x27)) x8)) x1
def t2 : List (Tr Plf) := [nc, nn]
def nB : Tr Plf :=
 .leaf x28
def mK : Tr Plf :=
 .split x29 x34 x35
def t3 : List (Tr Plf) := [nB, mK]
def mQ : Tr Plf :=
 .split x36 x37 x39
def me : Tr Plf :=
 .split x40 (
 .split x30 x8 (
 .split x41 (
 .split (.eql (.sel x43 0) (.c 1)) (
 .split (.sel x43 1) (
 .split (.eql (.sel x44 0) (.c 1)) (
 .split (.lss (.sel x44 1) u1) x32 (
 .split (.lss x45 (.c 1)) x32 (
 .split (.lss (.c 1000) x45) x32 x46))) x8) x32) x8) x8)) x35
def t4 : List (Tr Plf) := [mQ, me]
def mi : Tr Plf :=
 .leaf x28
def mr : Tr Plf :=
 .split x29 x34 x35
def t5 : List (Tr Plf) := [mi, mr]
def mG : Tr Plf :=
 .split x36 x37 x39
def mN : Tr Plf :=
 .split x40 (
 .split x30 x8 (
 .split x47 (
 .split (.eql (.sel x49 0) (.c 1)) (
 .split (.sel x49 1) (
 .split (.eql (.sel x50 0) (.c 1)) (
 .split (.lss (.sel x50 1) u1) x32 (
 .split (.lss x51 (.c 0)) x32 (
 .split (.lss (.c 1048576) x51) x32 x46))) x8) x32) x8) x8)) x35
def t6 : List (Tr Plf) := [mG, mN]
def mA : Tr Plf :=
 .leaf (.next 1 ([u0, (.c 0)] ++ us 1 9))
def mB : Tr Plf :=
 .split x29 (
 .split x30 x8 (
 .split (.and (.eqSS u2 x31) (.and (.eqSS u3 x52) (.and (.eql u4 (.cell u0 u1 2)) (.and (.eqSS u5 (.cell u0 u1 3)) (.and (.eqSS u6 (.cell u0 u1 4)) (.and (.eqSS u7 (.cell u0 u1 5)) (.and (.eql u8 (.cell u0 u1 6)) (.and (.eql u9 (.cell u0 u1 7)) (.eql u10 (.cell u0 u1 8)))))))))) x32 (
 .leaf (.next 1 ([u0, x33] ++ us 2 9))))) x35
def t7 : List (Tr Plf) := [mA, mB]
def mz : Tr Plf :=
 .split x36 x37 x39
def mP : Tr Plf :=
 .split x40 (
 .split x30 x8 (
 .split (.lss u1 x53) (
 .split (.eql x54 (.c 1)) x80 (
 .split (.eql x54 (.c 2)) x80 (
 .split (.eql x54 (.c 3)) (
 .split x57 (
 .split x60 (
 .split x61 x32 (
 .split x64 (
 .split x65 x32 (
 .split x66 x8 (
 .split x73 (
 .split x74 (
 .split x75 (
 .split (.lss (.c 0) (.cell u3 (.sel x56 1) 2)) x81 x32) x8) x32) x8))) x8)) x8) x8) (
 .split (.eql x54 (.c 4)) (
 .split x57 (
 .split x60 (
 .split x61 x32 (
 .split x64 (
 .split x65 x32 (
 .split x66 x8 (
 .split x73 (
 .split x74 (
 .split x75 x81 x8) x32) x8))) x8)) x8) x8) (
 .split x57 (
 .split x60 x32 x8) x8))))) x8)) x35
def t8 : List (Tr Plf) := [mz, mP]
def nA : Tr Plf :=
 .split (.eql (.sel x83 0) (.c 1)) (
 .split (.sel x83 1) (
 .split (.eql (.sel x87 0) (.c 1)) (
 .split (.lss (.sel x87 1) (.c 0)) (
 .split (.eql (.sel x88 0) (.c 1)) (
 .split (.lss (.sel x88 1) (.c 0)) (
 .split (.eql (.sel x89 0) (.c 1)) (
 .split (.lss (.sel x89 1) (.c 0)) x90 (
 .leaf (.done 0 [(.sel x89 1), (.c 293)]))) x8) (
 .leaf (.done 0 [(.sel x88 1), (.c 292)]))) x8) (
 .leaf (.done 0 [(.sel x87 1), (.c 291)]))) x8) x91) x8
def t9 : List (Tr Plf) := [nA]
def cE : Tr Plf :=
 .leaf (.next 1 [u0, u1, (.c 0), u2])
def cV : Tr Plf :=
 .split x22 (
 .split x20 x8 (
 .split (.eqSS x23 u3) x38 (
 .leaf (.next 1 [u0, u1, x26, u3])))) x35
def t10 : List (Tr Plf) := [cE, cV]
def gF : Tr Plf :=
 .split (.lss (.c 4) x21) x8 (
 .leaf (.next 1 [u0, (.c 0), .nilL, (.bc true)]))
def eT : Tr Plf :=
 .split x29 (
 .split x30 x8 (
 .split (.eqS x31 0 0) x8 (
 .split (.lss x52 (.c 1)) x8 (
 .split (.lss (.c 1000) x52) x8 (
 .split (.eql (.sel x92 0) (.c 1)) (
 .split (.lss (.sel x92 1) (.c 0)) (
 .split (.lss x0 x93) (
 .leaf (.next 1 [u0, x33, (.snoc u2 (.rcons x31 (.rcons x52 x94))), (.bc false)])) x8) x8) x8))))) x95
def t11 : List (Tr Plf) := [gF, eT]
def dE : Tr Plf :=
 .split x96 x97 x98
def t12 : List (Tr Plf) := [dE]
def lZ : Tr Plf :=
 .split x96 x97 x98
def t13 : List (Tr Plf) := [lZ]
def kS : Tr Plf :=
 .split x96 x97 x98
def t14 : List (Tr Plf) := [kS]
def kz : Tr Plf :=
 .leaf (.next 1 [.nilL, (.bc true), u0, u1, (.c 0), u2])
def fR : Tr Plf :=
 .split x99 (
 .split Xw x8 (
 .split (.eqSS Xu u5) (
 .split (.lss x21 x93) (
 .leaf (.next 1 [(.snoc u0 (rl [Xu, fS, ZV])), (.bc false), u2, u3, WO, u5])) x8) (
 .leaf (.next 1 [u0, u1, u2, u3, WO, u5])))) gG
def t15 : List (Tr Plf) := [kz, fR]
def dP : Tr Plf :=
 .split (.lss u5 (.c 0)) eo (
 .split (.lss u5 (.c 256)) (
 .split u2 Td (
 .split Z2 Td (
 .leaf (.done 0 [(.arith .sub .i64 (.cell u1 XL 1) u0), (.c 0)])))) eo)
def t16 : List (Tr Plf) := [dP]
def lH : Tr Plf :=
 .split (.eql (.sel ZW 0) (.c 1)) (
 .split (.eql (.sel ZW 2) (.c 0)) (
 .split u2 jb (
 .split Z2 jb (
 .leaf (.done 0 [(.c 0), (.rmv u1 XL)])))) (
 .leaf (.done 0 [(.sel ZW 2), u1]))) x8
def t17 : List (Tr Plf) := [lH]
def cG : Tr Plf :=
 .split (.lss x0 x93) (
 .leaf (.next 1 [(.arith .sub .i64 (.lenL gJ) (.c 1)), u0, gJ, (.bc false), u1])) x8
def ic : Tr Plf :=
 .split (.lss (.c 0) u0) (
 .split (.lss IH (.c 0)) x8 (
 .split (.lss IH x0) (
 .split x13 (
 .split (.lss ai x14) (
 .split ZN x95 (
 .split bC x95 x95)) (
 .split (.lss x14 ai) (
 .split ZN Xj (
 .split bC Xj Xj)) (
 .split ZN x95 (
 .split bC Xj x95)))) x8) x8)) x95
def t18 : List (Tr Plf) := [cG, ic]
def lU : Tr Plf :=
 .split Xo (
 .leaf (.next 1 [(.arith .sub .i64 (.lenL (.snoc u3 XS)) (.c 1)), u0, u2, (.snoc u3 XS), (.bc false), u1])) x8
def lO : Tr Plf :=
 .split (.lss (.c 0) u0) (
 .split (.lss IH (.c 0)) x8 (
 .split (.lss IH x3) (
 .split x6 (
 .split (.lss bu x9) (
 .split ac PK (
 .split ZY PK PK)) (
 .split (.lss x9 bu) (
 .split ac Xx (
 .split ZY Xx Xx)) (
 .split ac PK (
 .split ZY Xx PK)))) x8) x8)) PK
def t19 : List (Tr Plf) := [lU, lO]
def dU : Tr Plf :=
 .split (.lss u5 (.c 0)) cq (
 .split (.lss u5 (.c 256)) (
 .split (.lss u6 (.c 0)) dq (
 .split (.lss (.arith .sub .i64 NT u0) u6) dq (
 .split u2 (
 .split (.eql (.sel ba 0) (.c 1)) (
 .leaf (.done 0 [(.c 0), (.bc false), (.sel ba 1), (.sel ba 2), (.snoc .emptyL W6)])) x8) (
 .split Z2 (
 .split (.eql (.sel bl 0) (.c 1)) (
 .leaf (.done 0 [(.c 0), u2, (.sel bl 1), (.sel bl 2), (.snoc u1 W6)])) x8) (
 .split (.eql (.sel aP 0) (.c 1)) (
 .leaf (.done 0 [(.c 0), u2, (.sel aP 1), (.sel aP 2), kL])) x8))))) cq)
def t20 : List (Tr Plf) := [dU]
def lw : Tr Plf :=
 .split (.eql (.sel ey 0) (.c 1)) (
 .split (.lss (.c 0) (.lenL Te)) (
 .split (.eql (.sel (.app 17 Tb) 0) (.c 1)) (
 .split (.lss (.c 0) XQ) (
 .split (.eql (.sel Wq 0) (.c 1)) (
 .leaf (.done 0 [(.cell Te (.c 0) 0), (.cell Te (.c 0) 1), XQ, (.sel Wq 2), (.sel Wq 3), (.sel Wq 4), (.sel Wq 5)])) x8) (
 .leaf (.done 0 [(.cell Te (.c 0) 0), (.cell Te (.c 0) 1), XQ, u14, u15, u16, (.sel (.app 17 Tb) 2)]))) x8) x8) x8
def t21 : List (Tr Plf) := [lw]
def cH : Tr Plf :=
 .split (.eql (.sel (.app 9 Kk) 0) (.c 1)) (
 .split (.eql (.sel (.app 9 Kk) 2) (.c 0)) (
 .split (.eql (.sel (.app 11 Jw) 0) (.c 1)) (
 .split (.eql (.sel Vn 0) (.c 1)) (
 .split (.eql (.sel (.app 13 Jw) 0) (.c 1)) (
 .split (.eql (.sel Uu 0) (.c 1)) (
 .split (.lss (.c 0) x2) (
 .split (.eql (.sel Pj 0) (.c 1)) (
 .leaf (.done 0 [u0, (.sel Vn 1), (.sel Vn 2), (.sel (.app 13 Jw) 1), (.sel (.app 13 Jw) 2), (.sel Uu 1), (.sel Uu 2), (.sel Pj 1), (.sel Pj 2), (.sel Pj 3), .nilL, (.sel (.app 11 Jw) 1), (.sel (.app 11 Jw) 2), (.sel Pj 4), (.sel Pj 5), (.sel Pj 6), (.sel Pj 7)])) x8) x8) x8) x8) x8) x8) (
 .leaf (.done 1 [(.sel (.app 9 Kk) 2)]))) x8
def t22 : List (Tr Plf) := [cH]
def e9 : Tr Plf :=
 .leaf (.next 1 [u0, (.c 0), u1, u2, u3])
def gW : Tr Plf :=
 .split x29 (
 .split x30 x8 (
 .split (.eqSS x31 u2) x32 (
 .leaf (.next 1 [u0, x33, u2, u3, u4])))) x35
def t23 : List (Tr Plf) := [e9, gW]
def i7 : Tr Plf :=
 .split (.eql (.sel (.app 23 Kk) 0) (.c 1)) (
 .leaf (.done 0 [(.neg (.lss (.sel (.app 23 Kk) 1) (.c 0)))])) x8
def t24 : List (Tr Plf) := [i7]
def dI : Tr Plf :=
 .split (.eql x0 x21) (
 .leaf dY) (
 .leaf (.done 0 [(.c 2), u0]))
def e6 : Tr Plf :=
 .split x22 (
 .split x20 x8 (
 .split (.lss x23 (.c 0)) fP (
 .split (.lss u2 x3) (
 .split (.lss (.cell u3 u2 1) x23) fP (
 .leaf (.next 1 [u0, u1, x26, u3, u4]))) x8))) (
 .leaf (.next 2 [u0, u1, x21, (.c 0), u3, u4]))
def ib : Tr Plf :=
 .split (.lss u3 u2) (
 .split Ye x8 (
 .split (.lss u3 x21) (
 .split (.lss u3 x17) (
 .leaf (.next 2 [u0, u1, u2, OG, (.upd u4 u3 2 lS), u5])) x8) x8)) (
 .leaf (.done 0 [(.c 0), u4]))
def t25 : List (Tr Plf) := [dI, e6, ib]
def fM : Tr Plf :=
 .split (.lss Qs (.c 0)) x8 (
 .split (.lss Qs x3) (
 .split (.lss (.c 0) x3) (
 .split (.lss (.lenL jv) Qs) x8 (
 .leaf (.next 1 [Qs, (.c 0), u0, u2, (.sub jv (.c 0) Qs), u4, u1]))) x8) x8)
def ln : Tr Plf :=
 .leaf (.next 2 [u0, u1, u1, (.c 0), u2, u3, u4, u5, u6, (.arith .add .i64 iW (.c 1)), (.arith .add .i64 iW (.c 2))])
def jh : Tr Plf :=
 .split (.lss u3 (.c 2)) (
 .split (.eql u3 (.c 0)) (
 .split (.lss u9 u0) (
 .split (.lss u9 (.c 0)) x8 (
 .split (.lss u9 X3) (
 .split x20 x8 (
 .split Yg (
 .split (.lss bZ Tl) (
 .split Zr Xt (
 .split (.lss PM aY) Xt Xt)) (
 .split (.lss Tl bZ) (
 .split Zr OZ kb) (
 .split Zr Xt kb))) x8)) x8)) OZ) (
 .split (.eql u3 (.c 1)) (
 .split (.lss u10 u0) (
 .split (.lss u10 (.c 0)) x8 (
 .split (.lss u10 X3) (
 .split x20 x8 (
 .split Yg (
 .split (.lss ff Tl) (
 .split ah X2 (
 .split (.lss PM ZK) X2 X2)) (
 .split (.lss Tl ff) (
 .split ah OZ fD) (
 .split ah X2 fD))) x8)) x8)) OZ) x8)) (
 .split (.eql u2 u1) (
 .leaf (.done 0 [u6, u7])) (
 .split x20 x8 (
 .split Yg (
 .split x30 x8 (
 .split (.lss u1 X3) (
 .leaf (.next 1 [u0, u2, u4, u5, (.upd (.upd (.upd (.upd u6 u1 0 Tl) u1 1 PM) u2 0 (.cell u6 u1 0)) u2 1 (.cell u6 u1 1)), u7, u8])) x8)) x8)))
def t26 : List (Tr Plf) := [fM, ln, jh]
def j4 : Tr Plf :=
 .leaf (.next 1 [u0, u2, u3, u4, u1])
def dc : Tr Plf :=
 .split (.lss (.c 0) x0) (
 .split u1 aO (
 .split (.lss jd (.c 0)) aO (
 .split (.eql (.cell u4 jd 1) (.cell u2 (.c 0) 0)) (
 .leaf (.done 0 [(.cell u2 (.c 0) 0), (.cell u2 (.c 0) 1), (.bc true), u2, u3])) aO))) (
 .leaf (.done 0 [(.c 0), (.c 0), (.bc false), u2, u3]))
def t27 : List (Tr Plf) := [j4, dc]
def iL : Tr Plf :=
 .split (.lss NT u5) (
 .leaf (.done 0 [.nilL, (.bc true), (.c 3), u0, u3, u4, u1])) (
 .split (.lss u0 u5) (
 .split (.eql (.sel Tt 0) (.c 1)) (
 .leaf (.next 1 [.nilL, (.bc true), (.sel Tt 3), u5, u2, (.sel Tt 4), (.sel Tt 5), u1, (.sel Tt 1), (.sel Tt 2)])) x8) (
 .split (.eql (.sel TK 0) (.c 1)) (
 .leaf (.next 1 [.nilL, (.bc true), (.sel TK 3), u0, u2, (.sel TK 4), (.sel TK 5), u1, (.sel TK 1), (.sel TK 2)])) x8))
def dr : Tr Plf :=
 .split u2 (
 .split (.lss u3 u8) gB (
 .split (.lss x21 x93) (
 .split u4 kD (
 .split (.lss Zp (.c 0)) kD (
 .split (.eql (.sel T7 0) (.c 1)) (
 .leaf (.next 1 [(.snoc u0 X5), (.bc false), (.sel T7 3), u3, u4, (.sel T7 4), (.sel T7 5), (.rmv u7 Zp), (.sel T7 1), (.sel T7 2)])) x8))) x8)) gB
def t28 : List (Tr Plf) := [iL, dr]
def dC : Tr Plf :=
 .split (.eql (.sel CI 0) (.c 1)) (
 .split lN (
 .split (.sel ZQ 1) (
 .split (.eql (.sel VE 0) (.c 1)) (
 .split (.eql (.sel VE 1) (.c 0)) (
 .split (.lss u7 (.c 0)) TZ (
 .split (.lss NT u7) TZ (
 .split (.eql (.sel TW 0) (.c 1)) (
 .split (.eql (.lenL (.sel VE 2)) (.lenL (.sel CI 12))) (
 .split (.eql (.sel Po 0) (.c 1)) (
 .leaf (.done 1 [(.sel CI 1), (.sel CI 2), (.sel CI 3), (.sel CI 4), (.sel CI 5), (.sel CI 6), (.sel CI 7), (.sel Po 1), (.sel Po 2), (.sel Po 3), (.sel CI 11), (.sel VE 2), (.sel CI 13), (.sel TW 4), (.sel Po 4), (.sel Po 5), (.sel Po 6), (.sel Po 7)])) x8) x8) x8))) TZ) x8) TZ) x8) (
 .split (.eql (.sel CI 0) (.c 2)) (
 .split lN (
 .split (.eql (.sel CI 1) (.c 0)) (
 .split (.sel ZQ 1) x8 TZ) TZ) x8) x8)
def t29 : List (Tr Plf) := [dC]
def iy : Tr Plf :=
 .split (.lss x4 (.c 1)) x19 (
 .split (.lss (.c 32) x4) x19 (
 .split (.eql ZS (.c 95)) x19 (
 .split (.lss ZS (.c 48)) gm (
 .split (.lss (.c 57) ZS) gm x19))))
def bJ : Tr Plf :=
 .split (.lss u1 x4) (
 .split x30 x8 (
 .split (.lss Qx (.c 97)) (
 .split (.lss Qx (.c 65)) (
 .split (.lss Qx (.c 48)) x19 (
 .split (.lss (.c 57) Qx) x19 Yb)) (
 .split (.lss (.c 90) Qx) (
 .split (.eql Qx (.c 95)) Yb x19) Yb)) (
 .split (.lss (.c 122) Qx) x19 Yb))) x1
def t30 : List (Tr Plf) := [iy, bJ]
def kX : Tr Plf :=
 .leaf ae
def eQ : Tr Plf :=
 .split x41 (
 .split x30 x8 (
 .split (.eqSS x42 u0) x32 x46)) x35
def t31 : List (Tr Plf) := [kX, eQ]
def gz : Tr Plf :=
 .leaf ae
def eE : Tr Plf :=
 .split x47 (
 .split x30 x8 (
 .split (.eqSS x48 u0) x32 x46)) x35
def t32 : List (Tr Plf) := [gz, eE]
def hP : Tr Plf :=
 .split Xw x8 (
 .split (.lss u4 x3) (
 .split (.eql (.sel Z4 0) (.c 1)) (
 .split (.lss (.sel Z4 1) (.c 0)) x19 (
 .split (.eql (.sel jN 0) (.c 1)) (
 .split (.lss (.sel jN 1) (.c 0)) x19 (
 .split (.eqS ZI 0 0) (
 .split (.eql VV (.c 0)) (
 .split (.eql WA (.c 0)) (
 .split (.eql Th (.c 0)) kK x19) x19) x19) (
 .split (.eql (.sel Xn 0) (.c 1)) (
 .split (.lss (.sel Xn 1) (.c 0)) x19 (
 .split (.lss VV (.c 0)) x19 (
 .split (.lss WA VV) x19 (
 .split (.lss (.sel Xn 1) x0) (
 .split (.lss lJ WA) x19 (
 .split (.lss Th (.c (-1000))) x19 (
 .split (.lss (.c 1000) Th) x19 (
 .split (.lss (.arith .add .i64 VV Th) (.c 0)) x19 (
 .split (.lss lJ (.arith .add .i64 WA Th)) x19 kK))))) x8)))) x8))) x8)) x8) x8)
def fF : Tr Plf :=
 .split (.lss u2 u0) (
 .split x20 x8 (
 .split Yg (
 .split (.and (.eqSS Tl u7) (.and (.eqSS PM u8) (.and (.eql (.cell u6 u2 2) u9) (.and (.eqSS (.cell u6 u2 3) u10) (.and (.eqSS (.cell u6 u2 4) u11) (.and (.eqSS (.cell u6 u2 5) u12) (.and (.eql (.cell u6 u2 6) u13) (.and (.eql (.cell u6 u2 7) u14) (.eql (.cell u6 u2 8) u15))))))))) x19 (
 .leaf (.next 1 ([u0, u1, x26] ++ us 3 13)))) x8)) (
 .split (.eql u9 (.c 1)) gp (
 .split (.eql u9 (.c 2)) gp (
 .split (.eql u9 (.c 3)) (
 .split (.eqS u10 0 0) (
 .split (.eqS u11 0 0) (
 .split x30 x8 (
 .split x41 (
 .leaf (.done 0 [(.lss (.c 0) (.cell u4 u1 2))])) x8)) x19) x19) (
 .split (.eql u9 (.c 4)) (
 .split (.eqS u10 0 0) (
 .leaf (.done 0 [(.eqS u11 0 0)])) x19) x19))))
def t33 : List (Tr Plf) := [hP, fF]
def jT : Tr Plf :=
 .split (.eql (.sel ca 0) (.c 1)) (
 .split (.sel ca 1) (
 .split (.lss (.c 4) x0) (
 .leaf (.done 0 [(.c 4), (.c 291)])) x5) x91) x8
def eu : Tr Plf :=
 .split x6 (
 .split x7 x8 (
 .split (.eql (.sel jR 0) (.c 1)) (
 .split (.sel jR 1) (
 .split (.eql (.sel jQ 0) (.c 1)) (
 .split (.eql (.sel jQ 1) u0) (
 .split (.lss Uh (.c 1)) Xv (
 .split (.lss (.c 1000) Uh) Xv x11)) Xv) x8) Xv) x8)) (
 .split (.eql x0 (.c 0)) (
 .leaf (.done 0 [(.c 0), (.c 292)])) (
 .split (.lss (.c 24) x0) (
 .leaf (.done 0 [(.c 24), (.c 292)])) x12))
def gh : Tr Plf :=
 .split x13 (
 .split x7 x8 (
 .split (.eql (.sel fb 0) (.c 1)) (
 .split (.sel fb 1) (
 .split (.eql (.sel kW 0) (.c 1)) (
 .split (.eql (.sel kW 1) u0) (
 .split (.lss iY (.c 0)) W3 (
 .split (.lss (.c 1048576) iY) W3 x15)) W3) x8) W3) x8)) (
 .split (.lss (.c 80) x17) (
 .leaf (.done 0 [(.c 80), (.c 293)])) x16)
def gx : Tr Plf :=
 .split (.lss u0 x17) (
 .split (.eql (.sel fI 0) (.c 1)) (
 .split (.sel fI 1) x18 (
 .leaf (.done 0 [u0, (.c 293)]))) x8) x90
def t34 : List (Tr Plf) := [jT, eu, gh, gx]
def ga : Tr Plf :=
 .split (.lss (.c 4) x21) WD (
 .leaf (.next 1 [u0, (.c 0), .nilL, (.bc true), .nilL, (.bc true)]))
def iZ : Tr Plf :=
 .split x29 (
 .split x30 x8 (
 .split (.eqS x31 0 0) WD (
 .split (.lss x52 (.c 1)) WD (
 .split (.lss (.c 1000) x52) WD (
 .leaf (.next 2 [u0, u1, (.c 0), u2, u3, u4, u5])))))) (
 .leaf (.done 0 [(.nilIs u2 u3), (.nilIs u4 u5), (.c 0)]))
def jw : Tr Plf :=
 .split (.lss u2 u1) (
 .split x20 x8 (
 .split x22 (
 .split x30 x8 (
 .split x29 (
 .split (.eqSS x23 x31) WD (
 .leaf (.next 2 [u0, u1, x26, u3, u4, u5, u6]))) x8)) x8)) (
 .split x30 x8 (
 .split x29 (
 .split Xo (
 .split (.lss x53 x93) (
 .leaf (.next 1 [u0, x33, (.snoc u3 (rl [x31, x52])), (.bc false), (.snoc u5 x94), (.bc false)])) x8) x8) x8))
def t35 : List (Tr Plf) := [ga, iZ, jw]
def kj : Tr Plf :=
 .split (.eql (.sel (.app 34 Kk) 0) (.c 1)) (
 .split (.eql (.sel (.app 34 Kk) 2) (.c 0)) (
 .split (.eql (.sel (.app 35 Jw) 0) (.c 1)) (
 .split (.lss (.c 0) x2) (
 .leaf (.done 0 [u0, u1, u2, u3, (.cell u1 (.c 0) 0), (.sel (.app 35 Jw) 1), (.sel (.app 35 Jw) 2), (.c 0)])) x8) x8) (
 .leaf (.done 0 [(.strc 0 0), .nilL, .nilL, .nilL, (.strc 0 0), .nilL, .nilL, (.sel (.app 34 Kk) 2)]))) x8
def t36 : List (Tr Plf) := [kj]
def i8 : Tr Plf :=
 .leaf ae
def lP : Tr Plf :=
 .split x47 (
 .split x30 x8 (
 .split (.eqSS x48 u0) (
 .leaf (.done 0 [x48, (.cell u3 u1 1), x51])) x46)) (
 .leaf (.done 0 [(.strc 0 0), (.bc false), (.c 0)]))
def t37 : List (Tr Plf) := [i8, lP]
def cy : Tr Plf :=
 .split (.eql x0 x2) (
 .leaf cj) (
 .leaf (.done 0 [u0, u1, (.c 2)]))
def eH : Tr Plf :=
 .split x29 (
 .split x30 x8 (
 .split (.lss x31 (.c 0)) f9 (
 .split (.lss u1 x0) (
 .split (.lss (.cell u2 u1 1) x31) f9 jK) x8))) (
 .split (.lss x21 (.c 1048576)) (
 .leaf (.done 0 [u2, (.nilIs (.cat .emptyL u0) (.bc false)), (.c 0)])) x8)
def t38 : List (Tr Plf) := [cy, eH]
def gQ : Tr Plf :=
 .split (.eql (.sel OQ 0) (.c 1)) (
 .split (.eql (.sel OQ 8) (.c 0)) (
 .split ZL (
 .split (.eqSS (.sel (.app 37 Wn) 1) u4) (
 .split (.eqS u4 0 0) TA (
 .split (.lss u6 (.c 0)) TA (
 .split (.lss NT u6) TA (
 .split (.eql (.sel Yi 0) (.c 1)) (
 .split (.eql (.sel Yi 3) (.c 0)) (
 .leaf (.done 0 [(.sel OQ 1), (.sel OQ 2), (.sel OQ 3), (.sel OQ 4), u4, u6, (.sel Yi 1), (.sel Yi 2), u6, (.c 0)])) TA) x8)))) TA) x8) TA) x8
def t39 : List (Tr Plf) := [gQ]
def cp : Tr Plf :=
 .split (.eql x21 x0) (
 .leaf (.next 1 [u0, u1, u2, (.c 0)])) x19
def bQ : Tr Plf :=
 .split (.lss u3 x21) (
 .split Ye x8 (
 .split (.lss u3 x0) (
 .split (.eql lS (.cell u2 u3 0)) (
 .leaf (.next 1 [u0, u1, u2, OG])) x19) x8)) x1
def t40 : List (Tr Plf) := [cp, bQ]
def lY : Tr Plf :=
 .leaf (.done 0 [u9])
def t41 : List (Tr Plf) := [lY]
def de : Tr Plf :=
 .leaf (.done 0 [u10])
def t42 : List (Tr Plf) := [de]
def ej : Tr Plf :=
 .leaf (.done 0 [u12])
def t43 : List (Tr Plf) := [ej]
def dB : Tr Plf :=
 .split (.eql (.sel WX 0) (.c 1)) (
 .split (.lss (.sel WX 1) (.c 0)) Td (
 .split (.lss (.sel WX 1) x21) (
 .leaf (.done 0 [(.cell u0 (.sel WX 1) 2), (.c 0)])) x8)) x8
def t44 : List (Tr Plf) := [dB]
def dS : Tr Plf :=
 .split Xs aX (
 .split (.eql (.sel (.app 44 OM) 0) (.c 1)) (
 .split (.eql (.sel (.app 44 OM) 2) (.c 0)) (
 .split g9 (
 .split (.lss QE (.c 0)) x8 (
 .split (.lss QE x21) (
 .split (.lss XY u8) OE (
 .split (.lss u9 XY) OE (
 .split (.lss u10 (.arith .sub .i64 (.c 0) XY)) OE (
 .leaf (.done 0 [(.neg (.lss (.arith .sub .i64 (.cell u0 QE 1) XY) u10)), (.c 0)]))))) x8)) x8) (
 .leaf (.done 0 [(.bc false), (.sel (.app 44 OM) 2)]))) x8)
def t45 : List (Tr Plf) := [dS]
def cA : Tr Plf :=
 .leaf li
def jo : Tr Plf :=
 .split aq gv x1
def t46 : List (Tr Plf) := [cA, jo]
def cM : Tr Plf :=
 .leaf (.next 1 ([.nilL, (.bc true), u0, u1, (.c 0), u21] ++ us 4 9 ++ [u18, u19, u20, u2, u3, u13, u15, u16, u17, u14]))
def ip : Tr Plf :=
 .split x99 (
 .split Xw x8 (
 .split (.eql ZV (.c 3)) (
 .split (.eql (.sel bW 0) (.c 1)) (
 .split (.sel bW 1) (
 .split (.lss x21 x93) (
 .leaf (.next 1 [(.snoc u0 jk), (.bc false), u2, u3, WO, u5, u6, u7, u8, u9, u10, u11, u12, u13, u14, u15, u16, u17, u18, u19, u20, u21, u22, u23, u24])) x8) da) x8) da)) gG
def t47 : List (Tr Plf) := [cM, ip]
def fN : Tr Plf :=
 .split (.eql (.sel (.app 16 Tb) 0) (.c 1)) (
 .split (.eql (.sel jJ 0) (.c 1)) (
 .split (.eql (.lenL (.sel jJ 1)) (.c 0)) Td (
 .split u17 (
 .leaf (.done 0 [u12, (.c 0)])) (
 .split (.eql (.sel (.app 16 Tb) 2) (.c 0)) (
 .leaf (.done 0 [(.arith .add .i64 u12 (.sel (.app 16 Tb) 1)), (.c 0)])) Td))) x8) x8
def t48 : List (Tr Plf) := [fN]
def ju : Tr Plf :=
 .leaf cj
def bY : Tr Plf :=
 .split (.lss u1 x0) (
 .split x30 x8 (
 .split (.eqSS (.cell u2 u1 0) u0) x32 jK)) x35
def t49 : List (Tr Plf) := [ju, bY]
def dt : Tr Plf :=
 .split Xs aX (
 .split dz (
 .split (.lss N7 (.c 0)) (
 .leaf (.done 0 [(.bc false), (.c 9)])) (
 .split (.lss N7 x21) (
 .split (.lss N7 x2) (
 .split (.lss ay u8) OE (
 .split (.lss u9 ay) OE (
 .split (.lss u10 (.c (-1000))) OE (
 .split (.lss (.c 1000) u10) OE (
 .split (.lss mb (.c 0)) OE (
 .split (.lss (.cell u0 N7 1) mb) OE aX)))))) x8) x8)) x8)
def t50 : List (Tr Plf) := [dt]
def kA : Tr Plf :=
 .split (.lss u11 (.c 0)) x8 (
 .split (.lss u11 x3) (
 .split (.eql (.sel (.app 50 Vi) 0) (.c 1)) (
 .split (.eqSS kB u4) (
 .split (.sel (.app 50 Vi) 1) (
 .split (.eql gq (.c 3)) (
 .split ZL (
 .leaf (.done 0 [(.neg (.lss (.arith .sub .i64 u10 u5) (.sel (.app 37 Wn) 3)))])) x8) x1) x19) x19) x8) x8)
def t51 : List (Tr Plf) := [kA]
def ii : Tr Plf :=
 .split ZL (
 .split (.lss gi u8) (
 .leaf (.next 1 ([u8, (.c 0)] ++ us 0 10))) (
 .leaf (.next 1 ([gi, (.c 0)] ++ us 0 10)))) x8
def lz : Tr Plf :=
 .split (.lss u1 x53) (
 .split x30 x8 (
 .split (.eql x54 (.c 3)) (
 .split (.lss NT u0) Zw (
 .split (.eql (.sel f5 0) (.c 1)) (
 .split (.sel f5 1) (
 .leaf (.done 0 [u0, (.c 0)])) Zw) x8)) Zw)) Td
def t52 : List (Tr Plf) := [ii, lz]
def bM : Tr Plf :=
 .split u1 x97 x98
def t53 : List (Tr Plf) := [bM]
def j6 : Tr Plf :=
 .leaf (.next 1 ([u12, u13, (.c 0)] ++ us 0 12))
def bN : Tr Plf :=
 .split x22 (
 .split x20 x8 (
 .split (.eql u2 u14) (
 .split (.lss u14 (.lenL u12)) (
 .split (.lss u14 (.c 0)) x8 (
 .split (.eql x23 (.cell u12 u14 0)) (
 .split (.eql ZB (.cell u12 u14 1)) (
 .leaf (.next 1 [u0, u1, x26, u3, u4, u5, u6, u7, u8, u9, u10, u11, u12, u13, (.arith .add .i64 u14 (.c 1))])) XN) XN)) XN) XN)) (
 .leaf (.done 1 [u14]))
def t54 : List (Tr Plf) := [j6, bN]
def cS : Tr Plf :=
 .split (.eqSS u9 u24) (
 .split (.eql (.sel bA 0) (.c 1)) (
 .split u10 (
 .split (.sel bA 2) ik x19) (
 .split (.sel bA 2) x19 ik)) x8) x19
def cZ : Tr Plf :=
 .split (.lss u0 (.lenL u27)) (
 .split x7 x8 (
 .split (.eql (.sel Zu 0) (.c 1)) (
 .split (.lss u0 (.lenL u28)) (
 .split (.eql (.sel Zu 1) (.cell u28 u0 0)) (
 .split (.eql (.sel Zu 2) (.c 0)) Wg x19) x19) x8) x8)) (
 .split (.eql (.sel Z5 0) (.c 1)) (
 .split (.eql (.sel Zy 0) (.c 1)) (
 .split (.eql (.sel Z5 1) (.sel Zy 1)) (
 .split (.eql (.sel Z5 2) (.sel Zy 2)) (
 .split (.eql (.sel ZD 0) (.c 1)) (
 .split (.eql (.sel bq 0) (.c 1)) x19 (
 .split (.eql (.sel bq 0) (.c 2)) (
 .leaf (.done 0 [(.eql (.sel bq 1) (.lenL u30))])) x8)) x8) x19) x19) x8) x8)
def t55 : List (Tr Plf) := [cS, cZ]
def fL : Tr Plf :=
 .split u1 (
 .leaf (.done 0 [(.bc true), .emptyL])) (
 .leaf (.done 0 [(.bc false), u0]))
def t56 : List (Tr Plf) := [fL]
def jS : Tr Plf :=
 .split u1 x97 x98
def t57 : List (Tr Plf) := [jS]
def lI : Tr Plf :=
 .split u2 (
 .split b7 (
 .leaf (.done 0 [u0, (.bc true), (.sel Uj 1), (.sel Uj 2), .emptyL])) x8) (
 .split b7 (
 .leaf (.done 0 [u0, (.bc false), (.sel Uj 1), (.sel Uj 2), u1])) x8)
def t58 : List (Tr Plf) := [lI]
def kU : Tr Plf :=
 .split u1 x97 x98
def t59 : List (Tr Plf) := [kU]
def cX : Tr Plf :=
 .leaf li
def lV : Tr Plf :=
 .split aq gv x1
def t60 : List (Tr Plf) := [cX, lV]
def fV : Tr Plf :=
 .leaf (.next 1 ([u23, u24, (.c 0), u0, u1, u22] ++ us 4 10 ++ [u19, u20, u21, u2, u3, u14, u16, u17, u18, u15, u25]))
def eA : Tr Plf :=
 .split x22 (
 .split x20 x8 (
 .split (.eqSS x23 u26) (
 .split (.eql (.sel b9 0) (.c 1)) (
 .split (.sel b9 1) (
 .split Xo (
 .leaf (.next 1 [u0, u1, x26, (.snoc u3 aT), (.bc false), u5, u6, u7, u8, u9, u10, u11, u12, u13, u14, u15, u16, u17, u18, u19, u20, u21, u22, u23, u24, u25, u26])) x8) cU) x8) cU)) PK
def t61 : List (Tr Plf) := [fV, eA]
def iH : Tr Plf :=
 .split aU ir (
 .split bf ir (
 .split Yl (
 .split aN (
 .split u17 (
 .split XI (
 .split (.eql (.sel bi 0) (.c 1)) (
 .leaf (.done 0 [(.sel bi 1), (.sel bi 2), (.c 0), (.bc true), Kg, Iu, Kj, Kh, Kb])) x8) x8) (
 .split XI (
 .split (.eql (.sel bp 0) (.c 1)) (
 .leaf (.done 0 [(.sel bp 1), (.sel bp 2), (.c 0), Rs, Kg, Iu, Kj, Kh, Kb])) x8) x8)) x8) x8))
def t62 : List (Tr Plf) := [iH]
def eW : Tr Plf :=
 .split bF fQ (
 .split bj fQ (
 .leaf (.next 1 ([u10, .nilL, (.bc true), (.c 0)] ++ us 0 8 ++ [u9]))))
def iU : Tr Plf :=
 .split (.lss u3 T1) (
 .split (.eql (.sel cD 0) (.c 1)) (
 .split (.sel cD 1) (
 .split (.lss x2 x93) (
 .leaf (.next 1 [u0, (.snoc u1 x84), (.bc false), OG, u4, u5, u6, u7, u8, u9, u10, u11, u12])) x8) (
 .leaf (.next 1 ([u0, u1, u2, OG] ++ us 4 9)))) x8) (
 .leaf (.done 0 (us 4 8 ++ [u0, u12, u1, u2, (.c 0)])))
def t63 : List (Tr Plf) := [eW, iU]
def l5 : Tr Plf :=
 .split (.eql x21 x0) (
 .leaf (.next 1 [u0, u1, u2, u3, (.c 0)])) x19
def kT : Tr Plf :=
 .split (.lss u4 x21) (
 .split Xw x8 (
 .split x99 (
 .split (.eql (.cell u0 u4 0) Xu) (
 .leaf (.next 1 [u0, u1, u2, u3, WO])) x19) x8)) x1
def t64 : List (Tr Plf) := [l5, kT]
def fA : Tr Plf :=
 .leaf (.next 1 ([(.c 0)] ++ us 2 10 ++ [u17, u18, u19, u0, u1, u12, u14, u15, u16, u13, u20, u22, u23, u24, u21] ++ us 26 9 ++ [u25]))
def ma : Tr Plf :=
 .split aq (
 .split (.eql u0 (.c 0)) (
 .split (.eqSS u26 u8) Ym x19) (
 .split (.eql u0 (.c 1)) (
 .split (.eql (.sel eP 0) (.c 1)) (
 .split (.sel eP 1) Ym x19) x8) (
 .split (.eql u0 (.c 2)) (
 .split (.eql u28 (.c 3)) (
 .split u35 Ym x19) Ym) x8))) x1
def t65 : List (Tr Plf) := [fA, ma]
def lK : Tr Plf :=
 .split (.eql (.sel (.app 45 O8) 0) (.c 1)) (
 .split (.eql (.sel (.app 45 O8) 2) (.c 0)) (
 .split (.sel (.app 45 O8) 1) (
 .split Xs (
 .leaf (.done 0 [(.c 0), u0])) (
 .split g9 (
 .split (.lss QE (.c 0)) x8 (
 .split (.lss QE x21) (
 .leaf (.done 0 [(.c 0), (.upd u0 QE 2 (.arith .add .i64 (.cell u0 QE 2) u10))])) x8)) x8)) (
 .leaf (.done 0 [(.c 8), u0]))) (
 .leaf (.done 0 [(.sel (.app 45 O8) 2), u0]))) x8
def t66 : List (Tr Plf) := [lK]
def iP : Tr Plf :=
 .split (.lss (.lenL u18) (.c 100000)) (
 .split (.lss u27 (.c 0)) x8 (
 .split (.lss u27 T1) (
 .split (.eql (.sel W7 0) (.c 1)) (
 .split (.eql (.lenL (.sel W7 2)) x21) (
 .split (.eql (.sel PT 0) (.c 1)) (
 .leaf (.done 0 [(.sel PT 1), (.sel PT 2), (.sel PT 3), (.snoc u18 (rl [u27, u26])), (.bc false), (.sel W7 2), u1, u12, u14, u15, u16, u13, u20, (.sel PT 4), (.sel PT 5), (.sel PT 6), (.sel PT 7)])) x8) x8) x8) x8)) x8
def t67 : List (Tr Plf) := [iP]
def b8 : Tr Plf :=
 .split (.lss u21 (.c 0)) kh (
 .split (.lss u21 T1) (
 .split aU gc (
 .split bf gc (
 .split Yl (
 .split aN (
 .split u17 (
 .split (.eql (.sel fE 0) (.c 1)) (
 .split (.sel fE 1) (
 .split (.eql (.sel Jj 0) (.c 1)) (
 .leaf (.done 0 [(.c 0), (.sel Jj 1), (.sel Jj 2), (.sel Jj 3), (.bc false), (.sel Jj 4), (.sel Jj 5), (.sel Jj 6), (.sel Jj 7), (.sel Jj 13), (.sel Jj 14), (.sel Jj 15), (.sel Jj 16), (.sel Jj 17)])) x8) (
 .leaf (.done 0 [(.c 8), u9, u10, u11, (.bc true), u18, u19, u0, u1, u12, u14, u15, u16, u13]))) x8) (
 .split (.eql (.sel lx 0) (.c 1)) (
 .split (.sel lx 1) (
 .split (.eql (.sel I1 0) (.c 1)) (
 .leaf (.done 0 [(.c 0), (.sel I1 1), (.sel I1 2), (.sel I1 3), (.bc false), (.sel I1 4), (.sel I1 5), (.sel I1 6), (.sel I1 7), (.sel I1 13), (.sel I1 14), (.sel I1 15), (.sel I1 16), (.sel I1 17)])) x8) (
 .leaf (.done 0 [(.c 8), u9, u10, u11, (.bc false), u18, u19, u0, u1, u12, u14, u15, u16, u13]))) x8)) x8) x8))) kh)
def t68 : List (Tr Plf) := [b8]
def iA : Tr Plf :=
 .split (.eql (.sel (.app 50 O8) 0) (.c 1)) (
 .split (.eql (.sel (.app 50 O8) 2) (.c 0)) (
 .split (.sel (.app 50 O8) 1) (
 .split Xs (
 .leaf (.done 0 [u0, u1, (.c 0)])) (
 .split dz (
 .split (.lss x2 (.c 1048576)) (
 .split (.lss N7 (.c 0)) x8 (
 .split (.lss N7 (.lenL bI)) (
 .leaf (.done 0 [u0, (.nilIs (.upd bI N7 0 (.arith .add .i64 (.cell bI N7 0) u10)) (.bc false)), (.c 0)])) x8)) x8) x8)) (
 .leaf (.done 0 [u0, u1, (.c 8)]))) (
 .leaf (.done 0 [u0, u1, (.sel (.app 50 O8) 2)]))) x8
def t69 : List (Tr Plf) := [iA]
def eY : Tr Plf :=
 .split (.lss u11 (.c 0)) lQ (
 .split (.lss u11 x3) (
 .split bF fg (
 .split bj fg (
 .split (.eql (.sel j2 0) (.c 1)) (
 .split (.sel j2 1) (
 .split (.eql (.sel (.app 69 Vi) 0) (.c 1)) (
 .split (.lss (.lenL u9) (.c 1048576)) (
 .split (.lss (.lenL (.cat .emptyL u9)) x93) (
 .leaf (.done 0 [u0, u1, u2, u3, dO, u10, (.sel (.app 69 Vi) 1), (.sel (.app 69 Vi) 2), u10, (.nilIs (.snoc (.cat .emptyL u9) (.rcons u11 Vw)) (.bc false)), (.c 0)])) x8) x8) x8) (
 .leaf (.done 0 (us 0 10 ++ [(.c 8)])))) x8))) lQ)
def t70 : List (Tr Plf) := [eY]
def kY : Tr Plf :=
 .leaf (.next 1 ([u29, u30, (.c 0), u0, u1, u2, u28] ++ us 5 10 ++ [u20, u21, u22, u3, u4, u15, u17, u18, u19, u16, u23, u25, u26, u27, u24, u31]))
def mc : Tr Plf :=
 .split x22 (
 .split x20 x8 (
 .split (.eqSS x23 u32) (
 .split (.eql Xq (.c 2)) (
 .split (.eqSS XU u3) (
 .split (.eqSS W5 u4) (
 .split (.eql (.sel iM 0) (.c 1)) (
 .split (.sel iM 1) x38 VO) x8) VO) VO) VO) VO)) (
 .leaf (.done 1 []))
def t71 : List (Tr Plf) := [kY, mc]
def dM : Tr Plf :=
 .split aU fZ (
 .split bf fZ (
 .split Yl (
 .split aN (
 .split u17 (
 .split XI (
 .split (.eql (.sel UK 0) (.c 1)) (
 .split (.lss (.sel UK 1) (.c 0)) cN (
 .split (.eql (.sel Ji 0) (.c 1)) (
 .leaf (.done 0 [(.sel UK 1), (.c 0), (.sel Ji 1), (.sel Ji 2), (.sel Ji 3), (.bc false), (.sel Ji 4), (.sel Ji 5), (.sel Ji 6), (.sel Ji 7), (.sel Ji 13), (.sel Ji 14), (.sel Ji 15), (.sel Ji 16), (.sel Ji 17)])) x8)) (
 .split (.eql (.sel UK 0) (.c 2)) cN x8)) x8) (
 .split XI (
 .split (.eql (.sel U2 0) (.c 1)) (
 .split (.lss (.sel U2 1) (.c 0)) kc (
 .split (.eql (.sel Jn 0) (.c 1)) (
 .leaf (.done 0 [(.sel U2 1), (.c 0), (.sel Jn 1), (.sel Jn 2), (.sel Jn 3), (.bc false), (.sel Jn 4), (.sel Jn 5), (.sel Jn 6), (.sel Jn 7), (.sel Jn 13), (.sel Jn 14), (.sel Jn 15), (.sel Jn 16), (.sel Jn 17)])) x8)) (
 .split (.eql (.sel U2 0) (.c 2)) kc x8)) x8)) x8) x8))
def t72 : List (Tr Plf) := [dM]
def fa : Tr Plf :=
 .split bF fG (
 .split bj fG (
 .leaf (.next 1 ([u10, u11, u12, (.c 0)] ++ us 0 10))))
def ek : Tr Plf :=
 .split (.lss u3 T1) (
 .split Ye x8 (
 .split (.eql (.cell u7 u3 2) (.c 2)) (
 .split (.eqSS (.cell u7 u3 3) u1) (
 .split (.eqSS (.cell u7 u3 4) u2) (
 .split (.eql (.sel (.app 51 Zt) 0) (.c 1)) (
 .split (.sel (.app 51 Zt) 1) (
 .split (.eql (.sel KH 0) (.c 1)) (
 .leaf (.done 0 [(.sel KH 1), (.sel KH 2), (.sel KH 3), (.sel KH 4), (.sel KH 5), (.sel KH 6), (.sel KH 7), (.sel KH 8), (.sel KH 9), (.sel KH 10), u3, (.c 0)])) x8) Yn) x8) Yn) Yn) Yn)) (
 .leaf (.done 0 (us 4 10 ++ [(.c 0), (.c 9)])))
def t73 : List (Tr Plf) := [fa, ek]
def fW : Tr Plf :=
 .split u1 x97 x98
def t74 : List (Tr Plf) := [fW]
def gu : Tr Plf :=
 .split gH (
 .leaf (.done 0 [(.sel (.app 74 Lb) 1), (.sel (.app 74 Lb) 2)])) x8
def t75 : List (Tr Plf) := [gu]
def kO : Tr Plf :=
 .split (.eql (.sel (.app 75 Lb) 0) (.c 1)) (
 .split Yl (
 .split (.eql (.sel Z7 0) (.c 1)) (
 .leaf (.done 0 [u3, u5, u7, u2, u4, u6, u8, u9, u10, u11, u17, (.sel Z7 1), (.sel Z7 2), (.sel (.app 75 Lb) 1), (.sel (.app 75 Lb) 2), (.sel Mk 1), Iu, (.sel Mk 3), (.sel Mk 4), (.sel Mk 5)])) x8) x8) x8
def t76 : List (Tr Plf) := [kO]
def i5 : Tr Plf :=
 .split (.eql u30 (.c 0)) gI (
 .split (.eql u30 (.c 1)) gI (
 .split (.eql u30 (.c 2)) br (
 .split (.eql u30 (.c 3)) br (
 .split (.eql u30 (.c 4)) br (
 .split (.eql u30 (.c 5)) iw (
 .split (.eql u30 (.c 6)) iw (
 .split (.eql u30 (.c 7)) (
 .split (.eql (.sel Dt 0) (.c 1)) (
 .split (.eql (.lenL (.sel Dt 2)) x53) (
 .split (.eql (.lenL (.sel Dt 1)) x3) (
 .split (.eql (.lenL (.sel Dt 3)) T1) (
 .split (.eql (.sel Rj 0) (.c 1)) (
 .leaf (.next 1 [(.c 0), u2, (.sel Dt 1), u4, (.sel Dt 2), u6, (.sel Dt 3), u8, u9, u10, u11, (.sel Rj 4), u18, u19, u0, u1, u20, u21, u22, u23, u24, u25, u26, u27, u28, u29, (.sel Dt 4), (.sel Dt 5), (.sel Dt 6), (.sel Dt 7), (.sel Dt 8), (.sel Dt 9), (.sel Dt 10), (.sel Dt 11), (.sel Dt 12), (.sel Dt 13), (.sel Dt 14), (.sel Dt 15), (.sel Dt 16), (.sel Dt 17), (.sel Dt 18), (.sel Dt 19), (.sel Dt 20), (.sel Rj 5), (.sel Rj 6), (.sel Rj 7), (.sel Rj 8), (.sel Rj 9)])) x8) x8) x8) x8) x8) (
 .split (.eql (.sel eK 0) (.c 1)) (
 .split (.eql (.sel BQ 0) (.c 1)) (
 .split (.eql (.sel CN 0) (.c 1)) (
 .split (.eql (.sel BQ 1) (.sel CN 11)) (
 .split (.eql (.sel jU 0) (.c 1)) (
 .leaf (.done 0 [(.sel CN 1), (.sel CN 2), (.sel CN 3), (.sel CN 4), (.sel CN 5), (.sel CN 6), (.sel CN 7), (.sel CN 8), (.sel CN 9), (.sel CN 10), (.sel jU 1), u3, u5, u7, (.sel BQ 10), (.sel BQ 11), (.sel BQ 12), (.sel BQ 13), (.sel BQ 14), (.sel BQ 6), u2, u4, u6, u8, (.sel BQ 2), (.sel BQ 3), (.sel BQ 4), (.sel BQ 5), (.sel BQ 7), (.sel BQ 8), (.sel BQ 9)])) x8) (
 .leaf (.done 0 [(.sel CN 1), (.sel CN 2), (.sel CN 3), (.sel CN 4), (.sel CN 5), (.sel CN 6), (.sel CN 7), (.sel CN 8), (.sel CN 9), (.sel CN 10), (.bc false), u3, u5, u7, (.sel BQ 10), (.sel BQ 11), (.sel BQ 12), (.sel BQ 13), (.sel BQ 14), (.sel BQ 6), u2, u4, u6, u8, (.sel BQ 2), (.sel BQ 3), (.sel BQ 4), (.sel BQ 5), (.sel BQ 7), (.sel BQ 8), (.sel BQ 9)]))) x8) x8) x8))))))))
def lh : Tr Plf :=
 .split (.lss u0 (.lenL u19)) (
 .split (.eql (.sel IU 0) (.c 1)) (
 .leaf (.next 1 [x10, u1, u2, u3, u4, u5, u6, u7, (.sel IU 2), (.sel IU 3), (.sel IU 4), (.sel IU 5), (.sel IU 6), (.sel IU 7), (.sel IU 8), (.sel IU 9), u16, u17, u18, u19, u20, u21, u22, u23, u24, u25, u26, u27, u28, u29, u30, u31, u32, u33, u34, u35, u36, u37, u38, u39, u40, u41, u42, (.sel IU 10), (.sel IU 11), (.sel IU 12), (.sel IU 13), (.sel IU 14)])) x8) (
 .split (.eql (.sel iQ 0) (.c 1)) (
 .leaf (.done 0 [u16, u17, u18, u19, u20, u21, u22, u23, u24, u25, (.sel iQ 1), u2, u4, u6, u38, u39, u40, u41, u42, u34, u26, u27, u28, u29, u30, u31, u32, u33, u35, u36, u37])) x8)
def t77 : List (Tr Plf) := [i5, lh]
def bT : Tr Plf :=
 .leaf dY
def gT : Tr Plf :=
 .split x22 (
 .split x20 x8 (
 .split Xo (
 .leaf (.next 1 [u0, u1, x26, (.snoc u3 (rl [Xq])), (.bc false)])) x8)) PK
def t78 : List (Tr Plf) := [bT, gT]
def eI : Tr Plf :=
 .split gH (
 .split (.eql (.sel ZE 0) (.c 1)) (
 .leaf (.done 0 [(.sel ZE 1), (.sel ZE 2)])) x8) x8
def t79 : List (Tr Plf) := [eI]
def gM : Tr Plf :=
 .split (.eql (.sel (.app 79 Lb) 0) (.c 1)) (
 .leaf (.done 0 [u9, (.sel (.app 79 Lb) 1), (.sel (.app 79 Lb) 2)])) x8
def t80 : List (Tr Plf) := [gM]
def jM : Tr Plf :=
 .split (.eql (.sel (.app 0 Kk) 0) (.c 1)) (
 .split (.sel (.app 0 Kk) 1) O1 (
 .split (.lss (.c 60) T1) O1 (
 .split (.lss (.c 10) x53) O1 (
 .split (.lss (.c 60) (.lenS u4)) O1 (
 .split (.eql (.sel FD 0) (.c 1)) (
 .split io (
 .split (.eql (.c 2) (.sel EH 10)) (
 .split kP x19 (
 .split dH (
 .split (.sel az 1) O1 x19) x8)) x19) x8) (
 .split (.eql (.sel FD 0) (.c 2)) (
 .split io (
 .split (.eql (.c 0) (.sel EH 10)) (
 .split kP (
 .split dH (
 .split (.sel az 1) (
 .split (.eql (.sel (.app 55 (.rcons (.c 0) (.rcons (.sel FD 12) (.rcons (.sel FD 13) (.rcons (.sel FD 1) (.rcons (.sel FD 2) (.rcons (.sel FD 3) (.rcons (.sel FD 4) (.rcons (.sel FD 5) (.rcons (.sel FD 6) (.rcons (.sel FD 7) (.rcons (.sel FD 8) (.rcons (.sel FD 9) (.rcons (.sel FD 10) (.rcons (.sel FD 14) (.rcons (.sel FD 18) (.rcons (.sel FD 15) (.rcons (.sel FD 16) (.rcons (.sel FD 17) (.rcons (.bc false) (.rcons (.sel FD 11) lG))))))))))))))))))))) 0) (.c 1)) (
 .leaf (.next 1 [u7, (.sel (.app 55 (.rcons (.c 0) (.rcons (.sel Cb 12) (.rcons (.sel Cb 13) (.rcons (.sel Cb 1) (.rcons (.sel Cb 2) (.rcons (.sel Cb 3) (.rcons (.sel Cb 4) (.rcons (.sel Cb 5) (.rcons (.sel Cb 6) (.rcons (.sel Cb 7) (.rcons (.sel Cb 8) (.rcons (.sel Cb 9) (.rcons (.sel Cb 10) (.rcons (.sel Cb 14) (.rcons (.sel Cb 18) (.rcons (.sel Cb 15) (.rcons (.sel Cb 16) (.rcons (.sel Cb 17) (.rcons (.bc false) (.rcons (.sel Cb 11) lG))))))))))))))))))))) 1), (.c 0), (.sel EH 1), (.sel EH 2), (.sel EH 3), (.sel EH 4), (.sel EH 5), (.sel EH 6), (.sel EH 7), (.sel EH 8), (.sel EH 9), .nilL, (.sel Cb 1), (.sel Cb 2), (.sel Cb 3), (.sel Cb 4), (.sel Cb 5), (.sel Cb 6), (.sel Cb 7), (.sel Cb 8), (.sel Cb 9), (.sel Cb 10), (.bc false), (.sel Cb 11), (.bc true), (.sel Cb 12), (.sel Cb 13), (.sel Cb 14), (.sel Cb 15), (.sel Cb 16), (.sel Cb 17), (.sel Cb 18)])) x8) x19) x8) x19) x19) x8) x8)))))) x8
def f4 : Tr Plf :=
 .split x22 (
 .split u1 (
 .split x20 x8 (
 .split (.lss (.c 60) (.lenS XU)) O1 (
 .split (.lss (.c 60) (.lenS W5)) O1 (
 .split (.eql (.sel Bl 0) (.c 1)) (
 .split (.eql (.sel Xk 0) (.c 1)) (
 .leaf (.next 2 [u0, (.sel Bl 11), u2, (.sel Bl 1), (.sel Bl 2), (.sel Bl 3), (.sel Bl 4), (.sel Bl 5), (.sel Bl 6), (.sel Bl 7), (.sel Bl 8), (.sel Bl 9), (.sel Bl 10), (.sel Xk 1), (.sel Xk 2), (.sel Xk 3), (.sel Bl 21), (.sel Bl 12), (.sel Bl 22), (.sel Bl 13), (.sel Bl 23), (.sel Bl 14), (.sel Bl 24), (.sel Bl 25), (.sel Bl 26), (.sel Bl 27), (.sel Bl 28), (.sel Bl 20), (.sel Bl 29), (.sel Bl 30), (.sel Bl 31), (.sel Bl 15), (.sel Bl 16), (.sel Bl 17), (.sel Bl 18), (.sel Bl 19)])) x8) x8)))) x19) (
 .split u1 (
 .split (.eql (.sel aC 0) (.c 1)) (
 .split (.eql (.sel ep 0) (.c 1)) (
 .split (.sel ep 1) O1 x19) x8) x8) x19)
def iq : Tr Plf :=
 .split u1 (
 .split (.eqSS u13 u7) (
 .split (.eql (.sel di 0) (.c 1)) (
 .leaf (.next 3 [u0, (.sel di 1), u2, (.c 0), u3, u4, u5, u6, u7, u8, u9, u10, u11, u12, u13, u14, u15, u16, u17, u18, u19, u20, u21, u22, u23, u24, u25, u26, u27, u28, u29, u30, u31, u32, u33, u34, u35])) x8) jH) jH
def g8 : Tr Plf :=
 .split (.lss u3 (.lenL u15)) (
 .split Ye x8 (
 .leaf (.next 3 [u0, u1, u2, OG, u4, u5, u6, u7, u8, u9, u10, u11, u12, u13, u14, (.upd u15 u3 0 (.c (-1))), u16, u17, u18, u19, u20, u21, u22, u23, u24, u25, u26, u27, u28, u29, u30, u31, u32, u33, u34, u35, u36]))) (
 .leaf (.next 1 ([u0, u1, x26] ++ us 4 10 ++ us 17 20)))
def t81 : List (Tr Plf) := [jM, f4, iq, g8]
def ts : List (List (Tr Plf)) := [t0, t1, t2, t3, t4, t5, t6, t7, t8, t9, t10, t11, t12, t13, t14, t15, t16, t17, t18, t19, t20, t21, t22, t23, t24, t25, t26, t27, t28, t29, t30, t31, t32, t33, t34, t35, t36, t37, t38, t39, t40, t41, t42, t43, t44, t45, t46, t47, t48, t49, t50, t51, t52, t53, t54, t55, t56, t57, t58, t59, t60, t61, t62, t63, t64, t65, t66, t67, t68, t69, t70, t71, t72, t73, t74, t75, t76, t77, t78, t79, t80, t81]
end Mb

