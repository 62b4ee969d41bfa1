/- What is stated: the trees of tests of the functions that the law MachineOwns reaches, as data. Conditions: none. -/
import Derived.Test.YthkffgljlhjggaaGreatBeF
set_option linter.unusedVariables false
set_option linter.unusedSectionVars false
set_option linter.unusedSimpArgs false
namespace Mo
open Go.AE
def u0 : SE := .var 0
def u1 : SE := .var 1
def u2 : SE := .var 2
def u3 : SE := .var 3
def u4 : SE := .var 4
def u5 : SE := .var 5
def u6 : SE := .var 6
def u7 : SE := .var 7
def u8 : SE := .var 8
def u9 : SE := .var 9
def u10 : SE := .var 10
def u11 : SE := .var 11
def u12 : SE := .var 12
def u13 : SE := .var 13
def u14 : SE := .var 14
def u15 : SE := .var 15
def u16 : SE := .var 16
def u17 : SE := .var 17
def u18 : SE := .var 18
def u19 : SE := .var 19
def u20 : SE := .var 20
def u21 : SE := .var 21
def u22 : SE := .var 22
def u23 : SE := .var 23
def u24 : SE := .var 24
def u25 : SE := .var 25
def u26 : SE := .var 26
def u27 : SE := .var 27
def u28 : SE := .var 28
def u29 : SE := .var 29
def u30 : SE := .var 30
def u31 : SE := .var 31
def u32 : SE := .var 32
def u33 : SE := .var 33
def u34 : SE := .var 34
def u35 : SE := .var 35
def u36 : SE := .var 36
def u37 : SE := .var 37
def u38 : SE := .var 38
def u39 : SE := .var 39
def u40 : SE := .var 40
def u41 : SE := .var 41
def u42 : SE := .var 42
def u43 : SE := .var 43
def u44 : SE := .var 44
def u45 : SE := .var 45
def u46 : SE := .var 46
def u47 : SE := .var 47
def x0 : SE := (.lenL u2)
def x1 : Tr Plf := (
 .leaf (.done 0 [(.bc true)]))
def x2 : SE := (.lenL u1)
def x3 : SE := (.lenL u3)
def x4 : SE := (.lenS u0)
def x5 : Tr Plf := (
 .leaf (.next 1 [(.c 0), u0, u1, u2, u3]))
def x6 : SE := (.lss u0 x3)
def x7 : SE := (.lss u0 (.c 0))
def x8 : Tr Plf := (
 .leaf .stuck)
def x9 : SE := (.cell u3 u0 0)
def x10 : SE := (.arith .add .i64 u0 (.c 1))
def x11 : Tr Plf := (
 .leaf (.next 1 [x10, u1, u2, u3, u4]))
def x12 : Tr Plf := (
 .leaf (.next 2 [(.c 0), u1, u2, u3, u4]))
def x13 : SE := (.lss u0 x0)
def x14 : SE := (.cell u2 u0 0)
def x15 : Tr Plf := (
 .leaf (.next 2 [x10, u1, u2, u3, u4]))
def x16 : Tr Plf := (
 .leaf (.next 3 [(.c 0), u1, u2, u3, u4]))
def x17 : SE := (.lenL u4)
def x18 : SE := (.lss u0 x17)
def x19 : SE := (.cell u4 u0 0)
def x20 : SE := (.cell u4 u0 1)
def x21 : SE := (.cell u4 u0 3)
def x22 : SE := (.cell u4 u0 4)
def x23 : SE := (.cell u4 u0 5)
def x24 : Tr Plf := (
 .leaf (.next 3 [x10, u1, u2, u3, u4]))
def x25 : Tr Plf := (
 .leaf (.done 0 [(.bc false)]))
def x26 : SE := (.lss u2 (.c 0))
def x27 : SE := (.lenL u0)
def x28 : SE := (.lss u2 x27)
def x29 : SE := (.cell u0 u2 0)
def x30 : SE := (.conv .u8 x29)
def x31 : SE := (.eql u2 (.c 0))
def x32 : SE := (.arith .add .i64 u2 (.c 1))
def x33 : Tr Plf := (
 .leaf (.next 1 [u0, u1, x32]))
def x34 : Plf := (.next 1 [u0, (.c 0), u1])
def x35 : SE := (.lss u1 x27)
def x36 : SE := (.lss u1 (.c 0))
def x37 : SE := (.cell u0 u1 0)
def x38 : Tr Plf := (
 .leaf (.done 0 [u1]))
def x39 : SE := (.arith .add .i64 u1 (.c 1))
def x40 : Tr Plf := (
 .split x36 x8 (
 .split (.eqSS x37 u2) x38 (
 .leaf (.next 1 [u0, x39, u2]))))
def x41 : Tr Plf := (
 .leaf (.done 0 [(.c (-1))]))
def x42 : SE := (.lss u0 u1)
def x43 : Tr Plf := (
 .leaf (.done 0 [(.c 0)]))
def x44 : Tr Plf := (
 .leaf (.done 0 [u2]))
def x45 : Tr Plf := (
 .split (.lss u2 u0) x44 (
 .leaf (.next 1 [u0, (.c 0), u3, u4, u5, u6])))
def x46 : SE := (.lss u1 u0)
def x47 : SE := (.lss u1 x17)
def x48 : SE := (.cell u4 u1 0)
def x49 : SE := (.app 2 (rl [(.c 0), x48]))
def x50 : SE := (.app 3 (rl [(.c 0), u4, x48]))
def x51 : SE := (.cell u4 u1 1)
def x52 : Tr Plf := (
 .leaf (.next 1 [u0, x39, u2, u3, u4, u5]))
def x53 : SE := (.lss u1 x3)
def x54 : SE := (.cell u3 u1 0)
def x55 : SE := (.app 2 (rl [(.c 0), x54]))
def x56 : SE := (.app 5 (rl [(.c 0), u3, x54]))
def x57 : SE := (.cell u3 u1 2)
def x58 : SE := (.cell u0 u1 1)
def x59 : SE := (.lenL u5)
def x60 : SE := (.cell u5 u1 2)
def x61 : SE := (.cell u5 u1 0)
def x62 : SE := (.app 5 (rl [(.c 0), u3, x61]))
def x63 : SE := (.eql (.sel x62 0) (.c 1))
def x64 : SE := (.cell u5 u1 5)
def x65 : SE := (.app 3 (rl [(.c 0), u4, x64]))
def x66 : SE := (.eql (.sel x65 0) (.c 1))
def x67 : SE := (.lss (.sel x62 1) (.c 0))
def x68 : SE := (.cell u5 u1 1)
def x69 : SE := (.app 5 (rl [(.c 0), u3, x68]))
def x70 : SE := (.eql (.sel x69 0) (.c 1))
def x71 : SE := (.lss (.sel x69 1) (.c 0))
def x72 : SE := (.lss x59 u1)
def x73 : SE := (.cell u5 u1 3)
def x74 : SE := (.cell u5 u1 4)
def x75 : SE := (.cell u5 u1 6)
def x76 : SE := (.cell u5 u1 7)
def x77 : SE := (.cell u5 u1 8)
def x78 : SE := (.app 7 (rl [(.c 0), (.sub u5 (.c 0) u1), x61, x68, x60, x73, x74, x64, x75, x76, x77]))
def x79 : SE := (.eql (.sel x78 0) (.c 1))
def x80 : SE := (.lss (.sel x78 1) (.c 0))
def x81 : SE := (.lss (.sel x62 1) x3)
def x82 : SE := (.app 2 (rl [(.c 0), x73]))
def x83 : SE := (.app 2 (rl [(.c 0), x74]))
def x84 : SE := (.cell u4 (.sel x65 1) 1)
def x85 : Tr Plf := (
 .split (.eqS x64 0 0) (
 .split (.eql x75 (.c 0)) (
 .split (.eql x76 (.c 0)) (
 .split (.eql x77 (.c 0)) x52 x38) x38) x38) (
 .split (.lss (.sel x65 1) (.c 0)) x38 (
 .split (.lss x75 (.c 0)) x38 (
 .split (.lss x76 x75) x38 (
 .split (.lss x77 (.c (-1000))) x38 (
 .split (.lss (.c 1000) x77) x38 (
 .split (.lss (.sel x65 1) x17) (
 .split (.lss x84 x76) x38 (
 .split (.lss (.arith .add .i64 x75 x77) (.c 0)) x38 (
 .split (.lss x84 (.arith .add .i64 x76 x77)) x38 x52))) x8)))))))
def x86 : Tr Plf := (
 .split x63 (
 .split x66 (
 .split x67 x38 (
 .split x70 (
 .split x71 x38 (
 .split x72 x8 (
 .split x79 (
 .split x80 (
 .split x81 (
 .split (.eql (.sel x82 0) (.c 1)) (
 .split (.sel x82 1) (
 .split (.eql (.sel x83 0) (.c 1)) (
 .split (.sel x83 1) (
 .split (.eqSS x74 u2) x38 x85) x38) x8) x38) x8) x8) x38) x8))) x8)) x8) x8)
def x87 : Tr Plf := (
 .split (.lss (.lenS x73) (.c 4611686018427387904)) (
 .split (.lss (.lenS x74) (.c 4611686018427387904)) (
 .split (.eqS (.strCat x73 x74) 0 0) x85 x38) x8) x8)
def x88 : SE := (rl [u0])
def x89 : SE := (.app 2 (.rcons (.c 0) x88))
def x90 : SE := (rl [u3])
def x91 : SE := (.rcons u1 (.rcons u2 x90))
def x92 : SE := (.rcons u0 x91)
def x93 : SE := (.app 4 (.rcons (.c 0) (.rcons x0 (.rcons (.c 0) (.rcons (.c 4) x92)))))
def x94 : SE := (.app 6 (.rcons (.c 0) (.rcons x2 (.rcons (.c 1) (.rcons (.c 24) x92)))))
def x95 : SE := (.app 8 (.rcons (.c 0) (.rcons x3 (.rcons (.c 0) (.rcons (.c 80) x92)))))
def x96 : Tr Plf := (
 .leaf (.done 0 [(.c 0), (.c 0)]))
def x97 : Tr Plf := (
 .leaf (.done 0 [(.c 0), (.c 290)]))
def x98 : SE := (.cell u0 u2 1)
def x99 : SE := (.app 10 (rl [(.c 0), u3, u4, x29]))
def Pq : SE := (.c 1073741824)
def WL : SE := (.lss x3 Pq)
def WK : SE := (rl [(.c 0)])
def OM : Tr Plf := (
 .leaf (.done 0 [u3, u4]))
def TK : Tr Plf := (
 .leaf (.done 0 [.nilL, (.bc true)]))
def SW : Tr Plf := (
 .split (.lss x27 (.c 1048576)) (
 .leaf (.done 0 [(.cat .emptyL u0), (.bc false)])) x8)
def ZK : SE := (.lss u4 x0)
def XB : SE := (.lss u4 (.c 0))
def WA : SE := (.cell u2 u4 0)
def jP : SE := (.cell u2 u4 1)
def ZU : SE := (.cell u2 u4 2)
def Vi : SE := (.arith .add .i64 u4 (.c 1))
def gt : Tr Plf := (
 .leaf (.done 0 [u0, u1]))
def jw : Tr Plf := (
 .leaf (.done 0 [(.c 0), (.c 2)]))
def Tj : Tr Plf := (
 .leaf (.done 0 [(.c 0), (.c 9)]))
def WW : SE := (rl [u5])
def WJ : SE := (.mIdx [(.int .i64)] u1 WW)
def aC : SE := (.lss WJ (.c 0))
def fT : SE := (.rcons u2 (.rcons u3 (.rcons u4 WW)))
def Y9 : SE := (.app 16 (.rcons (.c 0) (.rcons u0 (.rcons u1 fT))))
def bx : Tr Plf := (
 .leaf (.done 0 [(.c 0), u1]))
def eN : SE := (.snoc u2 (.rcons u4 WW))
def HN : SE := (.arith .quo .i64 (.arith .sub .i64 u0 (.c 1)) (.c 2))
def ZB : SE := (.cell u2 HN 0)
def Y6 : SE := (.cell u2 HN 1)
def Uk : SE := (.cell u2 u0 1)
def aO : SE := (.lss Y6 Uk)
def TJ : Tr Plf := (
 .leaf (.done 0 [u2, u3]))
def Ze : SE := (.lss Uk Y6)
def XU : Tr Plf := (
 .leaf (.next 1 [HN, u1, (.upd (.upd (.upd (.upd u2 HN 0 x14) HN 1 Uk) u0 0 ZB) u0 1 Y6), u3, u4]))
def SS : SE := (rl [u5, u6])
def Zn : SE := (.cell u3 HN 0)
def aN : SE := (.cell u3 HN 1)
def ST : SE := (.cell u3 u0 1)
def ZM : SE := (.lss aN ST)
def Y3 : SE := (.lss ST aN)
def W7 : Tr Plf := (
 .leaf (.next 1 [HN, u1, u2, (.upd (.upd (.upd (.upd u3 HN 0 x9) HN 1 ST) u0 0 Zn) u0 1 aN), u4, u5]))
def gF : Tr Plf := (
 .leaf (.done 0 [(.c 2), u2, u3, u4, u1]))
def eR : Tr Plf := (
 .leaf (.done 0 [(.c 3), u2, u3, u4, u1]))
def Rb : SE := (.c 1099511627776)
def ay : SE := (.arith .add .i64 u0 u6)
def WI : SE := (rl [u5, ay])
def Zs : SE := (.rcons u3 (.rcons u4 (.rcons ay WW)))
def ZH : SE := (.app 19 (.rcons (.c 0) (.rcons u0 (.rcons (.snoc .emptyL WI) (.rcons (.bc false) Zs)))))
def Zg : SE := (.app 19 (.rcons (.c 0) (.rcons u0 (.rcons (.snoc u1 WI) (.rcons u2 Zs)))))
def iX : SE := (.upd u1 WJ 1 ay)
def aG : SE := (.app 19 (.rcons (.c 0) (.rcons u0 (.rcons iX (.rcons u2 Zs)))))
def fD : SE := (.app 15 (rl [(.c 0), u3, u4, u20]))
def S1 : SE := (.sel fD 1)
def TU : SE := (.rcons (.c 0) (.rcons u12 (.rcons u13 (.rcons u14 (.rcons u15 (.rcons u16 WK))))))
def Wv : SE := (.cell S1 (.c 0) 2)
def V1 : SE := (.app 20 (rl [(.c 0), u12, (.sel (.app 17 TU) 2), u14, u15, u16, (.c 0), Wv]))
def aP : SE := (.app 9 (rl [(.c 0), u0, (.nilIs u1 u2), (.nilIs u3 u4), (.nilIs u5 u6)]))
def dK : SE := (rl [u3, u4])
def FU : SE := (.rcons (.c 0) dK)
def XQ : SE := (rl [u2])
def Vk : SE := (.app 12 (.rcons (.c 0) (.rcons u1 XQ)))
def VG : SE := (.app 14 (.rcons (.c 0) SS))
def Px : SE := (.app 21 (rl [(.c 0), (.sel (.app 11 FU) 1), (.sel (.app 11 FU) 2), u0, (.sel Vk 1), (.sel Vk 2), (.sel (.app 13 FU) 1), (.sel (.app 13 FU) 2), (.sel VG 1), (.sel VG 2), (.strc 0 0), (.bc false), (.c 0), (.c 0), .emptyL, (.bc true), .nilL, (.bc true), (.bc false), .nilL, (.bc true), (.cell u1 (.c 0) 0)]))
def Z7 : SE := (.strAt u0 (.c 0))
def kx : Tr Plf := (
 .leaf (.next 1 [u0, (.c 0)]))
def PW : SE := (.strAt u0 u1)
def Ww : Tr Plf := (
 .leaf (.next 1 [u0, x39]))
def Zy : Plf := (.next 1 [u4, (.c 0), u0, u1, u2, u3])
def io : SE := (.cell u3 u4 0)
def ZF : SE := (.app 25 (rl [(.c 0), u0, u1, u2, u3, io]))
def ju : SE := (.cell u3 u4 1)
def bq : SE := (.app 25 (rl [(.c 0), u0, u1, u2, u3, ju]))
def Zc : SE := (.cell u3 u4 5)
def VK : SE := (.cell u3 u4 6)
def V8 : SE := (.cell u3 u4 7)
def Te : SE := (.cell u3 u4 8)
def iG : Tr Plf := (
 .leaf (.next 1 [u4, (.sel ZF 1), (.c 0), u0, u1, u2, u3, io, ju, (.cell u3 u4 2), (.cell u3 u4 3), (.cell u3 u4 4), Zc, VK, V8, Te]))
def W1 : SE := (.app 24 (rl [(.c 0), u0, u1, u2, u3, Zc]))
def cW : SE := (.cell u2 (.sel W1 1) 1)
def TB : SE := (.lenL u6)
def Xw : SE := (.lss u2 TB)
def S5 : SE := (.cell u6 u2 0)
def Pb : SE := (.cell u6 u2 1)
def ZN : SE := (rl [u10])
def gB : SE := (.app 23 (.rcons (.c 0) ZN))
def bD : SE := (.app 23 (rl [(.c 0), u11]))
def bp : Tr Plf := (
 .split (.eql (.sel gB 0) (.c 1)) (
 .split (.sel gB 1) (
 .split (.eql (.sel bD 0) (.c 1)) (
 .split (.sel bD 1) (
 .leaf (.done 0 [(.neg (.eqSS u11 u3))])) x25) x8) x25) x8)
def kz : SE := (.app 23 (.rcons (.c 0) x88))
def fh : SE := (.app 23 (rl [(.c 0), x9]))
def kJ : SE := (.app 24 (rl [(.c 0), u1, u2, u3, u4, x9]))
def Xr : Tr Plf := (
 .leaf (.done 0 [u0, (.c 291)]))
def jM : SE := (.app 23 (rl [(.c 0), x14]))
def j3 : SE := (.app 25 (rl [(.c 0), u1, u2, u3, u4, x14]))
def ZC : SE := (.cell u2 u0 2)
def Xl : Tr Plf := (
 .leaf (.done 0 [u0, (.c 292)]))
def ba : SE := (.app 26 (.rcons (.c 0) (.rcons u1 (.rcons u2 (.rcons u3 (.rcons u4 x88))))))
def VA : Tr Plf := (
 .leaf (.done 0 [.nilL, .nilL, (.c 2)]))
def S6 : SE := (.rcons (.c 0) x92)
def ZG : SE := (.app 28 (.rcons (.c 0) XQ))
def ab : SE := (.app 13 (.rcons (.c 0) SS))
def Wo : SE := (.app 14 (rl [(.c 0), u7, u8]))
def Vg : SE := (.eql (.sel Wo 0) (.c 1))
def Qc : SE := (.lenL u7)
def bG : SE := (.and (.cell u6 u0 1) (.bc true))
def gv : SE := (.eql (.sel (.app 33 FU) 0) (.c 1))
def Q7 : SE := (.arith .sub .i64 x3 (.c 1))
def gT : SE := (.upd (.upd u3 (.c 0) 0 (.cell u3 Q7 0)) (.c 0) 1 (.cell u3 Q7 1))
def dA : SE := (.arith .mul .i64 (.c 2) u1)
def bb : SE := (.cell u6 u9 0)
def ZY : SE := (.cell u6 u9 1)
def Zd : SE := (.lss ZY Pb)
def TL : SE := (.arith .add .i64 u3 (.c 1))
def Wr : Tr Plf := (
 .leaf (.next 2 ([u0, u1, u9, TL] ++ us 4 7)))
def Ok : Tr Plf := (
 .leaf (.next 2 ([u0, u1, u2, TL] ++ us 4 7)))
def bR : Tr Plf := (
 .split (.lss Pb ZY) Ok Ok)
def jx : SE := (.cell u6 u10 0)
def Z1 : SE := (.cell u6 u10 1)
def ZT : SE := (.lss Z1 Pb)
def XJ : Tr Plf := (
 .leaf (.next 2 ([u0, u1, u10, TL] ++ us 4 7)))
def be : Tr Plf := (
 .split (.lss Pb Z1) Ok Ok)
def Zx : SE := (.app 35 (.rcons (.c 0) (.rcons u0 (.rcons u4 x91))))
def Z2 : Tr Plf := (
 .split (.eql (.sel Zx 0) (.c 1)) (
 .leaf (.next 1 [u0, u1, (.sel Zx 1), (.sel Zx 2), u4])) x8)
def dx : SE := (.mIdx [(.int .i64)] u4 (rl [(.cell u2 (.c 0) 1)]))
def gI : SE := (.rcons u1 (.rcons u2 dK))
def Ti : SE := (.app 36 (.rcons (.c 0) (.rcons u5 gI)))
def Xy : SE := (.rcons (.c 0) (.rcons u0 gI))
def Tc : SE := (.app 36 Xy)
def bf : Tr Plf := (
 .leaf (.done 0 [u0, u1, (.c 0), u3, u5, u6, u7]))
def S0 : SE := (.app 36 (.rcons (.c 0) (.rcons u3 (.rcons u7 (.rcons u4 SS)))))
def Xf : SE := (rl [u9])
def eZ : Tr Plf := (
 .split (.eql (.sel S0 0) (.c 1)) (
 .leaf (.next 1 [(.snoc u0 Xf), (.bc false), (.sel S0 3), u3, u4, (.sel S0 4), (.sel S0 5), u7, (.sel S0 1), (.sel S0 2)])) x8)
def ZD : SE := (.mIdx [(.int .i64)] u7 Xf)
def SP : SE := (.app 36 (.rcons (.c 0) (.rcons u3 (.rcons (.rmv u7 ZD) (.rcons u4 SS)))))
def Xb : SE := (.app 10 (.rcons (.c 0) (.rcons u0 (.rcons u1 XQ))))
def XP : SE := (.eqS u7 0 0)
def Y4 : Tr Plf := (
 .leaf (.done 0 [(.bc true), (.c 0)]))
def Pn : SE := (rl [(.c 0), u0, u1, u7])
def fX : SE := (.eql (.sel (.app 10 Pn) 0) (.c 1))
def Qd : SE := (.sel (.app 10 Pn) 1)
def XV : SE := (.sel (.app 38 Pn) 1)
def Od : Tr Plf := (
 .leaf (.done 0 [(.bc false), (.c 0)]))
def fk : Plf := (.next 1 ([(.c 0)] ++ us 2 10 ++ [u17, u18, u19, u0, u1, u12, u14, u15, u16, u13] ++ us 21 9 ++ [u20]))
def aJ : SE := (.lss u0 (.c 3))
def Wa : Tr Plf := (
 .leaf (.next 1 ([x10] ++ us 1 30)))
def jD : SE := (rl (us 21 9))
def iQ : SE := (.app 39 (.rcons (.c 0) (.rcons u14 (.rcons u15 jD))))
def fb : Tr Plf := (
 .split (.eql u0 (.c 0)) (
 .split (.eqSS u21 u8) Wa x25) (
 .split (.eql u0 (.c 1)) (
 .split (.eql (.sel iQ 0) (.c 1)) (
 .split (.sel iQ 1) Wa x25) x8) (
 .split (.eql u0 (.c 2)) (
 .split (.eql u23 (.c 3)) (
 .split u30 Wa x25) Wa) x8)))
def ap : SE := (.cell u0 u2 2)
def XG : SE := (.cell u0 u2 3)
def WG : SE := (.cell u0 u2 4)
def jb : SE := (rl [x29, x98, ap, XG, WG, (.cell u0 u2 5), (.cell u0 u2 6), (.cell u0 u2 7), (.cell u0 u2 8)])
def jQ : SE := (.app 40 (.rcons (.c 0) (.rcons u19 (.rcons u20 (.rcons u6 (.rcons u7 (.rcons u8 (.rcons u9 (.rcons u10 (.rcons u11 (.rcons u12 (.rcons u13 (.rcons u14 (.rcons u15 (.rcons u21 (.rcons u25 (.rcons u22 (.rcons u23 (.rcons u24 (.rcons u16 (.rcons u17 (.rcons u18 (.rcons u5 jb)))))))))))))))))))))))
def iJ : Tr Plf := (
 .leaf (.next 1 ([u0, u1, x32] ++ us 3 24)))
def ZL : SE := (.lss u20 u12)
def jt : Tr Plf := (
 .leaf (.done 0 [.nilL, (.bc true), (.c 3), u17, u12, u14, u15, u16, u13]))
def ZA : SE := (.lss Rb u20)
def L8 : SE := (.app 34 (rl ([(.c 0)] ++ us 12 5)))
def XL : SE := (.eql (.sel L8 0) (.c 1))
def H1 : SE := (.sel L8 2)
def S2 : SE := (.app 37 (rl [(.c 0), (.sel L8 1), (.sel L8 5), H1, (.sel L8 3), (.sel L8 4), u20]))
def Zw : SE := (.eql (.sel S2 0) (.c 1))
def JR : SE := (.sel S2 4)
def JW : SE := (.sel S2 7)
def JS : SE := (.sel S2 5)
def JX : SE := (.sel S2 6)
def Xp : SE := (.rcons (.sel Wo 1) (.rcons (.sel Wo 2) Xf))
def aT : SE := (.app 41 (.rcons (.c 0) (.rcons .nilL (.rcons (.bc true) (.rcons u0 (.rcons u1 (.rcons u2 (.rcons u3 (.rcons u4 (.rcons u5 (.rcons u6 (.rcons u7 (.rcons u8 (.rcons u9 (.rcons u10 (.rcons u11 (.rcons JR (.rcons JW (.rcons H1 (.rcons JS (.rcons JX (.rcons (.bc true) (.rcons u18 (.rcons u19 (.rcons (.bc true) Xp)))))))))))))))))))))))))
def PV : SE := (.lss (.c 0) (.lenL (.sel S2 1)))
def Zf : SE := (.app 41 (.rcons (.c 0) (.rcons .nilL (.rcons (.bc true) (.rcons u0 (.rcons u1 (.rcons u2 (.rcons u3 (.rcons u4 (.rcons u5 (.rcons u6 (.rcons u7 (.rcons u8 (.rcons u9 (.rcons u10 (.rcons u11 (.rcons JR (.rcons JW (.rcons H1 (.rcons JS (.rcons JX (.rcons PV (.rcons u18 (.rcons u19 (.rcons PV Xp)))))))))))))))))))))))))
def bw : SE := (.eql (.sel (.app 43 Pn) 0) (.c 1))
def N4 : SE := (.sel (.app 43 Pn) 1)
def Z8 : SE := (.cell u1 N4 0)
def fE : SE := (.arith .add .i64 Z8 u10)
def kj : SE := (.cell u3 u11 0)
def dp : SE := (.cell u3 u11 1)
def gm : SE := (.cell u3 u11 2)
def Vh : SE := (rl [(.c 0), u6, u7, kj, dp, gm, (.cell u3 u11 3), (.cell u3 u11 4), (.cell u3 u11 5), (.cell u3 u11 6), (.cell u3 u11 7), (.cell u3 u11 8)])
def gM : SE := (.eql (.sel (.app 45 Xy) 0) (.c 1))
def Zz : SE := (.lss u10 u8)
def kN : Tr Plf := (
 .leaf (.done 0 (us 0 10 ++ [.nilL, (.bc true), (.c 3)])))
def ZS : SE := (.lss Rb u10)
def cK : SE := (.app 46 (.rcons (.c 0) (.rcons u4 (.rcons u5 (.rcons u6 (.rcons u7 (.rcons u8 (.rcons u9 (.rcons u10 (.rcons u11 (.rcons u0 (.rcons u12 (.rcons u0 x90)))))))))))))
def fC : SE := (rl [WA, jP, ZU, (.cell u2 u4 3), (.cell u2 u4 4), (.cell u2 u4 5), (.cell u2 u4 6), (.cell u2 u4 7), (.cell u2 u4 8)])
def gD : SE := (.app 52 (.rcons (.c 0) (.rcons u18 (.rcons u19 (.rcons u6 (.rcons u7 (.rcons u8 (.rcons u9 (.rcons u10 (.rcons u2 (.rcons u11 (.rcons u12 (.rcons u13 (.rcons u14 (.rcons u20 (.rcons u24 (.rcons u21 (.rcons u22 (.rcons u23 (.rcons u15 (.rcons u16 (.rcons u17 (.rcons u5 fC)))))))))))))))))))))))
def ib : Tr Plf := (
 .leaf (.next 1 ([u0, u1, u2, u3, Vi] ++ us 5 20)))
def WE : SE := (rl [(.bc true)])
def ki : SE := (.app 53 (.rcons (.c 0) (.rcons u7 (.rcons u8 (.rcons u0 (.rcons u1 (.rcons u2 (.rcons u3 (.rcons u4 (.rcons u5 (.rcons u6 (.rcons u8 (.rcons u9 (.rcons u10 (.rcons u11 (.rcons u12 (.rcons u13 (.rcons u14 (.rcons u15 (.rcons u16 (.rcons u17 (.rcons u18 (.rcons u19 WE)))))))))))))))))))))))
def cY : SE := (.arith .add .i64 u5 (.sel (.app 45 Xy) 3))
def ag : Tr Plf := (
 .leaf (.next 1 ([u0, x39] ++ us 2 10)))
def ak : SE := (rl [u0, u1])
def kE : SE := (.app 46 (.rcons (.c 0) (.rcons u2 (.rcons u3 (.rcons u4 (.rcons u5 (.rcons u6 (.rcons u7 (.rcons u8 (.rcons u9 (.rcons u10 (.rcons u11 ak))))))))))))
def XD : Tr Plf := (
 .leaf (.done 0 [u14]))
def Za : SE := (.app 45 (rl ([(.c 0)] ++ us 20 5)))
def cS : Tr Plf := (
 .split (.eql u12 u28) (
 .leaf (.next 1 ([(.c 0)] ++ us 2 10 ++ [u17, u18, u19, u0, u1, u12, u14, u15, u16, u13] ++ us 20 10))) x25)
def Y2 : SE := (.app 38 (rl [(.c 0), u14, u15, (.cell u27 u0 0)]))
def kk : SE := (rl [u12, u13])
def aM : SE := (.app 54 (.rcons (.c 0) (.rcons u14 (.rcons u15 (.rcons u1 (.rcons u2 (.rcons u3 (.rcons u4 (.rcons u5 (.rcons u6 (.rcons u7 (.rcons u8 (.rcons u9 (.rcons u10 (.rcons u16 (.rcons u20 (.rcons u17 (.rcons u18 (.rcons u19 (.rcons u11 kk))))))))))))))))))))
def YZ : SE := (.app 55 (rl ([(.c 0)] ++ us 21 10)))
def Zj : SE := (.app 56 (.rcons (.c 0) kk))
def Zt : SE := (.app 57 (rl [(.c 0), u21, u22, u23, u24, u25, u26, u27, u28, u29, u30, (.bc false), (.c 0), (.sel Zj 1), (.sel Zj 2)]))
def WV : Tr Plf := (
 .leaf (.next 1 ([x10] ++ us 1 35)))
def az : SE := (rl [u33, u34])
def j2 : SE := (.app 39 (.rcons (.c 0) (.rcons u14 (.rcons u15 (.rcons u26 (.rcons u27 (.rcons u28 (.rcons u29 (.rcons u30 (.rcons u31 (.rcons u32 az)))))))))))
def Ou : SE := (.rcons (.c 0) (.rcons u0 (.rcons u1 (.rcons u2 (.rcons u3 (.rcons u4 (.rcons u5 (.rcons u6 (.rcons u7 (.rcons u8 (.rcons u9 ZN)))))))))))
def jG : SE := (.cell u7 u27 1)
def Xj : SE := (.app 60 (rl [(.c 0), u0, u1, (.cell u7 u27 0), jG, (.cell u7 u27 2), (.cell u7 u27 3), (.cell u7 u27 4), (.cell u7 u27 5), (.cell u7 u27 6), (.cell u7 u27 7), (.cell u7 u27 8)]))
def Ot : SE := (.app 21 (rl [(.c 0), (.sel Xj 2), u1, u2, u3, u4, u5, u6, u7, u8, u9, u10, u11, u20, u21, u22, u23, u24, u25, u18, u19, jG]))
def dr : Tr Plf := (
 .leaf (.done 0 [(.c 2), u9, u10, u11, u17, u18, u19, u0, u1, u12, u14, u15, u16, u13]))
def jz : Tr Plf := (
 .leaf (.done 0 [(.c 3), u9, u10, u11, u17, u18, u19, u0, u1, u12, u14, u15, u16, u13]))
def dt : SE := (rl [(.cell u7 u21 0), (.cell u7 u21 1), (.cell u7 u21 2), (.cell u7 u21 3), (.cell u7 u21 4), (.cell u7 u21 5), (.cell u7 u21 6), (.cell u7 u21 7), (.cell u7 u21 8)])
def bC : SE := (.app 59 (.rcons (.c 0) (.rcons u0 (.rcons u1 (.rcons u2 (.rcons u3 (.rcons u4 (.rcons u5 (.rcons u6 (.rcons u7 (.rcons u8 (.rcons u9 (.rcons u10 (.rcons u11 (.rcons u12 (.rcons u13 (.rcons u14 (.rcons u15 (.rcons u16 (.rcons u17 (.rcons u18 (.rcons u19 (.rcons JR (.rcons JW (.rcons H1 (.rcons JS (.rcons JX (.rcons (.bc true) dt))))))))))))))))))))))))))))
def fP : SE := (rl [u20, u21])
def IqQ : SE := (.app 61 (.rcons (.c 0) (.rcons u0 (.rcons u1 (.rcons u2 (.rcons u3 (.rcons u4 (.rcons u5 (.rcons u6 (.rcons u7 (.rcons u8 (.rcons u9 (.rcons u10 (.rcons u11 (.rcons u12 (.rcons u13 (.rcons u14 (.rcons u15 (.rcons u16 (.rcons (.bc true) (.rcons u18 (.rcons u19 (.rcons JR (.rcons JW (.rcons H1 (.rcons JS (.rcons JX (.rcons (.bc true) fP))))))))))))))))))))))))))))
def jj : SE := (.app 59 (.rcons (.c 0) (.rcons u0 (.rcons u1 (.rcons u2 (.rcons u3 (.rcons u4 (.rcons u5 (.rcons u6 (.rcons u7 (.rcons u8 (.rcons u9 (.rcons u10 (.rcons u11 (.rcons u12 (.rcons u13 (.rcons u14 (.rcons u15 (.rcons u16 (.rcons u17 (.rcons u18 (.rcons u19 (.rcons JR (.rcons JW (.rcons H1 (.rcons JS (.rcons JX (.rcons PV dt))))))))))))))))))))))))))))
def IW : SE := (.app 61 (.rcons (.c 0) (.rcons u0 (.rcons u1 (.rcons u2 (.rcons u3 (.rcons u4 (.rcons u5 (.rcons u6 (.rcons u7 (.rcons u8 (.rcons u9 (.rcons u10 (.rcons u11 (.rcons u12 (.rcons u13 (.rcons u14 (.rcons u15 (.rcons u16 (.rcons (.bc false) (.rcons u18 (.rcons u19 (.rcons JR (.rcons JW (.rcons H1 (.rcons JS (.rcons JX (.rcons PV fP))))))))))))))))))))))))))))
def TF : SE := (.cat .emptyL u1)
def bg : Tr Plf := (
 .leaf (.done 0 (us 0 10 ++ [(.c 2)])))
def iP : Tr Plf := (
 .leaf (.done 0 (us 0 10 ++ [(.c 3)])))
def hI : SE := (.app 46 (rl ([(.c 0)] ++ us 0 12)))
def iK : SE := (.app 59 (.rcons (.c 0) (.rcons u20 (.rcons u21 (.rcons u7 (.rcons u8 (.rcons u9 (.rcons u10 (.rcons u11 (.rcons u12 (.rcons u13 (.rcons u14 (.rcons u15 (.rcons u16 (.rcons u22 (.rcons u26 (.rcons u23 (.rcons u24 (.rcons u25 (.rcons u17 (.rcons u18 (.rcons u19 (.rcons u27 (.rcons u31 (.rcons u28 (.rcons u29 (.rcons u30 (.rcons u6 jb))))))))))))))))))))))))))))
def VB : Tr Plf := (
 .leaf (.next 1 ([u0, u1, x32] ++ us 3 30)))
def eB : Tr Plf := (
 .leaf (.done 0 [(.c 0), (.c 3), u9, u10, u11, u17, u18, u19, u0, u1, u12, u14, u15, u16, u13]))
def TY : SE := (.app 65 (.rcons (.c 0) (.rcons u21 (.rcons u22 (.rcons (.c (-1)) (.rcons u0 (.rcons u1 (.rcons u2 (.rcons u3 (.rcons u4 (.rcons u5 (.rcons u6 (.rcons u7 (.rcons u8 (.rcons u9 (.rcons u10 (.rcons u11 (.rcons u12 (.rcons u13 (.rcons u14 (.rcons u15 (.rcons u16 (.rcons u17 (.rcons u18 (.rcons u19 (.rcons JR (.rcons JW (.rcons H1 (.rcons JS (.rcons JX (.rcons (.bc true) Xp)))))))))))))))))))))))))))))))
def cJ : Tr Plf := (
 .leaf (.done 0 [(.c 0), (.c 9), u9, u10, u11, (.bc true), u18, u19, u0, u1, u12, u14, u15, u16, u13]))
def IT : SE := (.app 61 (rl [(.c 0), u0, u1, u2, u3, u4, u5, u6, u7, u8, u9, u10, u11, u12, u13, u14, u15, u16, (.bc true), u18, u19, JR, JW, H1, JS, JX, (.bc true), u20, (.sel TY 1)]))
def V3 : SE := (.app 65 (.rcons (.c 0) (.rcons u21 (.rcons u22 (.rcons (.c (-1)) (.rcons u0 (.rcons u1 (.rcons u2 (.rcons u3 (.rcons u4 (.rcons u5 (.rcons u6 (.rcons u7 (.rcons u8 (.rcons u9 (.rcons u10 (.rcons u11 (.rcons u12 (.rcons u13 (.rcons u14 (.rcons u15 (.rcons u16 (.rcons u17 (.rcons u18 (.rcons u19 (.rcons JR (.rcons JW (.rcons H1 (.rcons JS (.rcons JX (.rcons PV Xp)))))))))))))))))))))))))))))))
def f8 : Tr Plf := (
 .leaf (.done 0 [(.c 0), (.c 9), u9, u10, u11, (.bc false), u18, u19, u0, u1, u12, u14, u15, u16, u13]))
def I9 : SE := (.app 61 (rl [(.c 0), u0, u1, u2, u3, u4, u5, u6, u7, u8, u9, u10, u11, u12, u13, u14, u15, u16, (.bc false), u18, u19, JR, JW, H1, JS, JX, PV, u20, (.sel V3 1)]))
def fO : Tr Plf := (
 .leaf (.done 0 (us 0 10 ++ [(.c 0), (.c 3)])))
def Zi : SE := (.rcons (.c 0) (.rcons u4 (.rcons u5 (.rcons u6 (.rcons u7 (.rcons u8 (.rcons u9 (.rcons u10 (.rcons u11 (.rcons u12 (.rcons u13 (.rcons u0 x90))))))))))))
def KH : SE := (.app 64 Zi)
def WN : Tr Plf := (
 .leaf (.next 1 ([u0, u1, u2, TL] ++ us 4 10)))
def Y5 : SE := (.app 68 (.rcons (.c 0) ak))
def ac : SE := (.app 69 (.rcons (.c 0) ak))
def iA : SE := (rl [u18, u19])
def Y7 : SE := (.app 56 (.rcons (.c 0) iA))
def Ew : SE := (.app 42 (rl ([(.c 0)] ++ us 0 20 ++ [u31])))
def Cp : SE := (.app 47 (rl ([(.c 0)] ++ us 20 10 ++ [u31])))
def cu : SE := (.app 48 (rl [(.c 0), (.sel Ew 1), (.sel Ew 2), (.sel Cp 11), (.sel Cp 12)]))
def cX : SE := (.app 58 (rl [(.c 0), u0, u1, u2, u3, u4, u5, u6, u7, u8, u9, u10, u11, (.sel Ew 5), (.sel Ew 9), (.sel Ew 6), (.sel Ew 7), (.sel Ew 8), (.sel Ew 4), u18, u19, (.sel Cp 1), (.sel Cp 2), (.sel Cp 3), (.sel Cp 4), (.sel Cp 5), (.sel Cp 6), (.sel Cp 7), (.sel Cp 8), (.sel Cp 9), (.sel Cp 10)]))
def eI : Tr Plf := (
 .leaf (.done 0 [(.sel Cp 1), (.sel Cp 2), (.sel Cp 3), (.sel Cp 4), (.sel Cp 5), (.sel Cp 6), (.sel Cp 7), (.sel Cp 8), (.sel Cp 9), (.sel Cp 10), (.bc false), u3, u5, u7, (.sel Ew 5), (.sel Ew 6), (.sel Ew 7), (.sel Ew 8), (.sel Ew 9), u18, u2, u4, u6, u8, u9, u10, u11, (.sel Ew 4), u19, u0, u1]))
def dk : Tr Plf := (
 .split (.eql (.sel Ew 0) (.c 1)) (
 .split (.eql (.sel Cp 0) (.c 1)) (
 .split (.eql (.sel cu 0) (.c 1)) (
 .split (.sel cu 1) (
 .split (.eql (.sel Ew 3) (.sel Cp 13)) (
 .split (.eql (.sel cX 0) (.c 1)) (
 .leaf (.done 0 [(.sel Cp 1), (.sel Cp 2), (.sel Cp 3), (.sel Cp 4), (.sel Cp 5), (.sel Cp 6), (.sel Cp 7), (.sel Cp 8), (.sel Cp 9), (.sel Cp 10), (.sel cX 1), u3, u5, u7, (.sel Ew 5), (.sel Ew 6), (.sel Ew 7), (.sel Ew 8), (.sel Ew 9), u18, u2, u4, u6, u8, u9, u10, u11, (.sel Ew 4), u19, u0, u1])) x8) eI) eI) x8) x8) x8)
def dD : SE := (rl [u31, u32])
def BJ : SE := (.app 62 (.rcons (.c 0) (.rcons u0 (.rcons u1 (.rcons u2 (.rcons u3 (.rcons u4 (.rcons u5 (.rcons u6 (.rcons u7 (.rcons u8 (.rcons u9 (.rcons u10 (.rcons u11 (.rcons u12 (.rcons u13 (.rcons u14 (.rcons u15 (.rcons u16 (.rcons u17 (.rcons u18 (.rcons u19 dD))))))))))))))))))))))
def Cz : SE := (.app 64 (.rcons (.c 0) (.rcons u20 (.rcons u21 (.rcons u22 (.rcons u23 (.rcons u24 (.rcons u25 (.rcons u26 (.rcons u27 (.rcons u28 (.rcons u29 dD))))))))))))
def cP : SE := (.app 58 (rl [(.c 0), (.sel BJ 8), (.sel BJ 9), u2, u3, u4, u5, u6, u7, u8, (.sel BJ 2), (.sel BJ 3), (.sel BJ 4), (.sel BJ 10), (.sel BJ 14), (.sel BJ 11), (.sel BJ 12), (.sel BJ 13), (.sel BJ 5), (.sel BJ 6), (.sel BJ 7), (.sel Cz 1), (.sel Cz 2), (.sel Cz 3), (.sel Cz 4), (.sel Cz 5), (.sel Cz 6), (.sel Cz 7), (.sel Cz 8), (.sel Cz 9), (.sel Cz 10)]))
def au : Tr Plf := (
 .split (.eql (.sel BJ 0) (.c 1)) (
 .split (.eql (.sel Cz 0) (.c 1)) (
 .split (.eql (.sel BJ 1) (.sel Cz 11)) (
 .split (.eql (.sel cP 0) (.c 1)) (
 .leaf (.done 0 [(.sel Cz 1), (.sel Cz 2), (.sel Cz 3), (.sel Cz 4), (.sel Cz 5), (.sel Cz 6), (.sel Cz 7), (.sel Cz 8), (.sel Cz 9), (.sel Cz 10), (.sel cP 1), u3, u5, u7, (.sel BJ 10), (.sel BJ 11), (.sel BJ 12), (.sel BJ 13), (.sel BJ 14), (.sel BJ 6), u2, u4, u6, u8, (.sel BJ 2), (.sel BJ 3), (.sel BJ 4), (.sel BJ 5), (.sel BJ 7), (.sel BJ 8), (.sel BJ 9)])) x8) (
 .leaf (.done 0 [(.sel Cz 1), (.sel Cz 2), (.sel Cz 3), (.sel Cz 4), (.sel Cz 5), (.sel Cz 6), (.sel Cz 7), (.sel Cz 8), (.sel Cz 9), (.sel Cz 10), (.bc false), u3, u5, u7, (.sel BJ 10), (.sel BJ 11), (.sel BJ 12), (.sel BJ 13), (.sel BJ 14), (.sel BJ 6), u2, u4, u6, u8, (.sel BJ 2), (.sel BJ 3), (.sel BJ 4), (.sel BJ 5), (.sel BJ 7), (.sel BJ 8), (.sel BJ 9)]))) x8) x8)
def BG : SE := (.app 66 (.rcons (.c 0) (.rcons u0 (.rcons u1 (.rcons u2 (.rcons u3 (.rcons u4 (.rcons u5 (.rcons u6 (.rcons u7 (.rcons u8 (.rcons u9 (.rcons u10 (.rcons u11 (.rcons u12 (.rcons u13 (.rcons u14 (.rcons u15 (.rcons u16 (.rcons u17 (.rcons u18 (.rcons u19 (.rcons u31 az)))))))))))))))))))))))
def Ct : SE := (.app 67 (.rcons (.c 0) (.rcons u20 (.rcons u21 (.rcons u22 (.rcons u23 (.rcons u24 (.rcons u25 (.rcons u26 (.rcons u27 (.rcons u28 (.rcons u29 (.rcons u31 az)))))))))))))
def il : SE := (.app 58 (rl [(.c 0), (.sel BG 9), (.sel BG 10), u2, u3, u4, u5, u6, u7, u8, (.sel BG 3), (.sel BG 4), (.sel BG 5), (.sel BG 11), (.sel BG 15), (.sel BG 12), (.sel BG 13), (.sel BG 14), (.sel BG 6), (.sel BG 7), (.sel BG 8), (.sel Ct 1), (.sel Ct 2), (.sel Ct 3), (.sel Ct 4), (.sel Ct 5), (.sel Ct 6), (.sel Ct 7), (.sel Ct 8), (.sel Ct 9), (.sel Ct 10)]))
def eW : Tr Plf := (
 .leaf (.done 0 [(.sel Ct 1), (.sel Ct 2), (.sel Ct 3), (.sel Ct 4), (.sel Ct 5), (.sel Ct 6), (.sel Ct 7), (.sel Ct 8), (.sel Ct 9), (.sel Ct 10), (.bc false), u3, u5, u7, (.sel BG 11), (.sel BG 12), (.sel BG 13), (.sel BG 14), (.sel BG 15), (.sel BG 7), u2, u4, u6, u8, (.sel BG 3), (.sel BG 4), (.sel BG 5), (.sel BG 6), (.sel BG 8), (.sel BG 9), (.sel BG 10)]))
def ja : Tr Plf := (
 .split (.eql (.sel BG 0) (.c 1)) (
 .split (.eql (.sel Ct 0) (.c 1)) (
 .split (.eql (.sel BG 1) (.sel Ct 11)) (
 .split (.eql (.sel BG 2) (.sel Ct 12)) (
 .split (.eql (.sel il 0) (.c 1)) (
 .leaf (.done 0 [(.sel Ct 1), (.sel Ct 2), (.sel Ct 3), (.sel Ct 4), (.sel Ct 5), (.sel Ct 6), (.sel Ct 7), (.sel Ct 8), (.sel Ct 9), (.sel Ct 10), (.sel il 1), u3, u5, u7, (.sel BG 11), (.sel BG 12), (.sel BG 13), (.sel BG 14), (.sel BG 15), (.sel BG 7), u2, u4, u6, u8, (.sel BG 3), (.sel BG 4), (.sel BG 5), (.sel BG 6), (.sel BG 8), (.sel BG 9), (.sel BG 10)])) x8) eW) eW) x8) x8)
def Ds : SE := (.app 70 (.rcons (.c 0) (.rcons u0 (.rcons u1 (.rcons u2 (.rcons u3 (.rcons u4 (.rcons u5 (.rcons u6 (.rcons u7 (.rcons u8 (.rcons u9 (.rcons u10 (.rcons u11 (.rcons u12 (.rcons u13 (.rcons u14 (.rcons u15 (.rcons u16 (.rcons u17 iA))))))))))))))))))))
def Qi : SE := (.app 42 (rl [(.c 0), u0, u1, u2, (.sel Ds 1), u4, (.sel Ds 2), u6, (.sel Ds 3), u8, u9, u10, u11, u12, u13, u14, u15, u16, u17, u18, u19, Rb]))
def iy : SE := (.app 55 (.rcons (.c 0) (.rcons u20 jD)))
def ia : SE := (rl [(.sel iy 1), u32])
def BI : SE := (.app 62 (.rcons (.c 0) (.rcons u0 (.rcons u1 (.rcons u2 (.rcons u3 (.rcons u4 (.rcons u5 (.rcons u6 (.rcons u7 (.rcons u8 (.rcons u9 (.rcons u10 (.rcons u11 (.rcons u12 (.rcons u13 (.rcons u14 (.rcons u15 (.rcons u16 (.rcons u17 (.rcons u18 (.rcons u19 ia))))))))))))))))))))))
def CD : SE := (.app 64 (.rcons (.c 0) (.rcons u20 (.rcons u21 (.rcons u22 (.rcons u23 (.rcons u24 (.rcons u25 (.rcons u26 (.rcons u27 (.rcons u28 (.rcons u29 ia))))))))))))
def cD : SE := (.app 58 (rl [(.c 0), (.sel BI 8), (.sel BI 9), u2, u3, u4, u5, u6, u7, u8, (.sel BI 2), (.sel BI 3), (.sel BI 4), (.sel BI 10), (.sel BI 14), (.sel BI 11), (.sel BI 12), (.sel BI 13), (.sel BI 5), (.sel BI 6), (.sel BI 7), (.sel CD 1), (.sel CD 2), (.sel CD 3), (.sel CD 4), (.sel CD 5), (.sel CD 6), (.sel CD 7), (.sel CD 8), (.sel CD 9), (.sel CD 10)]))
def Ir : SE := (.app 62 (.rcons (.c 0) (.rcons u14 (.rcons u15 (.rcons u1 (.rcons u2 (.rcons u3 (.rcons u4 (.rcons u5 (.rcons u6 (.rcons u7 (.rcons u8 (.rcons u9 (.rcons u10 (.rcons u43 (.rcons u47 (.rcons u44 (.rcons u45 (.rcons u46 (.rcons u11 (.rcons u12 (.rcons u13 (.rcons Rb x88)))))))))))))))))))))))
def iq : SE := (.app 58 (rl ([(.c 0), u36, u37, u26, u2, u27, u4, u28, u6, u29, u30, u31, u32, u38, u42, u39, u40, u41, u33, u34, u35] ++ us 16 10)))
def Qy : Tr Plf := (
 .split (.eql (.sel (.app 1 WK) 0) (.c 1)) x1 x8)
def Zm : SE := (.cat .emptyL u2)
def aF : SE := (.cat .emptyL u3)
def E7 : SE := (.app 22 (rl [(.c 0), u0, TF, (.and (.bc false) (.eql x2 (.c 0))), Zm, (.and (.bc false) (.eql x0 (.c 0))), aF, (.and (.bc false) (.eql x3 (.c 0)))]))
def Li : SE := (.app 29 S6)
def jp : SE := (.eql (.sel Li 0) (.c 1))
def bP : SE := (.eql (.sel Li 8) (.c 0))
def Ci : SE := (.app 22 (rl [(.c 0), u0, TF, (.bc false), Zm, (.bc false), aF, (.bc false)]))
def QR : SE := (.app 30 (.rcons (.c 0) (.rcons (.sel Ci 12) (.rcons (.sel Ci 13) (.rcons (.sel Ci 1) (.rcons (.sel Ci 2) (.rcons (.sel Ci 3) (.rcons (.sel Ci 4) (.rcons (.sel Ci 5) (.rcons (.sel Ci 6) (.rcons (.sel Ci 7) (.rcons (.sel Ci 8) (.rcons (.sel Ci 9) (.rcons (.sel Ci 10) (.rcons (.c 0) (.rcons (.sel Ci 17) (.rcons (.sel Ci 14) (.rcons (.sel Ci 15) (.rcons (.sel Ci 16) (.rcons (.bc false) (.rcons (.sel Ci 11) WE)))))))))))))))))))))
def OU : SE := (.app 30 (.rcons (.c 0) (.rcons u37 (.rcons u38 (.rcons u26 (.rcons u27 (.rcons u28 (.rcons u29 (.rcons u30 (.rcons u31 (.rcons u32 (.rcons u33 (.rcons u34 (.rcons u35 (.rcons (.c 0) (.rcons u42 (.rcons u39 (.rcons u40 (.rcons u41 (.rcons (.bc false) (.rcons u36 WE)))))))))))))))))))))
def cZ : SE := (.app 31 (.rcons (.c 0) (.rcons (.sel OU 1) (.rcons (.nilIs (.sel OU 2) (.sel OU 3)) (.rcons (.nilIs (.sel OU 4) (.sel OU 5)) (.rcons (.nilIs (.sel OU 6) (.sel OU 7)) fT))))))
def Cv : SE := (.app 71 (rl ([(.c 0), u26, u27] ++ us 13 10 ++ [u28, u32, u29, u30, u31, u23, u24, u25] ++ us 3 10 ++ [x29, x98, ap, XG, WG])))
def kT : Tr Plf :=
 .split (.lss (.c 6) x0) x1 (
 .split (.lss (.c 8) x2) x1 (
 .split (.lss (.c 14) x3) x1 (
 .split (.lss (.c 60) x4) x1 x5)))
def lW : Tr Plf :=
 .split x6 (
 .split x7 x8 (
 .split (.lss (.c 60) (.lenS x9)) x1 x11)) x12
def l5 : Tr Plf :=
 .split x13 (
 .split x7 x8 (
 .split (.lss (.c 60) (.lenS x14)) x1 x15)) x16
def kR : Tr Plf :=
 .split x18 (
 .split x7 x8 (
 .split (.lss (.c 60) (.lenS x19)) x1 (
 .split (.lss (.c 60) (.lenS x20)) x1 (
 .split (.lss (.c 60) (.lenS x21)) x1 (
 .split (.lss (.c 60) (.lenS x22)) x1 (
 .split (.lss (.c 60) (.lenS x23)) x1 x24)))))) x25
def t0 : List (Tr Plf) := [kT, lW, l5, kR]
def lL : Tr Plf :=
 .leaf (.done 0 [])
def t1 : List (Tr Plf) := [lL]
def lp : Tr Plf :=
 .split (.lss x4 (.c 1)) x25 (
 .split (.lss (.c 32) x4) x25 (
 .leaf (.next 1 [(.bytes u0), (.lenL (.bytes u0)), (.c 0)])))
def lR : Tr Plf :=
 .split (.lss u2 u1) (
 .split x26 x8 (
 .split x28 (
 .split (.lss x30 (.c 97)) (
 .split (.lss x30 (.c 65)) (
 .split x31 x25 (
 .split (.lss x30 (.c 48)) x25 (
 .split (.lss (.c 57) x30) x25 x33))) (
 .split (.lss (.c 90) x30) (
 .split x31 x25 (
 .split (.eql x30 (.c 95)) x33 x25)) x33)) (
 .split (.lss (.c 122) x30) (
 .split x31 x25 x25) x33)) x8)) x1
def t2 : List (Tr Plf) := [lp, lR]
def kY : Tr Plf :=
 .leaf x34
def l9 : Tr Plf :=
 .split x35 x40 x41
def t3 : List (Tr Plf) := [kY, l9]
def l6 : Tr Plf :=
 .split x42 x43 x45
def lu : Tr Plf :=
 .split x46 (
 .split x36 x8 (
 .split x47 (
 .split (.eql (.sel x49 0) (.c 1)) (
 .split (.sel x49 1) (
 .split (.eql (.sel x50 0) (.c 1)) (
 .split (.lss (.sel x50 1) u1) x38 (
 .split (.lss x51 (.c 1)) x38 (
 .split (.lss (.c 1000) x51) x38 x52))) x8) x38) x8) x8)) x41
def t4 : List (Tr Plf) := [l6, lu]
def lF : Tr Plf :=
 .leaf x34
def lZ : Tr Plf :=
 .split x35 x40 x41
def t5 : List (Tr Plf) := [lF, lZ]
def lC : Tr Plf :=
 .split x42 x43 x45
def lY : Tr Plf :=
 .split x46 (
 .split x36 x8 (
 .split x53 (
 .split (.eql (.sel x55 0) (.c 1)) (
 .split (.sel x55 1) (
 .split (.eql (.sel x56 0) (.c 1)) (
 .split (.lss (.sel x56 1) u1) x38 (
 .split (.lss x57 (.c 0)) x38 (
 .split (.lss (.c 1048576) x57) x38 x52))) x8) x38) x8) x8)) x41
def t6 : List (Tr Plf) := [lC, lY]
def lx : Tr Plf :=
 .leaf (.next 1 ([u0, (.c 0)] ++ us 1 9))
def lD : Tr Plf :=
 .split x35 (
 .split x36 x8 (
 .split (.and (.eqSS u2 x37) (.and (.eqSS u3 x58) (.and (.eql u4 (.cell u0 u1 2)) (.and (.eqSS u5 (.cell u0 u1 3)) (.and (.eqSS u6 (.cell u0 u1 4)) (.and (.eqSS u7 (.cell u0 u1 5)) (.and (.eql u8 (.cell u0 u1 6)) (.and (.eql u9 (.cell u0 u1 7)) (.eql u10 (.cell u0 u1 8)))))))))) x38 (
 .leaf (.next 1 ([u0, x39] ++ us 2 9))))) x41
def t7 : List (Tr Plf) := [lx, lD]
def lS : Tr Plf :=
 .split x42 x43 x45
def lV : Tr Plf :=
 .split x46 (
 .split x36 x8 (
 .split (.lss u1 x59) (
 .split (.eql x60 (.c 1)) x86 (
 .split (.eql x60 (.c 2)) x86 (
 .split (.eql x60 (.c 3)) (
 .split x63 (
 .split x66 (
 .split x67 x38 (
 .split x70 (
 .split x71 x38 (
 .split x72 x8 (
 .split x79 (
 .split x80 (
 .split x81 (
 .split (.lss (.c 0) (.cell u3 (.sel x62 1) 2)) x87 x38) x8) x38) x8))) x8)) x8) x8) (
 .split (.eql x60 (.c 4)) (
 .split x63 (
 .split x66 (
 .split x67 x38 (
 .split x70 (
 .split x71 x38 (
 .split x72 x8 (
 .split x79 (
 .split x80 (
 .split x81 x87 x8) x38) x8))) x8)) x8) x8) (
 .split x63 (
 .split x66 x38 x8) x8))))) x8)) x41
def t8 : List (Tr Plf) := [lS, lV]
def lX : Tr Plf :=
 .split (.eql (.sel x89 0) (.c 1)) (
 .split (.sel x89 1) (
 .split (.eql (.sel x93 0) (.c 1)) (
 .split (.lss (.sel x93 1) (.c 0)) (
 .split (.eql (.sel x94 0) (.c 1)) (
 .split (.lss (.sel x94 1) (.c 0)) (
 .split (.eql (.sel x95 0) (.c 1)) (
 .split (.lss (.sel x95 1) (.c 0)) x96 (
 .leaf (.done 0 [(.sel x95 1), (.c 293)]))) x8) (
 .leaf (.done 0 [(.sel x94 1), (.c 292)]))) x8) (
 .leaf (.done 0 [(.sel x93 1), (.c 291)]))) x8) x97) x8
def t9 : List (Tr Plf) := [lX]
def jO : Tr Plf :=
 .leaf (.next 1 [u0, u1, (.c 0), u2])
def fx : Tr Plf :=
 .split x28 (
 .split x26 x8 (
 .split (.eqSS x29 u3) x44 (
 .leaf (.next 1 [u0, u1, x32, u3])))) x41
def t10 : List (Tr Plf) := [jO, fx]
def iN : Tr Plf :=
 .split (.lss (.c 4) x27) x8 (
 .leaf (.next 1 [u0, u1, (.c 0), .nilL, (.bc true)]))
def gZ : Tr Plf :=
 .split x28 (
 .split x26 x8 (
 .split (.eqS x29 0 0) x8 (
 .split (.lss x98 (.c 1)) x8 (
 .split (.lss (.c 1000) x98) x8 (
 .split (.eql (.sel x99 0) (.c 1)) (
 .split (.lss (.sel x99 1) (.c 0)) (
 .split WL (
 .leaf (.next 1 [u0, u1, x32, (.snoc u3 (.rcons x29 (.rcons x98 WK))), (.bc false)])) x8) x8) x8))))) OM
def t11 : List (Tr Plf) := [iN, gZ]
def gN : Tr Plf :=
 .split u1 TK SW
def t12 : List (Tr Plf) := [gN]
def eu : Tr Plf :=
 .split u1 TK SW
def t13 : List (Tr Plf) := [eu]
def jU : Tr Plf :=
 .split u1 TK SW
def t14 : List (Tr Plf) := [jU]
def dG : Tr Plf :=
 .leaf (.next 1 [.nilL, (.bc true), u0, u1, (.c 0), u2])
def iE : Tr Plf :=
 .split ZK (
 .split XB x8 (
 .split (.eqSS WA u5) (
 .split (.lss x27 Pq) (
 .leaf (.next 1 [(.snoc u0 (rl [WA, jP, ZU])), (.bc false), u2, u3, Vi, u5])) x8) (
 .leaf (.next 1 [u0, u1, u2, u3, Vi, u5])))) gt
def t15 : List (Tr Plf) := [dG, iE]
def fa : Tr Plf :=
 .split (.lss u5 (.c 0)) jw (
 .split (.lss u5 (.c 256)) (
 .split u2 Tj (
 .split aC Tj (
 .leaf (.done 0 [(.arith .sub .i64 (.cell u1 WJ 1) u0), (.c 0)])))) jw)
def t16 : List (Tr Plf) := [fa]
def g9 : Tr Plf :=
 .split (.eql (.sel Y9 0) (.c 1)) (
 .split (.eql (.sel Y9 2) (.c 0)) (
 .split u2 bx (
 .split aC bx (
 .leaf (.done 0 [(.c 0), (.rmv u1 WJ)])))) (
 .leaf (.done 0 [(.sel Y9 2), u1]))) x8
def t17 : List (Tr Plf) := [g9]
def jJ : Tr Plf :=
 .split (.lss x0 Pq) (
 .leaf (.next 1 [(.arith .sub .i64 (.lenL eN) (.c 1)), u0, eN, (.bc false), u1])) x8
def f4 : Tr Plf :=
 .split (.lss (.c 0) u0) (
 .split (.lss HN (.c 0)) x8 (
 .split (.lss HN x0) (
 .split x13 (
 .split (.lss ZB x14) (
 .split aO TJ (
 .split Ze TJ TJ)) (
 .split (.lss x14 ZB) (
 .split aO XU (
 .split Ze XU XU)) (
 .split aO TJ (
 .split Ze XU TJ)))) x8) x8)) TJ
def t18 : List (Tr Plf) := [jJ, f4]
def gX : Tr Plf :=
 .split WL (
 .leaf (.next 1 [(.arith .sub .i64 (.lenL (.snoc u3 SS)) (.c 1)), u0, u2, (.snoc u3 SS), (.bc false), u1])) x8
def eG : Tr Plf :=
 .split (.lss (.c 0) u0) (
 .split (.lss HN (.c 0)) x8 (
 .split (.lss HN x3) (
 .split x6 (
 .split (.lss Zn x9) (
 .split ZM OM (
 .split Y3 OM OM)) (
 .split (.lss x9 Zn) (
 .split ZM W7 (
 .split Y3 W7 W7)) (
 .split ZM OM (
 .split Y3 W7 OM)))) x8) x8)) OM
def t19 : List (Tr Plf) := [gX, eG]
def ep : Tr Plf :=
 .split (.lss u5 (.c 0)) gF (
 .split (.lss u5 (.c 256)) (
 .split (.lss u6 (.c 0)) eR (
 .split (.lss (.arith .sub .i64 Rb u0) u6) eR (
 .split u2 (
 .split (.eql (.sel ZH 0) (.c 1)) (
 .leaf (.done 0 [(.c 0), (.bc false), (.sel ZH 1), (.sel ZH 2), (.snoc .emptyL WI)])) x8) (
 .split aC (
 .split (.eql (.sel Zg 0) (.c 1)) (
 .leaf (.done 0 [(.c 0), u2, (.sel Zg 1), (.sel Zg 2), (.snoc u1 WI)])) x8) (
 .split (.eql (.sel aG 0) (.c 1)) (
 .leaf (.done 0 [(.c 0), u2, (.sel aG 1), (.sel aG 2), iX])) x8))))) gF)
def t20 : List (Tr Plf) := [ep]
def ij : Tr Plf :=
 .split (.eql (.sel fD 0) (.c 1)) (
 .split (.lss (.c 0) (.lenL S1)) (
 .split (.eql (.sel (.app 17 TU) 0) (.c 1)) (
 .split (.lss (.c 0) Wv) (
 .split (.eql (.sel V1 0) (.c 1)) (
 .leaf (.done 0 [(.cell S1 (.c 0) 0), (.cell S1 (.c 0) 1), Wv, (.sel V1 2), (.sel V1 3), (.sel V1 4), (.sel V1 5)])) x8) (
 .leaf (.done 0 [(.cell S1 (.c 0) 0), (.cell S1 (.c 0) 1), Wv, u14, u15, u16, (.sel (.app 17 TU) 2)]))) x8) x8) x8
def t21 : List (Tr Plf) := [ij]
def dO : Tr Plf :=
 .split (.eql (.sel aP 0) (.c 1)) (
 .split (.eql (.sel aP 2) (.c 0)) (
 .split (.eql (.sel (.app 11 FU) 0) (.c 1)) (
 .split (.eql (.sel Vk 0) (.c 1)) (
 .split (.eql (.sel (.app 13 FU) 0) (.c 1)) (
 .split (.eql (.sel VG 0) (.c 1)) (
 .split (.lss (.c 0) x2) (
 .split (.eql (.sel Px 0) (.c 1)) (
 .leaf (.done 0 [u0, (.sel Vk 1), (.sel Vk 2), (.sel (.app 13 FU) 1), (.sel (.app 13 FU) 2), (.sel VG 1), (.sel VG 2), (.sel Px 1), (.sel Px 2), (.sel Px 3), .nilL, (.sel (.app 11 FU) 1), (.sel (.app 11 FU) 2), (.sel Px 4), (.sel Px 5), (.sel Px 6), (.sel Px 7)])) x8) x8) x8) x8) x8) x8) (
 .leaf (.done 1 [(.sel aP 2)]))) x8
def t22 : List (Tr Plf) := [dO]
def f7 : Tr Plf :=
 .split (.lss x4 (.c 1)) x25 (
 .split (.lss (.c 32) x4) x25 (
 .split (.eql Z7 (.c 95)) x25 (
 .split (.lss Z7 (.c 48)) kx (
 .split (.lss (.c 57) Z7) kx x25))))
def gy : Tr Plf :=
 .split (.lss u1 x4) (
 .split x36 x8 (
 .split (.lss PW (.c 97)) (
 .split (.lss PW (.c 65)) (
 .split (.lss PW (.c 48)) x25 (
 .split (.lss (.c 57) PW) x25 Ww)) (
 .split (.lss (.c 90) PW) (
 .split (.eql PW (.c 95)) Ww x25) Ww)) (
 .split (.lss (.c 122) PW) x25 Ww))) x1
def t23 : List (Tr Plf) := [f7, gy]
def hJ : Tr Plf :=
 .leaf Zy
def eT : Tr Plf :=
 .split x47 (
 .split x36 x8 (
 .split (.eqSS x48 u0) x38 x52)) x41
def t24 : List (Tr Plf) := [hJ, eT]
def cB : Tr Plf :=
 .leaf Zy
def ek : Tr Plf :=
 .split x53 (
 .split x36 x8 (
 .split (.eqSS x54 u0) x38 x52)) x41
def t25 : List (Tr Plf) := [cB, ek]
def eD : Tr Plf :=
 .split XB x8 (
 .split (.lss u4 x3) (
 .split (.eql (.sel ZF 0) (.c 1)) (
 .split (.lss (.sel ZF 1) (.c 0)) x25 (
 .split (.eql (.sel bq 0) (.c 1)) (
 .split (.lss (.sel bq 1) (.c 0)) x25 (
 .split (.eqS Zc 0 0) (
 .split (.eql VK (.c 0)) (
 .split (.eql V8 (.c 0)) (
 .split (.eql Te (.c 0)) iG x25) x25) x25) (
 .split (.eql (.sel W1 0) (.c 1)) (
 .split (.lss (.sel W1 1) (.c 0)) x25 (
 .split (.lss VK (.c 0)) x25 (
 .split (.lss V8 VK) x25 (
 .split (.lss (.sel W1 1) x0) (
 .split (.lss cW V8) x25 (
 .split (.lss Te (.c (-1000))) x25 (
 .split (.lss (.c 1000) Te) x25 (
 .split (.lss (.arith .add .i64 VK Te) (.c 0)) x25 (
 .split (.lss cW (.arith .add .i64 V8 Te)) x25 iG))))) x8)))) x8))) x8)) x8) x8)
def jS : Tr Plf :=
 .split (.lss u2 u0) (
 .split x26 x8 (
 .split Xw (
 .split (.and (.eqSS S5 u7) (.and (.eqSS Pb u8) (.and (.eql (.cell u6 u2 2) u9) (.and (.eqSS (.cell u6 u2 3) u10) (.and (.eqSS (.cell u6 u2 4) u11) (.and (.eqSS (.cell u6 u2 5) u12) (.and (.eql (.cell u6 u2 6) u13) (.and (.eql (.cell u6 u2 7) u14) (.eql (.cell u6 u2 8) u15))))))))) x25 (
 .leaf (.next 1 ([u0, u1, x32] ++ us 3 13)))) x8)) (
 .split (.eql u9 (.c 1)) bp (
 .split (.eql u9 (.c 2)) bp (
 .split (.eql u9 (.c 3)) (
 .split (.eqS u10 0 0) (
 .split (.eqS u11 0 0) (
 .split x36 x8 (
 .split x47 (
 .leaf (.done 0 [(.lss (.c 0) (.cell u4 u1 2))])) x8)) x25) x25) (
 .split (.eql u9 (.c 4)) (
 .split (.eqS u10 0 0) (
 .leaf (.done 0 [(.eqS u11 0 0)])) x25) x25))))
def t26 : List (Tr Plf) := [eD, jS]
def eL : Tr Plf :=
 .split (.eql (.sel kz 0) (.c 1)) (
 .split (.sel kz 1) (
 .split (.lss (.c 4) x0) (
 .leaf (.done 0 [(.c 4), (.c 291)])) x5) x97) x8
def cr : Tr Plf :=
 .split x6 (
 .split x7 x8 (
 .split (.eql (.sel fh 0) (.c 1)) (
 .split (.sel fh 1) (
 .split (.eql (.sel kJ 0) (.c 1)) (
 .split (.eql (.sel kJ 1) u0) (
 .split (.lss ST (.c 1)) Xr (
 .split (.lss (.c 1000) ST) Xr x11)) Xr) x8) Xr) x8)) (
 .split (.eql x0 (.c 0)) (
 .leaf (.done 0 [(.c 0), (.c 292)])) (
 .split (.lss (.c 24) x0) (
 .leaf (.done 0 [(.c 24), (.c 292)])) x12))
def ew : Tr Plf :=
 .split x13 (
 .split x7 x8 (
 .split (.eql (.sel jM 0) (.c 1)) (
 .split (.sel jM 1) (
 .split (.eql (.sel j3 0) (.c 1)) (
 .split (.eql (.sel j3 1) u0) (
 .split (.lss ZC (.c 0)) Xl (
 .split (.lss (.c 1048576) ZC) Xl x15)) Xl) x8) Xl) x8)) (
 .split (.lss (.c 80) x17) (
 .leaf (.done 0 [(.c 80), (.c 293)])) x16)
def gO : Tr Plf :=
 .split x18 (
 .split (.eql (.sel ba 0) (.c 1)) (
 .split (.sel ba 1) x24 (
 .leaf (.done 0 [u0, (.c 293)]))) x8) x96
def t27 : List (Tr Plf) := [eL, cr, ew, gO]
def eU : Tr Plf :=
 .split (.lss (.c 4) x27) VA (
 .leaf (.next 1 [u0, (.c 0), .nilL, (.bc true), .nilL, (.bc true)]))
def bI : Tr Plf :=
 .split x35 (
 .split x36 x8 (
 .split (.eqS x37 0 0) VA (
 .split (.lss x58 (.c 1)) VA (
 .split (.lss (.c 1000) x58) VA (
 .leaf (.next 2 [u0, u1, (.c 0), u2, u3, u4, u5])))))) (
 .leaf (.done 0 [(.nilIs u2 u3), (.nilIs u4 u5), (.c 0)]))
def g8 : Tr Plf :=
 .split (.lss u2 u1) (
 .split x26 x8 (
 .split x28 (
 .split x36 x8 (
 .split x35 (
 .split (.eqSS x29 x37) VA (
 .leaf (.next 2 [u0, u1, x32, u3, u4, u5, u6]))) x8)) x8)) (
 .split x36 x8 (
 .split x35 (
 .split WL (
 .split (.lss x59 Pq) (
 .leaf (.next 1 [u0, x39, (.snoc u3 (rl [x37, x58])), (.bc false), (.snoc u5 WK), (.bc false)])) x8) x8) x8))
def t28 : List (Tr Plf) := [eU, bI, g8]
def dS : Tr Plf :=
 .split (.eql (.sel (.app 27 S6) 0) (.c 1)) (
 .split (.eql (.sel (.app 27 S6) 2) (.c 0)) (
 .split (.eql (.sel ZG 0) (.c 1)) (
 .split (.lss (.c 0) x2) (
 .leaf (.done 0 [u0, u1, u2, u3, (.cell u1 (.c 0) 0), (.sel ZG 1), (.sel ZG 2), (.c 0)])) x8) x8) (
 .leaf (.done 0 [(.strc 0 0), .nilL, .nilL, .nilL, (.strc 0 0), .nilL, .nilL, (.sel (.app 27 S6) 2)]))) x8
def t29 : List (Tr Plf) := [dS]
def gY : Tr Plf :=
 .split (.eql (.sel (.app 12 FU) 0) (.c 1)) (
 .split (.eql (.sel ab 0) (.c 1)) (
 .split Vg (
 .leaf (.done 0 [u2, (.sel (.app 12 FU) 1), (.sel (.app 12 FU) 2), (.sel ab 1), (.sel ab 2), (.sel Wo 1), (.sel Wo 2)])) x8) x8) x8
def t30 : List (Tr Plf) := [gY]
def eJ : Tr Plf :=
 .split (.eqSS u0 u4) (
 .split (.eql x0 TB) (
 .split (.eql x2 x59) (
 .split (.eql x3 Qc) (
 .leaf (.next 1 ([(.c 0)] ++ us 0 8))) x25) x25) x25) x25
def di : Tr Plf :=
 .split x6 (
 .split x7 x8 (
 .split (.lss u0 Qc) (
 .split (.and (.eqSS x9 (.cell u7 u0 0)) (.eql ST (.cell u7 u0 1))) (
 .leaf (.next 1 ([x10] ++ us 1 8))) x25) x8)) (
 .leaf (.next 2 ([(.c 0)] ++ us 1 8)))
def bu : Tr Plf :=
 .split x13 (
 .split x7 x8 (
 .split (.lss u0 TB) (
 .split (.and (.eqSS x14 (.cell u6 u0 0)) (.and (.neg (.and (.neg (.and (.and Uk (.bc true)) bG)) (.neg (.and (.neg (.and Uk (.bc true))) (.neg bG))))) (.eql ZC (.cell u6 u0 2)))) (
 .leaf (.next 2 ([x10] ++ us 1 8))) x25) x8)) (
 .leaf (.next 3 ([(.c 0)] ++ us 1 8)))
def ix : Tr Plf :=
 .split x18 (
 .split x7 x8 (
 .split (.lss u0 (.lenL u8)) (
 .split (.and (.eqSS x19 (.cell u8 u0 0)) (.and (.eqSS x20 (.cell u8 u0 1)) (.and (.eql (.cell u4 u0 2) (.cell u8 u0 2)) (.and (.eqSS x21 (.cell u8 u0 3)) (.and (.eqSS x22 (.cell u8 u0 4)) (.and (.eqSS x23 (.cell u8 u0 5)) (.and (.eql (.cell u4 u0 6) (.cell u8 u0 6)) (.and (.eql (.cell u4 u0 7) (.cell u8 u0 7)) (.eql (.cell u4 u0 8) (.cell u8 u0 8)))))))))) (
 .leaf (.next 3 ([x10] ++ us 1 8))) x25) x8)) x1
def t31 : List (Tr Plf) := [eJ, di, bu, ix]
def dP : Tr Plf :=
 .split u1 (
 .leaf (.done 0 [(.bc true), .emptyL])) (
 .leaf (.done 0 [(.bc false), u0]))
def t32 : List (Tr Plf) := [dP]
def jW : Tr Plf :=
 .split u1 TK SW
def t33 : List (Tr Plf) := [jW]
def fZ : Tr Plf :=
 .split u2 (
 .split gv (
 .leaf (.done 0 [u0, (.bc true), (.sel (.app 33 FU) 1), (.sel (.app 33 FU) 2), .emptyL])) x8) (
 .split gv (
 .leaf (.done 0 [u0, (.bc false), (.sel (.app 33 FU) 1), (.sel (.app 33 FU) 2), u1])) x8)
def t34 : List (Tr Plf) := [fZ]
def fI : Tr Plf :=
 .split (.lss Q7 (.c 0)) x8 (
 .split (.lss Q7 x3) (
 .split (.lss (.c 0) x3) (
 .split (.lss (.lenL gT) Q7) x8 (
 .leaf (.next 1 [Q7, (.c 0), u0, u2, (.sub gT (.c 0) Q7), u4, u1]))) x8) x8)
def iO : Tr Plf :=
 .leaf (.next 2 [u0, u1, u1, (.c 0), u2, u3, u4, u5, u6, (.arith .add .i64 dA (.c 1)), (.arith .add .i64 dA (.c 2))])
def ey : Tr Plf :=
 .split (.lss u3 (.c 2)) (
 .split (.eql u3 (.c 0)) (
 .split (.lss u9 u0) (
 .split (.lss u9 (.c 0)) x8 (
 .split (.lss u9 TB) (
 .split x26 x8 (
 .split Xw (
 .split (.lss bb S5) (
 .split Zd Wr (
 .split (.lss Pb ZY) Wr Wr)) (
 .split (.lss S5 bb) (
 .split Zd Ok bR) (
 .split Zd Wr bR))) x8)) x8)) Ok) (
 .split (.eql u3 (.c 1)) (
 .split (.lss u10 u0) (
 .split (.lss u10 (.c 0)) x8 (
 .split (.lss u10 TB) (
 .split x26 x8 (
 .split Xw (
 .split (.lss jx S5) (
 .split ZT XJ (
 .split (.lss Pb Z1) XJ XJ)) (
 .split (.lss S5 jx) (
 .split ZT Ok be) (
 .split ZT XJ be))) x8)) x8)) Ok) x8)) (
 .split (.eql u2 u1) (
 .leaf (.done 0 [u6, u7])) (
 .split x26 x8 (
 .split Xw (
 .split x36 x8 (
 .split (.lss u1 TB) (
 .leaf (.next 1 [u0, u2, u4, u5, (.upd (.upd (.upd (.upd u6 u1 0 S5) u1 1 Pb) u2 0 (.cell u6 u1 0)) u2 1 (.cell u6 u1 1)), u7, u8])) x8)) x8)))
def t35 : List (Tr Plf) := [fI, iO, ey]
def iU : Tr Plf :=
 .leaf (.next 1 [u0, u2, u3, u4, u1])
def b9 : Tr Plf :=
 .split (.lss (.c 0) x0) (
 .split u1 Z2 (
 .split (.lss dx (.c 0)) Z2 (
 .split (.eql (.cell u4 dx 1) (.cell u2 (.c 0) 0)) (
 .leaf (.done 0 [(.cell u2 (.c 0) 0), (.cell u2 (.c 0) 1), (.bc true), u2, u3])) Z2))) (
 .leaf (.done 0 [(.c 0), (.c 0), (.bc false), u2, u3]))
def t36 : List (Tr Plf) := [iU, b9]
def dU : Tr Plf :=
 .split (.lss Rb u5) (
 .leaf (.done 0 [.nilL, (.bc true), (.c 3), u0, u3, u4, u1])) (
 .split (.lss u0 u5) (
 .split (.eql (.sel Ti 0) (.c 1)) (
 .leaf (.next 1 [.nilL, (.bc true), (.sel Ti 3), u5, u2, (.sel Ti 4), (.sel Ti 5), u1, (.sel Ti 1), (.sel Ti 2)])) x8) (
 .split (.eql (.sel Tc 0) (.c 1)) (
 .leaf (.next 1 [.nilL, (.bc true), (.sel Tc 3), u0, u2, (.sel Tc 4), (.sel Tc 5), u1, (.sel Tc 1), (.sel Tc 2)])) x8))
def bl : Tr Plf :=
 .split u2 (
 .split (.lss u3 u8) bf (
 .split (.lss x27 Pq) (
 .split u4 eZ (
 .split (.lss ZD (.c 0)) eZ (
 .split (.eql (.sel SP 0) (.c 1)) (
 .leaf (.next 1 [(.snoc u0 Xf), (.bc false), (.sel SP 3), u3, u4, (.sel SP 4), (.sel SP 5), (.rmv u7 ZD), (.sel SP 1), (.sel SP 2)])) x8))) x8)) bf
def t37 : List (Tr Plf) := [dU, bl]
def bY : Tr Plf :=
 .split (.eql (.sel Xb 0) (.c 1)) (
 .split (.lss (.sel Xb 1) (.c 0)) Tj (
 .split (.lss (.sel Xb 1) x27) (
 .leaf (.done 0 [(.cell u0 (.sel Xb 1) 2), (.c 0)])) x8)) x8
def t38 : List (Tr Plf) := [bY]
def fU : Tr Plf :=
 .split XP Y4 (
 .split (.eql (.sel (.app 38 Pn) 0) (.c 1)) (
 .split (.eql (.sel (.app 38 Pn) 2) (.c 0)) (
 .split fX (
 .split (.lss Qd (.c 0)) x8 (
 .split (.lss Qd x27) (
 .split (.lss XV u8) Od (
 .split (.lss u9 XV) Od (
 .split (.lss u10 (.arith .sub .i64 (.c 0) XV)) Od (
 .leaf (.done 0 [(.neg (.lss (.arith .sub .i64 (.cell u0 Qd 1) XV) u10)), (.c 0)]))))) x8)) x8) (
 .leaf (.done 0 [(.bc false), (.sel (.app 38 Pn) 2)]))) x8)
def t39 : List (Tr Plf) := [fU]
def fg : Tr Plf :=
 .leaf fk
def j9 : Tr Plf :=
 .split aJ fb x1
def t40 : List (Tr Plf) := [fg, j9]
def bZ : Tr Plf :=
 .leaf (.next 1 ([u23, u24, (.c 0), u0, u1, u22] ++ us 4 10 ++ [u19, u20, u21, u2, u3, u14, u16, u17, u18, u15, u25]))
def jT : Tr Plf :=
 .split x28 (
 .split x26 x8 (
 .split (.eqSS x29 u26) (
 .split (.eql (.sel jQ 0) (.c 1)) (
 .split (.sel jQ 1) (
 .split WL (
 .leaf (.next 1 [u0, u1, x32, (.snoc u3 XQ), (.bc false), u5, u6, u7, u8, u9, u10, u11, u12, u13, u14, u15, u16, u17, u18, u19, u20, u21, u22, u23, u24, u25, u26])) x8) iJ) x8) iJ)) OM
def t41 : List (Tr Plf) := [bZ, jT]
def gh : Tr Plf :=
 .split ZL jt (
 .split ZA jt (
 .split XL (
 .split Zw (
 .split u17 (
 .split Vg (
 .split (.eql (.sel aT 0) (.c 1)) (
 .leaf (.done 0 [(.sel aT 1), (.sel aT 2), (.c 0), (.bc true), JR, H1, JS, JX, JW])) x8) x8) (
 .split Vg (
 .split (.eql (.sel Zf 0) (.c 1)) (
 .leaf (.done 0 [(.sel Zf 1), (.sel Zf 2), (.c 0), PV, JR, H1, JS, JX, JW])) x8) x8)) x8) x8))
def t42 : List (Tr Plf) := [gh]
def fG : Tr Plf :=
 .leaf (.next 1 [u2, (.c 0), u0, u1])
def i7 : Tr Plf :=
 .split (.lss u1 x0) (
 .split x36 x8 (
 .split (.eqSS (.cell u2 u1 0) u0) x38 (
 .leaf (.next 1 [u0, x39, u2, u3])))) x41
def t43 : List (Tr Plf) := [fG, i7]
def i6 : Tr Plf :=
 .split XP Y4 (
 .split bw (
 .split (.lss N4 (.c 0)) (
 .leaf (.done 0 [(.bc false), (.c 9)])) (
 .split (.lss N4 x27) (
 .split (.lss N4 x2) (
 .split (.lss Z8 u8) Od (
 .split (.lss u9 Z8) Od (
 .split (.lss u10 (.c (-1000))) Od (
 .split (.lss (.c 1000) u10) Od (
 .split (.lss fE (.c 0)) Od (
 .split (.lss (.cell u0 N4 1) fE) Od Y4)))))) x8) x8)) x8)
def t44 : List (Tr Plf) := [i6]
def j7 : Tr Plf :=
 .leaf Zy
def jK : Tr Plf :=
 .split x53 (
 .split x36 x8 (
 .split (.eqSS x54 u0) (
 .leaf (.done 0 [x54, (.cell u3 u1 1), x57])) x52)) (
 .leaf (.done 0 [(.strc 0 0), (.bc false), (.c 0)]))
def t45 : List (Tr Plf) := [j7, jK]
def fW : Tr Plf :=
 .split (.lss u11 (.c 0)) x8 (
 .split (.lss u11 x3) (
 .split (.eql (.sel (.app 44 Vh) 0) (.c 1)) (
 .split (.eqSS kj u4) (
 .split (.sel (.app 44 Vh) 1) (
 .split (.eql gm (.c 3)) (
 .split gM (
 .leaf (.done 0 [(.neg (.lss (.arith .sub .i64 u10 u5) (.sel (.app 45 Xy) 3)))])) x8) x1) x25) x25) x8) x8)
def t46 : List (Tr Plf) := [fW]
def fY : Tr Plf :=
 .split Zz kN (
 .split ZS kN (
 .leaf (.next 1 ([u10, .nilL, (.bc true), (.c 0)] ++ us 0 8 ++ [u9]))))
def iH : Tr Plf :=
 .split (.lss u3 Qc) (
 .split (.eql (.sel cK 0) (.c 1)) (
 .split (.sel cK 1) (
 .split (.lss x2 Pq) (
 .leaf (.next 1 [u0, (.snoc u1 x90), (.bc false), TL, u4, u5, u6, u7, u8, u9, u10, u11, u12])) x8) (
 .leaf (.next 1 ([u0, u1, u2, TL] ++ us 4 9)))) x8) (
 .leaf (.done 0 (us 4 8 ++ [u0, u12, u1, u2, (.c 0)])))
def t47 : List (Tr Plf) := [fY, iH]
def j6 : Tr Plf :=
 .split (.eql x27 x0) (
 .leaf (.next 1 [u0, u1, u2, u3, (.c 0)])) x25
def f9 : Tr Plf :=
 .split (.lss u4 x27) (
 .split XB x8 (
 .split ZK (
 .split (.eql (.cell u0 u4 0) WA) (
 .leaf (.next 1 [u0, u1, u2, u3, Vi])) x25) x8)) x1
def t48 : List (Tr Plf) := [j6, f9]
def cj : Tr Plf :=
 .leaf (.done 0 [u9])
def t49 : List (Tr Plf) := [cj]
def fy : Tr Plf :=
 .leaf (.done 0 [u10])
def t50 : List (Tr Plf) := [fy]
def fj : Tr Plf :=
 .leaf (.done 0 [u12])
def t51 : List (Tr Plf) := [fj]
def ca : Tr Plf :=
 .leaf fk
def jk : Tr Plf :=
 .split aJ fb x1
def t52 : List (Tr Plf) := [ca, jk]
def gl : Tr Plf :=
 .leaf (.next 1 ([.nilL, (.bc true), u0, u1, (.c 0), u21] ++ us 4 9 ++ [u18, u19, u20, u2, u3, u13, u15, u16, u17, u14]))
def dh : Tr Plf :=
 .split ZK (
 .split XB x8 (
 .split (.eql ZU (.c 3)) (
 .split (.eql (.sel gD 0) (.c 1)) (
 .split (.sel gD 1) (
 .split (.lss x27 Pq) (
 .leaf (.next 1 [(.snoc u0 fC), (.bc false), u2, u3, Vi, u5, u6, u7, u8, u9, u10, u11, u12, u13, u14, u15, u16, u17, u18, u19, u20, u21, u22, u23, u24])) x8) ib) x8) ib)) gt
def t53 : List (Tr Plf) := [gl, dh]
def eh : Tr Plf :=
 .split (.eql (.sel (.app 16 TU) 0) (.c 1)) (
 .split (.eql (.sel ki 0) (.c 1)) (
 .split (.eql (.lenL (.sel ki 1)) (.c 0)) Tj (
 .split u17 (
 .leaf (.done 0 [u12, (.c 0)])) (
 .split (.eql (.sel (.app 16 TU) 2) (.c 0)) (
 .leaf (.done 0 [(.arith .add .i64 u12 (.sel (.app 16 TU) 1)), (.c 0)])) Tj))) x8) x8
def t54 : List (Tr Plf) := [eh]
def hQ : Tr Plf :=
 .split gM (
 .split (.lss cY u8) (
 .leaf (.next 1 ([u8, (.c 0)] ++ us 0 10))) (
 .leaf (.next 1 ([cY, (.c 0)] ++ us 0 10)))) x8
def f6 : Tr Plf :=
 .split (.lss u1 x59) (
 .split x36 x8 (
 .split (.eql x60 (.c 3)) (
 .split (.lss Rb u0) ag (
 .split (.eql (.sel kE 0) (.c 1)) (
 .split (.sel kE 1) (
 .leaf (.done 0 [u0, (.c 0)])) ag) x8)) ag)) Tj
def t55 : List (Tr Plf) := [hQ, f6]
def gP : Tr Plf :=
 .split u1 TK SW
def t56 : List (Tr Plf) := [gP]
def gc : Tr Plf :=
 .leaf (.next 1 ([u12, u13, (.c 0)] ++ us 0 12))
def gL : Tr Plf :=
 .split x28 (
 .split x26 x8 (
 .split (.eql u2 u14) (
 .split (.lss u14 (.lenL u12)) (
 .split (.lss u14 (.c 0)) x8 (
 .split (.eql x29 (.cell u12 u14 0)) (
 .split (.eql x98 (.cell u12 u14 1)) (
 .leaf (.next 1 [u0, u1, x32, u3, u4, u5, u6, u7, u8, u9, u10, u11, u12, u13, (.arith .add .i64 u14 (.c 1))])) XD) XD)) XD) XD)) (
 .leaf (.done 1 [u14]))
def t57 : List (Tr Plf) := [gc, gL]
def i5 : Tr Plf :=
 .split (.eqSS u9 u24) (
 .split (.eql (.sel Za 0) (.c 1)) (
 .split u10 (
 .split (.sel Za 2) cS x25) (
 .split (.sel Za 2) x25 cS)) x8) x25
def dE : Tr Plf :=
 .split (.lss u0 (.lenL u27)) (
 .split x7 x8 (
 .split (.eql (.sel Y2 0) (.c 1)) (
 .split (.lss u0 (.lenL u28)) (
 .split (.eql (.sel Y2 1) (.cell u28 u0 0)) (
 .split (.eql (.sel Y2 2) (.c 0)) Wa x25) x25) x8) x8)) (
 .split (.eql (.sel aM 0) (.c 1)) (
 .split (.eql (.sel YZ 0) (.c 1)) (
 .split (.eql (.sel aM 1) (.sel YZ 1)) (
 .split (.eql (.sel aM 2) (.sel YZ 2)) (
 .split (.eql (.sel Zj 0) (.c 1)) (
 .split (.eql (.sel Zt 0) (.c 1)) x25 (
 .split (.eql (.sel Zt 0) (.c 2)) (
 .leaf (.done 0 [(.eql (.sel Zt 1) (.lenL u30))])) x8)) x8) x25) x25) x8) x8)
def t58 : List (Tr Plf) := [i5, dE]
def gi : Tr Plf :=
 .leaf (.next 1 ([(.c 0)] ++ us 2 10 ++ [u17, u18, u19, u0, u1, u12, u14, u15, u16, u13, u20, u22, u23, u24, u21] ++ us 26 9 ++ [u25]))
def hP : Tr Plf :=
 .split aJ (
 .split (.eql u0 (.c 0)) (
 .split (.eqSS u26 u8) WV x25) (
 .split (.eql u0 (.c 1)) (
 .split (.eql (.sel j2 0) (.c 1)) (
 .split (.sel j2 1) WV x25) x8) (
 .split (.eql u0 (.c 2)) (
 .split (.eql u28 (.c 3)) (
 .split u35 WV x25) WV) x8))) x1
def t59 : List (Tr Plf) := [gi, hP]
def dq : Tr Plf :=
 .split (.eql (.sel (.app 39 Ou) 0) (.c 1)) (
 .split (.eql (.sel (.app 39 Ou) 2) (.c 0)) (
 .split (.sel (.app 39 Ou) 1) (
 .split XP (
 .leaf (.done 0 [(.c 0), u0])) (
 .split fX (
 .split (.lss Qd (.c 0)) x8 (
 .split (.lss Qd x27) (
 .leaf (.done 0 [(.c 0), (.upd u0 Qd 2 (.arith .add .i64 (.cell u0 Qd 2) u10))])) x8)) x8)) (
 .leaf (.done 0 [(.c 8), u0]))) (
 .leaf (.done 0 [(.sel (.app 39 Ou) 2), u0]))) x8
def t60 : List (Tr Plf) := [dq]
def bH : Tr Plf :=
 .split (.lss (.lenL u18) (.c 100000)) (
 .split (.lss u27 (.c 0)) x8 (
 .split (.lss u27 Qc) (
 .split (.eql (.sel Xj 0) (.c 1)) (
 .split (.eql (.lenL (.sel Xj 2)) x27) (
 .split (.eql (.sel Ot 0) (.c 1)) (
 .leaf (.done 0 [(.sel Ot 1), (.sel Ot 2), (.sel Ot 3), (.snoc u18 (rl [u27, u26])), (.bc false), (.sel Xj 2), u1, u12, u14, u15, u16, u13, u20, (.sel Ot 4), (.sel Ot 5), (.sel Ot 6), (.sel Ot 7)])) x8) x8) x8) x8)) x8
def t61 : List (Tr Plf) := [bH]
def fL : Tr Plf :=
 .split (.lss u21 (.c 0)) dr (
 .split (.lss u21 Qc) (
 .split ZL jz (
 .split ZA jz (
 .split XL (
 .split Zw (
 .split u17 (
 .split (.eql (.sel bC 0) (.c 1)) (
 .split (.sel bC 1) (
 .split (.eql (.sel IqQ 0) (.c 1)) (
 .leaf (.done 0 [(.c 0), (.sel IqQ 1), (.sel IqQ 2), (.sel IqQ 3), (.bc false), (.sel IqQ 4), (.sel IqQ 5), (.sel IqQ 6), (.sel IqQ 7), (.sel IqQ 13), (.sel IqQ 14), (.sel IqQ 15), (.sel IqQ 16), (.sel IqQ 17)])) x8) (
 .leaf (.done 0 [(.c 8), u9, u10, u11, (.bc true), u18, u19, u0, u1, u12, u14, u15, u16, u13]))) x8) (
 .split (.eql (.sel jj 0) (.c 1)) (
 .split (.sel jj 1) (
 .split (.eql (.sel IW 0) (.c 1)) (
 .leaf (.done 0 [(.c 0), (.sel IW 1), (.sel IW 2), (.sel IW 3), (.bc false), (.sel IW 4), (.sel IW 5), (.sel IW 6), (.sel IW 7), (.sel IW 13), (.sel IW 14), (.sel IW 15), (.sel IW 16), (.sel IW 17)])) x8) (
 .leaf (.done 0 [(.c 8), u9, u10, u11, (.bc false), u18, u19, u0, u1, u12, u14, u15, u16, u13]))) x8)) x8) x8))) dr)
def t62 : List (Tr Plf) := [fL]
def fR : Tr Plf :=
 .split (.eql (.sel (.app 44 Ou) 0) (.c 1)) (
 .split (.eql (.sel (.app 44 Ou) 2) (.c 0)) (
 .split (.sel (.app 44 Ou) 1) (
 .split XP (
 .leaf (.done 0 [u0, u1, (.c 0)])) (
 .split bw (
 .split (.lss x2 (.c 1048576)) (
 .split (.lss N4 (.c 0)) x8 (
 .split (.lss N4 (.lenL TF)) (
 .leaf (.done 0 [u0, (.nilIs (.upd TF N4 0 (.arith .add .i64 (.cell TF N4 0) u10)) (.bc false)), (.c 0)])) x8)) x8) x8)) (
 .leaf (.done 0 [u0, u1, (.c 8)]))) (
 .leaf (.done 0 [u0, u1, (.sel (.app 44 Ou) 2)]))) x8
def t63 : List (Tr Plf) := [fR]
def aX : Tr Plf :=
 .split (.lss u11 (.c 0)) bg (
 .split (.lss u11 x3) (
 .split Zz iP (
 .split ZS iP (
 .split (.eql (.sel hI 0) (.c 1)) (
 .split (.sel hI 1) (
 .split (.eql (.sel (.app 63 Vh) 0) (.c 1)) (
 .split (.lss (.lenL u9) (.c 1048576)) (
 .split (.lss (.lenL (.cat .emptyL u9)) Pq) (
 .leaf (.done 0 [u0, u1, u2, u3, dp, u10, (.sel (.app 63 Vh) 1), (.sel (.app 63 Vh) 2), u10, (.nilIs (.snoc (.cat .emptyL u9) (.rcons u11 ZN)) (.bc false)), (.c 0)])) x8) x8) x8) (
 .leaf (.done 0 (us 0 10 ++ [(.c 8)])))) x8))) bg)
def t64 : List (Tr Plf) := [aX]
def ft : Tr Plf :=
 .leaf (.next 1 ([u29, u30, (.c 0), u0, u1, u2, u28] ++ us 5 10 ++ [u20, u21, u22, u3, u4, u15, u17, u18, u19, u16, u23, u25, u26, u27, u24, u31]))
def eo : Tr Plf :=
 .split x28 (
 .split x26 x8 (
 .split (.eqSS x29 u32) (
 .split (.eql ap (.c 2)) (
 .split (.eqSS XG u3) (
 .split (.eqSS WG u4) (
 .split (.eql (.sel iK 0) (.c 1)) (
 .split (.sel iK 1) x44 VB) x8) VB) VB) VB) VB)) (
 .leaf (.done 1 []))
def t65 : List (Tr Plf) := [ft, eo]
def eX : Tr Plf :=
 .split ZL eB (
 .split ZA eB (
 .split XL (
 .split Zw (
 .split u17 (
 .split Vg (
 .split (.eql (.sel TY 0) (.c 1)) (
 .split (.lss (.sel TY 1) (.c 0)) cJ (
 .split (.eql (.sel IT 0) (.c 1)) (
 .leaf (.done 0 [(.sel TY 1), (.c 0), (.sel IT 1), (.sel IT 2), (.sel IT 3), (.bc false), (.sel IT 4), (.sel IT 5), (.sel IT 6), (.sel IT 7), (.sel IT 13), (.sel IT 14), (.sel IT 15), (.sel IT 16), (.sel IT 17)])) x8)) (
 .split (.eql (.sel TY 0) (.c 2)) cJ x8)) x8) (
 .split Vg (
 .split (.eql (.sel V3 0) (.c 1)) (
 .split (.lss (.sel V3 1) (.c 0)) f8 (
 .split (.eql (.sel I9 0) (.c 1)) (
 .leaf (.done 0 [(.sel V3 1), (.c 0), (.sel I9 1), (.sel I9 2), (.sel I9 3), (.bc false), (.sel I9 4), (.sel I9 5), (.sel I9 6), (.sel I9 7), (.sel I9 13), (.sel I9 14), (.sel I9 15), (.sel I9 16), (.sel I9 17)])) x8)) (
 .split (.eql (.sel V3 0) (.c 2)) f8 x8)) x8)) x8) x8))
def t66 : List (Tr Plf) := [eX]
def eV : Tr Plf :=
 .split Zz fO (
 .split ZS fO (
 .leaf (.next 1 ([u10, u11, u12, (.c 0)] ++ us 0 10))))
def jh : Tr Plf :=
 .split (.lss u3 Qc) (
 .split (.lss u3 (.c 0)) x8 (
 .split (.eql (.cell u7 u3 2) (.c 2)) (
 .split (.eqSS (.cell u7 u3 3) u1) (
 .split (.eqSS (.cell u7 u3 4) u2) (
 .split (.eql (.sel (.app 46 Zi) 0) (.c 1)) (
 .split (.sel (.app 46 Zi) 1) (
 .split (.eql (.sel KH 0) (.c 1)) (
 .leaf (.done 0 [(.sel KH 1), (.sel KH 2), (.sel KH 3), (.sel KH 4), (.sel KH 5), (.sel KH 6), (.sel KH 7), (.sel KH 8), (.sel KH 9), (.sel KH 10), u3, (.c 0)])) x8) WN) x8) WN) WN) WN)) (
 .leaf (.done 0 (us 4 10 ++ [(.c 0), (.c 9)])))
def t67 : List (Tr Plf) := [eV, jh]
def kK : Tr Plf :=
 .split u1 TK SW
def t68 : List (Tr Plf) := [kK]
def bO : Tr Plf :=
 .split (.eql (.sel Y5 0) (.c 1)) (
 .leaf (.done 0 [(.sel Y5 1), (.sel Y5 2)])) x8
def t69 : List (Tr Plf) := [bO]
def j5 : Tr Plf :=
 .split (.eql (.sel ac 0) (.c 1)) (
 .split XL (
 .split (.eql (.sel Y7 0) (.c 1)) (
 .leaf (.done 0 [u3, u5, u7, u2, u4, u6, u8, u9, u10, u11, u17, (.sel Y7 1), (.sel Y7 2), (.sel ac 1), (.sel ac 2), (.sel L8 1), H1, (.sel L8 3), (.sel L8 4), (.sel L8 5)])) x8) x8) x8
def t70 : List (Tr Plf) := [j5]
def bA : Tr Plf :=
 .split (.eql u30 (.c 0)) dk (
 .split (.eql u30 (.c 1)) dk (
 .split (.eql u30 (.c 2)) au (
 .split (.eql u30 (.c 3)) au (
 .split (.eql u30 (.c 4)) au (
 .split (.eql u30 (.c 5)) ja (
 .split (.eql u30 (.c 6)) ja (
 .split (.eql u30 (.c 7)) (
 .split (.eql (.sel Ds 0) (.c 1)) (
 .split (.eql (.lenL (.sel Ds 2)) x59) (
 .split (.eql (.lenL (.sel Ds 1)) x3) (
 .split (.eql (.lenL (.sel Ds 3)) Qc) (
 .split (.eql (.sel Qi 0) (.c 1)) (
 .leaf (.next 1 [(.c 0), u2, (.sel Ds 1), u4, (.sel Ds 2), u6, (.sel Ds 3), u8, u9, u10, u11, (.sel Qi 4), u18, u19, u0, u1, u20, u21, u22, u23, u24, u25, u26, u27, u28, u29, (.sel Ds 4), (.sel Ds 5), (.sel Ds 6), (.sel Ds 7), (.sel Ds 8), (.sel Ds 9), (.sel Ds 10), (.sel Ds 11), (.sel Ds 12), (.sel Ds 13), (.sel Ds 14), (.sel Ds 15), (.sel Ds 16), (.sel Ds 17), (.sel Ds 18), (.sel Ds 19), (.sel Ds 20), (.sel Qi 5), (.sel Qi 6), (.sel Qi 7), (.sel Qi 8), (.sel Qi 9)])) x8) x8) x8) x8) x8) (
 .split (.eql (.sel iy 0) (.c 1)) (
 .split (.eql (.sel BI 0) (.c 1)) (
 .split (.eql (.sel CD 0) (.c 1)) (
 .split (.eql (.sel BI 1) (.sel CD 11)) (
 .split (.eql (.sel cD 0) (.c 1)) (
 .leaf (.done 0 [(.sel CD 1), (.sel CD 2), (.sel CD 3), (.sel CD 4), (.sel CD 5), (.sel CD 6), (.sel CD 7), (.sel CD 8), (.sel CD 9), (.sel CD 10), (.sel cD 1), u3, u5, u7, (.sel BI 10), (.sel BI 11), (.sel BI 12), (.sel BI 13), (.sel BI 14), (.sel BI 6), u2, u4, u6, u8, (.sel BI 2), (.sel BI 3), (.sel BI 4), (.sel BI 5), (.sel BI 7), (.sel BI 8), (.sel BI 9)])) x8) (
 .leaf (.done 0 [(.sel CD 1), (.sel CD 2), (.sel CD 3), (.sel CD 4), (.sel CD 5), (.sel CD 6), (.sel CD 7), (.sel CD 8), (.sel CD 9), (.sel CD 10), (.bc false), u3, u5, u7, (.sel BI 10), (.sel BI 11), (.sel BI 12), (.sel BI 13), (.sel BI 14), (.sel BI 6), u2, u4, u6, u8, (.sel BI 2), (.sel BI 3), (.sel BI 4), (.sel BI 5), (.sel BI 7), (.sel BI 8), (.sel BI 9)]))) x8) x8) x8))))))))
def bo : Tr Plf :=
 .split (.lss u0 (.lenL u19)) (
 .split (.eql (.sel Ir 0) (.c 1)) (
 .leaf (.next 1 [x10, u1, u2, u3, u4, u5, u6, u7, (.sel Ir 2), (.sel Ir 3), (.sel Ir 4), (.sel Ir 5), (.sel Ir 6), (.sel Ir 7), (.sel Ir 8), (.sel Ir 9), u16, u17, u18, u19, u20, u21, u22, u23, u24, u25, u26, u27, u28, u29, u30, u31, u32, u33, u34, u35, u36, u37, u38, u39, u40, u41, u42, (.sel Ir 10), (.sel Ir 11), (.sel Ir 12), (.sel Ir 13), (.sel Ir 14)])) x8) (
 .split (.eql (.sel iq 0) (.c 1)) (
 .leaf (.done 0 [u16, u17, u18, u19, u20, u21, u22, u23, u24, u25, (.sel iq 1), u2, u4, u6, u38, u39, u40, u41, u42, u34, u26, u27, u28, u29, u30, u31, u32, u33, u35, u36, u37])) x8)
def t71 : List (Tr Plf) := [bA, bo]
def br : Tr Plf :=
 .split (.eql (.sel (.app 0 S6) 0) (.c 1)) (
 .split (.sel (.app 0 S6) 1) Qy (
 .split (.lss (.c 60) x17) Qy (
 .split (.lss x0 (.c 1048576)) (
 .split (.lss x2 (.c 1048576)) (
 .split (.lss x3 (.c 1048576)) (
 .split (.eql (.sel E7 0) (.c 1)) (
 .split jp (
 .split (.eql (.c 0) (.sel Li 8)) (
 .split bP (
 .split (.eql (.sel (.app 30 (.rcons (.c 0) (.rcons (.sel E7 12) (.rcons (.sel E7 13) (.rcons (.sel E7 1) (.rcons (.sel E7 2) (.rcons (.sel E7 3) (.rcons (.sel E7 4) (.rcons (.sel E7 5) (.rcons (.sel E7 6) (.rcons (.sel E7 7) (.rcons (.sel E7 8) (.rcons (.sel E7 9) (.rcons (.sel E7 10) (.rcons (.c 0) (.rcons (.sel E7 17) (.rcons (.sel E7 14) (.rcons (.sel E7 15) (.rcons (.sel E7 16) (.rcons (.bc false) (.rcons (.sel E7 11) WE))))))))))))))))))))) 0) (.c 1)) (
 .leaf (.next 1 [u4, (.c 0), u0, u1, u2, u3, (.sel Li 1), (.sel Li 2), (.sel Li 3), (.sel Li 4), (.sel Li 5), (.sel Li 6), (.sel Li 7), TF, (.bc false), Zm, (.bc false), aF, (.bc false), (.bc false), (.bc false), (.bc false), (.sel QR 1), (.sel QR 2), (.sel QR 3), (.sel QR 4), (.sel QR 5), (.sel QR 6), (.sel QR 7), (.sel Ci 1), (.sel Ci 2), (.sel Ci 3), (.sel Ci 4), (.sel Ci 5), (.sel Ci 6), (.sel Ci 7), (.sel Ci 8), (.sel Ci 9), (.sel Ci 10), (.sel Ci 11), (.sel Ci 12), (.sel Ci 13), (.sel Ci 14), (.sel Ci 15), (.sel Ci 16), (.sel Ci 17)])) x8) Qy) x25) x8) (
 .split (.eql (.sel E7 0) (.c 2)) (
 .split jp (
 .split (.eql (.sel E7 1) (.sel Li 8)) (
 .split bP x8 Qy) x25) x8) x8)) x8) x8) x8))) x8
def gA : Tr Plf :=
 .split (.lss u1 (.lenL u13)) (
 .split x36 x8 (
 .leaf (.next 1 [u0, x39, u2, u3, u4, u5, u6, u7, u8, u9, u10, u11, u12, (.upd (.upd (.upd u13 u1 0 (.strc 1 63)) u1 1 (.bc false)) u1 2 (.c 3)), u14, u15, u16, u17, u18, u19, u20, u21, u22, u23, u24, u25, u26, u27, u28, u29, u30, u31, u32, u33, u34, u35, u36, u37, u38, u39, u40, u41, u42, u43, u44, u45]))) (
 .leaf (.next 2 ([u0, (.c 0)] ++ us 2 44)))
def cw : Tr Plf :=
 .split (.lss u1 (.lenL u15)) (
 .split x36 x8 (
 .leaf (.next 2 [u0, x39, u2, u3, u4, u5, u6, u7, u8, u9, u10, u11, u12, u13, u14, (.upd (.upd u15 u1 0 (.strc 1 63)) u1 1 (.c 0)), u16, u17, u18, u19, u20, u21, u22, u23, u24, u25, u26, u27, u28, u29, u30, u31, u32, u33, u34, u35, u36, u37, u38, u39, u40, u41, u42, u43, u44, u45]))) (
 .leaf (.next 3 ([u0, (.c 0)] ++ us 2 44)))
def gV : Tr Plf :=
 .split (.lss u1 (.lenL u17)) (
 .split x36 x8 (
 .leaf (.next 3 [u0, x39, u2, u3, u4, u5, u6, u7, u8, u9, u10, u11, u12, u13, u14, u15, u16, (.upd (.upd (.upd (.upd (.upd (.upd (.upd (.upd (.upd u17 u1 0 (.strc 0 0)) u1 1 (.strc 0 0)) u1 2 (.c 0)) u1 3 (.strc 0 0)) u1 4 (.strc 0 0)) u1 5 (.strc 0 0)) u1 6 (.c 0)) u1 7 (.c 0)) u1 8 (.c 0)), u18, u19, u20, u21, u22, u23, u24, u25, u26, u27, u28, u29, u30, u31, u32, u33, u34, u35, u36, u37, u38, u39, u40, u41, u42, u43, u44, u45]))) (
 .leaf (.next 4 ([u0, (.c 0)] ++ us 2 11 ++ us 22 7 ++ [u13, u19, u15, u20, u17, u21] ++ us 29 17)))
def bj : Tr Plf :=
 .split (.lss u1 (.lenL u14)) (
 .split x36 x8 (
 .leaf (.next 4 [u0, x39, u2, u3, u4, u5, u6, u7, u8, u9, u10, u11, u12, u13, (.upd (.upd (.upd u14 u1 0 (.strc 1 63)) u1 1 (.bc false)) u1 2 (.c 3)), u15, u16, u17, u18, u19, u20, u21, u22, u23, u24, u25, u26, u27, u28, u29, u30, u31, u32, u33, u34, u35, u36, u37, u38, u39, u40, u41, u42]))) (
 .leaf (.next 5 ([u0, (.c 0)] ++ us 2 41)))
def jL : Tr Plf :=
 .split (.lss u1 (.lenL u16)) (
 .split x36 x8 (
 .leaf (.next 5 [u0, x39, u2, u3, u4, u5, u6, u7, u8, u9, u10, u11, u12, u13, u14, u15, (.upd (.upd u16 u1 0 (.strc 1 63)) u1 1 (.c 0)), u17, u18, u19, u20, u21, u22, u23, u24, u25, u26, u27, u28, u29, u30, u31, u32, u33, u34, u35, u36, u37, u38, u39, u40, u41, u42]))) (
 .leaf (.next 6 ([u0, (.c 0)] ++ us 2 41)))
def e9 : Tr Plf :=
 .split (.lss u1 (.lenL u18)) (
 .split x36 x8 (
 .leaf (.next 6 [u0, x39, u2, u3, u4, u5, u6, u7, u8, u9, u10, u11, u12, u13, u14, u15, u16, u17, (.upd (.upd (.upd (.upd (.upd (.upd (.upd (.upd (.upd u18 u1 0 (.strc 0 0)) u1 1 (.strc 0 0)) u1 2 (.c 0)) u1 3 (.strc 0 0)) u1 4 (.strc 0 0)) u1 5 (.strc 0 0)) u1 6 (.c 0)) u1 7 (.c 0)) u1 8 (.c 0)), u19, u20, u21, u22, u23, u24, u25, u26, u27, u28, u29, u30, u31, u32, u33, u34, u35, u36, u37, u38, u39, u40, u41, u42]))) (
 .split (.eql (.sel OU 0) (.c 1)) (
 .split (.eql (.sel cZ 0) (.c 1)) (
 .leaf (.next 7 [u0, (.sel cZ 1), (.c 0), u6, u7, u8, u9, u10, (.c 0), u11, u12, (.c 0), .nilL, u26, u27, u28, u29, u30, u31, u32, u33, u34, u35, (.bc false), u36, (.bc true), u37, u38, (.c 0), u39, u40, u41, u42])) x8) x8)
def de : Tr Plf :=
 .split x28 (
 .split u1 (
 .split x26 x8 (
 .split (.lss (.c 60) (.lenS XG)) Qy (
 .split (.lss (.c 60) (.lenS WG)) Qy (
 .split (.eql (.sel Cv 0) (.c 1)) (
 .leaf (.next 7 [u0, (.sel Cv 11), x32, (.sel Cv 1), (.sel Cv 2), (.sel Cv 3), (.sel Cv 4), (.sel Cv 5), (.sel Cv 6), (.sel Cv 7), (.sel Cv 8), (.sel Cv 9), (.sel Cv 10), (.sel Cv 21), (.sel Cv 12), (.sel Cv 22), (.sel Cv 13), (.sel Cv 23), (.sel Cv 14), (.sel Cv 24), (.sel Cv 25), (.sel Cv 26), (.sel Cv 27), (.sel Cv 28), (.sel Cv 20), (.sel Cv 29), (.sel Cv 30), (.sel Cv 31), (.sel Cv 15), (.sel Cv 16), (.sel Cv 17), (.sel Cv 18), (.sel Cv 19)])) x8)))) x25) (
 .split u1 Qy x25)
def t72 : List (Tr Plf) := [br, gA, cw, gV, bj, jL, e9, de]
def ts : List (List (Tr Plf)) := [t0, t1, t2, t3, t4, t5, t6, t7, t8, t9, t10, t11, t12, t13, t14, t15, t16, t17, t18, t19, t20, t21, t22, t23, t24, t25, t26, t27, t28, t29, t30, t31, t32, t33, t34, t35, t36, t37, t38, t39, t40, t41, t42, t43, t44, t45, t46, t47, t48, t49, t50, t51, t52, t53, t54, t55, t56, t57, t58, t59, t60, t61, t62, t63, t64, t65, t66, t67, t68, t69, t70, t71, t72]
end Mo

