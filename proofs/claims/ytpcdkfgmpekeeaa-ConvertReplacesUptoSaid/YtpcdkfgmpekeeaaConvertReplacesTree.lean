/- What is stated: the trees of tests of the functions that the law ConvertReplaces reaches, as data. Conditions: none. -/
import Derived.Test.YtpcdkfgmpekeeaaBeF
set_option linter.unusedVariables false
set_option linter.unusedSectionVars false
set_option linter.unusedSimpArgs false
namespace Ct
open Go.AE
def u0 : SE := .var 0
def u1 : SE := .var 1
def u2 : SE := .var 2
def u3 : SE := .var 3
def u4 : SE := .var 4
def u5 : SE := .var 5
def u6 : SE := .var 6
def u7 : SE := .var 7
def u8 : SE := .var 8
def u9 : SE := .var 9
def u10 : SE := .var 10
def u11 : SE := .var 11
def u12 : SE := .var 12
def u13 : SE := .var 13
def u14 : SE := .var 14
def u15 : SE := .var 15
def u16 : SE := .var 16
def u17 : SE := .var 17
def u18 : SE := .var 18
def u19 : SE := .var 19
def u20 : SE := .var 20
def u21 : SE := .var 21
def u22 : SE := .var 22
def u23 : SE := .var 23
def u24 : SE := .var 24
def u25 : SE := .var 25
def u26 : SE := .var 26
def u27 : SE := .var 27
def u28 : SE := .var 28
def u29 : SE := .var 29
def u30 : SE := .var 30
def u31 : SE := .var 31
def u32 : SE := .var 32
def u33 : SE := .var 33
def u34 : SE := .var 34
def u35 : SE := .var 35
def u36 : SE := .var 36
def u64 : SE := .var 64
def x0 : Tr Plf := (
 .leaf (.done 0 [(.bc false)]))
def x1 : SE := (.lss u2 (.c 0))
def x2 : Tr Plf := (
 .leaf .stuck)
def x3 : SE := (.lenL u0)
def x4 : SE := (.lss u2 x3)
def x5 : SE := (.cell u0 u2 0)
def x6 : SE := (.conv .u8 x5)
def x7 : SE := (.eql u2 (.c 0))
def x8 : SE := (.arith .add .i64 u2 (.c 1))
def x9 : Tr Plf := (
 .leaf (.next 1 [u0, u1, x8]))
def x10 : Tr Plf := (
 .leaf (.done 0 [(.bc true)]))
def x11 : Plf := (.next 1 [u0, (.c 0), u1])
def x12 : SE := (.lss u1 x3)
def x13 : SE := (.lss u1 (.c 0))
def x14 : SE := (.cell u0 u1 0)
def x15 : Tr Plf := (
 .leaf (.done 0 [u1]))
def x16 : SE := (.arith .add .i64 u1 (.c 1))
def x17 : Tr Plf := (
 .split x13 x2 (
 .split (.eqSS x14 u2) x15 (
 .leaf (.next 1 [u0, x16, u2]))))
def x18 : Tr Plf := (
 .leaf (.done 0 [(.c (-1))]))
def x19 : SE := (.lss u0 u1)
def x20 : Tr Plf := (
 .leaf (.done 0 [(.c 0)]))
def x21 : Tr Plf := (
 .leaf (.done 0 [u2]))
def x22 : Tr Plf := (
 .split (.lss u2 u0) x21 (
 .leaf (.next 1 [u0, (.c 0), u3, u4, u5, u6])))
def x23 : SE := (.lss u1 u0)
def x24 : SE := (.lenL u4)
def x25 : SE := (rl [(.cell u4 u1 0)])
def x26 : SE := (.app 1 (.rcons (.c 0) x25))
def x27 : SE := (.app 2 (.rcons (.c 0) (.rcons u4 x25)))
def x28 : SE := (.cell u4 u1 1)
def x29 : Tr Plf := (
 .leaf (.next 1 [u0, x16, u2, u3, u4, u5]))
def x30 : SE := (.lenL u3)
def x31 : SE := (rl [(.cell u3 u1 0)])
def x32 : SE := (.app 1 (.rcons (.c 0) x31))
def x33 : SE := (.app 4 (.rcons (.c 0) (.rcons u3 x31)))
def x34 : SE := (.cell u3 u1 2)
def x35 : Plf := (.next 1 ([u0, (.c 0)] ++ us 1 9))
def x36 : SE := (.cell u0 u1 1)
def x37 : SE := (.cell u0 u1 2)
def x38 : SE := (.cell u0 u1 3)
def x39 : SE := (.cell u0 u1 4)
def x40 : SE := (.cell u0 u1 5)
def x41 : SE := (.cell u0 u1 6)
def x42 : SE := (.cell u0 u1 7)
def x43 : SE := (.cell u0 u1 8)
def x44 : Tr Plf := (
 .leaf (.next 1 ([u0, x16] ++ us 2 9)))
def x45 : SE := (.lenL u5)
def x46 : SE := (.cell u5 u1 2)
def x47 : SE := (.cell u5 u1 0)
def x48 : SE := (.app 4 (rl [(.c 0), u3, x47]))
def x49 : SE := (.eql (.sel x48 0) (.c 1))
def x50 : SE := (.cell u5 u1 5)
def x51 : SE := (.app 2 (rl [(.c 0), u4, x50]))
def x52 : SE := (.eql (.sel x51 0) (.c 1))
def x53 : SE := (.lss (.sel x48 1) (.c 0))
def x54 : SE := (.cell u5 u1 1)
def x55 : SE := (.app 4 (rl [(.c 0), u3, x54]))
def x56 : SE := (.eql (.sel x55 0) (.c 1))
def x57 : SE := (.lss (.sel x55 1) (.c 0))
def x58 : SE := (.lss x45 u1)
def x59 : SE := (.cell u5 u1 3)
def x60 : SE := (.cell u5 u1 4)
def x61 : SE := (.cell u5 u1 6)
def x62 : SE := (.cell u5 u1 7)
def x63 : SE := (.cell u5 u1 8)
def x64 : SE := (.app 6 (rl [(.c 0), (.sub u5 (.c 0) u1), x47, x54, x46, x59, x60, x50, x61, x62, x63]))
def x65 : SE := (.eql (.sel x64 0) (.c 1))
def x66 : SE := (.lss (.sel x64 1) (.c 0))
def x67 : SE := (.lss (.sel x48 1) x30)
def x68 : SE := (.app 1 (rl [(.c 0), x59]))
def x69 : SE := (.app 1 (rl [(.c 0), x60]))
def x70 : SE := (.cell u4 (.sel x51 1) 1)
def x71 : Tr Plf := (
 .split (.eqS x50 0 0) (
 .split (.eql x61 (.c 0)) (
 .split (.eql x62 (.c 0)) (
 .split (.eql x63 (.c 0)) x29 x15) x15) x15) (
 .split (.lss (.sel x51 1) (.c 0)) x15 (
 .split (.lss x61 (.c 0)) x15 (
 .split (.lss x62 x61) x15 (
 .split (.lss x63 (.c (-1000))) x15 (
 .split (.lss (.c 1000) x63) x15 (
 .split (.lss (.sel x51 1) x24) (
 .split (.lss x70 x62) x15 (
 .split (.lss (.arith .add .i64 x61 x63) (.c 0)) x15 (
 .split (.lss x70 (.arith .add .i64 x62 x63)) x15 x29))) x2)))))))
def x72 : Tr Plf := (
 .split x49 (
 .split x52 (
 .split x53 x15 (
 .split x56 (
 .split x57 x15 (
 .split x58 x2 (
 .split x65 (
 .split x66 (
 .split x67 (
 .split (.eql (.sel x68 0) (.c 1)) (
 .split (.sel x68 1) (
 .split (.eql (.sel x69 0) (.c 1)) (
 .split (.sel x69 1) (
 .split (.eqSS x60 u2) x15 x71) x15) x2) x15) x2) x2) x15) x2))) x2)) x2) x2)
def x73 : Tr Plf := (
 .split (.lss (.lenS x59) (.c 4611686018427387904)) (
 .split (.lss (.lenS x60) (.c 4611686018427387904)) (
 .split (.eqS (.strCat x59 x60) 0 0) x71 x15) x2) x2)
def x74 : SE := (.app 1 (rl [(.c 0), u0]))
def x75 : SE := (.eql (.sel x74 0) (.c 1))
def x76 : SE := (.lenL u2)
def x77 : SE := (rl [u3])
def x78 : SE := (.rcons u1 (.rcons u2 x77))
def x79 : SE := (.rcons u0 x78)
def x80 : SE := (.app 3 (.rcons (.c 0) (.rcons x76 (.rcons (.c 0) (.rcons (.c 4) x79)))))
def x81 : SE := (.eql (.sel x80 0) (.c 1))
def x82 : SE := (.lss (.sel x80 1) (.c 0))
def x83 : SE := (.lenL u1)
def x84 : SE := (.app 5 (.rcons (.c 0) (.rcons x83 (.rcons (.c 1) (.rcons (.c 24) x79)))))
def x85 : SE := (.eql (.sel x84 0) (.c 1))
def x86 : SE := (.lss (.sel x84 1) (.c 0))
def x87 : SE := (.app 7 (.rcons (.c 0) (.rcons x30 (.rcons (.c 0) (.rcons (.c 80) x79)))))
def x88 : SE := (.eql (.sel x87 0) (.c 1))
def x89 : SE := (.lss (.sel x87 1) (.c 0))
def x90 : SE := (rl [u4])
def x91 : SE := (.app 1 (.rcons (.c 0) x90))
def x92 : SE := (.lenL u6)
def x93 : SE := (rl [u4, u5, u6, u7])
def x94 : SE := (.app 3 (.rcons (.c 0) (.rcons x92 (.rcons (.c 0) (.rcons (.c 4) x93)))))
def x95 : SE := (.app 5 (.rcons (.c 0) (.rcons x45 (.rcons (.c 1) (.rcons (.c 24) x93)))))
def x96 : SE := (.lenL u7)
def x97 : SE := (.app 7 (.rcons (.c 0) (.rcons x96 (.rcons (.c 0) (.rcons (.c 80) x93)))))
def x98 : SE := (.lenL u8)
def x99 : Tr Plf := (
 .leaf (.done 0 [(.c 0), (.c 2)]))
def ZO : SE := (.cell u8 u11 0)
def fX : SE := (.app 8 (rl [(.c 0), u1, ZO]))
def YY : Tr Plf := (
 .leaf (.done 0 [u11, (.c 490)]))
def fY : SE := (.app 8 (rl [(.c 0), u5, (.cell u8 u11 1)]))
def Zw : SE := (.mIdx [.str] u12 (rl [ZO]))
def g6 : SE := (.arith .add .i64 u11 (.c 1))
def U4 : SE := (rl [(.bc true)])
def XI : SE := (.lenL u9)
def Yw : SE := (.cell u9 u14 0)
def ci : SE := (.app 9 (rl [(.c 0), u6, Yw]))
def M7 : Tr Plf := (
 .leaf (.done 0 [u14, (.c 491)]))
def cM : SE := (.cell u9 u14 1)
def YG : SE := (.mIdx [.str] u15 (rl [Yw]))
def Qc : SE := (.cell u9 u14 2)
def WV : SE := (.arith .sub .i64 (.c 0) Qc)
def df : SE := (.arith .add .i64 u14 (.c 1))
def gr : Tr Plf := (
 .split (.lss Qc (.c (-1000))) M7 (
 .leaf (.next 2 [u0, u1, u2, u3, u4, u5, u6, u7, u8, u9, u10, u11, u12, u13, df, (.snoc u15 (.rcons Yw U4))])))
def bK : Tr Plf := (
 .split (.lss Qc (.c (-1000))) M7 (
 .leaf (.next 2 [u0, u1, u2, u3, u4, u5, u6, u7, u8, u9, u10, u11, u12, u13, df, (.upd u15 YG 1 (.bc true))])))
def cU : Tr Plf := (
 .split (.lss YG (.c 0)) (
 .split (.lss Qc WV) (
 .split (.lss (.c 1000) WV) M7 gr) (
 .split (.lss (.c 1000) Qc) M7 gr)) (
 .split (.cell u15 YG 1) M7 (
 .split (.lss Qc WV) (
 .split (.lss (.c 1000) WV) M7 bK) (
 .split (.lss (.c 1000) Qc) M7 bK))))
def cH : SE := (.app 9 (rl [(.c 0), u2, cM]))
def ZJ : Tr Plf := (
 .leaf (.done 0 [(.c 0), (.c 0)]))
def ZA : SE := (.mIdx [(.int .i64), (.int .i64), (.int .i64), (.int .i64), (.int .i64)] u2 (.rcons u3 x93))
def R7 : SE := (.c 1073741824)
def Qw : SE := (.lss x3 R7)
def az : SE := (.snoc u0 (.rcons u3 x93))
def cJ : Tr Plf := (
 .leaf (.done 0 [u0, u1, u2]))
def KL : Tr Plf := (
 .leaf (.done 0 []))
def cP : SE := (.app 12 (rl [(.c 0), u2, u3, x14]))
def Xz : SE := (rl [(.c 0)])
def bz : Tr Plf := (
 .leaf (.done 0 [(.c 3), u3]))
def W7 : SE := (.app 13 (rl [(.c 0), u7]))
def ZF : SE := (.eql x96 (.c 0))
def ab : SE := (.eql x96 (.c 1))
def Wc : SE := (.snoc .emptyL (rl [u1]))
def Zf : SE := (.eql x96 (.c 2))
def ZY : SE := (rl [u2])
def Xu : SE := (.snoc Wc ZY)
def Y0 : SE := (.eql x96 (.c 3))
def UI : SE := (.snoc Xu x77)
def Zm : SE := (.eql x96 (.c 4))
def e9 : SE := (rl [(.snoc UI x90)])
def Lx : SE := (.sel W7 1)
def LD : SE := (.sel W7 2)
def bu : SE := (.app 15 (rl [(.c 0), (.bc true), Lx, LD, .emptyL]))
def fS : SE := (.app 15 (rl [(.c 0), (.bc true), Lx, LD, Wc]))
def dr : SE := (.app 15 (rl [(.c 0), (.bc true), Lx, LD, Xu]))
def cY : SE := (.app 15 (rl [(.c 0), (.bc true), Lx, LD, UI]))
def gU : SE := (.app 15 (.rcons (.c 0) (.rcons (.bc true) (.rcons Lx (.rcons LD e9)))))
def WZ : SE := (.app 12 (.rcons (.c 0) x78))
def dZ : SE := (rl [u1, u2, u8])
def XH : SE := (.app 18 (.rcons (.c 0) (.rcons u0 dZ)))
def bN : SE := (.app 12 (.rcons (.c 0) dZ))
def dP : SE := (.eql (.sel bN 0) (.c 1))
def Pr : SE := (.sel bN 1)
def XC : SE := (.sel XH 1)
def Zp : Tr Plf := (
 .leaf (.done 0 [(.bc false), (.c 0)]))
def gH : SE := (rl ([(.c 0)] ++ us 0 9))
def Kh : SE := (.app 16 gH)
def ew : SE := (.eql (.sel Kh 0) (.c 1))
def aG : SE := (.eql (.sel Kh 0) (.c 2))
def Sx : SE := (.lss u3 (.c 0))
def Z2 : SE := (.lenL u14)
def gn : SE := (.cell u2 u3 0)
def gv : SE := (.app 19 (rl [(.c 0), (.bc true), u14, u13, gn, (.cell u2 u3 1), (.cell u2 u3 2), (.cell u2 u3 3), (.cell u2 u3 4), (.cell u2 u3 5), (.cell u2 u3 6), (.cell u2 u3 7), (.cell u2 u3 8)]))
def Z9 : SE := (.lss u4 (.c 0))
def W5 : SE := (.lenL u10)
def O2 : SE := (.arith .add .i64 u3 (.c 1))
def e6 : Tr Plf := (
 .leaf (.next 2 ([u0, u1, u2, O2] ++ us 4 8 ++ [Z2, u13, u14])))
def eB : Tr Plf := (
 .leaf (.done 0 [u0, u1]))
def Yu : SE := (rl [u10, u11])
def cN : SE := (.rcons u8 (.rcons u9 Yu))
def WK : SE := (.app 19 (.rcons (.c 0) (.rcons u0 (.rcons u1 (.rcons u2 (.rcons u3 (.rcons u4 (.rcons u5 (.rcons u6 (.rcons u7 cN))))))))))
def Wq : SE := (.lss u9 (.c 0))
def fg : SE := (.cell u8 u9 1)
def fv : SE := (rl [(.cell u8 u9 0), fg, (.cell u8 u9 2), (.cell u8 u9 3), (.cell u8 u9 4), (.cell u8 u9 5), (.cell u8 u9 6), (.cell u8 u9 7), (.cell u8 u9 8)])
def bP : SE := (.app 8 (rl [(.c 0), u6, fg]))
def bT : SE := (.eql (.sel bP 0) (.c 1))
def Ux : SE := (.sel bP 1)
def ZT : Tr Plf := (
 .leaf (.done 0 [Ux, (.c 0), (.c 0), (.c 0), (.c 0)]))
def Zq : SE := (.app 22 (.rcons (.c 0) (.rcons (.bc true) (.rcons (.sel Kh 3) (.rcons (.sel Kh 2) fv)))))
def YZ : SE := (.lenL (.sel Zq 2))
def ca : SE := (.cat .emptyL (.sel Zq 2))
def bi : SE := (.app 23 (rl [(.c 0), .nilL, (.bc true), ca, (.and (.bc false) (.eql YZ (.c 0)))]))
def VB : SE := (.lenL (.sel bi 1))
def Yy : SE := (rl [(.bc false)])
def Uv : SE := (.sel (.app 23 (.rcons (.c 0) (.rcons .nilL (.rcons (.bc true) (.rcons ca Yy))))) 1)
def Xg : SE := (.cell Uv (.c 0) 0)
def YO : SE := (.cell Uv (.c 1) 0)
def Wm : SE := (.app 20 (.rcons (.c 0) (.rcons u0 (.rcons u1 (.rcons u2 (.rcons u3 (.rcons u4 cN)))))))
def aa : SE := (.lss u3 x3)
def Sg : SE := (.cell u0 u3 0)
def S3 : SE := (.app 24 (rl ([(.c 0)] ++ us 11 5 ++ [u7, u8, u9, u10, Sg])))
def Xs : SE := (.app 11 (rl [(.c 0), u4, u5, u6, (.sel S3 1), (.sel S3 2), (.sel S3 3), (.sel S3 4), (.sel S3 5)]))
def bS : SE := (.cell u1 u3 0)
def bt : SE := (.cell u1 u3 1)
def ia : SE := (.cell u1 u3 2)
def gZ : SE := (.cell u1 u3 3)
def bb : SE := (.cell u1 u3 4)
def XG : SE := (.app 11 (rl [(.c 0), u8, u9, u10, bS, bt, ia, gZ, bb]))
def ZH : SE := (rl [u6])
def aK : SE := (.rcons u3 (.rcons u4 (.rcons u5 ZH)))
def V3 : SE := (.app 25 (.rcons (.c 0) (.rcons (.cell u7 u1 0) (.rcons (.cell u7 u1 1) (.rcons (.cell u7 u1 2) (.rcons (.cell u7 u1 3) (.rcons (.cell u7 u1 4) (.rcons u7 (.rcons u8 (.rcons u9 aK))))))))))
def aZ : Tr Plf := (
 .leaf (.done 0 [u7, u8, (.lss u0 x96)]))
def fP : SE := (.cell u3 u6 0)
def XB : SE := (.app 27 (rl ([(.c 0), u8, u0, u1, u2, u3] ++ us 10 5)))
def bU : SE := (.app 8 (rl [(.c 0), u5, (.cell u8 (.sel XB 1) 1)]))
def ey : SE := (.app 9 (rl [(.c 0), u8, x14]))
def ai : SE := (.app 9 (rl [(.c 0), u4, x36]))
def T8 : SE := (.sel ai 1)
def Lu : Tr Plf := (
 .leaf (.done 0 [(.c 0), (.c 0), (.c 0), (.c 0), (.c 0), (.c 3)]))
def P0 : SE := (.sel ey 1)
def Tz : SE := (.lss P0 (.c 0))
def U6 : SE := (.lss P0 x98)
def VJ : SE := (.cell u8 P0 1)
def Tg : SE := (.eql P0 (.c 0))
def UG : SE := (.eql P0 (.c 1))
def UR : SE := (.eql P0 (.c 2))
def VA : SE := (.eql P0 (.c 3))
def Sd : SE := (.arith .add .i64 x37 u11)
def SS : SE := (.arith .add .i64 x37 u12)
def R9 : SE := (.arith .add .i64 x37 u13)
def SK : SE := (.arith .add .i64 x37 u14)
def aw : SE := (rl (us 7 6))
def Yz : SE := (.rcons u3 (.rcons u4 (.rcons u5 (.rcons u6 aw))))
def YI : SE := (.mIdx [(.int .i64), (.int .i64), (.int .i64), (.int .i64), (.int .i64), (.int .i64), (.int .i64), (.int .i64), (.int .i64), (.int .i64)] u2 Yz)
def cC : Tr Plf := (
 .leaf (.next 1 ([u0, u1, x8] ++ us 3 5)))
def ZD : SE := (.rcons (.c 0) (.rcons u0 (.rcons u1 (.rcons u2 aK))))
def ZV : SE := (.sel (.app 30 ZD) 1)
def gV : Tr Plf := (
 .split x1 x2 (
 .split x4 (
 .leaf (.next 1 [(.upd u0 u2 0 Sg), u1, x8, O2, u4, u5, u6, u7, u8])) x2))
def ah : Tr Plf := (
 .leaf (.next 1 ([u0, u1, u2, O2] ++ us 4 5)))
def ZL : SE := (.sub u0 (.c 0) u2)
def cD : Tr Plf := (
 .split (.lss (.lenL ZL) u2) x2 (
 .leaf (.done 0 [(.sub ZL (.c 0) u2), u1])))
def Sw : SE := (.rcons (.c 0) (.rcons u16 (.rcons u17 (.rcons u18 (.rcons u19 (.rcons u20 x79))))))
def Y2 : SE := (.app 31 (rl [(.c 0), (.sel (.app 20 Sw) 1), (.sel (.app 20 Sw) 2), u0, u1, u2, u3, u26]))
def R2 : SE := (.rcons (.c 0) (.rcons u21 (.rcons u22 (.rcons u23 (.rcons u24 (.rcons u25 x93))))))
def Y9 : SE := (.app 31 (rl [(.c 0), (.sel (.app 20 R2) 1), (.sel (.app 20 R2) 2), u4, u5, u6, u7, u26]))
def aF : SE := (.cell u2 u4 0)
def dR : SE := (.app 34 (rl [(.c 0), u0, u1, u9, u10, u11, u12, u5, u6, u7, u8, aF]))
def Y1 : SE := (.arith .add .i64 u4 (.c 1))
def Lv : SE := (.app 32 (.rcons (.c 0) (.rcons u0 (.rcons u1 (.rcons u2 (.rcons u3 (.rcons u4 (.rcons u5 (.rcons u6 (.rcons u7 (.rcons u8 (.rcons u9 (.rcons u10 (.rcons u11 (.rcons u12 (.rcons u13 (.rcons u14 (.rcons u15 (.rcons u16 (.rcons u17 (.rcons u18 (.rcons u19 (.rcons u20 (.rcons u21 (.rcons u22 (.rcons u23 (.rcons u24 (.rcons u25 U4))))))))))))))))))))))))))))
def ae : SE := (.eql (.sel Lv 0) (.c 1))
def Zy : SE := (.app 35 (rl [(.c 0), u0, u1, u2, u3, (.sel Lv 1), (.sel Lv 2), u4, u5, u6, u7, (.sel Lv 3), (.sel Lv 4)]))
def P7 : SE := (.app 32 (.rcons (.c 0) (.rcons u0 (.rcons u1 (.rcons u2 (.rcons u3 (.rcons u4 (.rcons u5 (.rcons u6 (.rcons u7 (.rcons u8 (.rcons u9 (.rcons u10 (.rcons u11 (.rcons u12 (.rcons u13 (.rcons u14 (.rcons u15 (.rcons u16 (.rcons u17 (.rcons u18 (.rcons u19 (.rcons u20 (.rcons u21 (.rcons u22 (.rcons u23 (.rcons u24 (.rcons u25 Yy))))))))))))))))))))))))))))
def Zx : SE := (.app 35 (rl [(.c 0), u4, u5, u6, u7, (.sel P7 3), (.sel P7 4), u0, u1, u2, u3, (.sel P7 1), (.sel P7 2)]))
def au : SE := (.cell u5 u21 1)
def bh : Tr Plf := (
 .leaf (.done 0 [(.c 4), (.c 0)]))
def bZ : Tr Plf := (
 .split (.lss u16 (.c 0)) x2 (
 .split (.lss u16 x83) (
 .split (.lss u21 (.c 0)) x2 (
 .split (.lss u21 x45) (
 .split (.cell u1 u16 1) (
 .split au ZJ bh) (
 .split au bh ZJ)) x2)) x2))
def Vr : SE := (.cell u6 u0 0)
def V5 : SE := (.app 36 (rl ([(.c 0)] ++ us 0 26)))
def WA : SE := (.lss u5 u4)
def WS : SE := (.lss u5 (.c 0))
def WG : SE := (.lss u5 x76)
def T7 : SE := (.cell u2 u5 0)
def Sc : SE := (.app 32 (.rcons (.c 0) (.rcons u6 (.rcons u7 (.rcons u8 (.rcons u9 (.rcons u10 (.rcons u11 (.rcons u12 (.rcons u13 (.rcons u14 (.rcons u15 (.rcons u16 (.rcons u17 (.rcons u18 (.rcons u19 (.rcons u20 (.rcons u21 (.rcons u25 (.rcons u26 (.rcons u27 (.rcons u28 (.rcons u29 (.rcons u30 (.rcons u31 (.rcons u32 (.rcons u33 (.rcons u34 Yy))))))))))))))))))))))))))))
def Jg : SE := (.cell u0 u7 0)
def ST : SE := (.app 24 (.rcons (.c 0) (.rcons u27 (.rcons u28 (.rcons u29 (.rcons u30 (.rcons u31 (.rcons u8 (.rcons u9 (.rcons u10 (.rcons u11 ZY)))))))))))
def S4 : SE := (.app 24 (rl ([(.c 0)] ++ us 32 5 ++ [u12, u13, u14, u15, Jg])))
def Xn : SE := (.app 29 (rl [(.c 0), u24, u25, u26, (.sel ST 1), (.sel ST 2), (.sel ST 3), (.sel ST 4), (.sel ST 5), (.sel S4 1), (.sel S4 2), (.sel S4 3), (.sel S4 4), (.sel S4 5)]))
def VW : SE := (.arith .add .i64 u7 (.c 1))
def eO : SE := (.arith .add .i64 u6 (.c 1))
def SC : SE := (.app 24 (rl ([(.c 0)] ++ us 27 5 ++ [u8, u9, u10, u11, Jg])))
def R6 : SE := (.app 24 (.rcons (.c 0) (.rcons u32 (.rcons u33 (.rcons u34 (.rcons u35 (.rcons u36 (.rcons u12 (.rcons u13 (.rcons u14 (.rcons u15 ZY)))))))))))
def Wn : SE := (.app 29 (rl [(.c 0), u24, u25, u26, (.sel SC 1), (.sel SC 2), (.sel SC 3), (.sel SC 4), (.sel SC 5), (.sel R6 1), (.sel R6 2), (.sel R6 3), (.sel R6 4), (.sel R6 5)]))
def Wl : SE := (.app 29 (rl [(.c 0), u20, u21, u22, bS, bt, ia, gZ, bb, (.cell u1 u3 5), (.cell u1 u3 6), (.cell u1 u3 7), (.cell u1 u3 8), (.cell u1 u3 9)]))
def BM : SE := (.app 38 (rl [(.c 0), u3, u4, u5, u6, u7, u8, u9, u10, u11, u12, u13, u14, u15, u16, u17, u18, (.cell u19 u1 0), (.cell u19 u1 1), (.cell u19 u1 2), (.cell u19 u1 3), (.cell u19 u1 4), (.cell u19 u1 5), (.cell u19 u1 6), (.cell u19 u1 7), (.cell u19 u1 8), (.cell u19 u1 9), u19, u20, u21]))
def ff : Tr Plf := (
 .leaf (.done 0 [u19, u20, (.lss u0 (.lenL u19)), u3, u4, u5, u6, u7, u8, u9, u10, u11, u12, u13, u14, u15, u16, u17, u18]))
def cp : SE := (rl [u6, u7, u8, u9])
def UP : SE := (.rcons (.c 0) (.rcons u0 (.rcons u1 (.rcons u2 (.rcons u3 (.rcons u4 (.rcons u5 cp)))))))
def ac : SE := (.eql (.sel (.app 10 UP) 0) (.c 1))
def V4 : SE := (.sel (.app 10 UP) 2)
def M9 : SE := (.app 26 (.rcons (.c 0) (.rcons (.snoc .emptyL (.rcons (.c 0) (.rcons (.c 0) (.rcons (.c 0) (.rcons (.c 0) Xz))))) (.rcons (.bc false) (.rcons (.c 2000) x79)))))
def bF : SE := (.eql (.sel M9 0) (.c 1))
def bW : Tr Plf := (
 .leaf (.done 0 [(.strc 0 0), .nilL, (.bc true), (.strc 0 0), .nilL, (.bc true), (.c 0), (.c 0), (.bc false), (.c 7)]))
def Zb : SE := (.cell u2 u5 1)
def ZR : SE := (.cell u2 u5 2)
def Z6 : SE := (.cell u2 u5 3)
def Z0 : SE := (.cell u2 u5 4)
def PJ : SE := (.app 28 (rl ([(.c 0)] ++ us 6 10 ++ [T7, Zb, ZR, Z6, Z0])))
def Y8 : SE := (.arith .add .i64 u5 (.c 1))
def Kn : SE := (.app 39 (.rcons (.c 0) (.rcons u0 (.rcons u1 (.rcons (.c 4000) (.rcons u6 (.rcons u7 (.rcons u8 (.rcons u9 (.rcons u10 (.rcons u11 (.rcons u12 (.rcons u13 (.rcons (.strc 0 0) (.rcons .nilL (.rcons (.bc true) (.rcons (.strc 0 0) (.rcons .nilL (.rcons (.bc true) (.rcons (.c 0) Xz))))))))))))))))))))
def ON : Tr Plf := (
 .leaf (.done 0 [.nilL, (.bc true), (.c 2)]))
def ZM : SE := (.app 37 (.rcons (.c 0) (.rcons T7 (.rcons Zb (.rcons ZR (.rcons Z6 (.rcons Z0 cp)))))))
def V8 : SE := (.app 8 (.rcons (.c 0) (.rcons u1 x90)))
def ap : Tr Plf := (
 .leaf (.done 0 [(.sel V8 1), (.c 0), (.c 0), (.c 0), (.c 0), (.bc false)]))
def dC : Tr Plf := (
 .leaf (.done 0 [u7, (.c 0), (.c 0), (.c 0), (.c 0), (.bc false)]))
def Sp : SE := (.cell u0 (.c 0) 0)
def YE : SE := (.cell u0 (.c 1) 0)
def PC : SE := (.app 42 (.rcons (.c 0) (.rcons u0 (.rcons u1 (.rcons u2 (.rcons u3 Yu))))))
def OP : SE := (.app 28 (rl [(.c 0), u0, u1, u2, u3, u4, u5, u6, u7, u8, u9, (.sel PC 1), (.sel PC 2), (.sel PC 3), (.sel PC 4), (.sel PC 5)]))
def Zd : SE := (.app 37 (.rcons (.c 0) (.rcons (.sel OP 1) (.rcons (.sel OP 2) (.rcons (.sel OP 3) (.rcons (.sel OP 4) (.rcons (.sel OP 5) x93)))))))
def ak : SE := (rl ([(.c 0)] ++ us 0 6))
def Jp : SE := (.app 42 ak)
def dS : SE := (.eql (.sel Jp 0) (.c 1))
def YX : SE := (.app 20 (.rcons (.c 0) (.rcons (.sel Jp 1) (.rcons (.sel Jp 2) (.rcons (.sel Jp 3) (.rcons (.sel Jp 4) (.rcons (.sel Jp 5) x79)))))))
def SG : SE := (.cell u0 u4 0)
def TJ : Tr Plf := (
 .leaf (.next 1 ([u0, u1, u2, u3, Y1] ++ us 5 13)))
def Vp : SE := (.app 44 ak)
def eh : SE := (.app 46 (.rcons (.c 0) (.rcons (.sel Vp 1) (.rcons (.sel Vp 2) ZH))))
def S6 : SE := (.app 24 (.rcons (.c 0) (.rcons (.sel Jp 1) (.rcons (.sel Jp 2) (.rcons (.sel Jp 3) (.rcons (.sel Jp 4) (.rcons (.sel Jp 5) (.rcons u0 (.rcons u1 (.rcons u2 (.rcons u3 ZH)))))))))))
def YF : SE := (.app 37 (.rcons (.c 0) (.rcons (.sel S6 1) (.rcons (.sel S6 2) (.rcons (.sel S6 3) (.rcons (.sel S6 4) (.rcons (.sel S6 5) x79)))))))
def W8 : SE := (.app 44 (.rcons (.c 0) aw))
def YV : SE := (.app 45 (rl [(.c 0), u7, u8, u9, u10, (.sel W8 1), (.sel W8 2), fP, (.cell u3 u6 1), (.cell u3 u6 2), (.cell u3 u6 3), (.cell u3 u6 4), (.cell u3 u6 5), (.cell u3 u6 6), (.cell u3 u6 7), (.cell u3 u6 8)]))
def WQ : SE := (.lenL (.sel YV 1))
def ax : Tr Plf := (
 .leaf (.done 0 [(.bc false), u4, u5, u11, u12]))
def S2 : SE := (.app 47 ZD)
def Zt : SE := (.conv .i64 (.arith .rem .u64 (.conv .u64 u13) (.conv .u64 WQ)))
def SZ : SE := (.app 47 (rl [(.c 0), u7, u8, u9, u10, u11, u12, (.cell (.sel YV 1) Zt 0)]))
def gW : SE := (.nilIs (.sel S2 2) (.sel S2 3))
def dx : SE := (.nilIs (.sel SZ 2) (.sel SZ 3))
def Fv : Tr Plf := (
 .split (.eql (.sel (.app 0 Xz) 0) (.c 1)) x10 x2)
def U9 : SE := (.app 41 (.rcons (.c 0) x79))
def WC : SE := (.lenL (.sel U9 1))
def Xj : SE := (.conv .i64 (.arith .rem .u64 (.conv .u64 (.cell u10 (.c 0) 0)) (.conv .u64 WC)))
def eT : SE := (.cell (.sel U9 1) Xj 0)
def fT : SE := (.cell (.sel U9 1) Xj 1)
def UO : SE := (.app 43 (rl ([(.c 0)] ++ us 0 10 ++ [eT, fT])))
def Xw : SE := (.app 44 (.rcons (.c 0) (.rcons u2 (.rcons u3 (.rcons u4 (.rcons u5 Yu))))))
def Xl : SE := (.app 44 (rl [(.c 0), u6, u7, u8, u9, u12, u13]))
def Qx : SE := (.cell u2 u9 0)
def gc : SE := (.snoc u6 (rl [Qx]))
def Wi : SE := (.arith .add .i64 u9 (.c 1))
def bM : SE := (.conv .u64 (.arith .add .i64 x24 x92))
def XD : SE := (.conv .i64 (.arith .rem .u64 (.conv .u64 x14) bM))
def SX : SE := (.app 48 (rl [(.c 0), u10, u11, u12, u13, u18, u19, (.cell u4 XD 0), u14, u15, u16, u17, u20, u21, Sp]))
def Zh : SE := (.arith .sub .i64 XD x24)
def R4 : SE := (.app 48 (rl [(.c 0), u14, u15, u16, u17, u20, u21, (.cell u6 Zh 0), u10, u11, u12, u13, u18, u19, Sp]))
def f8 : Tr Plf := (
 .split (.eql (.arith .add .i64 x24 x92) (.c 0)) Fv (
 .split x13 x2 (
 .split x12 (
 .split (.eql bM (.c 0)) x2 (
 .split (.lss XD x24) (
 .split (.lss XD (.c 0)) x2 (
 .split (.lss (.c 0) x3) (
 .split (.eql (.sel SX 0) (.c 1)) (
 .split (.sel SX 1) (
 .leaf (.next 1 [u0, x16, u10, u11, u12, u13, u14, u15, u16, u17, (.sel SX 2), (.sel SX 3), (.sel SX 4), (.sel SX 5)])) x0) x2) x2)) (
 .split (.lss Zh (.c 0)) x2 (
 .split (.lss Zh x92) (
 .split (.lss (.c 0) x3) (
 .split (.eql (.sel R4 0) (.c 1)) (
 .split (.sel R4 1) (
 .leaf (.next 1 [u0, x16, u10, u11, u12, u13, u14, u15, u16, u17, (.sel R4 4), (.sel R4 5), (.sel R4 2), (.sel R4 3)])) x0) x2) x2) x2)))) x2)))
def iK : Tr Plf :=
 .leaf (.done 0 [])
def t0 : List (Tr Plf) := [iK]
def iF : Tr Plf :=
 .split (.lss (.lenS u0) (.c 1)) x0 (
 .split (.lss (.c 32) (.lenS u0)) x0 (
 .leaf (.next 1 [(.bytes u0), (.lenL (.bytes u0)), (.c 0)])))
def i8 : Tr Plf :=
 .split (.lss u2 u1) (
 .split x1 x2 (
 .split x4 (
 .split (.lss x6 (.c 97)) (
 .split (.lss x6 (.c 65)) (
 .split x7 x0 (
 .split (.lss x6 (.c 48)) x0 (
 .split (.lss (.c 57) x6) x0 x9))) (
 .split (.lss (.c 90) x6) (
 .split x7 x0 (
 .split (.eql x6 (.c 95)) x9 x0)) x9)) (
 .split (.lss (.c 122) x6) (
 .split x7 x0 x0) x9)) x2)) x10
def t1 : List (Tr Plf) := [iF, i8]
def iM : Tr Plf :=
 .leaf x11
def iU : Tr Plf :=
 .split x12 x17 x18
def t2 : List (Tr Plf) := [iM, iU]
def jd : Tr Plf :=
 .split x19 x20 x22
def iX : Tr Plf :=
 .split x23 (
 .split x13 x2 (
 .split (.lss u1 x24) (
 .split (.eql (.sel x26 0) (.c 1)) (
 .split (.sel x26 1) (
 .split (.eql (.sel x27 0) (.c 1)) (
 .split (.lss (.sel x27 1) u1) x15 (
 .split (.lss x28 (.c 1)) x15 (
 .split (.lss (.c 1000) x28) x15 x29))) x2) x15) x2) x2)) x18
def t3 : List (Tr Plf) := [jd, iX]
def iy : Tr Plf :=
 .leaf x11
def ji : Tr Plf :=
 .split x12 x17 x18
def t4 : List (Tr Plf) := [iy, ji]
def i7 : Tr Plf :=
 .split x19 x20 x22
def jf : Tr Plf :=
 .split x23 (
 .split x13 x2 (
 .split (.lss u1 x30) (
 .split (.eql (.sel x32 0) (.c 1)) (
 .split (.sel x32 1) (
 .split (.eql (.sel x33 0) (.c 1)) (
 .split (.lss (.sel x33 1) u1) x15 (
 .split (.lss x34 (.c 0)) x15 (
 .split (.lss (.c 1048576) x34) x15 x29))) x2) x15) x2) x2)) x18
def t5 : List (Tr Plf) := [i7, jf]
def iu : Tr Plf :=
 .leaf x35
def iY : Tr Plf :=
 .split x12 (
 .split x13 x2 (
 .split (.and (.eqSS u2 x14) (.and (.eqSS u3 x36) (.and (.eql u4 x37) (.and (.eqSS u5 x38) (.and (.eqSS u6 x39) (.and (.eqSS u7 x40) (.and (.eql u8 x41) (.and (.eql u9 x42) (.eql u10 x43))))))))) x15 x44)) x18
def t6 : List (Tr Plf) := [iu, iY]
def jc : Tr Plf :=
 .split x19 x20 x22
def iJ : Tr Plf :=
 .split x23 (
 .split x13 x2 (
 .split (.lss u1 x45) (
 .split (.eql x46 (.c 1)) x72 (
 .split (.eql x46 (.c 2)) x72 (
 .split (.eql x46 (.c 3)) (
 .split x49 (
 .split x52 (
 .split x53 x15 (
 .split x56 (
 .split x57 x15 (
 .split x58 x2 (
 .split x65 (
 .split x66 (
 .split x67 (
 .split (.lss (.c 0) (.cell u3 (.sel x48 1) 2)) x73 x15) x2) x15) x2))) x2)) x2) x2) (
 .split (.eql x46 (.c 4)) (
 .split x49 (
 .split x52 (
 .split x53 x15 (
 .split x56 (
 .split x57 x15 (
 .split x58 x2 (
 .split x65 (
 .split x66 (
 .split x67 x73 x2) x15) x2))) x2)) x2) x2) (
 .split x49 (
 .split x52 x15 x2) x2))))) x2)) x18
def t7 : List (Tr Plf) := [jc, iJ]
def ix : Tr Plf :=
 .leaf x11
def iw : Tr Plf :=
 .split x12 x17 x18
def t8 : List (Tr Plf) := [ix, iw]
def ij : Tr Plf :=
 .leaf x11
def ik : Tr Plf :=
 .split x12 x17 x18
def t9 : List (Tr Plf) := [ij, ik]
def de : Tr Plf :=
 .split x75 (
 .split (.sel x74 1) (
 .split x81 (
 .split x82 (
 .split x85 (
 .split x86 (
 .split x88 (
 .split x89 (
 .split (.eql (.sel x91 0) (.c 1)) (
 .split (.sel x91 1) (
 .split (.eql (.sel x94 0) (.c 1)) (
 .split (.lss (.sel x94 1) (.c 0)) (
 .split (.eql (.sel x95 0) (.c 1)) (
 .split (.lss (.sel x95 1) (.c 0)) (
 .split (.eql (.sel x97 0) (.c 1)) (
 .split (.lss (.sel x97 1) (.c 0)) (
 .split (.lss (.c 24) x98) (
 .leaf (.done 0 [(.c 24), (.c 490)])) (
 .leaf (.next 1 [u0, u1, u2, u3, u4, u5, u6, u7, u8, u9, (.lss (.c 24) x98), (.c 0), .emptyL]))) x99) x2) x99) x2) x99) x2) x99) x2) x99) x2) x99) x2) x99) x2) x99) x2
def ay : Tr Plf :=
 .split (.lss u11 x98) (
 .split (.lss u11 (.c 0)) x2 (
 .split (.eql (.sel fX 0) (.c 1)) (
 .split (.lss (.sel fX 1) (.c 0)) YY (
 .split (.eql (.sel fY 0) (.c 1)) (
 .split (.lss (.sel fY 1) (.c 0)) YY (
 .split (.lss Zw (.c 0)) (
 .leaf (.next 1 [u0, u1, u2, u3, u4, u5, u6, u7, u8, u9, u10, g6, (.snoc u12 (.rcons ZO U4))])) (
 .split (.cell u12 Zw 1) YY (
 .leaf (.next 1 [u0, u1, u2, u3, u4, u5, u6, u7, u8, u9, u10, g6, (.upd u12 Zw 1 (.bc true))]))))) x2)) x2)) (
 .split (.lss (.c 4) XI) (
 .leaf (.done 0 [(.c 4), (.c 491)])) (
 .leaf (.next 2 [u0, u1, u2, u3, u4, u5, u6, u7, u8, u9, u10, u11, (.lss u11 x98), (.lss (.c 4) XI), (.c 0), .emptyL])))
def bH : Tr Plf :=
 .split (.lss u14 XI) (
 .split (.lss u14 (.c 0)) x2 (
 .split (.eql (.sel ci 0) (.c 1)) (
 .split (.lss (.sel ci 1) (.c 0)) M7 (
 .split (.eqS cM 0 0) cU (
 .split (.eql (.sel cH 0) (.c 1)) (
 .split (.lss (.sel cH 1) (.c 0)) M7 cU) x2))) x2)) ZJ
def t10 : List (Tr Plf) := [de, ay, bH]
def eI : Tr Plf :=
 .split (.lss ZA (.c 0)) (
 .split Qw (
 .leaf (.done 0 [az, (.bc false), (.snoc u2 (.rcons u3 (.rcons u4 (.rcons u5 (.rcons u6 (.rcons u7 U4))))))])) x2) (
 .split (.cell u2 ZA 5) cJ (
 .split Qw (
 .leaf (.done 0 [az, (.bc false), (.upd u2 ZA 5 (.bc true))])) x2))
def t11 : List (Tr Plf) := [eI]
def eU : Tr Plf :=
 .leaf (.next 1 [u0, u1, (.c 0), u2])
def aM : Tr Plf :=
 .split x4 (
 .split x1 x2 (
 .split (.eqSS x5 u3) x21 (
 .leaf (.next 1 [u0, u1, x8, u3])))) x18
def t12 : List (Tr Plf) := [eU, aM]
def aA : Tr Plf :=
 .split (.lss (.c 4) x3) KL (
 .leaf (.next 1 [u0, (.c 0), .nilL, (.bc true)]))
def dW : Tr Plf :=
 .split x12 (
 .split x13 x2 (
 .split (.eqS x14 0 0) KL (
 .split (.lss x36 (.c 1)) KL (
 .split (.lss (.c 1000) x36) KL (
 .split (.eql (.sel cP 0) (.c 1)) (
 .split (.lss (.sel cP 1) (.c 0)) (
 .split (.lss x76 R7) (
 .leaf (.next 1 [u0, x16, (.snoc u2 (.rcons x14 (.rcons x36 Xz))), (.bc false)])) x2) KL) x2))))) (
 .leaf (.done 1 [u2, u3]))
def t13 : List (Tr Plf) := [aA, dW]
def fE : Tr Plf :=
 .leaf (.done 0 [])
def t14 : List (Tr Plf) := [fE]
def gJ : Tr Plf :=
 .split u0 (
 .split (.eql x30 x83) (
 .leaf (.next 1 [u3, (.c 0), u0, u1, u2])) (
 .leaf (.done 0 [(.c 2), u1]))) (
 .leaf (.done 0 [(.c 1), u1]))
def cx : Tr Plf :=
 .split x12 (
 .split x13 x2 (
 .split (.lss x14 (.c 0)) bz (
 .split (.lss u1 x30) (
 .split (.lss (.cell u3 u1 1) x14) bz (
 .leaf (.next 1 [u0, x16, u2, u3, u4]))) x2))) (
 .leaf (.next 2 [u0, x3, (.c 0), u2, u3, u4]))
def aH : Tr Plf :=
 .split (.lss u2 u1) (
 .split x1 x2 (
 .split x4 (
 .split (.lss u2 x24) (
 .leaf (.next 2 [u0, u1, x8, u3, (.upd u4 u2 2 x5), u5])) x2) x2)) (
 .leaf (.done 0 [(.c 0), u4]))
def t15 : List (Tr Plf) := [gJ, cx, aH]
def aI : Tr Plf :=
 .split (.eql (.sel W7 0) (.c 1)) (
 .split ZF (
 .split (.eql (.sel (.app 14 (rl [(.c 0), .emptyL])) 0) (.c 1)) KL x2) (
 .split ab (
 .split (.eql (.sel (.app 14 (rl [(.c 0), Wc])) 0) (.c 1)) KL x2) (
 .split Zf (
 .split (.eql (.sel (.app 14 (rl [(.c 0), Xu])) 0) (.c 1)) KL x2) (
 .split Y0 (
 .split (.eql (.sel (.app 14 (rl [(.c 0), UI])) 0) (.c 1)) KL x2) (
 .split Zm (
 .split (.eql (.sel (.app 14 (.rcons (.c 0) e9)) 0) (.c 1)) KL x2) x2))))) (
 .split (.eql (.sel W7 0) (.c 2)) (
 .split ZF (
 .split (.eql (.sel bu 0) (.c 1)) (
 .leaf (.done 1 [(.lenL Lx), LD, (.sel bu 2)])) x2) (
 .split ab (
 .split (.eql (.sel fS 0) (.c 1)) (
 .leaf (.done 1 [(.lenL Lx), LD, (.sel fS 2)])) x2) (
 .split Zf (
 .split (.eql (.sel dr 0) (.c 1)) (
 .leaf (.done 1 [(.lenL Lx), LD, (.sel dr 2)])) x2) (
 .split Y0 (
 .split (.eql (.sel cY 0) (.c 1)) (
 .leaf (.done 1 [(.lenL Lx), LD, (.sel cY 2)])) x2) (
 .split Zm (
 .split (.eql (.sel gU 0) (.c 1)) (
 .leaf (.done 1 [(.lenL Lx), LD, (.sel gU 2)])) x2) x2))))) x2)
def t16 : List (Tr Plf) := [aI]
def f7 : Tr Plf :=
 .leaf (.done 0 [])
def t17 : List (Tr Plf) := [f7]
def gy : Tr Plf :=
 .split u0 (
 .split (.eql (.sel WZ 0) (.c 1)) (
 .split (.lss (.sel WZ 1) (.c 0)) (
 .leaf (.done 0 [(.c 0), (.c 9)])) (
 .split (.lss (.sel WZ 1) x83) (
 .leaf (.done 0 [(.cell u1 (.sel WZ 1) 2), (.c 0)])) x2)) x2) (
 .leaf (.done 0 [(.c 0), (.c 1)]))
def t18 : List (Tr Plf) := [gy]
def aJ : Tr Plf :=
 .split u0 (
 .split (.eqS u8 0 0) (
 .leaf (.done 0 [(.bc true), (.c 0)])) (
 .split (.eql (.sel XH 0) (.c 1)) (
 .split (.eql (.sel XH 2) (.c 0)) (
 .split dP (
 .split (.lss Pr (.c 0)) x2 (
 .split (.lss Pr x83) (
 .split (.lss XC u9) Zp (
 .split (.lss u10 XC) Zp (
 .split (.lss u11 (.arith .sub .i64 (.c 0) XC)) Zp (
 .leaf (.done 0 [(.neg (.lss (.arith .sub .i64 (.cell u1 Pr 1) XC) u11)), (.c 0)]))))) x2)) x2) (
 .leaf (.done 0 [(.bc false), (.sel XH 2)]))) x2)) (
 .leaf (.done 0 [(.bc false), (.c 1)]))
def t19 : List (Tr Plf) := [aJ]
def dt : Tr Plf :=
 .split ew (
 .leaf (.next 1 ([u8, (.c 0)] ++ us 0 8))) (
 .split aG (
 .leaf (.next 2 [.nilL, (.bc true), u8, (.c 0), u0, u1, u2, u3, u4, u5, u6, u7, (.sel Kh 1), (.sel Kh 2), (.sel Kh 3)])) x2)
def dw : Tr Plf :=
 .split x12 (
 .split x13 x2 (
 .split (.eql (.sel (.app 17 (rl [(.c 0), x14, x36, x37, x38, x39, x40, x41, x42, x43])) 0) (.c 1)) (
 .leaf (.next 1 ([u0, x16] ++ us 2 8))) x2)) (
 .leaf (.done 0 [.nilL, (.bc true)]))
def gQ : Tr Plf :=
 .split (.lss u3 x76) (
 .split Sx x2 (
 .split (.eql Z2 u12) (
 .split (.eql (.sel gv 0) (.c 1)) (
 .split (.sel gv 1) (
 .split Z9 x2 (
 .split (.lss u4 W5) (
 .split (.eqSS gn (.cell u10 u4 0)) (
 .split Qw (
 .leaf (.next 2 [(.snoc u0 x77), (.bc false), u2, O2, u4, u5, u6, u7, u8, u9, u10, u11, Z2, u13, u14])) x2) e6) x2)) e6) x2) x2)) eB
def t20 : List (Tr Plf) := [dt, dw, gQ]
def aq : Tr Plf :=
 .split (.eql (.sel (.app 17 gH) 0) (.c 1)) KL x2
def t21 : List (Tr Plf) := [aq]
def bO : Tr Plf :=
 .split (.eql (.sel WK 0) (.c 1)) (
 .split (.eql (.sel WK 2) (.c 0)) (
 .split (.sel WK 1) (
 .split (.eqS u8 0 0) (
 .leaf (.done 0 [(.c 0), u1])) (
 .split dP (
 .split (.lss Pr (.c 0)) x2 (
 .split (.lss Pr x83) (
 .leaf (.done 0 [(.c 0), (.upd u1 Pr 2 (.arith .add .i64 (.cell u1 Pr 2) u11))])) x2)) x2)) (
 .leaf (.done 0 [(.c 8), u1]))) (
 .leaf (.done 0 [(.sel WK 2), u1]))) x2
def t22 : List (Tr Plf) := [bO]
def gS : Tr Plf :=
 .leaf (.next 1 [u2, u3, (.c 0), u0, u1])
def ei : Tr Plf :=
 .split x4 (
 .split x1 x2 (
 .split (.lss x30 R7) (
 .leaf (.next 1 [u0, u1, x8, (.snoc u3 (rl [(.cell u0 u2 2)])), (.bc false)])) x2)) (
 .leaf (.done 0 [u3, u4]))
def t23 : List (Tr Plf) := [gS, ei]
def fV : Tr Plf :=
 .split ew (
 .split Wq x2 (
 .split (.lss u9 x98) (
 .split (.eql (.sel (.app 21 (.rcons (.c 0) fv)) 0) (.c 1)) (
 .split bT ZT x2) x2) x2)) (
 .split aG (
 .split Wq x2 (
 .split (.lss u9 x98) (
 .split (.eql (.lenL (.sel Kh 3)) (.sel Kh 1)) (
 .split (.eql (.sel Zq 0) (.c 1)) (
 .split bT (
 .split (.sel Kh 2) ZT (
 .split (.eql (.lenL (.sel Kh 3)) YZ) (
 .split (.lss YZ (.c 1048576)) (
 .split (.eql (.sel bi 0) (.c 1)) (
 .split (.lss VB (.c 4)) (
 .split (.eql VB (.c 0)) ZT (
 .split (.eql VB (.c 1)) (
 .leaf (.done 0 [Ux, Xg, (.c 0), (.c 0), (.c 0)])) (
 .split (.eql VB (.c 2)) (
 .leaf (.done 0 [Ux, Xg, YO, (.c 0), (.c 0)])) (
 .split (.eql VB (.c 3)) (
 .leaf (.done 0 [Ux, Xg, YO, (.cell Uv (.c 2) 0), (.c 0)])) x2)))) (
 .leaf (.done 0 [Ux, Xg, YO, (.cell Uv (.c 2) 0), (.cell Uv (.c 3) 0)]))) x2) x2) x2)) x2) x2) x2) x2)) x2)
def t24 : List (Tr Plf) := [fV]
def fC : Tr Plf :=
 .split (.eql (.sel Wm 0) (.c 1)) (
 .leaf (.next 1 [(.sel Wm 1), (.sel Wm 2), (.lenL (.sel Wm 1)), (.c 0), u5, u6, u7, u8, u9, u10, u11, u0, u1, u2, u3, u4])) x2
def fG : Tr Plf :=
 .split (.lss u3 u2) (
 .split Sx x2 (
 .split aa (
 .split (.eql (.sel S3 0) (.c 1)) (
 .split (.eql (.sel Xs 0) (.c 1)) (
 .leaf (.next 1 [u0, u1, u2, O2, (.sel Xs 1), (.sel Xs 2), (.sel Xs 3), u7, u8, u9, u10, u11, u12, u13, u14, u15])) x2) x2) x2)) (
 .leaf (.done 0 [u4, u5, u6]))
def t25 : List (Tr Plf) := [fC, fG]
def gE : Tr Plf :=
 .leaf (.next 1 [u2, u0, u1, (.c 0), u3, u4, u5, u6, .nilL, (.bc true), .emptyL])
def gN : Tr Plf :=
 .split (.lss u3 x83) (
 .split Sx x2 (
 .split (.eql (.sel XG 0) (.c 1)) (
 .leaf (.next 1 [u0, u1, u2, O2, u4, u5, u6, u7, (.sel XG 1), (.sel XG 2), (.sel XG 3)])) x2)) (
 .leaf (.next 2 ([u0, (.c 0), u1] ++ us 4 7)))
def ba : Tr Plf :=
 .split (.lss u1 x96) (
 .split x23 (
 .split x13 x2 (
 .split (.eql (.sel V3 0) (.c 1)) (
 .leaf (.next 2 [u0, x16, u2, u3, u4, u5, u6, (.sel V3 1), (.sel V3 2), (.sel V3 3)])) x2)) aZ) aZ
def t26 : List (Tr Plf) := [gE, gN, ba]
def f6 : Tr Plf :=
 .leaf x35
def gK : Tr Plf :=
 .split x12 (
 .split x13 x2 (
 .split (.lss u6 (.c 0)) x2 (
 .split (.lss u6 x30) (
 .split (.eqSS x14 fP) x15 x44) x2))) x18
def t27 : List (Tr Plf) := [f6, gK]
def gX : Tr Plf :=
 .split (.eql (.sel XB 0) (.c 1)) (
 .split (.lss (.sel XB 1) (.c 0)) (
 .leaf (.done 0 [(.c 0), (.c 0), (.c 0), (.c 0), (.c 0), (.c 9)])) (
 .split (.lss (.sel XB 1) x98) (
 .split (.eql (.sel bU 0) (.c 1)) (
 .leaf (.next 1 [u9, (.c 0), u0, u1, u2, u3, u4, u5, u6, u7, u10, u11, u12, u13, u14, (.sel bU 1), (.c 0), (.c 0), (.c 0), (.c 0)])) x2) x2)) x2
def ce : Tr Plf :=
 .split x12 (
 .split x13 x2 (
 .split (.eql (.sel ey 0) (.c 1)) (
 .split (.eql (.sel ai 0) (.c 1)) (
 .split (.lss T8 (.c 0)) (
 .split (.lss x37 (.c 0)) Lu (
 .split Tz x2 (
 .split U6 (
 .split (.lss VJ x37) Lu (
 .split Tg (
 .leaf (.next 1 ([u0, x16] ++ us 2 14 ++ [x37, u17, u18, u19]))) (
 .split UG (
 .leaf (.next 1 ([u0, x16] ++ us 2 15 ++ [x37, u18, u19]))) (
 .split UR (
 .leaf (.next 1 ([u0, x16] ++ us 2 16 ++ [x37, u19]))) (
 .split VA (
 .leaf (.next 1 ([u0, x16] ++ us 2 17 ++ [x37]))) x2))))) x2))) (
 .split (.eql T8 (.c 0)) (
 .split (.lss Sd (.c 0)) Lu (
 .split Tz x2 (
 .split U6 (
 .split (.lss VJ Sd) Lu (
 .split Tg (
 .leaf (.next 1 ([u0, x16] ++ us 2 14 ++ [Sd, u17, u18, u19]))) (
 .split UG (
 .leaf (.next 1 ([u0, x16] ++ us 2 15 ++ [Sd, u18, u19]))) (
 .split UR (
 .leaf (.next 1 ([u0, x16] ++ us 2 16 ++ [Sd, u19]))) (
 .split VA (
 .leaf (.next 1 ([u0, x16] ++ us 2 17 ++ [Sd]))) x2))))) x2))) (
 .split (.eql T8 (.c 1)) (
 .split (.lss SS (.c 0)) Lu (
 .split Tz x2 (
 .split U6 (
 .split (.lss VJ SS) Lu (
 .split Tg (
 .leaf (.next 1 ([u0, x16] ++ us 2 14 ++ [SS, u17, u18, u19]))) (
 .split UG (
 .leaf (.next 1 ([u0, x16] ++ us 2 15 ++ [SS, u18, u19]))) (
 .split UR (
 .leaf (.next 1 ([u0, x16] ++ us 2 16 ++ [SS, u19]))) (
 .split VA (
 .leaf (.next 1 ([u0, x16] ++ us 2 17 ++ [SS]))) x2))))) x2))) (
 .split (.eql T8 (.c 2)) (
 .split (.lss R9 (.c 0)) Lu (
 .split Tz x2 (
 .split U6 (
 .split (.lss VJ R9) Lu (
 .split Tg (
 .leaf (.next 1 ([u0, x16] ++ us 2 14 ++ [R9, u17, u18, u19]))) (
 .split UG (
 .leaf (.next 1 ([u0, x16] ++ us 2 15 ++ [R9, u18, u19]))) (
 .split UR (
 .leaf (.next 1 ([u0, x16] ++ us 2 16 ++ [R9, u19]))) (
 .split VA (
 .leaf (.next 1 ([u0, x16] ++ us 2 17 ++ [R9]))) x2))))) x2))) (
 .split (.eql T8 (.c 3)) (
 .split (.lss SK (.c 0)) Lu (
 .split Tz x2 (
 .split U6 (
 .split (.lss VJ SK) Lu (
 .split Tg (
 .leaf (.next 1 ([u0, x16] ++ us 2 14 ++ [SK, u17, u18, u19]))) (
 .split UG (
 .leaf (.next 1 ([u0, x16] ++ us 2 15 ++ [SK, u18, u19]))) (
 .split UR (
 .leaf (.next 1 ([u0, x16] ++ us 2 16 ++ [SK, u19]))) (
 .split VA (
 .leaf (.next 1 ([u0, x16] ++ us 2 17 ++ [SK]))) x2))))) x2))) x2))))) x2) x2)) (
 .leaf (.done 0 (us 15 5 ++ [(.c 0)])))
def t28 : List (Tr Plf) := [gX, ce]
def fw : Tr Plf :=
 .split (.lss YI (.c 0)) (
 .split Qw (
 .leaf (.done 0 [(.snoc u0 Yz), (.bc false), (.snoc u2 (.rcons u3 (.rcons u4 (.rcons u5 (.rcons u6 (.rcons u7 (.rcons u8 (.rcons u9 (.rcons u10 (.rcons u11 (.rcons u12 U4)))))))))))])) x2) (
 .split (.cell u2 YI 10) cJ (
 .split Qw (
 .leaf (.done 0 [(.snoc u0 Yz), (.bc false), (.upd u2 YI 10 (.bc true))])) x2))
def t29 : List (Tr Plf) := [fw]
def eF : Tr Plf :=
 .leaf (.next 1 ([u0, u1, (.c 0)] ++ us 2 5))
def f9 : Tr Plf :=
 .split x4 (
 .split x1 x2 (
 .split (.lss x5 (.c 0)) x2 (
 .split (.lss x5 x92) (
 .split (.eql (.cell u6 x5 2) (.c 2)) (
 .split u7 cC x21) (
 .split u7 x21 cC)) x2))) x18
def t30 : List (Tr Plf) := [eF, f9]
def ft : Tr Plf :=
 .split (.eql (.sel (.app 30 ZD) 0) (.c 1)) (
 .split (.eql ZV (.c (-1))) eB (
 .leaf (.next 1 [u0, u1, ZV, (.arith .add .i64 ZV (.c 1)), u2, u3, u4, u5, u6]))) x2
def bj : Tr Plf :=
 .split aa (
 .split Sx x2 (
 .split (.lss Sg (.c 0)) x2 (
 .split (.lss Sg x96) (
 .split (.eql (.cell u7 Sg 2) (.c 2)) (
 .split u8 gV ah) (
 .split u8 ah gV)) x2))) (
 .split x1 x2 (
 .split (.lss x3 u2) x2 (
 .split (.lss x3 x3) x2 (
 .split (.eql x3 (.lenL ZL)) cD cD))))
def t31 : List (Tr Plf) := [ft, bj]
def gB : Tr Plf :=
 .split (.eql (.sel (.app 20 Sw) 0) (.c 1)) (
 .split (.eql (.sel Y2 0) (.c 1)) (
 .split (.eql (.sel (.app 20 R2) 0) (.c 1)) (
 .split (.eql (.sel Y9 0) (.c 1)) (
 .leaf (.done 0 [(.sel Y2 1), (.sel Y2 2), (.sel Y9 1), (.sel Y9 2)])) x2) x2) x2) x2
def t32 : List (Tr Plf) := [gB]
def bJ : Tr Plf :=
 .leaf (.done 0 [u2, u3, u4])
def t33 : List (Tr Plf) := [bJ]
def gF : Tr Plf :=
 .leaf (.next 1 ([u0, u1, (.c 0)] ++ us 2 9))
def dH : Tr Plf :=
 .split x4 (
 .split x1 x2 (
 .split (.lss x5 (.c 0)) x2 (
 .split (.lss x5 x92) (
 .split (.lss u11 (.c 0)) x2 (
 .split (.lss u11 W5) (
 .split (.and (.eql (.cell u6 x5 2) (.cell u10 u11 2)) (.and (.eqSS (.cell u6 x5 3) (.cell u10 u11 3)) (.eqSS (.cell u6 x5 4) (.cell u10 u11 4)))) x21 (
 .leaf (.next 1 ([u0, u1, x8] ++ us 3 9)))) x2)) x2))) x18
def t34 : List (Tr Plf) := [gF, dH]
def eD : Tr Plf :=
 .leaf (.next 1 [u10, u11, u4, u5, (.c 0), u0, u1, u2, u3, u6, u7, u8, u9])
def aO : Tr Plf :=
 .split (.lss u4 x76) (
 .split Z9 x2 (
 .split (.eql (.sel dR 0) (.c 1)) (
 .split (.lss (.sel dR 1) (.c 0)) (
 .leaf (.done 0 [aF, (.bc true)])) (
 .leaf (.next 1 ([u0, u1, u2, u3, Y1] ++ us 5 8)))) x2)) (
 .leaf (.done 0 [(.c 0), (.bc false)]))
def t35 : List (Tr Plf) := [eD, aO]
def cE : Tr Plf :=
 .split ae (
 .split (.eql (.sel Zy 0) (.c 1)) (
 .split (.sel Zy 2) (
 .leaf (.done 0 [(.c 1), (.sel Zy 1)])) (
 .split (.eql (.sel P7 0) (.c 1)) (
 .split (.eql (.sel Zx 0) (.c 1)) (
 .split (.sel Zx 2) (
 .leaf (.done 0 [(.c 2), (.sel Zx 1)])) (
 .split (.lss (.c 0) (.lenL (.sel P7 1))) (
 .split (.eql (.lenL (.sel P7 3)) (.c 0)) (
 .leaf (.done 0 [(.c 3), (.c 0)])) bZ) bZ)) x2) x2)) x2) x2
def t36 : List (Tr Plf) := [cE]
def fZ : Tr Plf :=
 .split (.lss u0 (.c 0)) x2 (
 .split (.lss u0 x92) (
 .split ZF (
 .leaf (.done 0 [Vr, .emptyL])) (
 .split ab (
 .leaf (.done 0 [Vr, Wc])) (
 .split Zf (
 .leaf (.done 0 [Vr, Xu])) (
 .split Y0 (
 .leaf (.done 0 [Vr, UI])) (
 .split Zm (
 .leaf (.done 0 [Vr, (.snoc UI x90)])) x2))))) x2)
def t37 : List (Tr Plf) := [fZ]
def fI : Tr Plf :=
 .split (.eql (.sel V5 0) (.c 1)) (
 .split (.eql (.sel V5 1) (.c 0)) (
 .split ae (
 .leaf (.next 1 [(.sel Lv 3), (.sel Lv 4), (.sel Lv 1), (.sel Lv 2), (.lenL (.sel Lv 1)), (.c 0), u0, u1, u2, u3, u4, u5, u6, u7, u8, u9, u10, u11, u12, u13, u14, u15, u26, u27, u28, u16, u17, u18, u19, u20, u21, u22, u23, u24, u25])) x2) (
 .split (.eql (.sel (.app 37 Sw) 0) (.c 1)) (
 .split (.eql (.sel (.app 37 R2) 0) (.c 1)) (
 .leaf (.done 0 [(.bc true), u0, u1, u2, u3, u4, u5, u6, u7, (.sel (.app 37 Sw) 1), (.sel (.app 37 Sw) 2), (.bc false), (.sel (.app 37 R2) 1), (.sel (.app 37 R2) 2), (.bc false), (.sel V5 1), (.sel V5 2), u26, u27, u28])) x2) x2)) x2
def cK : Tr Plf :=
 .split WA (
 .split WS x2 (
 .split WG (
 .leaf (.next 2 ([u0, u1, T7, u2, u3, u4, u5, (.c 0)] ++ us 6 29))) x2)) (
 .split (.eql (.sel Sc 0) (.c 1)) (
 .leaf (.next 3 [(.sel Sc 1), (.sel Sc 2), (.sel Sc 3), (.sel Sc 4), (.lenL (.sel Sc 3)), (.c 0), u6, u7, u8, u9, u10, u11, u12, u13, u14, u15, u16, u17, u18, u19, u20, u21, u22, u23, u24, u25, u26, u27, u28, u29, u30, u31, u32, u33, u34])) x2)
def cG : Tr Plf :=
 .split (.lss u7 x3) (
 .split (.lss u7 (.c 0)) x2 (
 .split x1 x2 (
 .split (.lss u2 (.lenL u11)) (
 .split (.lss Jg (.c 0)) x2 (
 .split (.lss Jg (.lenL u15)) (
 .split (.and (.eql (.cell u11 u2 2) (.cell u15 Jg 2)) (.and (.eqSS (.cell u11 u2 3) (.cell u15 Jg 3)) (.eqSS (.cell u11 u2 4) (.cell u15 Jg 4)))) (
 .split (.eql (.sel ST 0) (.c 1)) (
 .split (.eql (.sel S4 0) (.c 1)) (
 .split (.eql (.sel Xn 0) (.c 1)) (
 .leaf (.next 2 [u0, u1, u2, u3, u4, u5, u6, VW, u8, u9, u10, u11, u12, u13, u14, u15, u16, u17, u18, u19, u20, u21, u22, u23, (.sel Xn 1), (.sel Xn 2), (.sel Xn 3), u27, u28, u29, u30, u31, u32, u33, u34, u35, u36])) x2) x2) x2) (
 .leaf (.next 2 (us 0 7 ++ [VW] ++ us 8 29)))) x2)) x2))) (
 .leaf (.next 1 ([u0, u1, u3, u4, u5, eO] ++ us 8 29)))
def bD : Tr Plf :=
 .split WA (
 .split WS x2 (
 .split WG (
 .leaf (.next 4 ([u0, u1, T7, u2, u3, u4, u5, (.c 0)] ++ us 6 29))) x2)) (
 .leaf (.done 0 ([(.bc false)] ++ us 6 19)))
def g7 : Tr Plf :=
 .split (.lss u7 x3) (
 .split (.lss u7 (.c 0)) x2 (
 .split (.lss Jg (.c 0)) x2 (
 .split (.lss Jg (.lenL u11)) (
 .split x1 x2 (
 .split (.lss u2 (.lenL u15)) (
 .split (.and (.eql (.cell u11 Jg 2) (.cell u15 u2 2)) (.and (.eqSS (.cell u11 Jg 3) (.cell u15 u2 3)) (.eqSS (.cell u11 Jg 4) (.cell u15 u2 4)))) (
 .split (.eql (.sel SC 0) (.c 1)) (
 .split (.eql (.sel R6 0) (.c 1)) (
 .split (.eql (.sel Wn 0) (.c 1)) (
 .leaf (.next 4 [u0, u1, u2, u3, u4, u5, u6, VW, u8, u9, u10, u11, u12, u13, u14, u15, u16, u17, u18, u19, u20, u21, u22, u23, (.sel Wn 1), (.sel Wn 2), (.sel Wn 3), u27, u28, u29, u30, u31, u32, u33, u34, u35, u36])) x2) x2) x2) (
 .leaf (.next 4 (us 0 7 ++ [VW] ++ us 8 29)))) x2)) x2))) (
 .leaf (.next 3 ([u0, u1, u3, u4, u5, eO] ++ us 8 29)))
def t38 : List (Tr Plf) := [fI, cK, cG, bD, g7]
def aL : Tr Plf :=
 .leaf (.next 1 ([u2, u0, u1, (.c 0)] ++ us 3 16 ++ [.nilL, (.bc true), .emptyL]))
def aY : Tr Plf :=
 .split (.lss u3 x83) (
 .split Sx x2 (
 .split (.eql (.sel Wl 0) (.c 1)) (
 .leaf (.next 1 [u0, u1, u2, O2, u4, u5, u6, u7, u8, u9, u10, u11, u12, u13, u14, u15, u16, u17, u18, u19, (.sel Wl 1), (.sel Wl 2), (.sel Wl 3)])) x2)) (
 .leaf (.next 2 ([u0, (.c 0), u1] ++ us 4 19)))
def aW : Tr Plf :=
 .split (.lss u1 (.lenL u19)) (
 .split x23 (
 .split x13 x2 (
 .split (.eql (.sel BM 0) (.c 1)) (
 .split (.sel BM 1) (
 .leaf (.done 0 [(.sel BM 18), (.sel BM 19), (.bc false), (.sel BM 2), (.sel BM 3), (.sel BM 4), (.sel BM 5), (.sel BM 6), (.sel BM 7), (.sel BM 8), (.sel BM 9), (.sel BM 10), (.sel BM 11), (.sel BM 12), (.sel BM 13), (.sel BM 14), (.sel BM 15), (.sel BM 16), (.sel BM 17)])) (
 .leaf (.next 2 [u0, x16, u2, (.sel BM 2), (.sel BM 3), (.sel BM 4), (.sel BM 5), (.sel BM 6), (.sel BM 7), (.sel BM 8), (.sel BM 9), (.sel BM 10), (.sel BM 11), (.sel BM 12), (.sel BM 13), (.sel BM 14), (.sel BM 15), (.sel BM 16), (.sel BM 17), (.sel BM 18), (.sel BM 19), (.sel BM 20)]))) x2)) ff) ff
def t39 : List (Tr Plf) := [aL, aY, aW]
def aX : Tr Plf :=
 .split ac (
 .split (.eql V4 (.c 0)) (
 .split bF (
 .split (.sel M9 3) bW (
 .leaf (.next 1 [.nilL, (.bc true), (.sel M9 1), (.sel M9 2), (.lenL (.sel M9 1)), (.c 0), u0, u1, u2, u3, u4, u5, u6, u7, u8, u9]))) x2) (
 .leaf (.done 0 [(.strc 0 0), .nilL, (.bc true), (.strc 0 0), .nilL, (.bc true), (.c 0), (.c 0), (.bc false), V4]))) x2
def bE : Tr Plf :=
 .split WA (
 .split WS x2 (
 .split WG (
 .split (.eql (.sel PJ 0) (.c 1)) (
 .split (.eql (.sel PJ 6) (.c 0)) (
 .split Qw (
 .leaf (.next 1 [(.snoc u0 (rl [T7, Zb, ZR, Z6, Z0, (.sel PJ 1), (.sel PJ 2), (.sel PJ 3), (.sel PJ 4), (.sel PJ 5)])), (.bc false), u2, u3, u4, Y8, u6, u7, u8, u9, u10, u11, u12, u13, u14, u15])) x2) (
 .leaf (.next 1 (us 0 5 ++ [Y8] ++ us 6 10)))) x2) x2)) (
 .split (.eql (.sel Kn 0) (.c 1)) (
 .split (.sel Kn 3) bW (
 .leaf (.done 0 [(.sel Kn 12), (.sel Kn 13), (.sel Kn 14), (.sel Kn 15), (.sel Kn 16), (.sel Kn 17), (.sel Kn 18), (.sel Kn 19), (.eql (.sel Kn 18) (.c 0)), (.c 0)]))) x2)
def t40 : List (Tr Plf) := [aX, bE]
def gM : Tr Plf :=
 .split x75 (
 .split (.sel x74 1) (
 .split x81 (
 .split x82 (
 .split x85 (
 .split x86 (
 .split x88 (
 .split x89 (
 .split bF (
 .split (.sel M9 3) (
 .leaf (.done 0 [.nilL, (.bc true), (.c 7)])) (
 .leaf (.next 1 [.nilL, (.bc true), (.sel M9 1), (.sel M9 2), (.lenL (.sel M9 1)), (.c 0), u0, u1, u2, u3]))) x2) ON) x2) ON) x2) ON) x2) ON) x2
def eQ : Tr Plf :=
 .split WA (
 .split WS x2 (
 .split WG (
 .split (.eql (.sel ZM 0) (.c 1)) (
 .split Qw (
 .leaf (.next 1 [(.snoc u0 (rl [(.sel ZM 1), (.nilIs (.sel ZM 2) (.bc false))])), (.bc false), u2, u3, u4, Y8, u6, u7, u8, u9])) x2) x2) x2)) (
 .leaf (.done 0 [u0, u1, (.c 0)]))
def t41 : List (Tr Plf) := [gM, eQ]
def dQ : Tr Plf :=
 .split (.eql (.sel V8 0) (.c 1)) (
 .split (.lss (.sel V8 1) (.c 0)) ap (
 .split (.eql x45 x76) (
 .leaf (.next 1 [u5, (.c 0), u0, u1, u2, u3, u4, (.sel V8 1)])) ap)) x2
def cB : Tr Plf :=
 .split x12 (
 .split x13 x2 (
 .split (.lss x14 (.c 0)) dC (
 .split (.lss u1 x24) (
 .split (.lss x28 x14) dC (
 .leaf (.next 1 ([u0, x16] ++ us 2 6)))) x2))) (
 .split (.lss x3 (.c 4)) (
 .split (.eql x3 (.c 0)) (
 .leaf (.done 0 [u7, (.c 0), (.c 0), (.c 0), (.c 0), (.bc true)])) (
 .split (.eql x3 (.c 1)) (
 .leaf (.done 0 [u7, Sp, (.c 0), (.c 0), (.c 0), (.bc true)])) (
 .split (.eql x3 (.c 2)) (
 .leaf (.done 0 [u7, Sp, YE, (.c 0), (.c 0), (.bc true)])) (
 .split (.eql x3 (.c 3)) (
 .leaf (.done 0 [u7, Sp, YE, (.cell u0 (.c 2) 0), (.c 0), (.bc true)])) x2)))) (
 .leaf (.done 0 [u7, Sp, YE, (.cell u0 (.c 2) 0), (.cell u0 (.c 3) 0), (.bc true)])))
def t42 : List (Tr Plf) := [dQ, cB]
def gp : Tr Plf :=
 .split ac (
 .split (.eql V4 (.c 0)) (
 .split (.eql (.sel PC 0) (.c 1)) (
 .split (.sel PC 6) (
 .split (.eql (.sel OP 0) (.c 1)) (
 .split (.eql (.sel OP 6) (.c 0)) (
 .split (.eql (.sel Zd 0) (.c 1)) (
 .leaf (.done 0 [(.sel Zd 1), (.sel Zd 2), (.bc false), (.c 0)])) x2) (
 .leaf (.done 0 [(.strc 0 0), .nilL, (.bc true), (.sel OP 6)]))) x2) (
 .leaf (.done 0 [(.strc 0 0), .nilL, (.bc true), (.c 492)]))) x2) (
 .leaf (.done 0 [(.strc 0 0), .nilL, (.bc true), V4]))) x2
def t43 : List (Tr Plf) := [gp]
def gP : Tr Plf :=
 .split x75 (
 .split (.sel x74 1) (
 .split x81 (
 .split x82 (
 .split x85 (
 .split x86 (
 .split x88 (
 .split x89 (
 .split dS (
 .split (.sel Jp 6) (
 .split (.eql (.sel YX 0) (.c 1)) (
 .leaf (.done 0 [(.sel YX 1), (.sel YX 2), (.c 0)])) x2) (
 .leaf (.done 0 [.nilL, (.bc true), (.c 492)]))) x2) ON) x2) ON) x2) ON) x2) ON) x2
def t44 : List (Tr Plf) := [gP]
def fF : Tr Plf :=
 .leaf (.next 1 ([u4, u5, .nilL, (.bc true), (.c 0), u0, u1, u2, u3] ++ us 6 9))
def fD : Tr Plf :=
 .split (.lss u4 x3) (
 .split Z9 x2 (
 .split (.lss SG (.c 0)) TJ (
 .split (.lss SG x98) (
 .split (.eql (.cell u8 SG 2) u11) (
 .split (.eqSS (.cell u8 SG 3) u12) (
 .split (.eqSS (.cell u8 SG 4) u13) (
 .split (.lss x76 R7) (
 .leaf (.next 1 [u0, u1, (.snoc u2 (rl [SG])), (.bc false), Y1, u5, u6, u7, u8, u9, u10, u11, u12, u13, u14, u15, u16, u17])) x2) TJ) TJ) TJ) TJ))) (
 .leaf (.done 0 [u2, u3]))
def t45 : List (Tr Plf) := [fF, fD]
def dM : Tr Plf :=
 .leaf (.next 1 [u0, u1, u2, (.c 0)])
def fM : Tr Plf :=
 .split aa (
 .split Sx x2 (
 .split (.eql u2 Sg) (
 .leaf (.done 0 [u3])) (
 .leaf (.next 1 [u0, u1, u2, O2])))) x18
def t46 : List (Tr Plf) := [dM, fM]
def gD : Tr Plf :=
 .split (.eql (.sel Vp 0) (.c 1)) (
 .split (.eql (.sel Vp 3) (.c 0)) (
 .split (.eql (.sel eh 0) (.c 1)) (
 .split (.lss (.sel eh 1) (.c 0)) (
 .leaf (.done 0 [(.strc 0 0), .nilL, (.bc true), (.c 8)])) (
 .split dS (
 .split (.eql (.sel S6 0) (.c 1)) (
 .split (.eql (.sel YF 0) (.c 1)) (
 .leaf (.done 0 [(.sel YF 1), (.sel YF 2), (.bc false), (.c 0)])) x2) x2) x2)) x2) (
 .leaf (.done 0 [(.strc 0 0), .nilL, (.bc true), (.sel Vp 3)]))) x2
def t47 : List (Tr Plf) := [gD]
def gL : Tr Plf :=
 .split (.eql (.sel W8 0) (.c 1)) (
 .split (.lss u6 (.c 0)) x2 (
 .split (.lss u6 x30) (
 .split (.eql (.sel YV 0) (.c 1)) (
 .split (.eql (.sel W8 3) (.c 0)) (
 .split (.eql WQ (.c 0)) ax (
 .split (.eql (.sel S2 0) (.c 1)) (
 .split (.eql (.conv .u64 WQ) (.c 0)) x2 (
 .split (.lss Zt (.c 0)) x2 (
 .split (.lss Zt WQ) (
 .split (.eql (.sel SZ 0) (.c 1)) (
 .split (.eql (.sel S2 4) (.c 0)) (
 .leaf (.done 0 [(.eql (.sel SZ 4) (.c 0)), (.sel S2 1), gW, (.sel SZ 1), dx])) (
 .leaf (.done 0 [(.bc false), (.sel S2 1), gW, (.sel SZ 1), dx]))) x2) x2))) x2)) ax) x2) x2)) x2
def t48 : List (Tr Plf) := [gL]
def gd : Tr Plf :=
 .split (.lss (.c 8) x83) Fv (
 .split (.lss (.c 20) x30) Fv (
 .split (.lss (.c 5) x76) Fv (
 .split (.lss (.c 8) x45) Fv (
 .split (.lss (.c 20) x96) Fv (
 .split (.lss (.c 5) x92) Fv (
 .split (.lss (.c 30) x98) Fv (
 .split (.lss (.c 8) XI) Fv (
 .split (.lss (.c 40) W5) Fv (
 .split (.lss W5 (.c 1)) Fv (
 .split (.eql (.sel (.app 40 UP) 0) (.c 1)) (
 .split (.eql (.sel U9 0) (.c 1)) (
 .split (.eql (.sel (.app 40 UP) 10) (.c 0)) (
 .split (.sel (.app 40 UP) 9) (
 .split (.eql (.sel U9 3) (.c 0)) (
 .split (.eql WC (.c 0)) Fv (
 .split (.eql (.conv .u64 WC) (.c 0)) x2 (
 .split (.lss Xj (.c 0)) x2 (
 .split (.lss Xj WC) (
 .split (.eql (.sel UO 0) (.c 1)) (
 .split (.eql (.sel UO 4) (.c 0)) (
 .leaf (.next 1 [u10, (.c 1), u0, u1, u2, u3, u4, u5, u6, u7, eT, fT, (.sel UO 1), (.nilIs (.sel UO 2) (.sel UO 3))])) Fv) x2) x2)))) Fv) Fv) Fv) x2) x2))))))))))
def cO : Tr Plf :=
 .split x12 (
 .split (.eql (.sel Xw 0) (.c 1)) (
 .split (.eql (.sel Xl 0) (.c 1)) (
 .split (.eql (.sel Xw 3) (.c 0)) (
 .split (.eql (.sel Xl 3) (.c 0)) (
 .leaf (.next 2 [u0, u1, (.sel Xw 1), (.sel Xw 2), (.sel Xl 1), (.sel Xl 2), .nilL, (.bc true), (.bc false), (.c 0), u2, u3, u4, u5, u6, u7, u8, u9, u10, u11, u12, u13])) x0) x0) x2) x2) Fv
def fx : Tr Plf :=
 .split (.lss u9 x76) (
 .split Wq x2 (
 .split (.lss Qx (.c 0)) x0 (
 .split (.lss Qx (.lenL u13)) (
 .split (.eql (.cell u13 Qx 2) (.c 2)) (
 .split (.lss x92 R7) (
 .leaf (.next 2 (us 0 6 ++ [gc, (.bc false), u8, Wi] ++ us 10 12))) x2) (
 .leaf (.next 2 (us 0 8 ++ [(.bc true), Wi] ++ us 10 12)))) x0))) (
 .leaf (.next 3 ([u0, u1, u4, u5, u6, u7, .nilL, (.bc true), u8, (.c 0)] ++ us 10 12)))
def eS : Tr Plf :=
 .split (.lss u9 x76) (
 .split Wq x2 (
 .split (.lss Qx (.c 0)) x0 (
 .split (.lss Qx (.lenL u17)) (
 .split (.eql (.cell u17 Qx 2) (.c 2)) (
 .leaf (.next 3 (us 0 9 ++ [Wi] ++ us 10 12))) (
 .split (.lss x92 R7) (
 .leaf (.next 3 (us 0 6 ++ [gc, (.bc false), u8, Wi] ++ us 10 12))) x2)) x0))) (
 .split u8 (
 .split (.eql x92 (.c 0)) x0 f8) f8)
def t49 : List (Tr Plf) := [gd, cO, fx, eS]
def ts : List (List (Tr Plf)) := [t0, t1, t2, t3, t4, t5, t6, t7, t8, t9, t10, t11, t12, t13, t14, t15, t16, t17, t18, t19, t20, t21, t22, t23, t24, t25, t26, t27, t28, t29, t30, t31, t32, t33, t34, t35, t36, t37, t38, t39, t40, t41, t42, t43, t44, t45, t46, t47, t48, t49]
end Ct

