/- What is stated: the trees of tests of the functions that the law MachineRepeats reaches, as data. Conditions: none. -/
import Derived.Test.YthkffgljlhjggaaBeF
set_option linter.unusedVariables false
set_option linter.unusedSectionVars false
set_option linter.unusedSimpArgs false
namespace Mr
open Go.AE
def u0 : SE := .var 0
def u1 : SE := .var 1
def u2 : SE := .var 2
def u3 : SE := .var 3
def u4 : SE := .var 4
def u5 : SE := .var 5
def u6 : SE := .var 6
def u7 : SE := .var 7
def u8 : SE := .var 8
def u9 : SE := .var 9
def u10 : SE := .var 10
def u11 : SE := .var 11
def u12 : SE := .var 12
def u13 : SE := .var 13
def u14 : SE := .var 14
def u15 : SE := .var 15
def u16 : SE := .var 16
def u17 : SE := .var 17
def u18 : SE := .var 18
def u19 : SE := .var 19
def u20 : SE := .var 20
def u21 : SE := .var 21
def u22 : SE := .var 22
def u23 : SE := .var 23
def u24 : SE := .var 24
def u25 : SE := .var 25
def u26 : SE := .var 26
def u27 : SE := .var 27
def u28 : SE := .var 28
def u29 : SE := .var 29
def u30 : SE := .var 30
def u31 : SE := .var 31
def u32 : SE := .var 32
def u33 : SE := .var 33
def u34 : SE := .var 34
def u35 : SE := .var 35
def u36 : SE := .var 36
def u37 : SE := .var 37
def u38 : SE := .var 38
def u39 : SE := .var 39
def u40 : SE := .var 40
def u41 : SE := .var 41
def u42 : SE := .var 42
def u43 : SE := .var 43
def u44 : SE := .var 44
def u45 : SE := .var 45
def u46 : SE := .var 46
def u47 : SE := .var 47
def x0 : SE := (.lenL u2)
def x1 : Tr Plf := (
 .leaf (.done 0 [(.bc true)]))
def x2 : SE := (.lenL u1)
def x3 : SE := (.lenL u3)
def x4 : SE := (.lenS u0)
def x5 : SE := (.lss u0 x3)
def x6 : SE := (.lss u0 (.c 0))
def x7 : Tr Plf := (
 .leaf .stuck)
def x8 : SE := (.cell u3 u0 0)
def x9 : SE := (.arith .add .i64 u0 (.c 1))
def x10 : SE := (.cell u2 u0 0)
def x11 : SE := (.lenL u4)
def x12 : Tr Plf := (
 .leaf (.done 0 [(.bc false)]))
def x13 : SE := (.lss u2 (.c 0))
def x14 : SE := (.lenL u0)
def x15 : SE := (.lss u2 x14)
def x16 : SE := (.cell u0 u2 0)
def x17 : SE := (.conv .u8 x16)
def x18 : SE := (.eql u2 (.c 0))
def x19 : SE := (.arith .add .i64 u2 (.c 1))
def x20 : Tr Plf := (
 .leaf (.next 1 [u0, u1, x19]))
def x21 : Plf := (.next 1 [u0, (.c 0), u1])
def x22 : SE := (.lss u1 x14)
def x23 : SE := (.lss u1 (.c 0))
def x24 : SE := (.cell u0 u1 0)
def x25 : Tr Plf := (
 .leaf (.done 0 [u1]))
def x26 : SE := (.arith .add .i64 u1 (.c 1))
def x27 : Tr Plf := (
 .split x23 x7 (
 .split (.eqSS x24 u2) x25 (
 .leaf (.next 1 [u0, x26, u2]))))
def x28 : Tr Plf := (
 .leaf (.done 0 [(.c (-1))]))
def x29 : SE := (.lss u0 u1)
def x30 : Tr Plf := (
 .leaf (.done 0 [(.c 0)]))
def x31 : Tr Plf := (
 .leaf (.done 0 [u2]))
def x32 : Tr Plf := (
 .split (.lss u2 u0) x31 (
 .leaf (.next 1 [u0, (.c 0), u3, u4, u5, u6])))
def x33 : SE := (.lss u1 u0)
def x34 : SE := (rl [(.cell u4 u1 0)])
def x35 : SE := (.app 2 (.rcons (.c 0) x34))
def x36 : SE := (.app 3 (.rcons (.c 0) (.rcons u4 x34)))
def x37 : SE := (.cell u4 u1 1)
def x38 : Tr Plf := (
 .leaf (.next 1 [u0, x26, u2, u3, u4, u5]))
def x39 : SE := (rl [(.cell u3 u1 0)])
def x40 : SE := (.app 2 (.rcons (.c 0) x39))
def x41 : SE := (.app 5 (.rcons (.c 0) (.rcons u3 x39)))
def x42 : SE := (.cell u3 u1 2)
def x43 : SE := (.cell u0 u1 1)
def x44 : SE := (.cell u0 u1 2)
def x45 : SE := (.cell u0 u1 3)
def x46 : SE := (.cell u0 u1 4)
def x47 : SE := (.lenL u5)
def x48 : SE := (.cell u5 u1 2)
def x49 : SE := (.cell u5 u1 0)
def x50 : SE := (.app 5 (rl [(.c 0), u3, x49]))
def x51 : SE := (.eql (.sel x50 0) (.c 1))
def x52 : SE := (.cell u5 u1 5)
def x53 : SE := (.app 3 (rl [(.c 0), u4, x52]))
def x54 : SE := (.eql (.sel x53 0) (.c 1))
def x55 : SE := (.lss (.sel x50 1) (.c 0))
def x56 : SE := (.cell u5 u1 1)
def x57 : SE := (.app 5 (rl [(.c 0), u3, x56]))
def x58 : SE := (.eql (.sel x57 0) (.c 1))
def x59 : SE := (.lss (.sel x57 1) (.c 0))
def x60 : SE := (.lss x47 u1)
def x61 : SE := (.cell u5 u1 3)
def x62 : SE := (.cell u5 u1 4)
def x63 : SE := (.cell u5 u1 6)
def x64 : SE := (.cell u5 u1 7)
def x65 : SE := (.cell u5 u1 8)
def x66 : SE := (.app 7 (rl [(.c 0), (.sub u5 (.c 0) u1), x49, x56, x48, x61, x62, x52, x63, x64, x65]))
def x67 : SE := (.eql (.sel x66 0) (.c 1))
def x68 : SE := (.lss (.sel x66 1) (.c 0))
def x69 : SE := (.lss (.sel x50 1) x3)
def x70 : SE := (.app 2 (rl [(.c 0), x61]))
def x71 : SE := (.app 2 (rl [(.c 0), x62]))
def x72 : SE := (.cell u4 (.sel x53 1) 1)
def x73 : Tr Plf := (
 .split (.eqS x52 0 0) (
 .split (.eql x63 (.c 0)) (
 .split (.eql x64 (.c 0)) (
 .split (.eql x65 (.c 0)) x38 x25) x25) x25) (
 .split (.lss (.sel x53 1) (.c 0)) x25 (
 .split (.lss x63 (.c 0)) x25 (
 .split (.lss x64 x63) x25 (
 .split (.lss x65 (.c (-1000))) x25 (
 .split (.lss (.c 1000) x65) x25 (
 .split (.lss (.sel x53 1) x11) (
 .split (.lss x72 x64) x25 (
 .split (.lss (.arith .add .i64 x63 x65) (.c 0)) x25 (
 .split (.lss x72 (.arith .add .i64 x64 x65)) x25 x38))) x7)))))))
def x74 : Tr Plf := (
 .split x51 (
 .split x54 (
 .split x55 x25 (
 .split x58 (
 .split x59 x25 (
 .split x60 x7 (
 .split x67 (
 .split x68 (
 .split x69 (
 .split (.eql (.sel x70 0) (.c 1)) (
 .split (.sel x70 1) (
 .split (.eql (.sel x71 0) (.c 1)) (
 .split (.sel x71 1) (
 .split (.eqSS x62 u2) x25 x73) x25) x7) x25) x7) x7) x25) x7))) x7)) x7) x7)
def x75 : Tr Plf := (
 .split (.lss (.lenS x61) (.c 4611686018427387904)) (
 .split (.lss (.lenS x62) (.c 4611686018427387904)) (
 .split (.eqS (.strCat x61 x62) 0 0) x73 x25) x7) x7)
def x76 : SE := (.app 2 (rl [(.c 0), u0]))
def x77 : SE := (rl [u1, u2, u3])
def x78 : SE := (.rcons u0 x77)
def x79 : SE := (.app 4 (.rcons (.c 0) (.rcons x0 (.rcons (.c 0) (.rcons (.c 4) x78)))))
def x80 : SE := (.app 6 (.rcons (.c 0) (.rcons x2 (.rcons (.c 1) (.rcons (.c 24) x78)))))
def x81 : SE := (.app 8 (.rcons (.c 0) (.rcons x3 (.rcons (.c 0) (.rcons (.c 80) x78)))))
def x82 : SE := (.app 10 (rl [(.c 0), u2, u3, x24]))
def x83 : SE := (.c 1073741824)
def x84 : SE := (rl [(.c 0)])
def x85 : Tr Plf := (
 .leaf (.done 0 [u2, u3]))
def x86 : SE := (.isNil u0)
def x87 : Tr Plf := (
 .leaf (.done 0 [.nilL, (.bc true)]))
def x88 : Tr Plf := (
 .split (.lss x14 (.c 1048576)) (
 .leaf (.done 0 [(.cat .emptyL u0), (.bc false)])) x7)
def x89 : SE := (.cell u2 u4 0)
def x90 : SE := (.cell u2 u4 1)
def x91 : SE := (.cell u2 u4 2)
def x92 : SE := (.arith .add .i64 u4 (.c 1))
def x93 : Tr Plf := (
 .leaf (.done 0 [u0, u1]))
def x94 : Tr Plf := (
 .leaf (.done 0 [(.c 0), (.c 2)]))
def x95 : Tr Plf := (
 .leaf (.done 0 [(.c 0), (.c 9)]))
def x96 : SE := (rl [u5])
def x97 : SE := (.mIdx [(.int .i64)] u1 x96)
def x98 : SE := (.lss x97 (.c 0))
def x99 : SE := (.app 16 (.rcons (.c 0) (.rcons u0 (.rcons u1 (.rcons u2 (.rcons u3 (.rcons u4 x96)))))))
def Yw : Tr Plf := (
 .leaf (.done 0 [(.c 0), u1]))
def cp : SE := (.snoc u2 (.rcons u4 x96))
def Hm : SE := (.arith .quo .i64 (.arith .sub .i64 u0 (.c 1)) (.c 2))
def Xi : SE := (.cell u2 Hm 0)
def Xa : SE := (.cell u2 Hm 1)
def XO : SE := (.cell u2 u0 1)
def Xx : SE := (.lss Xa XO)
def Yl : SE := (.lss XO Xa)
def VN : Tr Plf := (
 .leaf (.next 1 [Hm, u1, (.upd (.upd (.upd (.upd u2 Hm 0 x10) Hm 1 XO) u0 0 Xi) u0 1 Xa), u3, u4]))
def V2 : SE := (rl [u5, u6])
def Xl : SE := (.cell u3 Hm 0)
def W1 : SE := (.cell u3 Hm 1)
def XR : SE := (.cell u3 u0 1)
def W2 : SE := (.lss W1 XR)
def Po : Tr Plf := (
 .leaf (.done 0 [u3, u4]))
def XA : SE := (.lss XR W1)
def Vp : Tr Plf := (
 .leaf (.next 1 [Hm, u1, u2, (.upd (.upd (.upd (.upd u3 Hm 0 x8) Hm 1 XR) u0 0 Xl) u0 1 W1), u4, u5]))
def ZV : Tr Plf := (
 .leaf (.done 0 [(.c 2), u2, u3, u4, u1]))
def ab : Tr Plf := (
 .leaf (.done 0 [(.c 3), u2, u3, u4, u1]))
def W8 : SE := (.c 1099511627776)
def Vi : SE := (.arith .add .i64 u0 u6)
def VQ : SE := (rl [u5, Vi])
def X9 : SE := (.rcons u3 (.rcons u4 (.rcons Vi x96)))
def XM : SE := (.app 19 (.rcons (.c 0) (.rcons u0 (.rcons (.snoc .emptyL VQ) (.rcons (.bc false) X9)))))
def XZ : SE := (.app 19 (.rcons (.c 0) (.rcons u0 (.rcons (.snoc u1 VQ) (.rcons u2 X9)))))
def XL : SE := (.app 19 (.rcons (.c 0) (.rcons u0 (.rcons (.upd u1 x97 1 Vi) (.rcons u2 X9)))))
def Ym : SE := (rl [u20])
def aW : SE := (.app 15 (.rcons (.c 0) (.rcons u3 (.rcons u4 Ym))))
def Rt : SE := (.sel aW 1)
def Sn : SE := (.rcons (.c 0) (.rcons u12 (.rcons u13 (.rcons u14 (.rcons u15 (.rcons u16 x84))))))
def Vm : SE := (.cell Rt (.c 0) 2)
def SM : SE := (.app 20 (rl [(.c 0), u12, (.sel (.app 17 Sn) 2), u14, u15, u16, (.c 0), Vm]))
def RQ : SE := (.rcons (.c 0) x78)
def Vq : SE := (rl [u2])
def TB : SE := (.app 11 (.rcons (.c 0) Vq))
def Sv : SE := (.app 12 (rl [(.c 0), u1]))
def T2 : SE := (.app 13 (.rcons (.c 0) Vq))
def S1 : SE := (.app 14 (rl [(.c 0), u3]))
def Ox : SE := (.app 21 (rl [(.c 0), (.sel TB 1), (.sel TB 2), u0, (.sel Sv 1), (.sel Sv 2), (.sel T2 1), (.sel T2 2), (.sel S1 1), (.sel S1 2), (.strc 0 0), (.bc false), (.c 0), (.c 0), .emptyL, (.bc true), .nilL, (.bc true), (.bc false), .nilL, (.bc true), (.cell u1 (.c 0) 0)]))
def bZ : SE := (rl [u3, u4])
def SL : SE := (.app 24 (.rcons (.c 0) bZ))
def dg : SE := (.eql (.sel SL 0) (.c 1))
def O2 : SE := (.arith .sub .i64 x3 (.c 1))
def YL : SE := (.upd (.upd u3 (.c 0) 0 (.cell u3 O2 0)) (.c 0) 1 (.cell u3 O2 1))
def cr : SE := (.arith .mul .i64 (.c 2) u1)
def Va : SE := (.lenL u6)
def WT : SE := (.lss u2 Va)
def bU : SE := (.cell u6 u9 0)
def Ui : SE := (.cell u6 u2 0)
def Yi : SE := (.cell u6 u9 1)
def OI : SE := (.cell u6 u2 1)
def X4 : SE := (.lss Yi OI)
def X0 : SE := (.arith .add .i64 u3 (.c 1))
def Wb : Tr Plf := (
 .leaf (.next 2 ([u0, u1, u9, X0] ++ us 4 7)))
def NK : Tr Plf := (
 .leaf (.next 2 ([u0, u1, u2, X0] ++ us 4 7)))
def Z6 : Tr Plf := (
 .split (.lss OI Yi) NK NK)
def aT : SE := (.cell u6 u10 0)
def Xw : SE := (.cell u6 u10 1)
def XS : SE := (.lss Xw OI)
def Vr : Tr Plf := (
 .leaf (.next 2 ([u0, u1, u10, X0] ++ us 4 7)))
def YS : Tr Plf := (
 .split (.lss OI Xw) NK NK)
def WU : SE := (.app 26 (.rcons (.c 0) (.rcons u0 (.rcons u4 x77))))
def X2 : Tr Plf := (
 .split (.eql (.sel WU 0) (.c 1)) (
 .leaf (.next 1 [u0, u1, (.sel WU 1), (.sel WU 2), u4])) x7)
def aU : SE := (.mIdx [(.int .i64)] u4 (rl [(.cell u2 (.c 0) 1)]))
def Zv : SE := (.rcons u1 (.rcons u2 bZ))
def Rp : SE := (.app 27 (.rcons (.c 0) (.rcons u5 Zv)))
def RZ : SE := (.app 27 (.rcons (.c 0) (.rcons u0 Zv)))
def bE : Tr Plf := (
 .leaf (.done 0 [u0, u1, (.c 0), u3, u5, u6, u7]))
def RA : SE := (.app 27 (.rcons (.c 0) (.rcons u3 (.rcons u7 (.rcons u4 V2)))))
def Vg : SE := (rl [u9])
def Zh : Tr Plf := (
 .split (.eql (.sel RA 0) (.c 1)) (
 .leaf (.next 1 [(.snoc u0 Vg), (.bc false), (.sel RA 3), u3, u4, (.sel RA 4), (.sel RA 5), u7, (.sel RA 1), (.sel RA 2)])) x7)
def W6 : SE := (.mIdx [(.int .i64)] u7 Vg)
def Sd : SE := (.app 27 (.rcons (.c 0) (.rcons u3 (.rcons (.rmv u7 W6) (.rcons u4 V2)))))
def Vn : SE := (.app 10 (.rcons (.c 0) (.rcons u0 (.rcons u1 Vq))))
def Sj : SE := (rl [(.c 0), u0, u1, u7])
def YR : SE := (.eql (.sel (.app 10 Sj) 0) (.c 1))
def Pq : SE := (.sel (.app 10 Sj) 1)
def Vt : SE := (.sel (.app 30 Sj) 1)
def XB : Tr Plf := (
 .leaf (.done 0 [(.bc false), (.c 0)]))
def aa : Plf := (.next 1 ([(.c 0)] ++ us 2 10 ++ [u17, u18, u19, u0, u1, u12, u14, u15, u16, u13] ++ us 21 9 ++ [u20]))
def X5 : SE := (.lss u0 (.c 3))
def UO : Tr Plf := (
 .leaf (.next 1 ([x9] ++ us 1 30)))
def Y9 : SE := (.app 31 (rl ([(.c 0), u14, u15] ++ us 21 9)))
def bh : Tr Plf := (
 .split (.eql u0 (.c 0)) (
 .split (.eqSS u21 u8) UO x12) (
 .split (.eql u0 (.c 1)) (
 .split (.eql (.sel Y9 0) (.c 1)) (
 .split (.sel Y9 1) UO x12) x7) (
 .split (.eql u0 (.c 2)) (
 .split (.eql u23 (.c 3)) (
 .split u30 UO x12) UO) x7)))
def Rz : SE := (.cell u0 u2 1)
def aK : SE := (.cell u0 u2 2)
def cj : SE := (.cell u0 u2 3)
def bf : SE := (.cell u0 u2 4)
def bi : SE := (rl [x16, Rz, aK, cj, bf, (.cell u0 u2 5), (.cell u0 u2 6), (.cell u0 u2 7), (.cell u0 u2 8)])
def cZ : SE := (.app 32 (.rcons (.c 0) (.rcons u19 (.rcons u20 (.rcons u6 (.rcons u7 (.rcons u8 (.rcons u9 (.rcons u10 (.rcons u11 (.rcons u12 (.rcons u13 (.rcons u14 (.rcons u15 (.rcons u21 (.rcons u25 (.rcons u22 (.rcons u23 (.rcons u24 (.rcons u16 (.rcons u17 (.rcons u18 (.rcons u5 bi)))))))))))))))))))))))
def b8 : Tr Plf := (
 .leaf (.next 1 ([u0, u1, x19] ++ us 3 24)))
def W4 : SE := (.lss u20 u12)
def ZA : Tr Plf := (
 .leaf (.done 0 [.nilL, (.bc true), (.c 3), u17, u13, u15, u12, u14, u16]))
def Xc : SE := (.lss W8 u20)
def Ru : SE := (.app 25 (rl ([(.c 0)] ++ us 12 5)))
def Xd : SE := (.eql (.sel Ru 0) (.c 1))
def Iw : SE := (.sel Ru 2)
def Sb : SE := (.app 28 (.rcons (.c 0) (.rcons (.sel Ru 1) (.rcons (.sel Ru 5) (.rcons Iw (.rcons (.sel Ru 3) (.rcons (.sel Ru 4) Ym)))))))
def Yb : SE := (.eql (.sel Sb 0) (.c 1))
def XH : SE := (.app 29 (rl [(.c 0), u7, u8]))
def U6 : SE := (.eql (.sel XH 0) (.c 1))
def Jg : SE := (.sel Sb 4)
def Jj : SE := (.sel Sb 7)
def Jf : SE := (.sel Sb 5)
def Jm : SE := (.sel Sb 6)
def VW : SE := (.rcons (.sel XH 1) (.rcons (.sel XH 2) Vg))
def XT : SE := (.app 33 (.rcons (.c 0) (.rcons .nilL (.rcons (.bc true) (.rcons u0 (.rcons u1 (.rcons u2 (.rcons u3 (.rcons u4 (.rcons u5 (.rcons u6 (.rcons u7 (.rcons u8 (.rcons u9 (.rcons u10 (.rcons u11 (.rcons Jg (.rcons Jj (.rcons Iw (.rcons Jf (.rcons Jm (.rcons (.bc true) (.rcons u18 (.rcons u19 (.rcons (.bc true) VW)))))))))))))))))))))))))
def O9 : SE := (.lss (.c 0) (.lenL (.sel Sb 1)))
def Xo : SE := (.app 33 (.rcons (.c 0) (.rcons .nilL (.rcons (.bc true) (.rcons u0 (.rcons u1 (.rcons u2 (.rcons u3 (.rcons u4 (.rcons u5 (.rcons u6 (.rcons u7 (.rcons u8 (.rcons u9 (.rcons u10 (.rcons u11 (.rcons Jg (.rcons Jj (.rcons Iw (.rcons Jf (.rcons Jm (.rcons O9 (.rcons u18 (.rcons u19 (.rcons O9 VW)))))))))))))))))))))))))
def V4 : Tr Plf := (
 .leaf (.next 1 ([x9] ++ us 1 35)))
def Y6 : SE := (.app 31 (rl ([(.c 0), u14, u15] ++ us 26 9)))
def UW : SE := (.app 31 (rl ([(.c 0)] ++ us 0 11)))
def aG : SE := (.cell u7 u27 1)
def U2 : SE := (.app 36 (rl [(.c 0), u0, u1, (.cell u7 u27 0), aG, (.cell u7 u27 2), (.cell u7 u27 3), (.cell u7 u27 4), (.cell u7 u27 5), (.cell u7 u27 6), (.cell u7 u27 7), (.cell u7 u27 8)]))
def NF : SE := (.app 21 (rl [(.c 0), (.sel U2 2), u1, u2, u3, u4, u5, u6, u7, u8, u9, u10, u11, u20, u21, u22, u23, u24, u25, u18, u19, aG]))
def cR : Tr Plf := (
 .leaf (.done 0 [(.c 2), u9, u10, u11, u17, u18, u19, u0, u1, u13, u15, u12, u14, u16]))
def cW : Tr Plf := (
 .leaf (.done 0 [(.c 3), u9, u10, u11, u17, u18, u19, u0, u1, u13, u15, u12, u14, u16]))
def YT : SE := (rl [(.cell u7 u21 0), (.cell u7 u21 1), (.cell u7 u21 2), (.cell u7 u21 3), (.cell u7 u21 4), (.cell u7 u21 5), (.cell u7 u21 6), (.cell u7 u21 7), (.cell u7 u21 8)])
def cH : SE := (.app 35 (.rcons (.c 0) (.rcons u0 (.rcons u1 (.rcons u2 (.rcons u3 (.rcons u4 (.rcons u5 (.rcons u6 (.rcons u7 (.rcons u8 (.rcons u9 (.rcons u10 (.rcons u11 (.rcons u12 (.rcons u13 (.rcons u14 (.rcons u15 (.rcons u16 (.rcons u17 (.rcons u18 (.rcons u19 (.rcons Jg (.rcons Jj (.rcons Iw (.rcons Jf (.rcons Jm (.rcons (.bc true) YT))))))))))))))))))))))))))))
def YF : SE := (rl [u20, u21])
def Io : SE := (.app 37 (.rcons (.c 0) (.rcons u0 (.rcons u1 (.rcons u2 (.rcons u3 (.rcons u4 (.rcons u5 (.rcons u6 (.rcons u7 (.rcons u8 (.rcons u9 (.rcons u10 (.rcons u11 (.rcons u12 (.rcons u13 (.rcons u14 (.rcons u15 (.rcons u16 (.rcons (.bc true) (.rcons u18 (.rcons u19 (.rcons Jg (.rcons Jj (.rcons Iw (.rcons Jf (.rcons Jm (.rcons (.bc true) YF))))))))))))))))))))))))))))
def ZQ : SE := (.app 35 (.rcons (.c 0) (.rcons u0 (.rcons u1 (.rcons u2 (.rcons u3 (.rcons u4 (.rcons u5 (.rcons u6 (.rcons u7 (.rcons u8 (.rcons u9 (.rcons u10 (.rcons u11 (.rcons u12 (.rcons u13 (.rcons u14 (.rcons u15 (.rcons u16 (.rcons u17 (.rcons u18 (.rcons u19 (.rcons Jg (.rcons Jj (.rcons Iw (.rcons Jf (.rcons Jm (.rcons O9 YT))))))))))))))))))))))))))))
def H7 : SE := (.app 37 (.rcons (.c 0) (.rcons u0 (.rcons u1 (.rcons u2 (.rcons u3 (.rcons u4 (.rcons u5 (.rcons u6 (.rcons u7 (.rcons u8 (.rcons u9 (.rcons u10 (.rcons u11 (.rcons u12 (.rcons u13 (.rcons u14 (.rcons u15 (.rcons u16 (.rcons (.bc false) (.rcons u18 (.rcons u19 (.rcons Jg (.rcons Jj (.rcons Iw (.rcons Jf (.rcons Jm (.rcons O9 YF))))))))))))))))))))))))))))
def ax : SE := (.app 35 (.rcons (.c 0) (.rcons u20 (.rcons u21 (.rcons u7 (.rcons u8 (.rcons u9 (.rcons u10 (.rcons u11 (.rcons u12 (.rcons u13 (.rcons u14 (.rcons u15 (.rcons u16 (.rcons u22 (.rcons u26 (.rcons u23 (.rcons u24 (.rcons u25 (.rcons u17 (.rcons u18 (.rcons u19 (.rcons u27 (.rcons u31 (.rcons u28 (.rcons u29 (.rcons u30 (.rcons u6 bi))))))))))))))))))))))))))))
def Un : Tr Plf := (
 .leaf (.next 1 ([u0, u1, x19] ++ us 3 30)))
def az : Tr Plf := (
 .leaf (.done 0 [(.c 0), (.c 3), u9, u10, u11, u17, u18, u19, u0, u1, u13, u15, u12, u14, u16]))
def Uc : SE := (.app 39 (.rcons (.c 0) (.rcons u21 (.rcons u22 (.rcons (.c (-1)) (.rcons u0 (.rcons u1 (.rcons u2 (.rcons u3 (.rcons u4 (.rcons u5 (.rcons u6 (.rcons u7 (.rcons u8 (.rcons u9 (.rcons u10 (.rcons u11 (.rcons u12 (.rcons u13 (.rcons u14 (.rcons u15 (.rcons u16 (.rcons u17 (.rcons u18 (.rcons u19 (.rcons Jg (.rcons Jj (.rcons Iw (.rcons Jf (.rcons Jm (.rcons (.bc true) VW)))))))))))))))))))))))))))))))
def aQ : Tr Plf := (
 .leaf (.done 0 [(.c 0), (.c 9), u9, u10, u11, (.bc true), u18, u19, u0, u1, u13, u15, u12, u14, u16]))
def Ia : SE := (.app 37 (rl [(.c 0), u0, u1, u2, u3, u4, u5, u6, u7, u8, u9, u10, u11, u12, u13, u14, u15, u16, (.bc true), u18, u19, Jg, Jj, Iw, Jf, Jm, (.bc true), u20, (.sel Uc 1)]))
def SC : SE := (.app 39 (.rcons (.c 0) (.rcons u21 (.rcons u22 (.rcons (.c (-1)) (.rcons u0 (.rcons u1 (.rcons u2 (.rcons u3 (.rcons u4 (.rcons u5 (.rcons u6 (.rcons u7 (.rcons u8 (.rcons u9 (.rcons u10 (.rcons u11 (.rcons u12 (.rcons u13 (.rcons u14 (.rcons u15 (.rcons u16 (.rcons u17 (.rcons u18 (.rcons u19 (.rcons Jg (.rcons Jj (.rcons Iw (.rcons Jf (.rcons Jm (.rcons O9 VW)))))))))))))))))))))))))))))))
def bM : Tr Plf := (
 .leaf (.done 0 [(.c 0), (.c 9), u9, u10, u11, (.bc false), u18, u19, u0, u1, u13, u15, u12, u14, u16]))
def Ib : SE := (.app 37 (rl [(.c 0), u0, u1, u2, u3, u4, u5, u6, u7, u8, u9, u10, u11, u12, u13, u14, u15, u16, (.bc false), u18, u19, Jg, Jj, Iw, Jf, Jm, O9, u20, (.sel SC 1)]))
def Z2 : SE := (rl [x89, x90, x91, (.cell u2 u4 3), (.cell u2 u4 4), (.cell u2 u4 5), (.cell u2 u4 6), (.cell u2 u4 7), (.cell u2 u4 8)])
def bt : SE := (.app 41 (.rcons (.c 0) (.rcons u18 (.rcons u19 (.rcons u6 (.rcons u7 (.rcons u8 (.rcons u9 (.rcons u10 (.rcons u2 (.rcons u11 (.rcons u12 (.rcons u13 (.rcons u14 (.rcons u20 (.rcons u24 (.rcons u21 (.rcons u22 (.rcons u23 (.rcons u15 (.rcons u16 (.rcons u17 (.rcons u5 Z2)))))))))))))))))))))))
def cw : Tr Plf := (
 .leaf (.next 1 ([u0, u1, u2, u3, x92] ++ us 5 20)))
def aC : SE := (.app 42 (rl ([(.c 0), u7, u8] ++ us 0 7 ++ us 8 12 ++ [(.bc true)])))
def CX : SE := (.app 38 (rl ([(.c 0), u17, u18] ++ us 4 10 ++ [u24, u22, u25, u23, u26, u14, u15, u16, Rz, x16])))
def Xh : SE := (.app 30 (.rcons (.c 0) (.rcons u0 (.rcons u1 Ym))))
def P0 : Tr Plf := (
 .split (.eql (.sel (.app 1 x84) 0) (.c 1)) x1 x7)
def BV : SE := (.app 22 RQ)
def Pf : SE := (.app 34 (rl ([(.c 0), u19, u20] ++ us 6 10 ++ [u21, u36, u22, u23, u24, u16, u17, u18, x43])))
def YB : Tr Plf := (
 .split (.eql (.sel Pf 0) (.c 1)) (
 .leaf (.next 2 [u0, u1, (.c 0), u2, u3, u4, u5, u6, u7, u8, u9, u10, u11, u12, u13, u14, u15, (.sel Pf 4), u17, u18, u19, u20, (.sel Pf 7), (.sel Pf 8), (.sel Pf 6), (.sel Pf 9), u25, u26, u27, u28, u29, u30, u31, u32, u33, u34, u35, (.sel Pf 5), u37, u38, u39, u40, u41, u42])) x7)
def H2 : SE := (.app 38 (rl ([(.c 0), u19, u20] ++ us 6 10 ++ [u21, u36, u22, u23, u24, u16, u17, u18, x43, x44])))
def VP : Tr Plf := (
 .split (.eql (.sel H2 0) (.c 1)) (
 .leaf (.next 2 [u0, u1, (.c 0), u2, u3, u4, u5, u6, u7, u8, u9, u10, u11, u12, (.sel H2 2), (.sel H2 3), (.sel H2 4), (.sel H2 5), (.sel H2 6), (.sel H2 7), (.sel H2 8), (.sel H2 9), (.sel H2 12), (.sel H2 13), (.sel H2 11), (.sel H2 14), u25, u26, u27, u28, u29, u30, u31, u32, u33, u34, u35, (.sel H2 10), u37, u38, u39, u40, u41, u42])) x7)
def Ht : SE := (.app 40 (rl ([(.c 0), u19, u20] ++ us 6 10 ++ [u21, u36, u22, u23, u24, u16, u17, u18, x43, x45, x46])))
def ag : Tr Plf := (
 .split (.eql (.sel Ht 0) (.c 1)) (
 .leaf (.next 2 [u0, u1, (.c 0), u2, u3, u4, u5, u6, u7, u8, u9, u10, u11, u12, (.sel Ht 3), (.sel Ht 4), (.sel Ht 5), (.sel Ht 6), (.sel Ht 7), (.sel Ht 8), (.sel Ht 9), (.sel Ht 10), (.sel Ht 13), (.sel Ht 14), (.sel Ht 12), (.sel Ht 15), u25, u26, u27, u28, u29, u30, u31, u32, u33, u34, u35, (.sel Ht 11), u37, u38, u39, u40, u41, u42])) x7)
def cx : SE := (rl [u17, u18])
def Yf : SE := (.app 43 (.rcons (.c 0) (.rcons u19 (.rcons u20 (.rcons u6 (.rcons u7 (.rcons u8 (.rcons u9 (.rcons u10 (.rcons u11 (.rcons u12 (.rcons u13 (.rcons u14 (.rcons u15 (.rcons u21 (.rcons u36 (.rcons u22 (.rcons u23 (.rcons u24 (.rcons u16 cx))))))))))))))))))))
def Hf : SE := (.app 38 (rl [(.c 0), u19, u20, u6, u7, u8, u9, u10, u11, u12, u13, u14, u15, u21, u36, u22, u23, u24, u16, u17, u18, (.sel Yf 1), x44]))
def Yj : SE := (.app 44 (.rcons (.c 0) cx))
def Ex : SE := (.app 45 (rl [(.c 0), (.bc false), u37, u38, u25, u26, u27, u28, u29, u30, u31, u32, u33, u34, (.c 0), u42, u39, u40, u41, (.bc false), u35, (.bc true), (.c 0), .nilL, (.bc true), (.sel Yj 1), (.sel Yj 2)]))
def Xp : SE := (.app 44 (rl [(.c 0), (.sel Ex 5), (.sel Ex 6)]))
def XF : SE := (.app 46 (rl [(.c 0), (.bc false), (.sel Ex 10), (.sel Ex 11), (.c 0), (.sel Xp 1), (.sel Xp 2)]))
def VE : SE := (.app 47 (rl [(.c 0), u20, u21, u7, u8, u9, u10, u11, u12, u13, u14, u15, u16, u22, u37, u23, u24, u25, u17, u18, u19, (.cell u5 u2 0)]))
def Xb : SE := (.app 47 (rl ([(.c 0), u21, u22] ++ us 8 10 ++ [u23, u40, u24, u25, u26, u18, u19, u20, x8])))
def W0 : SE := (.app 47 (rl ([(.c 0), u41, u42] ++ us 27 10 ++ [u43, u47, u44, u45, u46, u37, u38, u39, x8])))
def dq : Tr Plf :=
 .split (.lss (.c 6) x0) x1 (
 .split (.lss (.c 8) x2) x1 (
 .split (.lss (.c 14) x3) x1 (
 .split (.lss (.c 60) x4) x1 (
 .leaf (.next 1 [(.c 0), u0, u1, u2, u3])))))
def dt : Tr Plf :=
 .split x5 (
 .split x6 x7 (
 .split (.lss (.c 60) (.lenS x8)) x1 (
 .leaf (.next 1 [x9, u1, u2, u3, u4])))) (
 .leaf (.next 2 [(.c 0), u1, u2, u3, u4]))
def dM : Tr Plf :=
 .split (.lss u0 x0) (
 .split x6 x7 (
 .split (.lss (.c 60) (.lenS x10)) x1 (
 .leaf (.next 2 [x9, u1, u2, u3, u4])))) (
 .leaf (.next 3 [(.c 0), u1, u2, u3, u4]))
def eH : Tr Plf :=
 .split (.lss u0 x11) (
 .split x6 x7 (
 .split (.lss (.c 60) (.lenS (.cell u4 u0 0))) x1 (
 .split (.lss (.c 60) (.lenS (.cell u4 u0 1))) x1 (
 .split (.lss (.c 60) (.lenS (.cell u4 u0 3))) x1 (
 .split (.lss (.c 60) (.lenS (.cell u4 u0 4))) x1 (
 .split (.lss (.c 60) (.lenS (.cell u4 u0 5))) x1 (
 .leaf (.next 3 [x9, u1, u2, u3, u4])))))))) x12
def t0 : List (Tr Plf) := [dq, dt, dM, eH]
def dp : Tr Plf :=
 .leaf (.done 0 [])
def t1 : List (Tr Plf) := [dp]
def dE : Tr Plf :=
 .split (.lss x4 (.c 1)) x12 (
 .split (.lss (.c 32) x4) x12 (
 .leaf (.next 1 [(.bytes u0), (.lenL (.bytes u0)), (.c 0)])))
def dY : Tr Plf :=
 .split (.lss u2 u1) (
 .split x13 x7 (
 .split x15 (
 .split (.lss x17 (.c 97)) (
 .split (.lss x17 (.c 65)) (
 .split x18 x12 (
 .split (.lss x17 (.c 48)) x12 (
 .split (.lss (.c 57) x17) x12 x20))) (
 .split (.lss (.c 90) x17) (
 .split x18 x12 (
 .split (.eql x17 (.c 95)) x20 x12)) x20)) (
 .split (.lss (.c 122) x17) (
 .split x18 x12 x12) x20)) x7)) x1
def t2 : List (Tr Plf) := [dE, dY]
def eF : Tr Plf :=
 .leaf x21
def dD : Tr Plf :=
 .split x22 x27 x28
def t3 : List (Tr Plf) := [eF, dD]
def ep : Tr Plf :=
 .split x29 x30 x32
def dz : Tr Plf :=
 .split x33 (
 .split x23 x7 (
 .split (.lss u1 x11) (
 .split (.eql (.sel x35 0) (.c 1)) (
 .split (.sel x35 1) (
 .split (.eql (.sel x36 0) (.c 1)) (
 .split (.lss (.sel x36 1) u1) x25 (
 .split (.lss x37 (.c 1)) x25 (
 .split (.lss (.c 1000) x37) x25 x38))) x7) x25) x7) x7)) x28
def t4 : List (Tr Plf) := [ep, dz]
def dS : Tr Plf :=
 .leaf x21
def eM : Tr Plf :=
 .split x22 x27 x28
def t5 : List (Tr Plf) := [dS, eM]
def dR : Tr Plf :=
 .split x29 x30 x32
def eK : Tr Plf :=
 .split x33 (
 .split x23 x7 (
 .split (.lss u1 x3) (
 .split (.eql (.sel x40 0) (.c 1)) (
 .split (.sel x40 1) (
 .split (.eql (.sel x41 0) (.c 1)) (
 .split (.lss (.sel x41 1) u1) x25 (
 .split (.lss x42 (.c 0)) x25 (
 .split (.lss (.c 1048576) x42) x25 x38))) x7) x25) x7) x7)) x28
def t6 : List (Tr Plf) := [dR, eK]
def dK : Tr Plf :=
 .leaf (.next 1 ([u0, (.c 0)] ++ us 1 9))
def eD : Tr Plf :=
 .split x22 (
 .split x23 x7 (
 .split (.and (.eqSS u2 x24) (.and (.eqSS u3 x43) (.and (.eql u4 x44) (.and (.eqSS u5 x45) (.and (.eqSS u6 x46) (.and (.eqSS u7 (.cell u0 u1 5)) (.and (.eql u8 (.cell u0 u1 6)) (.and (.eql u9 (.cell u0 u1 7)) (.eql u10 (.cell u0 u1 8)))))))))) x25 (
 .leaf (.next 1 ([u0, x26] ++ us 2 9))))) x28
def t7 : List (Tr Plf) := [dK, eD]
def dW : Tr Plf :=
 .split x29 x30 x32
def dw : Tr Plf :=
 .split x33 (
 .split x23 x7 (
 .split (.lss u1 x47) (
 .split (.eql x48 (.c 1)) x74 (
 .split (.eql x48 (.c 2)) x74 (
 .split (.eql x48 (.c 3)) (
 .split x51 (
 .split x54 (
 .split x55 x25 (
 .split x58 (
 .split x59 x25 (
 .split x60 x7 (
 .split x67 (
 .split x68 (
 .split x69 (
 .split (.lss (.c 0) (.cell u3 (.sel x50 1) 2)) x75 x25) x7) x25) x7))) x7)) x7) x7) (
 .split (.eql x48 (.c 4)) (
 .split x51 (
 .split x54 (
 .split x55 x25 (
 .split x58 (
 .split x59 x25 (
 .split x60 x7 (
 .split x67 (
 .split x68 (
 .split x69 x75 x7) x25) x7))) x7)) x7) x7) (
 .split x51 (
 .split x54 x25 x7) x7))))) x7)) x28
def t8 : List (Tr Plf) := [dW, dw]
def eN : Tr Plf :=
 .split (.eql (.sel x76 0) (.c 1)) (
 .split (.sel x76 1) (
 .split (.eql (.sel x79 0) (.c 1)) (
 .split (.lss (.sel x79 1) (.c 0)) (
 .split (.eql (.sel x80 0) (.c 1)) (
 .split (.lss (.sel x80 1) (.c 0)) (
 .split (.eql (.sel x81 0) (.c 1)) (
 .split (.lss (.sel x81 1) (.c 0)) (
 .leaf (.done 0 [(.c 0), (.c 0)])) (
 .leaf (.done 0 [(.sel x81 1), (.c 293)]))) x7) (
 .leaf (.done 0 [(.sel x80 1), (.c 292)]))) x7) (
 .leaf (.done 0 [(.sel x79 1), (.c 291)]))) x7) (
 .leaf (.done 0 [(.c 0), (.c 290)]))) x7
def t9 : List (Tr Plf) := [eN]
def ZX : Tr Plf :=
 .leaf (.next 1 [u0, u1, (.c 0), u2])
def Zo : Tr Plf :=
 .split x15 (
 .split x13 x7 (
 .split (.eqSS x16 u3) x31 (
 .leaf (.next 1 [u0, u1, x19, u3])))) x28
def t10 : List (Tr Plf) := [ZX, Zo]
def Zx : Tr Plf :=
 .split (.lss (.c 4) x14) x7 (
 .leaf (.next 1 [u0, (.c 0), .nilL, (.bc true)]))
def ak : Tr Plf :=
 .split x22 (
 .split x23 x7 (
 .split (.eqS x24 0 0) x7 (
 .split (.lss x43 (.c 1)) x7 (
 .split (.lss (.c 1000) x43) x7 (
 .split (.eql (.sel x82 0) (.c 1)) (
 .split (.lss (.sel x82 1) (.c 0)) (
 .split (.lss x0 x83) (
 .leaf (.next 1 [u0, x26, (.snoc u2 (.rcons x24 (.rcons x43 x84))), (.bc false)])) x7) x7) x7))))) x85
def t11 : List (Tr Plf) := [Zx, ak]
def aF : Tr Plf :=
 .split x86 x87 x88
def t12 : List (Tr Plf) := [aF]
def aJ : Tr Plf :=
 .split x86 x87 x88
def t13 : List (Tr Plf) := [aJ]
def YW : Tr Plf :=
 .split x86 x87 x88
def t14 : List (Tr Plf) := [YW]
def cn : Tr Plf :=
 .leaf (.next 1 [.nilL, (.bc true), u0, u1, (.c 0), u2])
def aq : Tr Plf :=
 .split (.lss u4 x0) (
 .split (.lss u4 (.c 0)) x7 (
 .split (.eqSS x89 u5) (
 .split (.lss x14 x83) (
 .leaf (.next 1 [(.snoc u0 (rl [x89, x90, x91])), (.bc false), u2, u3, x92, u5])) x7) (
 .leaf (.next 1 [u0, u1, u2, u3, x92, u5])))) x93
def t15 : List (Tr Plf) := [cn, aq]
def cU : Tr Plf :=
 .split (.lss u5 (.c 0)) x94 (
 .split (.lss u5 (.c 256)) (
 .split u2 x95 (
 .split x98 x95 (
 .leaf (.done 0 [(.arith .sub .i64 (.cell u1 x97 1) u0), (.c 0)])))) x94)
def t16 : List (Tr Plf) := [cU]
def Zj : Tr Plf :=
 .split (.eql (.sel x99 0) (.c 1)) (
 .split (.eql (.sel x99 2) (.c 0)) (
 .split u2 Yw (
 .split x98 Yw (
 .leaf (.done 0 [(.c 0), (.rmv u1 x97)])))) (
 .leaf (.done 0 [(.sel x99 2), u1]))) x7
def t17 : List (Tr Plf) := [Zj]
def bH : Tr Plf :=
 .split (.lss x0 x83) (
 .leaf (.next 1 [(.arith .sub .i64 (.lenL cp) (.c 1)), u0, cp, (.bc false), u1])) x7
def bW : Tr Plf :=
 .split (.lss (.c 0) u0) (
 .split (.lss Hm (.c 0)) x7 (
 .split (.lss Hm x0) (
 .split (.lss u0 x0) (
 .split (.lss Xi x10) (
 .split Xx x85 (
 .split Yl x85 x85)) (
 .split (.lss x10 Xi) (
 .split Xx VN (
 .split Yl VN VN)) (
 .split Xx x85 (
 .split Yl VN x85)))) x7) x7)) x85
def t18 : List (Tr Plf) := [bH, bW]
def bC : Tr Plf :=
 .split (.lss x3 x83) (
 .leaf (.next 1 [(.arith .sub .i64 (.lenL (.snoc u3 V2)) (.c 1)), u0, u2, (.snoc u3 V2), (.bc false), u1])) x7
def Yz : Tr Plf :=
 .split (.lss (.c 0) u0) (
 .split (.lss Hm (.c 0)) x7 (
 .split (.lss Hm x3) (
 .split x5 (
 .split (.lss Xl x8) (
 .split W2 Po (
 .split XA Po Po)) (
 .split (.lss x8 Xl) (
 .split W2 Vp (
 .split XA Vp Vp)) (
 .split W2 Po (
 .split XA Vp Po)))) x7) x7)) Po
def t19 : List (Tr Plf) := [bC, Yz]
def ZZ : Tr Plf :=
 .split (.lss u5 (.c 0)) ZV (
 .split (.lss u5 (.c 256)) (
 .split (.lss u6 (.c 0)) ab (
 .split (.lss (.arith .sub .i64 W8 u0) u6) ab (
 .split u2 (
 .split (.eql (.sel XM 0) (.c 1)) (
 .leaf (.done 0 [(.c 0), (.bc false), (.sel XM 1), (.sel XM 2), (.snoc .emptyL VQ)])) x7) (
 .split x98 (
 .split (.eql (.sel XZ 0) (.c 1)) (
 .leaf (.done 0 [(.c 0), u2, (.sel XZ 1), (.sel XZ 2), (.snoc u1 VQ)])) x7) (
 .split (.eql (.sel XL 0) (.c 1)) (
 .leaf (.done 0 [(.c 0), u2, (.sel XL 1), (.sel XL 2), (.upd u1 x97 1 Vi)])) x7))))) ZV)
def t20 : List (Tr Plf) := [ZZ]
def dk : Tr Plf :=
 .split (.eql (.sel aW 0) (.c 1)) (
 .split (.lss (.c 0) (.lenL Rt)) (
 .split (.eql (.sel (.app 17 Sn) 0) (.c 1)) (
 .split (.lss (.c 0) Vm) (
 .split (.eql (.sel SM 0) (.c 1)) (
 .leaf (.done 0 [(.cell Rt (.c 0) 0), (.cell Rt (.c 0) 1), Vm, (.sel SM 2), (.sel SM 3), (.sel SM 4), (.sel SM 5)])) x7) (
 .leaf (.done 0 [(.cell Rt (.c 0) 0), (.cell Rt (.c 0) 1), Vm, u14, u15, u16, (.sel (.app 17 Sn) 2)]))) x7) x7) x7
def t21 : List (Tr Plf) := [dk]
def Z7 : Tr Plf :=
 .split (.eql (.sel (.app 9 RQ) 0) (.c 1)) (
 .split (.eql (.sel (.app 9 RQ) 2) (.c 0)) (
 .split (.eql (.sel TB 0) (.c 1)) (
 .split (.eql (.sel Sv 0) (.c 1)) (
 .split (.eql (.sel T2 0) (.c 1)) (
 .split (.eql (.sel S1 0) (.c 1)) (
 .split (.lss (.c 0) x2) (
 .split (.eql (.sel Ox 0) (.c 1)) (
 .leaf (.done 0 [u0, (.sel Sv 1), (.sel Sv 2), (.sel T2 1), (.sel T2 2), (.sel S1 1), (.sel S1 2), (.sel Ox 1), (.sel Ox 2), (.sel Ox 3), .nilL, (.sel TB 1), (.sel TB 2), (.sel Ox 4), (.sel Ox 5), (.sel Ox 6), (.sel Ox 7)])) x7) x7) x7) x7) x7) x7) (
 .leaf (.done 1 [(.sel (.app 9 RQ) 2)]))) x7
def t22 : List (Tr Plf) := [Z7]
def dc : Tr Plf :=
 .split u1 (
 .leaf (.done 0 [(.bc true), .emptyL])) (
 .leaf (.done 0 [(.bc false), u0]))
def t23 : List (Tr Plf) := [dc]
def bI : Tr Plf :=
 .split u1 x87 x88
def t24 : List (Tr Plf) := [bI]
def Zz : Tr Plf :=
 .split u2 (
 .split dg (
 .leaf (.done 0 [u0, (.bc true), (.sel SL 1), (.sel SL 2), .emptyL])) x7) (
 .split dg (
 .leaf (.done 0 [u0, (.bc false), (.sel SL 1), (.sel SL 2), u1])) x7)
def t25 : List (Tr Plf) := [Zz]
def bb : Tr Plf :=
 .split (.lss O2 (.c 0)) x7 (
 .split (.lss O2 x3) (
 .split (.lss (.c 0) x3) (
 .split (.lss (.lenL YL) O2) x7 (
 .leaf (.next 1 [O2, (.c 0), u0, u2, (.sub YL (.c 0) O2), u4, u1]))) x7) x7)
def ZM : Tr Plf :=
 .leaf (.next 2 [u0, u1, u1, (.c 0), u2, u3, u4, u5, u6, (.arith .add .i64 cr (.c 1)), (.arith .add .i64 cr (.c 2))])
def Zd : Tr Plf :=
 .split (.lss u3 (.c 2)) (
 .split (.eql u3 (.c 0)) (
 .split (.lss u9 u0) (
 .split (.lss u9 (.c 0)) x7 (
 .split (.lss u9 Va) (
 .split x13 x7 (
 .split WT (
 .split (.lss bU Ui) (
 .split X4 Wb (
 .split (.lss OI Yi) Wb Wb)) (
 .split (.lss Ui bU) (
 .split X4 NK Z6) (
 .split X4 Wb Z6))) x7)) x7)) NK) (
 .split (.eql u3 (.c 1)) (
 .split (.lss u10 u0) (
 .split (.lss u10 (.c 0)) x7 (
 .split (.lss u10 Va) (
 .split x13 x7 (
 .split WT (
 .split (.lss aT Ui) (
 .split XS Vr (
 .split (.lss OI Xw) Vr Vr)) (
 .split (.lss Ui aT) (
 .split XS NK YS) (
 .split XS Vr YS))) x7)) x7)) NK) x7)) (
 .split (.eql u2 u1) (
 .leaf (.done 0 [u6, u7])) (
 .split x13 x7 (
 .split WT (
 .split x23 x7 (
 .split (.lss u1 Va) (
 .leaf (.next 1 [u0, u2, u4, u5, (.upd (.upd (.upd (.upd u6 u1 0 Ui) u1 1 OI) u2 0 (.cell u6 u1 0)) u2 1 (.cell u6 u1 1)), u7, u8])) x7)) x7)))
def t26 : List (Tr Plf) := [bb, ZM, Zd]
def Ys : Tr Plf :=
 .leaf (.next 1 [u0, u2, u3, u4, u1])
def bS : Tr Plf :=
 .split (.lss (.c 0) x0) (
 .split u1 X2 (
 .split (.lss aU (.c 0)) X2 (
 .split (.eql (.cell u4 aU 1) (.cell u2 (.c 0) 0)) (
 .leaf (.done 0 [(.cell u2 (.c 0) 0), (.cell u2 (.c 0) 1), (.bc true), u2, u3])) X2))) (
 .leaf (.done 0 [(.c 0), (.c 0), (.bc false), u2, u3]))
def t27 : List (Tr Plf) := [Ys, bS]
def aH : Tr Plf :=
 .split (.lss W8 u5) (
 .leaf (.done 0 [.nilL, (.bc true), (.c 3), u0, u3, u4, u1])) (
 .split (.lss u0 u5) (
 .split (.eql (.sel Rp 0) (.c 1)) (
 .leaf (.next 1 [.nilL, (.bc true), (.sel Rp 3), u5, u2, (.sel Rp 4), (.sel Rp 5), u1, (.sel Rp 1), (.sel Rp 2)])) x7) (
 .split (.eql (.sel RZ 0) (.c 1)) (
 .leaf (.next 1 [.nilL, (.bc true), (.sel RZ 3), u0, u2, (.sel RZ 4), (.sel RZ 5), u1, (.sel RZ 1), (.sel RZ 2)])) x7))
def Zw : Tr Plf :=
 .split u2 (
 .split (.lss u3 u8) bE (
 .split (.lss x14 x83) (
 .split u4 Zh (
 .split (.lss W6 (.c 0)) Zh (
 .split (.eql (.sel Sd 0) (.c 1)) (
 .leaf (.next 1 [(.snoc u0 Vg), (.bc false), (.sel Sd 3), u3, u4, (.sel Sd 4), (.sel Sd 5), (.rmv u7 W6), (.sel Sd 1), (.sel Sd 2)])) x7))) x7)) bE
def t28 : List (Tr Plf) := [aH, Zw]
def b9 : Tr Plf :=
 .split u1 x87 x88
def t29 : List (Tr Plf) := [b9]
def ZW : Tr Plf :=
 .split (.eql (.sel Vn 0) (.c 1)) (
 .split (.lss (.sel Vn 1) (.c 0)) x95 (
 .split (.lss (.sel Vn 1) x14) (
 .leaf (.done 0 [(.cell u0 (.sel Vn 1) 2), (.c 0)])) x7)) x7
def t30 : List (Tr Plf) := [ZW]
def Z4 : Tr Plf :=
 .split (.eqS u7 0 0) (
 .leaf (.done 0 [(.bc true), (.c 0)])) (
 .split (.eql (.sel (.app 30 Sj) 0) (.c 1)) (
 .split (.eql (.sel (.app 30 Sj) 2) (.c 0)) (
 .split YR (
 .split (.lss Pq (.c 0)) x7 (
 .split (.lss Pq x14) (
 .split (.lss Vt u8) XB (
 .split (.lss u9 Vt) XB (
 .split (.lss u10 (.arith .sub .i64 (.c 0) Vt)) XB (
 .leaf (.done 0 [(.neg (.lss (.arith .sub .i64 (.cell u0 Pq 1) Vt) u10)), (.c 0)]))))) x7)) x7) (
 .leaf (.done 0 [(.bc false), (.sel (.app 30 Sj) 2)]))) x7)
def t31 : List (Tr Plf) := [Z4]
def cu : Tr Plf :=
 .leaf aa
def bB : Tr Plf :=
 .split X5 bh x1
def t32 : List (Tr Plf) := [cu, bB]
def aZ : Tr Plf :=
 .leaf (.next 1 ([u23, u24, (.c 0), u0, u1, u22] ++ us 4 10 ++ [u19, u20, u21, u2, u3, u14, u16, u17, u18, u15, u25]))
def ZD : Tr Plf :=
 .split x15 (
 .split x13 x7 (
 .split (.eqSS x16 u26) (
 .split (.eql (.sel cZ 0) (.c 1)) (
 .split (.sel cZ 1) (
 .split (.lss x3 x83) (
 .leaf (.next 1 [u0, u1, x19, (.snoc u3 Vq), (.bc false), u5, u6, u7, u8, u9, u10, u11, u12, u13, u14, u15, u16, u17, u18, u19, u20, u21, u22, u23, u24, u25, u26])) x7) b8) x7) b8)) Po
def t33 : List (Tr Plf) := [aZ, ZD]
def ay : Tr Plf :=
 .split W4 ZA (
 .split Xc ZA (
 .split Xd (
 .split Yb (
 .split u17 (
 .split U6 (
 .split (.eql (.sel XT 0) (.c 1)) (
 .leaf (.done 0 [(.sel XT 1), (.sel XT 2), (.c 0), (.bc true), Jj, Jf, Jg, Iw, Jm])) x7) x7) (
 .split U6 (
 .split (.eql (.sel Xo 0) (.c 1)) (
 .leaf (.done 0 [(.sel Xo 1), (.sel Xo 2), (.c 0), O9, Jj, Jf, Jg, Iw, Jm])) x7) x7)) x7) x7))
def t34 : List (Tr Plf) := [ay]
def ah : Tr Plf :=
 .leaf (.next 1 ([(.c 0)] ++ us 2 10 ++ [u17, u18, u19, u0, u1, u12, u14, u15, u16, u13, u20, u22, u23, u24, u21] ++ us 26 9 ++ [u25]))
def YJ : Tr Plf :=
 .split X5 (
 .split (.eql u0 (.c 0)) (
 .split (.eqSS u26 u8) V4 x12) (
 .split (.eql u0 (.c 1)) (
 .split (.eql (.sel Y6 0) (.c 1)) (
 .split (.sel Y6 1) V4 x12) x7) (
 .split (.eql u0 (.c 2)) (
 .split (.eql u28 (.c 3)) (
 .split u35 V4 x12) V4) x7))) x1
def t35 : List (Tr Plf) := [ah, YJ]
def ae : Tr Plf :=
 .split (.eql (.sel UW 0) (.c 1)) (
 .split (.eql (.sel UW 2) (.c 0)) (
 .split (.sel UW 1) (
 .split (.eqS u7 0 0) (
 .leaf (.done 0 [(.c 0), u0])) (
 .split YR (
 .split (.lss Pq (.c 0)) x7 (
 .split (.lss Pq x14) (
 .leaf (.done 0 [(.c 0), (.upd u0 Pq 2 (.arith .add .i64 (.cell u0 Pq 2) u10))])) x7)) x7)) (
 .leaf (.done 0 [(.c 8), u0]))) (
 .leaf (.done 0 [(.sel UW 2), u0]))) x7
def t36 : List (Tr Plf) := [ae]
def Zf : Tr Plf :=
 .split (.lss (.lenL u18) (.c 100000)) (
 .split (.lss u27 (.c 0)) x7 (
 .split (.lss u27 (.lenL u7)) (
 .split (.eql (.sel U2 0) (.c 1)) (
 .split (.eql (.lenL (.sel U2 2)) x14) (
 .split (.eql (.sel NF 0) (.c 1)) (
 .leaf (.done 0 [(.sel NF 1), (.sel NF 2), (.sel NF 3), (.snoc u18 (rl [u27, u26])), (.bc false), (.sel U2 2), u1, u12, u14, u15, u16, u13, u20, (.sel NF 4), (.sel NF 5), (.sel NF 6), (.sel NF 7)])) x7) x7) x7) x7)) x7
def t37 : List (Tr Plf) := [Zf]
def ci : Tr Plf :=
 .split (.lss u21 (.c 0)) cR (
 .split (.lss u21 (.lenL u7)) (
 .split W4 cW (
 .split Xc cW (
 .split Xd (
 .split Yb (
 .split u17 (
 .split (.eql (.sel cH 0) (.c 1)) (
 .split (.sel cH 1) (
 .split (.eql (.sel Io 0) (.c 1)) (
 .leaf (.done 0 [(.c 0), (.sel Io 1), (.sel Io 2), (.sel Io 3), (.bc false), (.sel Io 4), (.sel Io 5), (.sel Io 6), (.sel Io 7), (.sel Io 17), (.sel Io 15), (.sel Io 13), (.sel Io 14), (.sel Io 16)])) x7) (
 .leaf (.done 0 [(.c 8), u9, u10, u11, (.bc true), u18, u19, u0, u1, u13, u15, u12, u14, u16]))) x7) (
 .split (.eql (.sel ZQ 0) (.c 1)) (
 .split (.sel ZQ 1) (
 .split (.eql (.sel H7 0) (.c 1)) (
 .leaf (.done 0 [(.c 0), (.sel H7 1), (.sel H7 2), (.sel H7 3), (.bc false), (.sel H7 4), (.sel H7 5), (.sel H7 6), (.sel H7 7), (.sel H7 17), (.sel H7 15), (.sel H7 13), (.sel H7 14), (.sel H7 16)])) x7) (
 .leaf (.done 0 [(.c 8), u9, u10, u11, (.bc false), u18, u19, u0, u1, u13, u15, u12, u14, u16]))) x7)) x7) x7))) cR)
def t38 : List (Tr Plf) := [ci]
def ZC : Tr Plf :=
 .leaf (.next 1 ([u29, u30, (.c 0), u0, u1, u2, u28] ++ us 5 10 ++ [u20, u21, u22, u3, u4, u15, u17, u18, u19, u16, u23, u25, u26, u27, u24, u31]))
def Zg : Tr Plf :=
 .split x15 (
 .split x13 x7 (
 .split (.eqSS x16 u32) (
 .split (.eql aK (.c 2)) (
 .split (.eqSS cj u3) (
 .split (.eqSS bf u4) (
 .split (.eql (.sel ax 0) (.c 1)) (
 .split (.sel ax 1) x31 Un) x7) Un) Un) Un) Un)) (
 .leaf (.done 1 []))
def t39 : List (Tr Plf) := [ZC, Zg]
def Zn : Tr Plf :=
 .split W4 az (
 .split Xc az (
 .split Xd (
 .split Yb (
 .split u17 (
 .split U6 (
 .split (.eql (.sel Uc 0) (.c 1)) (
 .split (.lss (.sel Uc 1) (.c 0)) aQ (
 .split (.eql (.sel Ia 0) (.c 1)) (
 .leaf (.done 0 [(.sel Uc 1), (.c 0), (.sel Ia 1), (.sel Ia 2), (.sel Ia 3), (.bc false), (.sel Ia 4), (.sel Ia 5), (.sel Ia 6), (.sel Ia 7), (.sel Ia 17), (.sel Ia 15), (.sel Ia 13), (.sel Ia 14), (.sel Ia 16)])) x7)) (
 .split (.eql (.sel Uc 0) (.c 2)) aQ x7)) x7) (
 .split U6 (
 .split (.eql (.sel SC 0) (.c 1)) (
 .split (.lss (.sel SC 1) (.c 0)) bM (
 .split (.eql (.sel Ib 0) (.c 1)) (
 .leaf (.done 0 [(.sel SC 1), (.c 0), (.sel Ib 1), (.sel Ib 2), (.sel Ib 3), (.bc false), (.sel Ib 4), (.sel Ib 5), (.sel Ib 6), (.sel Ib 7), (.sel Ib 17), (.sel Ib 15), (.sel Ib 13), (.sel Ib 14), (.sel Ib 16)])) x7)) (
 .split (.eql (.sel SC 0) (.c 2)) bM x7)) x7)) x7) x7))
def t40 : List (Tr Plf) := [Zn]
def bJ : Tr Plf :=
 .leaf aa
def YC : Tr Plf :=
 .split X5 bh x1
def t41 : List (Tr Plf) := [bJ, YC]
def bP : Tr Plf :=
 .leaf (.next 1 ([.nilL, (.bc true), u0, u1, (.c 0), u21] ++ us 4 9 ++ [u18, u19, u20, u2, u3, u13, u15, u16, u17, u14]))
def Z9 : Tr Plf :=
 .split (.lss u4 x0) (
 .split (.lss u4 (.c 0)) x7 (
 .split (.eql x91 (.c 3)) (
 .split (.eql (.sel bt 0) (.c 1)) (
 .split (.sel bt 1) (
 .split (.lss x14 x83) (
 .leaf (.next 1 [(.snoc u0 Z2), (.bc false), u2, u3, x92, u5, u6, u7, u8, u9, u10, u11, u12, u13, u14, u15, u16, u17, u18, u19, u20, u21, u22, u23, u24])) x7) cw) x7) cw)) x93
def t42 : List (Tr Plf) := [bP, Z9]
def ZE : Tr Plf :=
 .split (.eql (.sel (.app 16 Sn) 0) (.c 1)) (
 .split (.eql (.sel aC 0) (.c 1)) (
 .split (.eql (.lenL (.sel aC 1)) (.c 0)) x95 (
 .split u17 (
 .leaf (.done 0 [u12, (.c 0)])) (
 .split (.eql (.sel (.app 16 Sn) 2) (.c 0)) (
 .leaf (.done 0 [(.arith .add .i64 u12 (.sel (.app 16 Sn) 1)), (.c 0)])) x95))) x7) x7
def t43 : List (Tr Plf) := [ZE]
def ZG : Tr Plf :=
 .split u1 x87 x88
def t44 : List (Tr Plf) := [ZG]
def ca : Tr Plf :=
 .leaf (.next 1 ([u24, u25, (.c 0), u0] ++ us 3 10 ++ [u18, u19, u20, u1, u2, u21, u22, u23, u14, u16, u13, u15, u17]))
def YM : Tr Plf :=
 .split x15 (
 .split x13 x7 (
 .split (.lss Rz u19) (
 .leaf (.done 0 (us 11 11 ++ [u24, u25, u23, u26, u22]))) (
 .split (.eql (.sel CX 0) (.c 1)) (
 .split (.eql (.sel CX 1) (.c 0)) (
 .split (.lss (.lenL u20) x83) (
 .leaf (.next 1 [u0, u1, x19, u3, u4, u5, u6, u7, u8, u9, u10, (.sel CX 2), (.sel CX 3), (.sel CX 4), (.sel CX 5), (.sel CX 6), (.sel CX 7), (.sel CX 8), (.sel CX 9), Rz, (.snoc u20 (rl [x16, Rz])), (.bc false), (.sel CX 10), (.sel CX 11), (.sel CX 12), (.sel CX 13), (.sel CX 14)])) x7) (
 .leaf (.done 0 [(.sel CX 2), (.sel CX 3), (.sel CX 4), (.sel CX 5), (.sel CX 6), (.sel CX 7), (.sel CX 8), (.sel CX 9), u19, u20, u21, (.sel CX 12), (.sel CX 13), (.sel CX 11), (.sel CX 14), (.sel CX 10)]))) x7))) (
 .leaf (.done 1 (us 11 11 ++ [u24, u25, u23, u26, u22])))
def t45 : List (Tr Plf) := [ca, YM]
def YO : Tr Plf :=
 .leaf (.next 1 [u4, u5, (.c 0), u0, u1, u2, u3])
def ZJ : Tr Plf :=
 .split x15 (
 .split x13 x7 (
 .split (.lss u2 x11) (
 .split (.and (.eql x16 (.cell u4 u2 0)) (.eql Rz (.cell u4 u2 1))) (
 .leaf (.next 1 [u0, u1, x19, u3, u4, u5, (.arith .add .i64 u6 (.c 1))])) (
 .leaf (.done 0 [u6]))) (
 .leaf (.done 0 [u6])))) (
 .leaf (.done 1 [u6]))
def t46 : List (Tr Plf) := [YO, ZJ]
def ZI : Tr Plf :=
 .split (.eql (.sel Xh 0) (.c 1)) (
 .leaf (.done 0 [(.sel Xh 1), (.sel Xh 2)])) x7
def t47 : List (Tr Plf) := [ZI]
def bR : Tr Plf :=
 .leaf (.done 0 [u9])
def t48 : List (Tr Plf) := [bR]
def de : Tr Plf :=
 .leaf (.done 0 [u10])
def t49 : List (Tr Plf) := [de]
def cz : Tr Plf :=
 .split (.eql (.sel (.app 0 RQ) 0) (.c 1)) (
 .split (.sel (.app 0 RQ) 1) P0 (
 .split (.lss (.c 60) x11) P0 (
 .split (.eql (.sel BV 0) (.c 1)) (
 .leaf (.next 1 [u4, (.c 0), u0, u1, u2, u3, (.sel BV 1), (.sel BV 2), (.sel BV 3), (.sel BV 4), (.sel BV 5), (.sel BV 6), (.sel BV 7), (.sel BV 8), (.sel BV 9), (.sel BV 10), (.bc false), (.sel BV 11), (.bc true), (.sel BV 12), (.sel BV 13), (.c 0), (.sel BV 14), (.sel BV 15), (.sel BV 16), (.sel BV 1), (.sel BV 2), (.sel BV 3), (.sel BV 4), (.sel BV 5), (.sel BV 6), (.sel BV 7), (.sel BV 8), (.sel BV 9), (.sel BV 10), (.sel BV 11), (.sel BV 17), (.sel BV 12), (.sel BV 13), (.sel BV 14), (.sel BV 15), (.sel BV 16), (.sel BV 17)])) (
 .split (.eql (.sel BV 0) (.c 2)) (
 .split (.eql (.sel BV 1) (.c 0)) x7 P0) x7)))) x7
def bQ : Tr Plf :=
 .split x22 (
 .split x23 x7 (
 .split (.lss (.c 60) (.lenS x45)) P0 (
 .split (.lss (.c 60) (.lenS x46)) P0 (
 .split (.eql x24 (.c 0)) YB (
 .split (.eql x24 (.c 1)) YB (
 .split (.eql x24 (.c 2)) VP (
 .split (.eql x24 (.c 3)) VP (
 .split (.eql x24 (.c 4)) VP (
 .split (.eql x24 (.c 7)) VP (
 .split (.eql x24 (.c 5)) ag (
 .split (.eql x24 (.c 6)) ag (
 .split (.eql (.sel Yf 0) (.c 1)) (
 .split (.eql (.sel Yf 2) (.c 0)) (
 .split (.eql (.sel Hf 0) (.c 1)) (
 .leaf (.next 2 [u0, u1, (.c 0), u2, u3, u4, u5, u6, u7, u8, u9, u10, u11, u12, (.sel Hf 2), (.sel Hf 3), (.sel Hf 4), (.sel Hf 5), (.sel Hf 6), (.sel Hf 7), (.sel Hf 8), (.sel Hf 9), (.sel Hf 12), (.sel Hf 13), (.sel Hf 11), (.sel Hf 14), u25, u26, u27, u28, u29, u30, u31, u32, u33, u34, u35, (.sel Hf 10), u37, u38, u39, u40, u41, u42])) x7) (
 .leaf (.next 2 ([u0, u1, (.c 0)] ++ us 2 41)))) x7)))))))))))) (
 .split (.eql (.sel Yj 0) (.c 1)) (
 .split (.eql (.sel Ex 0) (.c 1)) x12 (
 .split (.eql (.sel Ex 0) (.c 2)) (
 .split (.eql (.sel Xp 0) (.c 1)) (
 .split (.eql (.sel XF 0) (.c 1)) x12 (
 .split (.eql (.sel XF 0) (.c 2)) (
 .leaf (.next 3 [(.c 0), u2, u3, u4, u5, (.sel Ex 10), (.sel Ex 11), (.sel XF 1), u6, u7, u8, u9, u10, u11, u12, u13, u14, u15, u16, u17, u18, u19, u20, u21, u22, u23, u24, u25, u26, u27, u28, u29, u30, u31, (.sel Ex 1), (.sel Ex 2), (.sel Ex 3), (.sel Ex 4), (.sel Ex 5), (.sel Ex 6), u36, (.sel Ex 7), (.sel Ex 8), (.sel Ex 12), (.sel Ex 13), (.sel Ex 14), (.sel Ex 15), (.sel Ex 16)])) x7)) x7) x7)) x7)
def aO : Tr Plf :=
 .split (.lss u2 x47) (
 .split x13 x7 (
 .split (.eql (.sel VE 0) (.c 1)) (
 .split (.eql (.sel VE 2) (.c 0)) (
 .split (.lss (.sel VE 1) (.c 0)) x12 (
 .split (.lss (.cell u5 u2 1) (.sel VE 1)) x12 (
 .leaf (.next 2 ([u0, u1, x19] ++ us 3 41))))) x12) x7)) (
 .leaf (.next 1 ([u0, x26] ++ us 3 41)))
def Y1 : Tr Plf :=
 .split x5 (
 .split x6 x7 (
 .split (.eql (.sel Xb 0) (.c 1)) (
 .split (.eql (.sel W0 0) (.c 1)) (
 .split (.eql (.sel Xb 1) (.sel W0 1)) (
 .split (.eql (.arith .add .i64 (.sel Xb 2) (.sel W0 2)) (.c 0)) (
 .leaf (.next 3 ([x9] ++ us 1 47))) x12) x12) x7) x7)) (
 .split (.eql u7 x47) (
 .split (.eqSS u15 u34) (
 .split u16 (
 .split u35 P0 x12) (
 .split u35 x12 P0)) x12) x12)
def t50 : List (Tr Plf) := [cz, bQ, aO, Y1]
def ts : List (List (Tr Plf)) := [t0, t1, t2, t3, t4, t5, t6, t7, t8, t9, t10, t11, t12, t13, t14, t15, t16, t17, t18, t19, t20, t21, t22, t23, t24, t25, t26, t27, t28, t29, t30, t31, t32, t33, t34, t35, t36, t37, t38, t39, t40, t41, t42, t43, t44, t45, t46, t47, t48, t49, t50]
end Mr

