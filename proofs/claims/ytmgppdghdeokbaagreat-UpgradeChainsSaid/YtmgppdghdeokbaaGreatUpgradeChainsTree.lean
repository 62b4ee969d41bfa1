/- What is stated: the trees of tests of the functions that the law UpgradeChains reaches, as data. Conditions: none. -/
import Derived.Test.YtmgppdghdeokbaaGreatBeF
set_option linter.unusedVariables false
set_option linter.unusedSectionVars false
set_option linter.unusedSimpArgs false
namespace Uh
open Go.AE
def u0 : SE := .var 0
def u1 : SE := .var 1
def u2 : SE := .var 2
def u3 : SE := .var 3
def u4 : SE := .var 4
def u5 : SE := .var 5
def u6 : SE := .var 6
def u7 : SE := .var 7
def u8 : SE := .var 8
def u9 : SE := .var 9
def u10 : SE := .var 10
def u11 : SE := .var 11
def u12 : SE := .var 12
def u13 : SE := .var 13
def u14 : SE := .var 14
def u15 : SE := .var 15
def u16 : SE := .var 16
def u17 : SE := .var 17
def u18 : SE := .var 18
def u19 : SE := .var 19
def x0 : SE := (.lenL u1)
def x1 : Tr Plf := (
 .leaf (.done 0 [(.bc false)]))
def x2 : SE := (.lenL u3)
def x3 : SE := (.lenL u2)
def x4 : SE := (.lenS u0)
def x5 : SE := (.lenL u4)
def x6 : SE := (.lss u1 x5)
def x7 : SE := (.lss u1 (.c 0))
def x8 : Tr Plf := (
 .leaf .stuck)
def x9 : SE := (.cell u4 u1 1)
def x10 : SE := (.cell u4 u1 0)
def x11 : SE := (.lss (.c 40) (.lenS x10))
def x12 : SE := (.arith .add .i64 u1 (.c 1))
def x13 : SE := (.cell u3 u1 0)
def x14 : SE := (.lenL u5)
def x15 : SE := (.cell u5 u1 0)
def x16 : SE := (.cell u5 u1 1)
def x17 : SE := (.cell u5 u1 3)
def x18 : SE := (.cell u5 u1 4)
def x19 : SE := (.cell u5 u1 5)
def x20 : SE := (.lenL u0)
def x21 : SE := (.conv .u8 (.cell u0 u2 0))
def x22 : SE := (.eql u2 (.c 0))
def x23 : Tr Plf := (
 .leaf (.next 1 [u0, u1, (.arith .add .i64 u2 (.c 1))]))
def x24 : Tr Plf := (
 .leaf (.done 0 [(.bc true)]))
def x25 : Plf := (.next 1 [u0, (.c 0), u1])
def x26 : SE := (.lss u1 x20)
def x27 : SE := (.cell u0 u1 0)
def x28 : Tr Plf := (
 .leaf (.done 0 [u1]))
def x29 : Tr Plf := (
 .split x7 x8 (
 .split (.eqSS x27 u2) x28 (
 .leaf (.next 1 [u0, x12, u2]))))
def x30 : Tr Plf := (
 .leaf (.done 0 [(.c (-1))]))
def x31 : SE := (.lss u0 u1)
def x32 : Tr Plf := (
 .leaf (.done 0 [(.c 0)]))
def x33 : Tr Plf := (
 .leaf (.done 0 [u2]))
def x34 : Tr Plf := (
 .split (.lss u2 u0) x33 (
 .leaf (.next 1 [u0, (.c 0), u3, u4, u5, u6])))
def x35 : SE := (.lss u1 u0)
def x36 : SE := (.app 2 (rl [(.c 0), x10]))
def x37 : SE := (.app 3 (rl [(.c 0), u4, x10]))
def x38 : Tr Plf := (
 .leaf (.next 1 [u0, x12, u2, u3, u4, u5]))
def x39 : SE := (.app 2 (rl [(.c 0), x13]))
def x40 : SE := (.app 5 (rl [(.c 0), u3, x13]))
def x41 : SE := (.cell u3 u1 2)
def x42 : Plf := (.next 1 ([u0, (.c 0)] ++ us 1 9))
def x43 : SE := (.cell u0 u1 1)
def x44 : SE := (.cell u0 u1 2)
def x45 : Tr Plf := (
 .leaf (.next 1 ([u0, x12] ++ us 2 9)))
def x46 : SE := (.cell u5 u1 2)
def x47 : SE := (.app 5 (rl [(.c 0), u3, x15]))
def x48 : SE := (.eql (.sel x47 0) (.c 1))
def x49 : SE := (.app 3 (rl [(.c 0), u4, x19]))
def x50 : SE := (.eql (.sel x49 0) (.c 1))
def x51 : SE := (.lss (.sel x47 1) (.c 0))
def x52 : SE := (.app 5 (rl [(.c 0), u3, x16]))
def x53 : SE := (.eql (.sel x52 0) (.c 1))
def x54 : SE := (.lss (.sel x52 1) (.c 0))
def x55 : SE := (.lss x14 u1)
def x56 : SE := (.cell u5 u1 6)
def x57 : SE := (.cell u5 u1 7)
def x58 : SE := (.cell u5 u1 8)
def x59 : SE := (.app 7 (rl [(.c 0), (.sub u5 (.c 0) u1), x15, x16, x46, x17, x18, x19, x56, x57, x58]))
def x60 : SE := (.eql (.sel x59 0) (.c 1))
def x61 : SE := (.lss (.sel x59 1) (.c 0))
def x62 : SE := (.lss (.sel x47 1) x2)
def x63 : SE := (.app 2 (rl [(.c 0), x17]))
def x64 : SE := (.app 2 (rl [(.c 0), x18]))
def x65 : SE := (.cell u4 (.sel x49 1) 1)
def x66 : Tr Plf := (
 .split (.eqS x19 0 0) (
 .split (.eql x56 (.c 0)) (
 .split (.eql x57 (.c 0)) (
 .split (.eql x58 (.c 0)) x38 x28) x28) x28) (
 .split (.lss (.sel x49 1) (.c 0)) x28 (
 .split (.lss x56 (.c 0)) x28 (
 .split (.lss x57 x56) x28 (
 .split (.lss x58 (.c (-1000))) x28 (
 .split (.lss (.c 1000) x58) x28 (
 .split (.lss (.sel x49 1) x5) (
 .split (.lss x65 x57) x28 (
 .split (.lss (.arith .add .i64 x56 x58) (.c 0)) x28 (
 .split (.lss x65 (.arith .add .i64 x57 x58)) x28 x38))) x8)))))))
def x67 : Tr Plf := (
 .split x48 (
 .split x50 (
 .split x51 x28 (
 .split x53 (
 .split x54 x28 (
 .split x55 x8 (
 .split x60 (
 .split x61 (
 .split x62 (
 .split (.eql (.sel x63 0) (.c 1)) (
 .split (.sel x63 1) (
 .split (.eql (.sel x64 0) (.c 1)) (
 .split (.sel x64 1) (
 .split (.eqSS x18 u2) x28 x66) x28) x8) x28) x8) x8) x28) x8))) x8)) x8) x8)
def x68 : Tr Plf := (
 .split (.lss (.lenS x17) (.c 4611686018427387904)) (
 .split (.lss (.lenS x18) (.c 4611686018427387904)) (
 .split (.eqS (.strCat x17 x18) 0 0) x66 x28) x8) x8)
def x69 : SE := (.app 2 (rl [(.c 0), u0]))
def x70 : SE := (rl [u0, u1, u2, u3])
def x71 : SE := (.app 4 (.rcons (.c 0) (.rcons x3 (.rcons (.c 0) (.rcons (.c 4) x70)))))
def x72 : SE := (.app 6 (.rcons (.c 0) (.rcons x0 (.rcons (.c 1) (.rcons (.c 24) x70)))))
def x73 : SE := (.app 8 (.rcons (.c 0) (.rcons x2 (.rcons (.c 0) (.rcons (.c 80) x70)))))
def x74 : SE := (.app 2 (rl [(.c 0), u4]))
def x75 : SE := (.lenL u6)
def x76 : SE := (rl [u6, u7])
def x77 : SE := (.rcons u4 (.rcons u5 x76))
def x78 : SE := (.app 4 (.rcons (.c 0) (.rcons x75 (.rcons (.c 0) (.rcons (.c 4) x77)))))
def x79 : SE := (.app 6 (.rcons (.c 0) (.rcons x14 (.rcons (.c 1) (.rcons (.c 24) x77)))))
def x80 : SE := (.app 8 (.rcons (.c 0) (.rcons (.lenL u7) (.rcons (.c 0) (.rcons (.c 80) x77)))))
def x81 : SE := (.lenL u8)
def x82 : Tr Plf := (
 .leaf (.done 0 [(.c 0), (.c 2)]))
def x83 : SE := (.cell u8 u11 0)
def x84 : SE := (.app 9 (rl [(.c 0), u1, x83]))
def x85 : Tr Plf := (
 .leaf (.done 0 [u11, (.c 490)]))
def x86 : SE := (.app 9 (rl [(.c 0), u5, (.cell u8 u11 1)]))
def x87 : SE := (.mIdx [.str] u12 (rl [x83]))
def x88 : SE := (.arith .add .i64 u11 (.c 1))
def x89 : SE := (.lss (.c 4) (.lenL u9))
def x90 : SE := (.cell u9 u14 0)
def x91 : SE := (.app 10 (rl [(.c 0), u6, x90]))
def x92 : Tr Plf := (
 .leaf (.done 0 [u14, (.c 491)]))
def x93 : SE := (.cell u9 u14 1)
def x94 : SE := (.mIdx [.str] u15 (rl [x90]))
def x95 : SE := (.cell u9 u14 2)
def x96 : SE := (.arith .sub .i64 (.c 0) x95)
def x97 : SE := (.arith .add .i64 u14 (.c 1))
def x98 : Tr Plf := (
 .split (.lss x95 (.c (-1000))) x92 (
 .leaf (.next 2 [u0, u1, u2, u3, u4, u5, u6, u7, u8, u9, u10, u11, u12, u13, x97, (.snoc u15 (rl [x90, (.bc true)]))])))
def x99 : Tr Plf := (
 .split (.lss x95 (.c (-1000))) x92 (
 .leaf (.next 2 [u0, u1, u2, u3, u4, u5, u6, u7, u8, u9, u10, u11, u12, u13, x97, (.upd u15 x94 1 (.bc true))])))
def Xh : Tr Plf := (
 .split (.lss x94 (.c 0)) (
 .split (.lss x95 x96) (
 .split (.lss (.c 1000) x96) x92 x98) (
 .split (.lss (.c 1000) x95) x92 x98)) (
 .split (.cell u15 x94 1) x92 (
 .split (.lss x95 x96) (
 .split (.lss (.c 1000) x96) x92 x99) (
 .split (.lss (.c 1000) x95) x92 x99))))
def WT : SE := (.app 10 (rl [(.c 0), u2, x93]))
def UE : SE := (.cell u3 u4 0)
def Ul : SE := (.cell u3 u4 2)
def VT : SE := (.app 12 (rl [(.c 0), u0, UE, (.cell u3 u4 1), Ul]))
def SO : SE := (.sel VT 1)
def Xm : SE := (.arith .add .i64 u4 (.c 1))
def UP : SE := (.cell u0 u2 2)
def Vc : SE := (.arith .sub .i64 (.c 0) UP)
def UX : SE := (.app 11 (rl ([(.c 0)] ++ us 0 8 ++ [u12, u13])))
def Wo : SE := (rl [u14, u15])
def UI : SE := (.app 11 (.rcons (.c 0) (.rcons u4 (.rcons u5 (.rcons u6 (.rcons u7 (.rcons u8 (.rcons u9 (.rcons u10 (.rcons u11 Wo))))))))))
def Uv : SE := (.app 13 (rl [(.c 0), u13, u15]))
def Ti : SE := (.app 14 (rl [(.c 0), u2, x27, x43]))
def Wf : Tr Plf := (
 .leaf (.next 1 ([u0, x12] ++ us 2 6)))
def VA : SE := (.app 15 (.rcons (.c 0) x76))
def SA : SE := (.app 9 (rl [(.c 0), u1, u4]))
def Vq : Tr Plf := (
 .leaf (.done 0 [(.sel SA 1), (.c 0), (.c 0), (.c 0), (.c 0), (.bc false)]))
def Vx : Tr Plf := (
 .leaf (.done 0 [u7, (.c 0), (.c 0), (.c 0), (.c 0), (.bc false)]))
def SW : SE := (.cell u0 (.c 0) 0)
def U4 : SE := (.cell u0 (.c 1) 0)
def SC : SE := (.app 18 (rl ([(.c 0), u8, u0, u1, u2, u3] ++ us 10 5)))
def Xf : SE := (.app 9 (rl [(.c 0), u5, (.cell u8 (.sel SC 1) 1)]))
def Wn : SE := (.app 10 (rl [(.c 0), u8, x27]))
def WA : SE := (.app 10 (rl [(.c 0), u4, x43]))
def QM : SE := (.sel WA 1)
def Kq : Tr Plf := (
 .leaf (.done 0 [(.c 0), (.c 0), (.c 0), (.c 0), (.c 0), (.c 3)]))
def Nv : SE := (.sel Wn 1)
def Sc : SE := (.lss Nv (.c 0))
def QS : SE := (.lss Nv x81)
def QY : SE := (.cell u8 Nv 1)
def Rs : SE := (.eql Nv (.c 0))
def QH : SE := (.eql Nv (.c 1))
def QN : SE := (.eql Nv (.c 2))
def QZ : SE := (.eql Nv (.c 3))
def Qh : SE := (.arith .add .i64 x44 u11)
def Qq : SE := (.arith .add .i64 x44 u12)
def Qa : SE := (.arith .add .i64 x44 u13)
def PJ : SE := (.arith .add .i64 x44 u14)
def UN : SE := (.app 11 (rl ([(.c 0)] ++ us 0 10)))
def Vy : SE := (rl [u10, u11])
def Oo : SE := (.app 17 (.rcons (.c 0) (.rcons u0 (.rcons u1 (.rcons u2 (.rcons u3 Vy))))))
def Kp : SE := (.app 19 (rl [(.c 0), u0, u1, u2, u3, u4, u5, u6, u7, u8, u9, (.sel Oo 1), (.sel Oo 2), (.sel Oo 3), (.sel Oo 4), (.sel Oo 5)]))
def RH : SE := (.cell u5 (.sel Kp 1) 0)
def VB : SE := (.snoc .emptyL (rl [(.sel Kp 2)]))
def Wj : SE := (.snoc VB (rl [(.sel Kp 3)]))
def VD : SE := (.snoc Wj (rl [(.sel Kp 4)]))
def Vo : SE := (.app 0 (.rcons (.c 0) x70))
def VQ : SE := (.app 0 (.rcons (.c 0) x77))
def Xq : SE := (.app 0 (.rcons (.c 0) (.rcons u8 (.rcons u9 Vy))))
def ID : Tr Plf := (
 .split (.eql (.sel (.app 1 (rl [(.c 0)])) 0) (.c 1)) x24 x8)
def Qf : SE := (.app 16 (.rcons (.c 0) (.rcons u0 (.rcons u1 (.rcons u2 (.rcons u3 (.rcons u4 (.rcons u5 (.rcons u6 (.rcons u7 (.rcons u8 (.rcons u9 (.rcons u10 (.rcons u11 (.rcons u12 (.rcons u13 Wo))))))))))))))))
def Vv : SE := (rl [u16, u17])
def QB : SE := (.app 20 (.rcons (.c 0) (.rcons u0 (.rcons u1 (.rcons u2 (.rcons u3 (.rcons u4 (.rcons u5 (.rcons u6 (.rcons u7 (.rcons u12 (.rcons u13 Vv))))))))))))
def QP : SE := (.app 20 (rl [(.c 0), u4, u5, u6, u7, u8, u9, u10, u11, u14, u15, (.sel QB 1), (.nilIs (.sel QB 2) (.sel QB 3))]))
def Q8 : SE := (.app 20 (.rcons (.c 0) (.rcons u0 (.rcons u1 (.rcons u2 (.rcons u3 (.rcons u8 (.rcons u9 (.rcons u10 (.rcons u11 (.rcons (.nilIs (.sel Qf 1) (.sel Qf 2)) (.rcons (.nilIs (.sel Qf 3) (.sel Qf 4)) Vv))))))))))))
def Vj : SE := (.app 21 (rl [(.c 0), (.sel Q8 1), (.sel Q8 2), (.sel Q8 3), (.sel QP 1), (.sel QP 2), (.sel QP 3)]))
def Xw : Tr Plf :=
 .split (.lss (.c 6) x0) x1 (
 .split (.lss (.c 12) x2) x1 (
 .split (.lss (.c 5) x3) x1 (
 .split (.lss (.c 40) x4) x1 (
 .leaf (.next 1 [(.c 0), (.c 0), u0, u1, u2, u3])))))
def XI : Tr Plf :=
 .split x6 (
 .split x7 x8 (
 .split (.lss x9 (.c 0)) (
 .split x11 x1 (
 .leaf (.next 1 [(.arith .add .i64 u0 (.c 0)), x12, u2, u3, u4, u5]))) (
 .split (.lss (.c 100) x9) (
 .split x11 x1 (
 .leaf (.next 1 [(.arith .add .i64 u0 (.c 100)), x12, u2, u3, u4, u5]))) (
 .split x11 x1 (
 .leaf (.next 1 [(.arith .add .i64 u0 x9), x12, u2, u3, u4, u5])))))) (
 .leaf (.next 2 [u0, (.c 0), u2, u3, u4, u5]))
def Yd : Tr Plf :=
 .split (.lss u1 x2) (
 .split x7 x8 (
 .split (.lss (.c 40) (.lenS x13)) x1 (
 .leaf (.next 2 [u0, x12, u2, u3, u4, u5])))) (
 .leaf (.next 3 [u0, (.c 0), u2, u3, u4, u5]))
def XQ : Tr Plf :=
 .split (.lss u1 x14) (
 .split x7 x8 (
 .split (.lss (.c 40) (.lenS x15)) x1 (
 .split (.lss (.c 40) (.lenS x16)) x1 (
 .split (.lss (.c 40) (.lenS x17)) x1 (
 .split (.lss (.c 40) (.lenS x18)) x1 (
 .split (.lss (.c 40) (.lenS x19)) x1 (
 .leaf (.next 3 [u0, x12, u2, u3, u4, u5])))))))) (
 .leaf (.done 0 [(.neg (.lss (.c 30) u0))]))
def t0 : List (Tr Plf) := [Xw, XI, Yd, XQ]
def Yg : Tr Plf :=
 .leaf (.done 0 [])
def t1 : List (Tr Plf) := [Yg]
def X9 : Tr Plf :=
 .split (.lss x4 (.c 1)) x1 (
 .split (.lss (.c 32) x4) x1 (
 .leaf (.next 1 [(.bytes u0), (.lenL (.bytes u0)), (.c 0)])))
def Yq : Tr Plf :=
 .split (.lss u2 u1) (
 .split (.lss u2 (.c 0)) x8 (
 .split (.lss u2 x20) (
 .split (.lss x21 (.c 97)) (
 .split (.lss x21 (.c 65)) (
 .split x22 x1 (
 .split (.lss x21 (.c 48)) x1 (
 .split (.lss (.c 57) x21) x1 x23))) (
 .split (.lss (.c 90) x21) (
 .split x22 x1 (
 .split (.eql x21 (.c 95)) x23 x1)) x23)) (
 .split (.lss (.c 122) x21) (
 .split x22 x1 x1) x23)) x8)) x24
def t2 : List (Tr Plf) := [X9, Yq]
def XS : Tr Plf :=
 .leaf x25
def Yi : Tr Plf :=
 .split x26 x29 x30
def t3 : List (Tr Plf) := [XS, Yi]
def XE : Tr Plf :=
 .split x31 x32 x34
def XH : Tr Plf :=
 .split x35 (
 .split x7 x8 (
 .split x6 (
 .split (.eql (.sel x36 0) (.c 1)) (
 .split (.sel x36 1) (
 .split (.eql (.sel x37 0) (.c 1)) (
 .split (.lss (.sel x37 1) u1) x28 (
 .split (.lss x9 (.c 1)) x28 (
 .split (.lss (.c 1000) x9) x28 x38))) x8) x28) x8) x8)) x30
def t4 : List (Tr Plf) := [XE, XH]
def Yo : Tr Plf :=
 .leaf x25
def XO : Tr Plf :=
 .split x26 x29 x30
def t5 : List (Tr Plf) := [Yo, XO]
def XF : Tr Plf :=
 .split x31 x32 x34
def Xy : Tr Plf :=
 .split x35 (
 .split x7 x8 (
 .split (.lss u1 x2) (
 .split (.eql (.sel x39 0) (.c 1)) (
 .split (.sel x39 1) (
 .split (.eql (.sel x40 0) (.c 1)) (
 .split (.lss (.sel x40 1) u1) x28 (
 .split (.lss x41 (.c 0)) x28 (
 .split (.lss (.c 1048576) x41) x28 x38))) x8) x28) x8) x8)) x30
def t6 : List (Tr Plf) := [XF, Xy]
def X6 : Tr Plf :=
 .leaf x42
def X4 : Tr Plf :=
 .split x26 (
 .split x7 x8 (
 .split (.and (.eqSS u2 x27) (.and (.eqSS u3 x43) (.and (.eql u4 x44) (.and (.eqSS u5 (.cell u0 u1 3)) (.and (.eqSS u6 (.cell u0 u1 4)) (.and (.eqSS u7 (.cell u0 u1 5)) (.and (.eql u8 (.cell u0 u1 6)) (.and (.eql u9 (.cell u0 u1 7)) (.eql u10 (.cell u0 u1 8)))))))))) x28 x45)) x30
def t7 : List (Tr Plf) := [X6, X4]
def Yn : Tr Plf :=
 .split x31 x32 x34
def X8 : Tr Plf :=
 .split x35 (
 .split x7 x8 (
 .split (.lss u1 x14) (
 .split (.eql x46 (.c 1)) x67 (
 .split (.eql x46 (.c 2)) x67 (
 .split (.eql x46 (.c 3)) (
 .split x48 (
 .split x50 (
 .split x51 x28 (
 .split x53 (
 .split x54 x28 (
 .split x55 x8 (
 .split x60 (
 .split x61 (
 .split x62 (
 .split (.lss (.c 0) (.cell u3 (.sel x47 1) 2)) x68 x28) x8) x28) x8))) x8)) x8) x8) (
 .split (.eql x46 (.c 4)) (
 .split x48 (
 .split x50 (
 .split x51 x28 (
 .split x53 (
 .split x54 x28 (
 .split x55 x8 (
 .split x60 (
 .split x61 (
 .split x62 x68 x8) x28) x8))) x8)) x8) x8) (
 .split x48 (
 .split x50 x28 x8) x8))))) x8)) x30
def t8 : List (Tr Plf) := [Yn, X8]
def Xu : Tr Plf :=
 .leaf x25
def XB : Tr Plf :=
 .split x26 x29 x30
def t9 : List (Tr Plf) := [Xu, XB]
def Vh : Tr Plf :=
 .leaf x25
def WS : Tr Plf :=
 .split x26 x29 x30
def t10 : List (Tr Plf) := [Vh, WS]
def W1 : Tr Plf :=
 .split (.eql (.sel x69 0) (.c 1)) (
 .split (.sel x69 1) (
 .split (.eql (.sel x71 0) (.c 1)) (
 .split (.lss (.sel x71 1) (.c 0)) (
 .split (.eql (.sel x72 0) (.c 1)) (
 .split (.lss (.sel x72 1) (.c 0)) (
 .split (.eql (.sel x73 0) (.c 1)) (
 .split (.lss (.sel x73 1) (.c 0)) (
 .split (.eql (.sel x74 0) (.c 1)) (
 .split (.sel x74 1) (
 .split (.eql (.sel x78 0) (.c 1)) (
 .split (.lss (.sel x78 1) (.c 0)) (
 .split (.eql (.sel x79 0) (.c 1)) (
 .split (.lss (.sel x79 1) (.c 0)) (
 .split (.eql (.sel x80 0) (.c 1)) (
 .split (.lss (.sel x80 1) (.c 0)) (
 .split (.lss (.c 24) x81) (
 .leaf (.done 0 [(.c 24), (.c 490)])) (
 .leaf (.next 1 [u0, u1, u2, u3, u4, u5, u6, u7, u8, u9, (.lss (.c 24) x81), (.c 0), .emptyL]))) x82) x8) x82) x8) x82) x8) x82) x8) x82) x8) x82) x8) x82) x8) x82) x8
def Wk : Tr Plf :=
 .split (.lss u11 x81) (
 .split (.lss u11 (.c 0)) x8 (
 .split (.eql (.sel x84 0) (.c 1)) (
 .split (.lss (.sel x84 1) (.c 0)) x85 (
 .split (.eql (.sel x86 0) (.c 1)) (
 .split (.lss (.sel x86 1) (.c 0)) x85 (
 .split (.lss x87 (.c 0)) (
 .leaf (.next 1 [u0, u1, u2, u3, u4, u5, u6, u7, u8, u9, u10, x88, (.snoc u12 (rl [x83, (.bc true)]))])) (
 .split (.cell u12 x87 1) x85 (
 .leaf (.next 1 [u0, u1, u2, u3, u4, u5, u6, u7, u8, u9, u10, x88, (.upd u12 x87 1 (.bc true))]))))) x8)) x8)) (
 .split x89 (
 .leaf (.done 0 [(.c 4), (.c 491)])) (
 .leaf (.next 2 [u0, u1, u2, u3, u4, u5, u6, u7, u8, u9, u10, u11, (.lss u11 x81), x89, (.c 0), .emptyL])))
def Vd : Tr Plf :=
 .split (.lss u14 (.lenL u9)) (
 .split (.lss u14 (.c 0)) x8 (
 .split (.eql (.sel x91 0) (.c 1)) (
 .split (.lss (.sel x91 1) (.c 0)) x92 (
 .split (.eqS x93 0 0) Xh (
 .split (.eql (.sel WT 0) (.c 1)) (
 .split (.lss (.sel WT 1) (.c 0)) x92 Xh) x8))) x8)) (
 .leaf (.done 0 [(.c 0), (.c 0)]))
def t11 : List (Tr Plf) := [W1, Wk, Vd]
def Xo : Tr Plf :=
 .leaf (.next 1 [u0, (.c 0), u1, u2, u3])
def Vw : Tr Plf :=
 .split x26 (
 .split x7 x8 (
 .split (.eqSS x27 u3) x28 (
 .leaf (.next 1 [u0, x12, u2, u3, u4])))) x30
def t12 : List (Tr Plf) := [Xo, Vw]
def U8 : Tr Plf :=
 .leaf (.next 1 [u0, .nilL, (.bc true), u1, (.c 0)])
def W2 : Tr Plf :=
 .split (.lss u4 x2) (
 .split (.lss u4 (.c 0)) x8 (
 .split (.eql (.sel VT 0) (.c 1)) (
 .split (.lss SO (.c 0)) (
 .split (.lss x0 (.c 1073741824)) (
 .leaf (.next 1 [u0, (.snoc u1 (rl [UE, (.strc 0 0), Ul])), (.bc false), u3, Xm])) x8) (
 .split (.lss SO x20) (
 .split (.lss x0 (.c 1073741824)) (
 .leaf (.next 1 [u0, (.snoc u1 (rl [UE, (.cell u0 SO 1), (.arith .add .i64 Ul (.cell u0 SO 2))])), (.bc false), u3, Xm])) x8) x8)) x8)) (
 .leaf (.done 0 [u1, u2]))
def t13 : List (Tr Plf) := [U8, W2]
def Xb : Tr Plf :=
 .leaf (.next 1 [u0, (.c 0), u1, u2])
def Wz : Tr Plf :=
 .split x26 (
 .split x7 x8 (
 .split (.eqSS x27 u3) x28 (
 .leaf (.next 1 [u0, x12, u2, u3])))) x30
def t14 : List (Tr Plf) := [Xb, Wz]
def Wq : Tr Plf :=
 .leaf (.next 1 [u0, u1, (.c 0)])
def Xn : Tr Plf :=
 .split (.lss u2 x20) (
 .split (.lss u2 (.c 0)) x8 (
 .split (.lss UP Vc) (
 .split (.lss (.c 1000) Vc) x33 x23) (
 .split (.lss (.c 1000) UP) x33 x23))) x30
def t15 : List (Tr Plf) := [Wq, Xn]
def Wv : Tr Plf :=
 .split (.eql (.sel UX 0) (.c 1)) (
 .split (.eql (.sel UX 2) (.c 0)) (
 .split (.eql (.sel UI 0) (.c 1)) (
 .split (.eql (.sel UI 2) (.c 0)) (
 .split (.eql (.sel Uv 0) (.c 1)) (
 .leaf (.next 1 [u12, (.c 0), u14, u15, .nilL, (.bc true), (.sel Uv 1), (.sel Uv 2)])) x8) (
 .leaf (.done 0 [.nilL, (.bc true), .nilL, (.bc true), (.sel UI 2)]))) x8) (
 .leaf (.done 0 [.nilL, (.bc true), .nilL, (.bc true), (.sel UX 2)]))) x8
def Vu : Tr Plf :=
 .split x26 (
 .split x7 x8 (
 .split (.eql (.sel Ti 0) (.c 1)) (
 .split (.lss (.sel Ti 1) (.c 0)) Wf (
 .split (.lss (.sel Ti 1) x3) (
 .split (.lss x5 (.c 1073741824)) (
 .leaf (.next 1 [u0, x12, u2, u3, (.snoc u4 (rl [x27, (.cell u2 (.sel Ti 1) 1)])), (.bc false), u6, u7])) x8) x8)) x8)) (
 .split (.eql (.sel VA 0) (.c 1)) (
 .split (.lss (.sel VA 1) (.c 0)) (
 .leaf (.done 0 [u4, u5, u6, u7, (.c 0)])) (
 .leaf (.done 0 [.nilL, (.bc true), .nilL, (.bc true), (.c 3)]))) x8)
def t16 : List (Tr Plf) := [Wv, Vu]
def VZ : Tr Plf :=
 .split (.eql (.sel SA 0) (.c 1)) (
 .split (.lss (.sel SA 1) (.c 0)) Vq (
 .split (.eql x14 x3) (
 .leaf (.next 1 [u5, (.c 0), u0, u1, u2, u3, u4, (.sel SA 1)])) Vq)) x8
def VP : Tr Plf :=
 .split x26 (
 .split x7 x8 (
 .split (.lss x27 (.c 0)) Vx (
 .split x6 (
 .split (.lss x9 x27) Vx Wf) x8))) (
 .split (.lss x20 (.c 4)) (
 .split (.eql x20 (.c 0)) (
 .leaf (.done 0 [u7, (.c 0), (.c 0), (.c 0), (.c 0), (.bc true)])) (
 .split (.eql x20 (.c 1)) (
 .leaf (.done 0 [u7, SW, (.c 0), (.c 0), (.c 0), (.bc true)])) (
 .split (.eql x20 (.c 2)) (
 .leaf (.done 0 [u7, SW, U4, (.c 0), (.c 0), (.bc true)])) (
 .split (.eql x20 (.c 3)) (
 .leaf (.done 0 [u7, SW, U4, (.cell u0 (.c 2) 0), (.c 0), (.bc true)])) x8)))) (
 .leaf (.done 0 [u7, SW, U4, (.cell u0 (.c 2) 0), (.cell u0 (.c 3) 0), (.bc true)])))
def t17 : List (Tr Plf) := [VZ, VP]
def Vl : Tr Plf :=
 .leaf x42
def Xe : Tr Plf :=
 .split x26 (
 .split x7 x8 (
 .split (.lss u6 (.c 0)) x8 (
 .split (.lss u6 x2) (
 .split (.eqSS x27 (.cell u3 u6 0)) x28 x45) x8))) x30
def t18 : List (Tr Plf) := [Vl, Xe]
def WQ : Tr Plf :=
 .split (.eql (.sel SC 0) (.c 1)) (
 .split (.lss (.sel SC 1) (.c 0)) (
 .leaf (.done 0 [(.c 0), (.c 0), (.c 0), (.c 0), (.c 0), (.c 9)])) (
 .split (.lss (.sel SC 1) x81) (
 .split (.eql (.sel Xf 0) (.c 1)) (
 .leaf (.next 1 [u9, (.c 0), u0, u1, u2, u3, u4, u5, u6, u7, u10, u11, u12, u13, u14, (.sel Xf 1), (.c 0), (.c 0), (.c 0), (.c 0)])) x8) x8)) x8
def Wp : Tr Plf :=
 .split x26 (
 .split x7 x8 (
 .split (.eql (.sel Wn 0) (.c 1)) (
 .split (.eql (.sel WA 0) (.c 1)) (
 .split (.lss QM (.c 0)) (
 .split (.lss x44 (.c 0)) Kq (
 .split Sc x8 (
 .split QS (
 .split (.lss QY x44) Kq (
 .split Rs (
 .leaf (.next 1 ([u0, x12] ++ us 2 14 ++ [x44, u17, u18, u19]))) (
 .split QH (
 .leaf (.next 1 ([u0, x12] ++ us 2 15 ++ [x44, u18, u19]))) (
 .split QN (
 .leaf (.next 1 ([u0, x12] ++ us 2 16 ++ [x44, u19]))) (
 .split QZ (
 .leaf (.next 1 ([u0, x12] ++ us 2 17 ++ [x44]))) x8))))) x8))) (
 .split (.eql QM (.c 0)) (
 .split (.lss Qh (.c 0)) Kq (
 .split Sc x8 (
 .split QS (
 .split (.lss QY Qh) Kq (
 .split Rs (
 .leaf (.next 1 ([u0, x12] ++ us 2 14 ++ [Qh, u17, u18, u19]))) (
 .split QH (
 .leaf (.next 1 ([u0, x12] ++ us 2 15 ++ [Qh, u18, u19]))) (
 .split QN (
 .leaf (.next 1 ([u0, x12] ++ us 2 16 ++ [Qh, u19]))) (
 .split QZ (
 .leaf (.next 1 ([u0, x12] ++ us 2 17 ++ [Qh]))) x8))))) x8))) (
 .split (.eql QM (.c 1)) (
 .split (.lss Qq (.c 0)) Kq (
 .split Sc x8 (
 .split QS (
 .split (.lss QY Qq) Kq (
 .split Rs (
 .leaf (.next 1 ([u0, x12] ++ us 2 14 ++ [Qq, u17, u18, u19]))) (
 .split QH (
 .leaf (.next 1 ([u0, x12] ++ us 2 15 ++ [Qq, u18, u19]))) (
 .split QN (
 .leaf (.next 1 ([u0, x12] ++ us 2 16 ++ [Qq, u19]))) (
 .split QZ (
 .leaf (.next 1 ([u0, x12] ++ us 2 17 ++ [Qq]))) x8))))) x8))) (
 .split (.eql QM (.c 2)) (
 .split (.lss Qa (.c 0)) Kq (
 .split Sc x8 (
 .split QS (
 .split (.lss QY Qa) Kq (
 .split Rs (
 .leaf (.next 1 ([u0, x12] ++ us 2 14 ++ [Qa, u17, u18, u19]))) (
 .split QH (
 .leaf (.next 1 ([u0, x12] ++ us 2 15 ++ [Qa, u18, u19]))) (
 .split QN (
 .leaf (.next 1 ([u0, x12] ++ us 2 16 ++ [Qa, u19]))) (
 .split QZ (
 .leaf (.next 1 ([u0, x12] ++ us 2 17 ++ [Qa]))) x8))))) x8))) (
 .split (.eql QM (.c 3)) (
 .split (.lss PJ (.c 0)) Kq (
 .split Sc x8 (
 .split QS (
 .split (.lss QY PJ) Kq (
 .split Rs (
 .leaf (.next 1 ([u0, x12] ++ us 2 14 ++ [PJ, u17, u18, u19]))) (
 .split QH (
 .leaf (.next 1 ([u0, x12] ++ us 2 15 ++ [PJ, u18, u19]))) (
 .split QN (
 .leaf (.next 1 ([u0, x12] ++ us 2 16 ++ [PJ, u19]))) (
 .split QZ (
 .leaf (.next 1 ([u0, x12] ++ us 2 17 ++ [PJ]))) x8))))) x8))) x8))))) x8) x8)) (
 .leaf (.done 0 (us 15 5 ++ [(.c 0)])))
def t19 : List (Tr Plf) := [WQ, Wp]
def VS : Tr Plf :=
 .split (.eql (.sel UN 0) (.c 1)) (
 .split (.eql (.sel UN 2) (.c 0)) (
 .split (.eql (.sel Oo 0) (.c 1)) (
 .split (.sel Oo 6) (
 .split (.eql (.sel Kp 0) (.c 1)) (
 .split (.eql (.sel Kp 6) (.c 0)) (
 .split (.lss (.sel Kp 1) (.c 0)) x8 (
 .split (.lss (.sel Kp 1) x14) (
 .split (.eql x75 (.c 0)) (
 .leaf (.done 0 [RH, .emptyL, (.bc false), (.c 0)])) (
 .split (.eql x75 (.c 1)) (
 .leaf (.done 0 [RH, VB, (.bc false), (.c 0)])) (
 .split (.eql x75 (.c 2)) (
 .leaf (.done 0 [RH, Wj, (.bc false), (.c 0)])) (
 .split (.eql x75 (.c 3)) (
 .leaf (.done 0 [RH, VD, (.bc false), (.c 0)])) (
 .split (.eql x75 (.c 4)) (
 .leaf (.done 0 [RH, (.snoc VD (rl [(.sel Kp 5)])), (.bc false), (.c 0)])) x8))))) x8)) (
 .leaf (.done 0 [(.strc 0 0), .nilL, (.bc true), (.sel Kp 6)]))) x8) (
 .leaf (.done 0 [(.strc 0 0), .nilL, (.bc true), (.c 492)]))) x8) (
 .leaf (.done 0 [(.strc 0 0), .nilL, (.bc true), (.sel UN 2)]))) x8
def t20 : List (Tr Plf) := [VS]
def V3 : Tr Plf :=
 .split (.eqSS u0 u3) (
 .split (.eql x0 x5) (
 .leaf (.next 1 [(.c 0), u1, u4, u0, u2, u3, u5])) x1) x1
def V0 : Tr Plf :=
 .split (.lss u0 x0) (
 .split (.lss u0 (.c 0)) x8 (
 .split (.lss u0 x3) (
 .split (.eql (.cell u1 u0 0) (.cell u2 u0 0)) (
 .leaf (.next 1 [(.arith .add .i64 u0 (.c 1)), u1, u2, u3, u4, u5, u6])) x1) x8)) x24
def t21 : List (Tr Plf) := [V3, V0]
def WH : Tr Plf :=
 .split (.eql (.sel Vo 0) (.c 1)) (
 .split (.sel Vo 1) (
 .split (.eql (.sel VQ 0) (.c 1)) (
 .split (.sel VQ 1) (
 .split (.eql (.sel Xq 0) (.c 1)) (
 .split (.sel Xq 1) (
 .split (.lss (.c 10) (.lenL u12)) ID (
 .split (.lss (.c 10) (.lenL u13)) ID (
 .split (.lss (.c 10) (.lenL u14)) ID (
 .split (.lss (.c 10) (.lenL u15)) ID (
 .split (.lss (.c 10) (.lenL u17)) ID (
 .split (.eql (.sel Qf 0) (.c 1)) (
 .split (.eql (.sel QB 0) (.c 1)) (
 .split (.eql (.sel Qf 5) (.c 0)) (
 .split (.eql (.sel QB 4) (.c 0)) (
 .split (.eql (.sel QP 0) (.c 1)) (
 .split (.eql (.sel QP 4) (.c 0)) (
 .split (.eql (.sel Q8 0) (.c 1)) (
 .split (.eql (.sel Q8 4) (.c 0)) (
 .split (.eql (.sel Vj 0) (.c 1)) (
 .split (.sel Vj 1) ID x1) x8) x1) x8) ID) x8) ID) ID) x8) x8)))))) ID) x8) ID) x8) ID) x8
def t22 : List (Tr Plf) := [WH]
def ts : List (List (Tr Plf)) := [t0, t1, t2, t3, t4, t5, t6, t7, t8, t9, t10, t11, t12, t13, t14, t15, t16, t17, t18, t19, t20, t21, t22]
end Uh

