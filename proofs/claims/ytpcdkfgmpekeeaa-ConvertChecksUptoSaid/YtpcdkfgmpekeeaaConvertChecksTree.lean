/- What is stated: the trees of tests of the functions that the law ConvertChecks reaches, as data. Conditions: none. -/
import Derived.Test.YtpcdkfgmpekeeaaBeF
set_option linter.unusedVariables false
set_option linter.unusedSectionVars false
namespace Cv
open Go.AE
def x0 : SE := (.conv .u8 (.cell (.var 0) (.var 2) 0))
def x1 : SE := (.arith .add .i64 (.var 2) (.c 1))
def x2 : SE := (.lss (.var 1) (.lenL (.var 0)))
def x3 : SE := (.cell (.var 0) (.var 1) 0)
def x4 : SE := (.arith .add .i64 (.var 1) (.c 1))
def x5 : SE := (.lss (.var 1) (.lenL (.var 4)))
def x6 : SE := (.app 2 (.rcons (.c 0) (.rcons (.var 4) (.rcons (.cell (.var 4) (.var 1) 0) .rnil))))
def x7 : SE := (.app 4 (.rcons (.c 0) (.rcons (.var 3) (.rcons (.cell (.var 3) (.var 1) 0) .rnil))))
def x8 : SE := (.cell (.var 0) (.var 1) 2)
def x9 : SE := (.cell (.var 5) (.var 1) 2)
def x10 : SE := (.app 4 (.rcons (.c 0) (.rcons (.var 3) (.rcons (.cell (.var 5) (.var 1) 0) .rnil))))
def x11 : SE := (.app 2 (.rcons (.c 0) (.rcons (.var 4) (.rcons (.cell (.var 5) (.var 1) 5) .rnil))))
def x12 : SE := (.app 4 (.rcons (.c 0) (.rcons (.var 3) (.rcons (.cell (.var 5) (.var 1) 1) .rnil))))
def x13 : SE := (.cell (.var 5) (.var 1) 3)
def x14 : SE := (.cell (.var 5) (.var 1) 4)
def x15 : SE := (.cell (.var 5) (.var 1) 6)
def x16 : SE := (.cell (.var 5) (.var 1) 7)
def x17 : SE := (.cell (.var 5) (.var 1) 8)
def x18 : SE := (.app 6 (.rcons (.c 0) (.rcons (.sub (.var 5) (.c 0) (.var 1)) (.rcons (.cell (.var 5) (.var 1) 0) (.rcons (.cell (.var 5) (.var 1) 1) (.rcons x9 (.rcons x13 (.rcons x14 (.rcons (.cell (.var 5) (.var 1) 5) (.rcons x15 (.rcons x16 (.rcons x17 .rnil))))))))))))
def x19 : SE := (.rcons (.var 0) (.rcons (.var 1) (.rcons (.var 2) (.rcons (.var 3) .rnil))))
def x20 : SE := (.app 3 (.rcons (.c 0) (.rcons (.lenL (.var 2)) (.rcons (.c 0) (.rcons (.c 4) x19)))))
def x21 : SE := (.app 5 (.rcons (.c 0) (.rcons (.lenL (.var 1)) (.rcons (.c 1) (.rcons (.c 24) x19)))))
def x22 : SE := (.app 7 (.rcons (.c 0) (.rcons (.lenL (.var 3)) (.rcons (.c 0) (.rcons (.c 80) x19)))))
def x23 : SE := (.rcons (.var 4) (.rcons (.var 5) (.rcons (.var 6) (.rcons (.var 7) .rnil))))
def x24 : SE := (.app 3 (.rcons (.c 0) (.rcons (.lenL (.var 6)) (.rcons (.c 0) (.rcons (.c 4) x23)))))
def x25 : SE := (.app 5 (.rcons (.c 0) (.rcons (.lenL (.var 5)) (.rcons (.c 1) (.rcons (.c 24) x23)))))
def x26 : SE := (.app 7 (.rcons (.c 0) (.rcons (.lenL (.var 7)) (.rcons (.c 0) (.rcons (.c 80) x23)))))
def x27 : SE := (.app 8 (.rcons (.c 0) (.rcons (.var 1) (.rcons (.cell (.var 8) (.var 11) 0) .rnil))))
def x28 : SE := (.app 8 (.rcons (.c 0) (.rcons (.var 5) (.rcons (.cell (.var 8) (.var 11) 1) .rnil))))
def x29 : SE := (.mIdx [.str] (.var 12) (.rcons (.cell (.var 8) (.var 11) 0) .rnil))
def x30 : SE := (.app 9 (.rcons (.c 0) (.rcons (.var 6) (.rcons (.cell (.var 9) (.var 14) 0) .rnil))))
def x31 : SE := (.mIdx [.str] (.var 15) (.rcons (.cell (.var 9) (.var 14) 0) .rnil))
def x32 : SE := (.cell (.var 9) (.var 14) 2)
def x33 : SE := (.app 9 (.rcons (.c 0) (.rcons (.var 2) (.rcons (.cell (.var 9) (.var 14) 1) .rnil))))
def x34 : SE := (.strAt (.var 0) (.var 1))
def x35 : SE := (.app 13 (.rcons (.c 0) (.rcons (.var 0) (.rcons (.var 1) (.rcons (.var 2) (.rcons (.var 3) (.rcons (.cell (.var 3) (.var 4) 0) .rnil)))))))
def x36 : SE := (.app 13 (.rcons (.c 0) (.rcons (.var 0) (.rcons (.var 1) (.rcons (.var 2) (.rcons (.var 3) (.rcons (.cell (.var 3) (.var 4) 1) .rnil)))))))
def x37 : SE := (.cell (.var 3) (.var 4) 6)
def x38 : SE := (.cell (.var 3) (.var 4) 7)
def x39 : SE := (.cell (.var 3) (.var 4) 8)
def x40 : SE := (.app 12 (.rcons (.c 0) (.rcons (.var 0) (.rcons (.var 1) (.rcons (.var 2) (.rcons (.var 3) (.rcons (.cell (.var 3) (.var 4) 5) .rnil)))))))
def x41 : SE := (.app 12 (.rcons (.c 0) (.rcons (.var 1) (.rcons (.var 2) (.rcons (.var 3) (.rcons (.var 4) (.rcons (.cell (.var 3) (.var 0) 0) .rnil)))))))
def x42 : SE := (.arith .add .i64 (.var 0) (.c 1))
def x43 : SE := (.app 13 (.rcons (.c 0) (.rcons (.var 1) (.rcons (.var 2) (.rcons (.var 3) (.rcons (.var 4) (.rcons (.cell (.var 2) (.var 0) 0) .rnil)))))))
def x44 : SE := (.app 14 (.rcons (.c 0) (.rcons (.var 1) (.rcons (.var 2) (.rcons (.var 3) (.rcons (.var 4) (.rcons (.var 0) .rnil)))))))
def x45 : SE := (.app 16 (.rcons (.c 0) (.rcons (.var 1) (.rcons (.var 2) (.rcons (.var 3) (.rcons (.var 4) (.rcons (.cell (.var 9) (.var 0) 0) .rnil)))))))
def x46 : SE := (.app 16 (.rcons (.c 0) (.rcons (.var 5) (.rcons (.var 6) (.rcons (.var 7) (.rcons (.var 8) (.rcons (.cell (.var 9) (.var 0) 1) .rnil)))))))
def x47 : SE := (.app 17 (.rcons (.c 0) (.rcons (.var 5) (.rcons (.var 6) (.rcons (.var 7) (.rcons (.var 8) (.rcons (.cell (.var 10) (.var 0) 0) .rnil)))))))
def x48 : SE := (.cell (.var 10) (.var 0) 1)
def x49 : SE := (.cell (.var 10) (.var 0) 2)
def x50 : SE := (.app 17 (.rcons (.c 0) (.rcons (.var 1) (.rcons (.var 2) (.rcons (.var 3) (.rcons (.var 4) (.rcons x48 .rnil)))))))
def x51 : SE := (.sel (.app 8 (.rcons (.c 0) (.rcons (.var 1) (.rcons (.var 4) .rnil)))) 1)
def x52 : SE := (.app 20 (.rcons (.c 0) (.rcons (.var 8) (.rcons (.var 0) (.rcons (.var 1) (.rcons (.var 2) (.rcons (.var 3) (.rcons (.var 10) (.rcons (.var 11) (.rcons (.var 12) (.rcons (.var 13) (.rcons (.var 14) .rnil))))))))))))
def x53 : SE := (.app 8 (.rcons (.c 0) (.rcons (.var 5) (.rcons (.cell (.var 8) (.sel x52 1) 1) .rnil))))
def x54 : SE := (.app 9 (.rcons (.c 0) (.rcons (.var 4) (.rcons (.cell (.var 0) (.var 1) 1) .rnil))))
def x55 : SE := (.sel (.app 9 (.rcons (.c 0) (.rcons (.var 8) (.rcons x3 .rnil)))) 1)
def x56 : SE := (.lss x55 (.lenL (.var 8)))
def x57 : SE := (.arith .add .i64 x8 (.var 11))
def x58 : SE := (.arith .add .i64 x8 (.var 12))
def x59 : SE := (.arith .add .i64 x8 (.var 13))
def x60 : SE := (.arith .add .i64 x8 (.var 14))
def x61 : SE := (.app 16 (.rcons (.c 0) (.rcons (.var 0) (.rcons (.var 1) (.rcons (.var 2) (.rcons (.var 3) (.rcons (.var 4) .rnil)))))))
def x62 : SE := (.app 17 (.rcons (.c 0) (.rcons (.var 5) (.rcons (.var 6) (.rcons (.var 7) (.rcons (.var 8) (.rcons x48 .rnil)))))))
def x63 : SE := (.app 17 (.rcons (.c 0) (.rcons (.var 1) (.rcons (.var 2) (.rcons (.var 3) (.rcons (.var 4) (.rcons (.cell (.var 10) (.var 0) 0) .rnil)))))))
def x64 : SE := (.app 23 (.rcons (.c 0) (.rcons (.var 1) (.rcons (.var 2) (.rcons (.var 3) (.rcons (.var 4) (.rcons (.var 13) (.rcons (.var 14) (.rcons (.bc false) .rnil)))))))))
def x65 : SE := (.rcons (.c 0) (.rcons (.var 0) (.rcons (.var 1) (.rcons (.var 2) (.rcons (.var 3) (.rcons (.var 4) (.rcons (.var 5) (.rcons (.var 6) (.rcons (.var 7) (.rcons (.var 8) (.rcons (.var 9) .rnil)))))))))))
def x66 : SE := (.rcons (.c 0) (.rcons (.var 0) (.rcons (.var 1) (.rcons (.var 2) (.rcons (.var 3) (.rcons (.var 10) (.rcons (.var 11) .rnil)))))))
def x67 : SE := (.app 21 (.rcons (.c 0) (.rcons (.var 0) (.rcons (.var 1) (.rcons (.var 2) (.rcons (.var 3) (.rcons (.var 4) (.rcons (.var 5) (.rcons (.var 6) (.rcons (.var 7) (.rcons (.var 8) (.rcons (.var 9) (.rcons (.sel (.app 19 x66) 1) (.rcons (.sel (.app 19 x66) 2) (.rcons (.sel (.app 19 x66) 3) (.rcons (.sel (.app 19 x66) 4) (.rcons (.sel (.app 19 x66) 5) .rnil)))))))))))))))))
def x68 : SE := (.eql (.sel (.app 10 x65) 1) (.sel (.app 18 x65) 1))
def x69 : SE := (.eql (.sel (.app 10 x65) 2) (.sel (.app 18 x65) 2))
def x70 : SE := (.eql (.sel (.app 18 x65) 2) (.c 0))
def x71 : SE := (.eql (.sel (.app 22 x66) 0) (.c 1))
def x72 : SE := (.app 24 (.rcons (.c 0) (.rcons (.var 4) (.rcons (.var 5) (.rcons (.var 6) (.rcons (.var 7) (.rcons (.var 0) (.rcons (.var 1) (.rcons (.var 2) (.rcons (.var 3) (.rcons (.var 8) (.rcons (.var 9) (.rcons (.var 10) (.rcons (.var 11) .rnil))))))))))))))
def x73 : SE := (.eql (.sel x72 0) (.c 1))
def x74 : SE := (.cell (.var 5) (.sel x67 1) 0)
def x75 : SE := (.rcons (.bc false) (.rcons (.sel x72 1) (.rcons (.sel x72 2) (.rcons (.sel x72 3) .rnil))))
def x76 : SE := (.rcons (.bc false) (.rcons (.strc 0 0) (.rcons .nilL (.rcons (.bc true) .rnil))))
def x77 : SE := (.eql (.sel (.app 25 (.rcons (.c 0) (.rcons x74 (.rcons .emptyL x76)))) 0) (.c 1))
def x78 : SE := (.snoc .emptyL (.rcons (.sel x67 2) .rnil))
def x79 : SE := (.app 25 (.rcons (.c 0) (.rcons x74 (.rcons (.snoc x78 (.rcons (.sel x67 3) .rnil)) x75))))
def x80 : SE := (.app 25 (.rcons (.c 0) (.rcons x74 (.rcons (.snoc x78 (.rcons (.sel x67 3) .rnil)) x76))))
def x81 : SE := (.snoc (.snoc x78 (.rcons (.sel x67 3) .rnil)) (.rcons (.sel x67 4) .rnil))
def x82 : SE := (.app 25 (.rcons (.c 0) (.rcons x74 (.rcons (.snoc x81 (.rcons (.sel x67 5) .rnil)) x75))))
def x83 : SE := (.app 25 (.rcons (.c 0) (.rcons x74 (.rcons (.snoc x81 (.rcons (.sel x67 5) .rnil)) x76))))
def x84 : SE := (.app 25 (.rcons (.c 0) (.rcons (.strc 0 0) (.rcons .nilL (.rcons (.bc true) (.rcons (.sel x72 1) (.rcons (.sel x72 2) (.rcons (.sel x72 3) .rnil))))))))
def x85 : SE := (.app 25 (.rcons (.c 0) (.rcons (.strc 0 0) (.rcons .nilL (.rcons (.bc true) (.rcons (.strc 0 0) (.rcons .nilL (.rcons (.bc true) .rnil))))))))
def x86 : SE := (.eql (.sel x85 0) (.c 1))
def t0p0 : Tr Plf :=
 .leaf (.done 0 [])
def t0 : List (Tr Plf) := [t0p0]
def t1p0 : Tr Plf :=
 .split (.lss (.lenS (.var 0)) (.c 1)) (
 .leaf (.done 0 [(.bc false)])) (
 .split (.lss (.c 32) (.lenS (.var 0))) (
 .leaf (.done 0 [(.bc false)])) (
 .leaf (.next 1 [(.bytes (.var 0)), (.lenL (.bytes (.var 0))), (.c 0)])))
def t1p1 : Tr Plf :=
 .split (.lss (.var 2) (.var 1)) (
 .split (.lss (.var 2) (.c 0)) (
 .leaf .stuck) (
 .split (.lss (.var 2) (.lenL (.var 0))) (
 .split (.lss x0 (.c 97)) (
 .split (.lss x0 (.c 65)) (
 .split (.eql (.var 2) (.c 0)) (
 .leaf (.done 0 [(.bc false)])) (
 .split (.lss x0 (.c 48)) (
 .leaf (.done 0 [(.bc false)])) (
 .split (.lss (.c 57) x0) (
 .leaf (.done 0 [(.bc false)])) (
 .leaf (.next 1 [(.var 0), (.var 1), x1]))))) (
 .split (.lss (.c 90) x0) (
 .split (.eql (.var 2) (.c 0)) (
 .leaf (.done 0 [(.bc false)])) (
 .split (.eql x0 (.c 95)) (
 .leaf (.next 1 [(.var 0), (.var 1), x1])) (
 .leaf (.done 0 [(.bc false)])))) (
 .leaf (.next 1 [(.var 0), (.var 1), x1])))) (
 .split (.lss (.c 122) x0) (
 .split (.eql (.var 2) (.c 0)) (
 .leaf (.done 0 [(.bc false)])) (
 .leaf (.done 0 [(.bc false)]))) (
 .leaf (.next 1 [(.var 0), (.var 1), x1])))) (
 .leaf .stuck))) (
 .leaf (.done 0 [(.bc true)]))
def t1 : List (Tr Plf) := [t1p0, t1p1]
def t2p0 : Tr Plf :=
 .leaf (.next 1 [(.var 0), (.c 0), (.var 1)])
def t2p1 : Tr Plf :=
 .split x2 (
 .split (.lss (.var 1) (.c 0)) (
 .leaf .stuck) (
 .split (.eqSS x3 (.var 2)) (
 .leaf (.done 0 [(.var 1)])) (
 .leaf (.next 1 [(.var 0), x4, (.var 2)])))) (
 .leaf (.done 0 [(.c (-1))]))
def t2 : List (Tr Plf) := [t2p0, t2p1]
def t3p0 : Tr Plf :=
 .split (.lss (.var 0) (.var 1)) (
 .leaf (.done 0 [(.c 0)])) (
 .split (.lss (.var 2) (.var 0)) (
 .leaf (.done 0 [(.var 2)])) (
 .leaf (.next 1 [(.var 0), (.c 0), (.var 3), (.var 4), (.var 5), (.var 6)])))
def t3p1 : Tr Plf :=
 .split (.lss (.var 1) (.var 0)) (
 .split (.lss (.var 1) (.c 0)) (
 .leaf .stuck) (
 .split x5 (
 .split (.eql (.sel (.app 1 (.rcons (.c 0) (.rcons (.cell (.var 4) (.var 1) 0) .rnil))) 0) (.c 1)) (
 .split (.sel (.app 1 (.rcons (.c 0) (.rcons (.cell (.var 4) (.var 1) 0) .rnil))) 1) (
 .split (.eql (.sel x6 0) (.c 1)) (
 .split (.lss (.sel x6 1) (.var 1)) (
 .leaf (.done 0 [(.var 1)])) (
 .split (.lss (.cell (.var 4) (.var 1) 1) (.c 1)) (
 .leaf (.done 0 [(.var 1)])) (
 .split (.lss (.c 1000) (.cell (.var 4) (.var 1) 1)) (
 .leaf (.done 0 [(.var 1)])) (
 .leaf (.next 1 [(.var 0), x4, (.var 2), (.var 3), (.var 4), (.var 5)]))))) (
 .leaf .stuck)) (
 .leaf (.done 0 [(.var 1)]))) (
 .leaf .stuck)) (
 .leaf .stuck))) (
 .leaf (.done 0 [(.c (-1))]))
def t3 : List (Tr Plf) := [t3p0, t3p1]
def t4p0 : Tr Plf :=
 .leaf (.next 1 [(.var 0), (.c 0), (.var 1)])
def t4p1 : Tr Plf :=
 .split x2 (
 .split (.lss (.var 1) (.c 0)) (
 .leaf .stuck) (
 .split (.eqSS x3 (.var 2)) (
 .leaf (.done 0 [(.var 1)])) (
 .leaf (.next 1 [(.var 0), x4, (.var 2)])))) (
 .leaf (.done 0 [(.c (-1))]))
def t4 : List (Tr Plf) := [t4p0, t4p1]
def t5p0 : Tr Plf :=
 .split (.lss (.var 0) (.var 1)) (
 .leaf (.done 0 [(.c 0)])) (
 .split (.lss (.var 2) (.var 0)) (
 .leaf (.done 0 [(.var 2)])) (
 .leaf (.next 1 [(.var 0), (.c 0), (.var 3), (.var 4), (.var 5), (.var 6)])))
def t5p1 : Tr Plf :=
 .split (.lss (.var 1) (.var 0)) (
 .split (.lss (.var 1) (.c 0)) (
 .leaf .stuck) (
 .split (.lss (.var 1) (.lenL (.var 3))) (
 .split (.eql (.sel (.app 1 (.rcons (.c 0) (.rcons (.cell (.var 3) (.var 1) 0) .rnil))) 0) (.c 1)) (
 .split (.sel (.app 1 (.rcons (.c 0) (.rcons (.cell (.var 3) (.var 1) 0) .rnil))) 1) (
 .split (.eql (.sel x7 0) (.c 1)) (
 .split (.lss (.sel x7 1) (.var 1)) (
 .leaf (.done 0 [(.var 1)])) (
 .split (.lss (.cell (.var 3) (.var 1) 2) (.c 0)) (
 .leaf (.done 0 [(.var 1)])) (
 .split (.lss (.c 1048576) (.cell (.var 3) (.var 1) 2)) (
 .leaf (.done 0 [(.var 1)])) (
 .leaf (.next 1 [(.var 0), x4, (.var 2), (.var 3), (.var 4), (.var 5)]))))) (
 .leaf .stuck)) (
 .leaf (.done 0 [(.var 1)]))) (
 .leaf .stuck)) (
 .leaf .stuck))) (
 .leaf (.done 0 [(.c (-1))]))
def t5 : List (Tr Plf) := [t5p0, t5p1]
def t6p0 : Tr Plf :=
 .leaf (.next 1 [(.var 0), (.c 0), (.var 1), (.var 2), (.var 3), (.var 4), (.var 5), (.var 6), (.var 7), (.var 8), (.var 9)])
def t6p1 : Tr Plf :=
 .split x2 (
 .split (.lss (.var 1) (.c 0)) (
 .leaf .stuck) (
 .split (.and (.eqSS (.var 2) x3) (.and (.eqSS (.var 3) (.cell (.var 0) (.var 1) 1)) (.and (.eql (.var 4) x8) (.and (.eqSS (.var 5) (.cell (.var 0) (.var 1) 3)) (.and (.eqSS (.var 6) (.cell (.var 0) (.var 1) 4)) (.and (.eqSS (.var 7) (.cell (.var 0) (.var 1) 5)) (.and (.eql (.var 8) (.cell (.var 0) (.var 1) 6)) (.and (.eql (.var 9) (.cell (.var 0) (.var 1) 7)) (.eql (.var 10) (.cell (.var 0) (.var 1) 8)))))))))) (
 .leaf (.done 0 [(.var 1)])) (
 .leaf (.next 1 [(.var 0), x4, (.var 2), (.var 3), (.var 4), (.var 5), (.var 6), (.var 7), (.var 8), (.var 9), (.var 10)])))) (
 .leaf (.done 0 [(.c (-1))]))
def t6 : List (Tr Plf) := [t6p0, t6p1]
def t7p0 : Tr Plf :=
 .split (.lss (.var 0) (.var 1)) (
 .leaf (.done 0 [(.c 0)])) (
 .split (.lss (.var 2) (.var 0)) (
 .leaf (.done 0 [(.var 2)])) (
 .leaf (.next 1 [(.var 0), (.c 0), (.var 3), (.var 4), (.var 5), (.var 6)])))
def t7p1 : Tr Plf :=
 .split (.lss (.var 1) (.var 0)) (
 .split (.lss (.var 1) (.c 0)) (
 .leaf .stuck) (
 .split (.lss (.var 1) (.lenL (.var 5))) (
 .split (.eql x9 (.c 1)) (
 .split (.eql (.sel x10 0) (.c 1)) (
 .split (.eql (.sel x11 0) (.c 1)) (
 .split (.lss (.sel x10 1) (.c 0)) (
 .leaf (.done 0 [(.var 1)])) (
 .split (.eql (.sel x12 0) (.c 1)) (
 .split (.lss (.sel x12 1) (.c 0)) (
 .leaf (.done 0 [(.var 1)])) (
 .split (.lss (.lenL (.var 5)) (.var 1)) (
 .leaf .stuck) (
 .split (.eql (.sel x18 0) (.c 1)) (
 .split (.lss (.sel x18 1) (.c 0)) (
 .split (.lss (.sel x10 1) (.lenL (.var 3))) (
 .split (.eql (.sel (.app 1 (.rcons (.c 0) (.rcons x13 .rnil))) 0) (.c 1)) (
 .split (.sel (.app 1 (.rcons (.c 0) (.rcons x13 .rnil))) 1) (
 .split (.eql (.sel (.app 1 (.rcons (.c 0) (.rcons x14 .rnil))) 0) (.c 1)) (
 .split (.sel (.app 1 (.rcons (.c 0) (.rcons x14 .rnil))) 1) (
 .split (.eqSS x14 (.var 2)) (
 .leaf (.done 0 [(.var 1)])) (
 .split (.eqS (.cell (.var 5) (.var 1) 5) 0 0) (
 .split (.eql x15 (.c 0)) (
 .split (.eql x16 (.c 0)) (
 .split (.eql x17 (.c 0)) (
 .leaf (.next 1 [(.var 0), x4, (.var 2), (.var 3), (.var 4), (.var 5)])) (
 .leaf (.done 0 [(.var 1)]))) (
 .leaf (.done 0 [(.var 1)]))) (
 .leaf (.done 0 [(.var 1)]))) (
 .split (.lss (.sel x11 1) (.c 0)) (
 .leaf (.done 0 [(.var 1)])) (
 .split (.lss x15 (.c 0)) (
 .leaf (.done 0 [(.var 1)])) (
 .split (.lss x16 x15) (
 .leaf (.done 0 [(.var 1)])) (
 .split (.lss x17 (.c (-1000))) (
 .leaf (.done 0 [(.var 1)])) (
 .split (.lss (.c 1000) x17) (
 .leaf (.done 0 [(.var 1)])) (
 .split (.lss (.sel x11 1) (.lenL (.var 4))) (
 .split (.lss (.cell (.var 4) (.sel x11 1) 1) x16) (
 .leaf (.done 0 [(.var 1)])) (
 .split (.lss (.arith .add .i64 x15 x17) (.c 0)) (
 .leaf (.done 0 [(.var 1)])) (
 .split (.lss (.cell (.var 4) (.sel x11 1) 1) (.arith .add .i64 x16 x17)) (
 .leaf (.done 0 [(.var 1)])) (
 .leaf (.next 1 [(.var 0), x4, (.var 2), (.var 3), (.var 4), (.var 5)]))))) (
 .leaf .stuck))))))))) (
 .leaf (.done 0 [(.var 1)]))) (
 .leaf .stuck)) (
 .leaf (.done 0 [(.var 1)]))) (
 .leaf .stuck)) (
 .leaf .stuck)) (
 .leaf (.done 0 [(.var 1)]))) (
 .leaf .stuck)))) (
 .leaf .stuck))) (
 .leaf .stuck)) (
 .leaf .stuck)) (
 .split (.eql x9 (.c 2)) (
 .split (.eql (.sel x10 0) (.c 1)) (
 .split (.eql (.sel x11 0) (.c 1)) (
 .split (.lss (.sel x10 1) (.c 0)) (
 .leaf (.done 0 [(.var 1)])) (
 .split (.eql (.sel x12 0) (.c 1)) (
 .split (.lss (.sel x12 1) (.c 0)) (
 .leaf (.done 0 [(.var 1)])) (
 .split (.lss (.lenL (.var 5)) (.var 1)) (
 .leaf .stuck) (
 .split (.eql (.sel x18 0) (.c 1)) (
 .split (.lss (.sel x18 1) (.c 0)) (
 .split (.lss (.sel x10 1) (.lenL (.var 3))) (
 .split (.eql (.sel (.app 1 (.rcons (.c 0) (.rcons x13 .rnil))) 0) (.c 1)) (
 .split (.sel (.app 1 (.rcons (.c 0) (.rcons x13 .rnil))) 1) (
 .split (.eql (.sel (.app 1 (.rcons (.c 0) (.rcons x14 .rnil))) 0) (.c 1)) (
 .split (.sel (.app 1 (.rcons (.c 0) (.rcons x14 .rnil))) 1) (
 .split (.eqSS x14 (.var 2)) (
 .leaf (.done 0 [(.var 1)])) (
 .split (.eqS (.cell (.var 5) (.var 1) 5) 0 0) (
 .split (.eql x15 (.c 0)) (
 .split (.eql x16 (.c 0)) (
 .split (.eql x17 (.c 0)) (
 .leaf (.next 1 [(.var 0), x4, (.var 2), (.var 3), (.var 4), (.var 5)])) (
 .leaf (.done 0 [(.var 1)]))) (
 .leaf (.done 0 [(.var 1)]))) (
 .leaf (.done 0 [(.var 1)]))) (
 .split (.lss (.sel x11 1) (.c 0)) (
 .leaf (.done 0 [(.var 1)])) (
 .split (.lss x15 (.c 0)) (
 .leaf (.done 0 [(.var 1)])) (
 .split (.lss x16 x15) (
 .leaf (.done 0 [(.var 1)])) (
 .split (.lss x17 (.c (-1000))) (
 .leaf (.done 0 [(.var 1)])) (
 .split (.lss (.c 1000) x17) (
 .leaf (.done 0 [(.var 1)])) (
 .split (.lss (.sel x11 1) (.lenL (.var 4))) (
 .split (.lss (.cell (.var 4) (.sel x11 1) 1) x16) (
 .leaf (.done 0 [(.var 1)])) (
 .split (.lss (.arith .add .i64 x15 x17) (.c 0)) (
 .leaf (.done 0 [(.var 1)])) (
 .split (.lss (.cell (.var 4) (.sel x11 1) 1) (.arith .add .i64 x16 x17)) (
 .leaf (.done 0 [(.var 1)])) (
 .leaf (.next 1 [(.var 0), x4, (.var 2), (.var 3), (.var 4), (.var 5)]))))) (
 .leaf .stuck))))))))) (
 .leaf (.done 0 [(.var 1)]))) (
 .leaf .stuck)) (
 .leaf (.done 0 [(.var 1)]))) (
 .leaf .stuck)) (
 .leaf .stuck)) (
 .leaf (.done 0 [(.var 1)]))) (
 .leaf .stuck)))) (
 .leaf .stuck))) (
 .leaf .stuck)) (
 .leaf .stuck)) (
 .split (.eql x9 (.c 3)) (
 .split (.eql (.sel x10 0) (.c 1)) (
 .split (.eql (.sel x11 0) (.c 1)) (
 .split (.lss (.sel x10 1) (.c 0)) (
 .leaf (.done 0 [(.var 1)])) (
 .split (.eql (.sel x12 0) (.c 1)) (
 .split (.lss (.sel x12 1) (.c 0)) (
 .leaf (.done 0 [(.var 1)])) (
 .split (.lss (.lenL (.var 5)) (.var 1)) (
 .leaf .stuck) (
 .split (.eql (.sel x18 0) (.c 1)) (
 .split (.lss (.sel x18 1) (.c 0)) (
 .split (.lss (.sel x10 1) (.lenL (.var 3))) (
 .split (.lss (.c 0) (.cell (.var 3) (.sel x10 1) 2)) (
 .split (.lss (.lenS x13) (.c 4611686018427387904)) (
 .split (.lss (.lenS x14) (.c 4611686018427387904)) (
 .split (.eqS (.strCat x13 x14) 0 0) (
 .split (.eqS (.cell (.var 5) (.var 1) 5) 0 0) (
 .split (.eql x15 (.c 0)) (
 .split (.eql x16 (.c 0)) (
 .split (.eql x17 (.c 0)) (
 .leaf (.next 1 [(.var 0), x4, (.var 2), (.var 3), (.var 4), (.var 5)])) (
 .leaf (.done 0 [(.var 1)]))) (
 .leaf (.done 0 [(.var 1)]))) (
 .leaf (.done 0 [(.var 1)]))) (
 .split (.lss (.sel x11 1) (.c 0)) (
 .leaf (.done 0 [(.var 1)])) (
 .split (.lss x15 (.c 0)) (
 .leaf (.done 0 [(.var 1)])) (
 .split (.lss x16 x15) (
 .leaf (.done 0 [(.var 1)])) (
 .split (.lss x17 (.c (-1000))) (
 .leaf (.done 0 [(.var 1)])) (
 .split (.lss (.c 1000) x17) (
 .leaf (.done 0 [(.var 1)])) (
 .split (.lss (.sel x11 1) (.lenL (.var 4))) (
 .split (.lss (.cell (.var 4) (.sel x11 1) 1) x16) (
 .leaf (.done 0 [(.var 1)])) (
 .split (.lss (.arith .add .i64 x15 x17) (.c 0)) (
 .leaf (.done 0 [(.var 1)])) (
 .split (.lss (.cell (.var 4) (.sel x11 1) 1) (.arith .add .i64 x16 x17)) (
 .leaf (.done 0 [(.var 1)])) (
 .leaf (.next 1 [(.var 0), x4, (.var 2), (.var 3), (.var 4), (.var 5)]))))) (
 .leaf .stuck)))))))) (
 .leaf (.done 0 [(.var 1)]))) (
 .leaf .stuck)) (
 .leaf .stuck)) (
 .leaf (.done 0 [(.var 1)]))) (
 .leaf .stuck)) (
 .leaf (.done 0 [(.var 1)]))) (
 .leaf .stuck)))) (
 .leaf .stuck))) (
 .leaf .stuck)) (
 .leaf .stuck)) (
 .split (.eql x9 (.c 4)) (
 .split (.eql (.sel x10 0) (.c 1)) (
 .split (.eql (.sel x11 0) (.c 1)) (
 .split (.lss (.sel x10 1) (.c 0)) (
 .leaf (.done 0 [(.var 1)])) (
 .split (.eql (.sel x12 0) (.c 1)) (
 .split (.lss (.sel x12 1) (.c 0)) (
 .leaf (.done 0 [(.var 1)])) (
 .split (.lss (.lenL (.var 5)) (.var 1)) (
 .leaf .stuck) (
 .split (.eql (.sel x18 0) (.c 1)) (
 .split (.lss (.sel x18 1) (.c 0)) (
 .split (.lss (.sel x10 1) (.lenL (.var 3))) (
 .split (.lss (.lenS x13) (.c 4611686018427387904)) (
 .split (.lss (.lenS x14) (.c 4611686018427387904)) (
 .split (.eqS (.strCat x13 x14) 0 0) (
 .split (.eqS (.cell (.var 5) (.var 1) 5) 0 0) (
 .split (.eql x15 (.c 0)) (
 .split (.eql x16 (.c 0)) (
 .split (.eql x17 (.c 0)) (
 .leaf (.next 1 [(.var 0), x4, (.var 2), (.var 3), (.var 4), (.var 5)])) (
 .leaf (.done 0 [(.var 1)]))) (
 .leaf (.done 0 [(.var 1)]))) (
 .leaf (.done 0 [(.var 1)]))) (
 .split (.lss (.sel x11 1) (.c 0)) (
 .leaf (.done 0 [(.var 1)])) (
 .split (.lss x15 (.c 0)) (
 .leaf (.done 0 [(.var 1)])) (
 .split (.lss x16 x15) (
 .leaf (.done 0 [(.var 1)])) (
 .split (.lss x17 (.c (-1000))) (
 .leaf (.done 0 [(.var 1)])) (
 .split (.lss (.c 1000) x17) (
 .leaf (.done 0 [(.var 1)])) (
 .split (.lss (.sel x11 1) (.lenL (.var 4))) (
 .split (.lss (.cell (.var 4) (.sel x11 1) 1) x16) (
 .leaf (.done 0 [(.var 1)])) (
 .split (.lss (.arith .add .i64 x15 x17) (.c 0)) (
 .leaf (.done 0 [(.var 1)])) (
 .split (.lss (.cell (.var 4) (.sel x11 1) 1) (.arith .add .i64 x16 x17)) (
 .leaf (.done 0 [(.var 1)])) (
 .leaf (.next 1 [(.var 0), x4, (.var 2), (.var 3), (.var 4), (.var 5)]))))) (
 .leaf .stuck)))))))) (
 .leaf (.done 0 [(.var 1)]))) (
 .leaf .stuck)) (
 .leaf .stuck)) (
 .leaf .stuck)) (
 .leaf (.done 0 [(.var 1)]))) (
 .leaf .stuck)))) (
 .leaf .stuck))) (
 .leaf .stuck)) (
 .leaf .stuck)) (
 .split (.eql (.sel x10 0) (.c 1)) (
 .split (.eql (.sel x11 0) (.c 1)) (
 .leaf (.done 0 [(.var 1)])) (
 .leaf .stuck)) (
 .leaf .stuck)))))) (
 .leaf .stuck))) (
 .leaf (.done 0 [(.c (-1))]))
def t7 : List (Tr Plf) := [t7p0, t7p1]
def t8p0 : Tr Plf :=
 .leaf (.next 1 [(.var 0), (.c 0), (.var 1)])
def t8p1 : Tr Plf :=
 .split x2 (
 .split (.lss (.var 1) (.c 0)) (
 .leaf .stuck) (
 .split (.eqSS x3 (.var 2)) (
 .leaf (.done 0 [(.var 1)])) (
 .leaf (.next 1 [(.var 0), x4, (.var 2)])))) (
 .leaf (.done 0 [(.c (-1))]))
def t8 : List (Tr Plf) := [t8p0, t8p1]
def t9p0 : Tr Plf :=
 .leaf (.next 1 [(.var 0), (.c 0), (.var 1)])
def t9p1 : Tr Plf :=
 .split x2 (
 .split (.lss (.var 1) (.c 0)) (
 .leaf .stuck) (
 .split (.eqSS x3 (.var 2)) (
 .leaf (.done 0 [(.var 1)])) (
 .leaf (.next 1 [(.var 0), x4, (.var 2)])))) (
 .leaf (.done 0 [(.c (-1))]))
def t9 : List (Tr Plf) := [t9p0, t9p1]
def t10p0 : Tr Plf :=
 .split (.eql (.sel (.app 1 (.rcons (.c 0) (.rcons (.var 0) .rnil))) 0) (.c 1)) (
 .split (.sel (.app 1 (.rcons (.c 0) (.rcons (.var 0) .rnil))) 1) (
 .split (.eql (.sel x20 0) (.c 1)) (
 .split (.lss (.sel x20 1) (.c 0)) (
 .split (.eql (.sel x21 0) (.c 1)) (
 .split (.lss (.sel x21 1) (.c 0)) (
 .split (.eql (.sel x22 0) (.c 1)) (
 .split (.lss (.sel x22 1) (.c 0)) (
 .split (.eql (.sel (.app 1 (.rcons (.c 0) (.rcons (.var 4) .rnil))) 0) (.c 1)) (
 .split (.sel (.app 1 (.rcons (.c 0) (.rcons (.var 4) .rnil))) 1) (
 .split (.eql (.sel x24 0) (.c 1)) (
 .split (.lss (.sel x24 1) (.c 0)) (
 .split (.eql (.sel x25 0) (.c 1)) (
 .split (.lss (.sel x25 1) (.c 0)) (
 .split (.eql (.sel x26 0) (.c 1)) (
 .split (.lss (.sel x26 1) (.c 0)) (
 .split (.lss (.c 24) (.lenL (.var 8))) (
 .leaf (.done 0 [(.c 24), (.c 490)])) (
 .leaf (.next 1 [(.var 0), (.var 1), (.var 2), (.var 3), (.var 4), (.var 5), (.var 6), (.var 7), (.var 8), (.var 9), (.lss (.c 24) (.lenL (.var 8))), (.c 0), .emptyL]))) (
 .leaf (.done 0 [(.c 0), (.c 2)]))) (
 .leaf .stuck)) (
 .leaf (.done 0 [(.c 0), (.c 2)]))) (
 .leaf .stuck)) (
 .leaf (.done 0 [(.c 0), (.c 2)]))) (
 .leaf .stuck)) (
 .leaf (.done 0 [(.c 0), (.c 2)]))) (
 .leaf .stuck)) (
 .leaf (.done 0 [(.c 0), (.c 2)]))) (
 .leaf .stuck)) (
 .leaf (.done 0 [(.c 0), (.c 2)]))) (
 .leaf .stuck)) (
 .leaf (.done 0 [(.c 0), (.c 2)]))) (
 .leaf .stuck)) (
 .leaf (.done 0 [(.c 0), (.c 2)]))) (
 .leaf .stuck)
def t10p1 : Tr Plf :=
 .split (.lss (.var 11) (.lenL (.var 8))) (
 .split (.lss (.var 11) (.c 0)) (
 .leaf .stuck) (
 .split (.eql (.sel x27 0) (.c 1)) (
 .split (.lss (.sel x27 1) (.c 0)) (
 .leaf (.done 0 [(.var 11), (.c 490)])) (
 .split (.eql (.sel x28 0) (.c 1)) (
 .split (.lss (.sel x28 1) (.c 0)) (
 .leaf (.done 0 [(.var 11), (.c 490)])) (
 .split (.lss x29 (.c 0)) (
 .leaf (.next 1 [(.var 0), (.var 1), (.var 2), (.var 3), (.var 4), (.var 5), (.var 6), (.var 7), (.var 8), (.var 9), (.var 10), (.arith .add .i64 (.var 11) (.c 1)), (.snoc (.var 12) (.rcons (.cell (.var 8) (.var 11) 0) (.rcons (.bc true) .rnil)))])) (
 .split (.cell (.var 12) x29 1) (
 .leaf (.done 0 [(.var 11), (.c 490)])) (
 .leaf (.next 1 [(.var 0), (.var 1), (.var 2), (.var 3), (.var 4), (.var 5), (.var 6), (.var 7), (.var 8), (.var 9), (.var 10), (.arith .add .i64 (.var 11) (.c 1)), (.upd (.var 12) x29 1 (.bc true))]))))) (
 .leaf .stuck))) (
 .leaf .stuck))) (
 .split (.lss (.c 4) (.lenL (.var 9))) (
 .leaf (.done 0 [(.c 4), (.c 491)])) (
 .leaf (.next 2 [(.var 0), (.var 1), (.var 2), (.var 3), (.var 4), (.var 5), (.var 6), (.var 7), (.var 8), (.var 9), (.var 10), (.var 11), (.lss (.var 11) (.lenL (.var 8))), (.lss (.c 4) (.lenL (.var 9))), (.c 0), .emptyL])))
def t10p2 : Tr Plf :=
 .split (.lss (.var 14) (.lenL (.var 9))) (
 .split (.lss (.var 14) (.c 0)) (
 .leaf .stuck) (
 .split (.eql (.sel x30 0) (.c 1)) (
 .split (.lss (.sel x30 1) (.c 0)) (
 .leaf (.done 0 [(.var 14), (.c 491)])) (
 .split (.eqS (.cell (.var 9) (.var 14) 1) 0 0) (
 .split (.lss x31 (.c 0)) (
 .split (.lss x32 (.arith .sub .i64 (.c 0) x32)) (
 .split (.lss (.c 1000) (.arith .sub .i64 (.c 0) x32)) (
 .leaf (.done 0 [(.var 14), (.c 491)])) (
 .split (.lss x32 (.c (-1000))) (
 .leaf (.done 0 [(.var 14), (.c 491)])) (
 .leaf (.next 2 [(.var 0), (.var 1), (.var 2), (.var 3), (.var 4), (.var 5), (.var 6), (.var 7), (.var 8), (.var 9), (.var 10), (.var 11), (.var 12), (.var 13), (.arith .add .i64 (.var 14) (.c 1)), (.snoc (.var 15) (.rcons (.cell (.var 9) (.var 14) 0) (.rcons (.bc true) .rnil)))])))) (
 .split (.lss (.c 1000) x32) (
 .leaf (.done 0 [(.var 14), (.c 491)])) (
 .split (.lss x32 (.c (-1000))) (
 .leaf (.done 0 [(.var 14), (.c 491)])) (
 .leaf (.next 2 [(.var 0), (.var 1), (.var 2), (.var 3), (.var 4), (.var 5), (.var 6), (.var 7), (.var 8), (.var 9), (.var 10), (.var 11), (.var 12), (.var 13), (.arith .add .i64 (.var 14) (.c 1)), (.snoc (.var 15) (.rcons (.cell (.var 9) (.var 14) 0) (.rcons (.bc true) .rnil)))]))))) (
 .split (.cell (.var 15) x31 1) (
 .leaf (.done 0 [(.var 14), (.c 491)])) (
 .split (.lss x32 (.arith .sub .i64 (.c 0) x32)) (
 .split (.lss (.c 1000) (.arith .sub .i64 (.c 0) x32)) (
 .leaf (.done 0 [(.var 14), (.c 491)])) (
 .split (.lss x32 (.c (-1000))) (
 .leaf (.done 0 [(.var 14), (.c 491)])) (
 .leaf (.next 2 [(.var 0), (.var 1), (.var 2), (.var 3), (.var 4), (.var 5), (.var 6), (.var 7), (.var 8), (.var 9), (.var 10), (.var 11), (.var 12), (.var 13), (.arith .add .i64 (.var 14) (.c 1)), (.upd (.var 15) x31 1 (.bc true))])))) (
 .split (.lss (.c 1000) x32) (
 .leaf (.done 0 [(.var 14), (.c 491)])) (
 .split (.lss x32 (.c (-1000))) (
 .leaf (.done 0 [(.var 14), (.c 491)])) (
 .leaf (.next 2 [(.var 0), (.var 1), (.var 2), (.var 3), (.var 4), (.var 5), (.var 6), (.var 7), (.var 8), (.var 9), (.var 10), (.var 11), (.var 12), (.var 13), (.arith .add .i64 (.var 14) (.c 1)), (.upd (.var 15) x31 1 (.bc true))]))))))) (
 .split (.eql (.sel x33 0) (.c 1)) (
 .split (.lss (.sel x33 1) (.c 0)) (
 .leaf (.done 0 [(.var 14), (.c 491)])) (
 .split (.lss x31 (.c 0)) (
 .split (.lss x32 (.arith .sub .i64 (.c 0) x32)) (
 .split (.lss (.c 1000) (.arith .sub .i64 (.c 0) x32)) (
 .leaf (.done 0 [(.var 14), (.c 491)])) (
 .split (.lss x32 (.c (-1000))) (
 .leaf (.done 0 [(.var 14), (.c 491)])) (
 .leaf (.next 2 [(.var 0), (.var 1), (.var 2), (.var 3), (.var 4), (.var 5), (.var 6), (.var 7), (.var 8), (.var 9), (.var 10), (.var 11), (.var 12), (.var 13), (.arith .add .i64 (.var 14) (.c 1)), (.snoc (.var 15) (.rcons (.cell (.var 9) (.var 14) 0) (.rcons (.bc true) .rnil)))])))) (
 .split (.lss (.c 1000) x32) (
 .leaf (.done 0 [(.var 14), (.c 491)])) (
 .split (.lss x32 (.c (-1000))) (
 .leaf (.done 0 [(.var 14), (.c 491)])) (
 .leaf (.next 2 [(.var 0), (.var 1), (.var 2), (.var 3), (.var 4), (.var 5), (.var 6), (.var 7), (.var 8), (.var 9), (.var 10), (.var 11), (.var 12), (.var 13), (.arith .add .i64 (.var 14) (.c 1)), (.snoc (.var 15) (.rcons (.cell (.var 9) (.var 14) 0) (.rcons (.bc true) .rnil)))]))))) (
 .split (.cell (.var 15) x31 1) (
 .leaf (.done 0 [(.var 14), (.c 491)])) (
 .split (.lss x32 (.arith .sub .i64 (.c 0) x32)) (
 .split (.lss (.c 1000) (.arith .sub .i64 (.c 0) x32)) (
 .leaf (.done 0 [(.var 14), (.c 491)])) (
 .split (.lss x32 (.c (-1000))) (
 .leaf (.done 0 [(.var 14), (.c 491)])) (
 .leaf (.next 2 [(.var 0), (.var 1), (.var 2), (.var 3), (.var 4), (.var 5), (.var 6), (.var 7), (.var 8), (.var 9), (.var 10), (.var 11), (.var 12), (.var 13), (.arith .add .i64 (.var 14) (.c 1)), (.upd (.var 15) x31 1 (.bc true))])))) (
 .split (.lss (.c 1000) x32) (
 .leaf (.done 0 [(.var 14), (.c 491)])) (
 .split (.lss x32 (.c (-1000))) (
 .leaf (.done 0 [(.var 14), (.c 491)])) (
 .leaf (.next 2 [(.var 0), (.var 1), (.var 2), (.var 3), (.var 4), (.var 5), (.var 6), (.var 7), (.var 8), (.var 9), (.var 10), (.var 11), (.var 12), (.var 13), (.arith .add .i64 (.var 14) (.c 1)), (.upd (.var 15) x31 1 (.bc true))])))))))) (
 .leaf .stuck)))) (
 .leaf .stuck))) (
 .leaf (.done 0 [(.c 0), (.c 0)]))
def t10 : List (Tr Plf) := [t10p0, t10p1, t10p2]
def t11p0 : Tr Plf :=
 .split (.lss (.lenS (.var 0)) (.c 1)) (
 .leaf (.done 0 [(.bc false)])) (
 .split (.lss (.c 32) (.lenS (.var 0))) (
 .leaf (.done 0 [(.bc false)])) (
 .split (.eql (.strAt (.var 0) (.c 0)) (.c 95)) (
 .leaf (.done 0 [(.bc false)])) (
 .split (.lss (.strAt (.var 0) (.c 0)) (.c 48)) (
 .leaf (.next 1 [(.var 0), (.c 0)])) (
 .split (.lss (.c 57) (.strAt (.var 0) (.c 0))) (
 .leaf (.next 1 [(.var 0), (.c 0)])) (
 .leaf (.done 0 [(.bc false)]))))))
def t11p1 : Tr Plf :=
 .split (.lss (.var 1) (.lenS (.var 0))) (
 .split (.lss (.var 1) (.c 0)) (
 .leaf .stuck) (
 .split (.lss x34 (.c 97)) (
 .split (.lss x34 (.c 65)) (
 .split (.lss x34 (.c 48)) (
 .leaf (.done 0 [(.bc false)])) (
 .split (.lss (.c 57) x34) (
 .leaf (.done 0 [(.bc false)])) (
 .leaf (.next 1 [(.var 0), x4])))) (
 .split (.lss (.c 90) x34) (
 .split (.eql x34 (.c 95)) (
 .leaf (.next 1 [(.var 0), x4])) (
 .leaf (.done 0 [(.bc false)]))) (
 .leaf (.next 1 [(.var 0), x4])))) (
 .split (.lss (.c 122) x34) (
 .leaf (.done 0 [(.bc false)])) (
 .leaf (.next 1 [(.var 0), x4]))))) (
 .leaf (.done 0 [(.bc true)]))
def t11 : List (Tr Plf) := [t11p0, t11p1]
def t12p0 : Tr Plf :=
 .leaf (.next 1 [(.var 4), (.c 0), (.var 0), (.var 1), (.var 2), (.var 3)])
def t12p1 : Tr Plf :=
 .split x5 (
 .split (.lss (.var 1) (.c 0)) (
 .leaf .stuck) (
 .split (.eqSS (.cell (.var 4) (.var 1) 0) (.var 0)) (
 .leaf (.done 0 [(.var 1)])) (
 .leaf (.next 1 [(.var 0), x4, (.var 2), (.var 3), (.var 4), (.var 5)])))) (
 .leaf (.done 0 [(.c (-1))]))
def t12 : List (Tr Plf) := [t12p0, t12p1]
def t13p0 : Tr Plf :=
 .leaf (.next 1 [(.var 4), (.c 0), (.var 0), (.var 1), (.var 2), (.var 3)])
def t13p1 : Tr Plf :=
 .split (.lss (.var 1) (.lenL (.var 3))) (
 .split (.lss (.var 1) (.c 0)) (
 .leaf .stuck) (
 .split (.eqSS (.cell (.var 3) (.var 1) 0) (.var 0)) (
 .leaf (.done 0 [(.var 1)])) (
 .leaf (.next 1 [(.var 0), x4, (.var 2), (.var 3), (.var 4), (.var 5)])))) (
 .leaf (.done 0 [(.c (-1))]))
def t13 : List (Tr Plf) := [t13p0, t13p1]
def t14p0 : Tr Plf :=
 .split (.lss (.var 4) (.c 0)) (
 .leaf .stuck) (
 .split (.lss (.var 4) (.lenL (.var 3))) (
 .split (.eql (.sel x35 0) (.c 1)) (
 .split (.lss (.sel x35 1) (.c 0)) (
 .leaf (.done 0 [(.bc false)])) (
 .split (.eql (.sel x36 0) (.c 1)) (
 .split (.lss (.sel x36 1) (.c 0)) (
 .leaf (.done 0 [(.bc false)])) (
 .split (.eqS (.cell (.var 3) (.var 4) 5) 0 0) (
 .split (.eql x37 (.c 0)) (
 .split (.eql x38 (.c 0)) (
 .split (.eql x39 (.c 0)) (
 .leaf (.next 1 [(.var 4), (.sel x35 1), (.c 0), (.var 0), (.var 1), (.var 2), (.var 3), (.cell (.var 3) (.var 4) 0), (.cell (.var 3) (.var 4) 1), (.cell (.var 3) (.var 4) 2), (.cell (.var 3) (.var 4) 3), (.cell (.var 3) (.var 4) 4), (.cell (.var 3) (.var 4) 5), x37, x38, x39])) (
 .leaf (.done 0 [(.bc false)]))) (
 .leaf (.done 0 [(.bc false)]))) (
 .leaf (.done 0 [(.bc false)]))) (
 .split (.eql (.sel x40 0) (.c 1)) (
 .split (.lss (.sel x40 1) (.c 0)) (
 .leaf (.done 0 [(.bc false)])) (
 .split (.lss x37 (.c 0)) (
 .leaf (.done 0 [(.bc false)])) (
 .split (.lss x38 x37) (
 .leaf (.done 0 [(.bc false)])) (
 .split (.lss (.sel x40 1) (.lenL (.var 2))) (
 .split (.lss (.cell (.var 2) (.sel x40 1) 1) x38) (
 .leaf (.done 0 [(.bc false)])) (
 .split (.lss x39 (.c (-1000))) (
 .leaf (.done 0 [(.bc false)])) (
 .split (.lss (.c 1000) x39) (
 .leaf (.done 0 [(.bc false)])) (
 .split (.lss (.arith .add .i64 x37 x39) (.c 0)) (
 .leaf (.done 0 [(.bc false)])) (
 .split (.lss (.cell (.var 2) (.sel x40 1) 1) (.arith .add .i64 x38 x39)) (
 .leaf (.done 0 [(.bc false)])) (
 .leaf (.next 1 [(.var 4), (.sel x35 1), (.c 0), (.var 0), (.var 1), (.var 2), (.var 3), (.cell (.var 3) (.var 4) 0), (.cell (.var 3) (.var 4) 1), (.cell (.var 3) (.var 4) 2), (.cell (.var 3) (.var 4) 3), (.cell (.var 3) (.var 4) 4), (.cell (.var 3) (.var 4) 5), x37, x38, x39]))))))) (
 .leaf .stuck))))) (
 .leaf .stuck)))) (
 .leaf .stuck))) (
 .leaf .stuck)) (
 .leaf .stuck))
def t14p1 : Tr Plf :=
 .split (.lss (.var 2) (.var 0)) (
 .split (.lss (.var 2) (.c 0)) (
 .leaf .stuck) (
 .split (.lss (.var 2) (.lenL (.var 6))) (
 .split (.and (.eqSS (.cell (.var 6) (.var 2) 0) (.var 7)) (.and (.eqSS (.cell (.var 6) (.var 2) 1) (.var 8)) (.and (.eql (.cell (.var 6) (.var 2) 2) (.var 9)) (.and (.eqSS (.cell (.var 6) (.var 2) 3) (.var 10)) (.and (.eqSS (.cell (.var 6) (.var 2) 4) (.var 11)) (.and (.eqSS (.cell (.var 6) (.var 2) 5) (.var 12)) (.and (.eql (.cell (.var 6) (.var 2) 6) (.var 13)) (.and (.eql (.cell (.var 6) (.var 2) 7) (.var 14)) (.eql (.cell (.var 6) (.var 2) 8) (.var 15)))))))))) (
 .leaf (.done 0 [(.bc false)])) (
 .leaf (.next 1 [(.var 0), (.var 1), x1, (.var 3), (.var 4), (.var 5), (.var 6), (.var 7), (.var 8), (.var 9), (.var 10), (.var 11), (.var 12), (.var 13), (.var 14), (.var 15)]))) (
 .leaf .stuck))) (
 .split (.eql (.var 9) (.c 1)) (
 .split (.eql (.sel (.app 11 (.rcons (.c 0) (.rcons (.var 10) .rnil))) 0) (.c 1)) (
 .split (.sel (.app 11 (.rcons (.c 0) (.rcons (.var 10) .rnil))) 1) (
 .split (.eql (.sel (.app 11 (.rcons (.c 0) (.rcons (.var 11) .rnil))) 0) (.c 1)) (
 .split (.sel (.app 11 (.rcons (.c 0) (.rcons (.var 11) .rnil))) 1) (
 .leaf (.done 0 [(.neg (.eqSS (.var 11) (.var 3)))])) (
 .leaf (.done 0 [(.bc false)]))) (
 .leaf .stuck)) (
 .leaf (.done 0 [(.bc false)]))) (
 .leaf .stuck)) (
 .split (.eql (.var 9) (.c 2)) (
 .split (.eql (.sel (.app 11 (.rcons (.c 0) (.rcons (.var 10) .rnil))) 0) (.c 1)) (
 .split (.sel (.app 11 (.rcons (.c 0) (.rcons (.var 10) .rnil))) 1) (
 .split (.eql (.sel (.app 11 (.rcons (.c 0) (.rcons (.var 11) .rnil))) 0) (.c 1)) (
 .split (.sel (.app 11 (.rcons (.c 0) (.rcons (.var 11) .rnil))) 1) (
 .leaf (.done 0 [(.neg (.eqSS (.var 11) (.var 3)))])) (
 .leaf (.done 0 [(.bc false)]))) (
 .leaf .stuck)) (
 .leaf (.done 0 [(.bc false)]))) (
 .leaf .stuck)) (
 .split (.eql (.var 9) (.c 3)) (
 .split (.eqS (.var 10) 0 0) (
 .split (.eqS (.var 11) 0 0) (
 .split (.lss (.var 1) (.c 0)) (
 .leaf .stuck) (
 .split x5 (
 .leaf (.done 0 [(.lss (.c 0) (.cell (.var 4) (.var 1) 2))])) (
 .leaf .stuck))) (
 .leaf (.done 0 [(.bc false)]))) (
 .leaf (.done 0 [(.bc false)]))) (
 .split (.eql (.var 9) (.c 4)) (
 .split (.eqS (.var 10) 0 0) (
 .leaf (.done 0 [(.eqS (.var 11) 0 0)])) (
 .leaf (.done 0 [(.bc false)]))) (
 .leaf (.done 0 [(.bc false)]))))))
def t14 : List (Tr Plf) := [t14p0, t14p1]
def t15p0 : Tr Plf :=
 .split (.eql (.sel (.app 11 (.rcons (.c 0) (.rcons (.var 0) .rnil))) 0) (.c 1)) (
 .split (.sel (.app 11 (.rcons (.c 0) (.rcons (.var 0) .rnil))) 1) (
 .split (.lss (.c 4) (.lenL (.var 2))) (
 .leaf (.done 0 [(.c 4), (.c 291)])) (
 .leaf (.next 1 [(.c 0), (.var 0), (.var 1), (.var 2), (.var 3)]))) (
 .leaf (.done 0 [(.c 0), (.c 290)]))) (
 .leaf .stuck)
def t15p1 : Tr Plf :=
 .split (.lss (.var 0) (.lenL (.var 3))) (
 .split (.lss (.var 0) (.c 0)) (
 .leaf .stuck) (
 .split (.eql (.sel (.app 11 (.rcons (.c 0) (.rcons (.cell (.var 3) (.var 0) 0) .rnil))) 0) (.c 1)) (
 .split (.sel (.app 11 (.rcons (.c 0) (.rcons (.cell (.var 3) (.var 0) 0) .rnil))) 1) (
 .split (.eql (.sel x41 0) (.c 1)) (
 .split (.eql (.sel x41 1) (.var 0)) (
 .split (.lss (.cell (.var 3) (.var 0) 1) (.c 1)) (
 .leaf (.done 0 [(.var 0), (.c 291)])) (
 .split (.lss (.c 1000) (.cell (.var 3) (.var 0) 1)) (
 .leaf (.done 0 [(.var 0), (.c 291)])) (
 .leaf (.next 1 [x42, (.var 1), (.var 2), (.var 3), (.var 4)])))) (
 .leaf (.done 0 [(.var 0), (.c 291)]))) (
 .leaf .stuck)) (
 .leaf (.done 0 [(.var 0), (.c 291)]))) (
 .leaf .stuck))) (
 .split (.eql (.lenL (.var 2)) (.c 0)) (
 .leaf (.done 0 [(.c 0), (.c 292)])) (
 .split (.lss (.c 24) (.lenL (.var 2))) (
 .leaf (.done 0 [(.c 24), (.c 292)])) (
 .leaf (.next 2 [(.c 0), (.var 1), (.var 2), (.var 3), (.var 4)]))))
def t15p2 : Tr Plf :=
 .split (.lss (.var 0) (.lenL (.var 2))) (
 .split (.lss (.var 0) (.c 0)) (
 .leaf .stuck) (
 .split (.eql (.sel (.app 11 (.rcons (.c 0) (.rcons (.cell (.var 2) (.var 0) 0) .rnil))) 0) (.c 1)) (
 .split (.sel (.app 11 (.rcons (.c 0) (.rcons (.cell (.var 2) (.var 0) 0) .rnil))) 1) (
 .split (.eql (.sel x43 0) (.c 1)) (
 .split (.eql (.sel x43 1) (.var 0)) (
 .split (.lss (.cell (.var 2) (.var 0) 2) (.c 0)) (
 .leaf (.done 0 [(.var 0), (.c 292)])) (
 .split (.lss (.c 1048576) (.cell (.var 2) (.var 0) 2)) (
 .leaf (.done 0 [(.var 0), (.c 292)])) (
 .leaf (.next 2 [x42, (.var 1), (.var 2), (.var 3), (.var 4)])))) (
 .leaf (.done 0 [(.var 0), (.c 292)]))) (
 .leaf .stuck)) (
 .leaf (.done 0 [(.var 0), (.c 292)]))) (
 .leaf .stuck))) (
 .split (.lss (.c 80) (.lenL (.var 4))) (
 .leaf (.done 0 [(.c 80), (.c 293)])) (
 .leaf (.next 3 [(.c 0), (.var 1), (.var 2), (.var 3), (.var 4)])))
def t15p3 : Tr Plf :=
 .split (.lss (.var 0) (.lenL (.var 4))) (
 .split (.eql (.sel x44 0) (.c 1)) (
 .split (.sel x44 1) (
 .leaf (.next 3 [x42, (.var 1), (.var 2), (.var 3), (.var 4)])) (
 .leaf (.done 0 [(.var 0), (.c 293)]))) (
 .leaf .stuck)) (
 .leaf (.done 0 [(.c 0), (.c 0)]))
def t15 : List (Tr Plf) := [t15p0, t15p1, t15p2, t15p3]
def t16p0 : Tr Plf :=
 .leaf (.next 1 [(.var 4), (.c 0), (.var 0), (.var 1), (.var 2), (.var 3)])
def t16p1 : Tr Plf :=
 .split (.lss (.var 1) (.lenL (.var 3))) (
 .split (.lss (.var 1) (.c 0)) (
 .leaf .stuck) (
 .split (.eqSS (.cell (.var 3) (.var 1) 0) (.var 0)) (
 .leaf (.done 0 [(.var 1)])) (
 .leaf (.next 1 [(.var 0), x4, (.var 2), (.var 3), (.var 4), (.var 5)])))) (
 .leaf (.done 0 [(.c (-1))]))
def t16 : List (Tr Plf) := [t16p0, t16p1]
def t17p0 : Tr Plf :=
 .leaf (.next 1 [(.var 4), (.c 0), (.var 0), (.var 1), (.var 2), (.var 3)])
def t17p1 : Tr Plf :=
 .split x5 (
 .split (.lss (.var 1) (.c 0)) (
 .leaf .stuck) (
 .split (.eqSS (.cell (.var 4) (.var 1) 0) (.var 0)) (
 .leaf (.done 0 [(.var 1)])) (
 .leaf (.next 1 [(.var 0), x4, (.var 2), (.var 3), (.var 4), (.var 5)])))) (
 .leaf (.done 0 [(.c (-1))]))
def t17 : List (Tr Plf) := [t17p0, t17p1]
def t18p0 : Tr Plf :=
 .split (.eql (.sel (.app 15 (.rcons (.c 0) x19)) 0) (.c 1)) (
 .split (.eql (.sel (.app 15 (.rcons (.c 0) x19)) 2) (.c 0)) (
 .split (.eql (.sel (.app 15 (.rcons (.c 0) x23)) 0) (.c 1)) (
 .split (.eql (.sel (.app 15 (.rcons (.c 0) x23)) 2) (.c 0)) (
 .split (.lss (.c 24) (.lenL (.var 8))) (
 .leaf (.done 0 [(.c 24), (.c 490)])) (
 .leaf (.next 1 [(.c 0), (.var 0), (.var 1), (.var 2), (.var 3), (.var 4), (.var 5), (.var 6), (.var 7), (.var 8), (.var 9)]))) (
 .leaf (.done 0 [(.c 0), (.c 2)]))) (
 .leaf .stuck)) (
 .leaf (.done 0 [(.c 0), (.c 2)]))) (
 .leaf .stuck)
def t18p1 : Tr Plf :=
 .split (.lss (.var 0) (.lenL (.var 9))) (
 .split (.lss (.var 0) (.c 0)) (
 .leaf .stuck) (
 .split (.eql (.sel x45 0) (.c 1)) (
 .split (.lss (.sel x45 1) (.c 0)) (
 .leaf (.next 2 [(.var 0), (.bc true), (.c 0), (.var 1), (.var 2), (.var 3), (.var 4), (.var 5), (.var 6), (.var 7), (.var 8), (.var 9), (.var 10)])) (
 .split (.eql (.sel x46 0) (.c 1)) (
 .leaf (.next 2 [(.var 0), (.lss (.sel x46 1) (.c 0)), (.c 0), (.var 1), (.var 2), (.var 3), (.var 4), (.var 5), (.var 6), (.var 7), (.var 8), (.var 9), (.var 10)])) (
 .leaf .stuck))) (
 .leaf .stuck))) (
 .split (.lss (.c 4) (.lenL (.var 10))) (
 .leaf (.done 0 [(.c 4), (.c 491)])) (
 .leaf (.next 3 [(.c 0), (.var 1), (.var 2), (.var 3), (.var 4), (.var 5), (.var 6), (.var 7), (.var 8), (.var 9), (.var 10)])))
def t18p2 : Tr Plf :=
 .split (.lss (.var 2) (.var 0)) (
 .split (.var 1) (
 .leaf (.next 2 [(.var 0), (.bc true), x1, (.var 3), (.var 4), (.var 5), (.var 6), (.var 7), (.var 8), (.var 9), (.var 10), (.var 11), (.var 12)])) (
 .split (.lss (.var 2) (.c 0)) (
 .leaf .stuck) (
 .split (.lss (.var 2) (.lenL (.var 11))) (
 .split (.lss (.var 0) (.c 0)) (
 .leaf .stuck) (
 .split (.lss (.var 0) (.lenL (.var 11))) (
 .leaf (.next 2 [(.var 0), (.eqSS (.cell (.var 11) (.var 2) 0) (.cell (.var 11) (.var 0) 0)), x1, (.var 3), (.var 4), (.var 5), (.var 6), (.var 7), (.var 8), (.var 9), (.var 10), (.var 11), (.var 12)])) (
 .leaf .stuck))) (
 .leaf .stuck)))) (
 .split (.var 1) (
 .leaf (.done 0 [(.var 0), (.c 490)])) (
 .leaf (.next 1 [x42, (.var 3), (.var 4), (.var 5), (.var 6), (.var 7), (.var 8), (.var 9), (.var 10), (.var 11), (.var 12)])))
def t18p3 : Tr Plf :=
 .split (.lss (.var 0) (.lenL (.var 10))) (
 .split (.lss (.var 0) (.c 0)) (
 .leaf .stuck) (
 .split (.eql (.sel x47 0) (.c 1)) (
 .split (.lss (.sel x47 1) (.c 0)) (
 .leaf (.next 4 [(.var 0), (.bc true), (.c 0), (.var 1), (.var 2), (.var 3), (.var 4), (.var 5), (.var 6), (.var 7), (.var 8), (.var 9), (.var 10), (.cell (.var 10) (.var 0) 0), x48, x49])) (
 .split (.eqS x48 0 0) (
 .split (.lss (.c 1000) x49) (
 .leaf (.next 4 [(.var 0), (.bc true), (.c 0), (.var 1), (.var 2), (.var 3), (.var 4), (.var 5), (.var 6), (.var 7), (.var 8), (.var 9), (.var 10), (.cell (.var 10) (.var 0) 0), x48, x49])) (
 .leaf (.next 4 [(.var 0), (.lss x49 (.c (-1000))), (.c 0), (.var 1), (.var 2), (.var 3), (.var 4), (.var 5), (.var 6), (.var 7), (.var 8), (.var 9), (.var 10), (.cell (.var 10) (.var 0) 0), x48, x49]))) (
 .split (.eql (.sel x50 0) (.c 1)) (
 .split (.lss (.sel x50 1) (.c 0)) (
 .leaf (.next 4 [(.var 0), (.bc true), (.c 0), (.var 1), (.var 2), (.var 3), (.var 4), (.var 5), (.var 6), (.var 7), (.var 8), (.var 9), (.var 10), (.cell (.var 10) (.var 0) 0), x48, x49])) (
 .split (.lss (.c 1000) x49) (
 .leaf (.next 4 [(.var 0), (.bc true), (.c 0), (.var 1), (.var 2), (.var 3), (.var 4), (.var 5), (.var 6), (.var 7), (.var 8), (.var 9), (.var 10), (.cell (.var 10) (.var 0) 0), x48, x49])) (
 .leaf (.next 4 [(.var 0), (.lss x49 (.c (-1000))), (.c 0), (.var 1), (.var 2), (.var 3), (.var 4), (.var 5), (.var 6), (.var 7), (.var 8), (.var 9), (.var 10), (.cell (.var 10) (.var 0) 0), x48, x49])))) (
 .leaf .stuck)))) (
 .leaf .stuck))) (
 .leaf (.done 0 [(.c 0), (.c 0)]))
def t18p4 : Tr Plf :=
 .split (.lss (.var 2) (.var 0)) (
 .split (.var 1) (
 .leaf (.next 4 [(.var 0), (.bc true), x1, (.var 3), (.var 4), (.var 5), (.var 6), (.var 7), (.var 8), (.var 9), (.var 10), (.var 11), (.var 12), (.var 13), (.var 14), (.var 15)])) (
 .split (.lss (.var 2) (.c 0)) (
 .leaf .stuck) (
 .split (.lss (.var 2) (.lenL (.var 12))) (
 .leaf (.next 4 [(.var 0), (.eqSS (.cell (.var 12) (.var 2) 0) (.var 13)), x1, (.var 3), (.var 4), (.var 5), (.var 6), (.var 7), (.var 8), (.var 9), (.var 10), (.var 11), (.var 12), (.var 13), (.var 14), (.var 15)])) (
 .leaf .stuck)))) (
 .split (.var 1) (
 .leaf (.done 0 [(.var 0), (.c 491)])) (
 .leaf (.next 3 [x42, (.var 3), (.var 4), (.var 5), (.var 6), (.var 7), (.var 8), (.var 9), (.var 10), (.var 11), (.var 12)])))
def t18 : List (Tr Plf) := [t18p0, t18p1, t18p2, t18p3, t18p4]
def t19p0 : Tr Plf :=
 .split (.eql (.sel (.app 8 (.rcons (.c 0) (.rcons (.var 1) (.rcons (.var 4) .rnil)))) 0) (.c 1)) (
 .split (.lss x51 (.c 0)) (
 .leaf (.done 0 [x51, (.c 0), (.c 0), (.c 0), (.c 0), (.bc false)])) (
 .split (.eql (.lenL (.var 5)) (.lenL (.var 2))) (
 .leaf (.next 1 [(.var 5), (.c 0), (.var 0), (.var 1), (.var 2), (.var 3), (.var 4), x51])) (
 .leaf (.done 0 [x51, (.c 0), (.c 0), (.c 0), (.c 0), (.bc false)])))) (
 .leaf .stuck)
def t19p1 : Tr Plf :=
 .split x2 (
 .split (.lss (.var 1) (.c 0)) (
 .leaf .stuck) (
 .split (.lss x3 (.c 0)) (
 .leaf (.done 0 [(.var 7), (.c 0), (.c 0), (.c 0), (.c 0), (.bc false)])) (
 .split x5 (
 .split (.lss (.cell (.var 4) (.var 1) 1) x3) (
 .leaf (.done 0 [(.var 7), (.c 0), (.c 0), (.c 0), (.c 0), (.bc false)])) (
 .leaf (.next 1 [(.var 0), x4, (.var 2), (.var 3), (.var 4), (.var 5), (.var 6), (.var 7)]))) (
 .leaf .stuck)))) (
 .split (.lss (.lenL (.var 0)) (.c 4)) (
 .split (.eql (.lenL (.var 0)) (.c 0)) (
 .leaf (.done 0 [(.var 7), (.c 0), (.c 0), (.c 0), (.c 0), (.bc true)])) (
 .split (.eql (.lenL (.var 0)) (.c 1)) (
 .leaf (.done 0 [(.var 7), (.cell (.var 0) (.c 0) 0), (.c 0), (.c 0), (.c 0), (.bc true)])) (
 .split (.eql (.lenL (.var 0)) (.c 2)) (
 .leaf (.done 0 [(.var 7), (.cell (.var 0) (.c 0) 0), (.cell (.var 0) (.c 1) 0), (.c 0), (.c 0), (.bc true)])) (
 .split (.eql (.lenL (.var 0)) (.c 3)) (
 .leaf (.done 0 [(.var 7), (.cell (.var 0) (.c 0) 0), (.cell (.var 0) (.c 1) 0), (.cell (.var 0) (.c 2) 0), (.c 0), (.bc true)])) (
 .leaf .stuck))))) (
 .leaf (.done 0 [(.var 7), (.cell (.var 0) (.c 0) 0), (.cell (.var 0) (.c 1) 0), (.cell (.var 0) (.c 2) 0), (.cell (.var 0) (.c 3) 0), (.bc true)])))
def t19 : List (Tr Plf) := [t19p0, t19p1]
def t20p0 : Tr Plf :=
 .leaf (.next 1 [(.var 0), (.c 0), (.var 1), (.var 2), (.var 3), (.var 4), (.var 5), (.var 6), (.var 7), (.var 8), (.var 9)])
def t20p1 : Tr Plf :=
 .split x2 (
 .split (.lss (.var 1) (.c 0)) (
 .leaf .stuck) (
 .split (.lss (.var 6) (.c 0)) (
 .leaf .stuck) (
 .split (.lss (.var 6) (.lenL (.var 3))) (
 .split (.eqSS x3 (.cell (.var 3) (.var 6) 0)) (
 .leaf (.done 0 [(.var 1)])) (
 .leaf (.next 1 [(.var 0), x4, (.var 2), (.var 3), (.var 4), (.var 5), (.var 6), (.var 7), (.var 8), (.var 9), (.var 10)]))) (
 .leaf .stuck)))) (
 .leaf (.done 0 [(.c (-1))]))
def t20 : List (Tr Plf) := [t20p0, t20p1]
def t21p0 : Tr Plf :=
 .split (.eql (.sel x52 0) (.c 1)) (
 .split (.lss (.sel x52 1) (.c 0)) (
 .leaf (.done 0 [(.c 0), (.c 0), (.c 0), (.c 0), (.c 0), (.c 9)])) (
 .split (.lss (.sel x52 1) (.lenL (.var 8))) (
 .split (.eql (.sel x53 0) (.c 1)) (
 .leaf (.next 1 [(.var 9), (.c 0), (.var 0), (.var 1), (.var 2), (.var 3), (.var 4), (.var 5), (.var 6), (.var 7), (.var 10), (.var 11), (.var 12), (.var 13), (.var 14), (.sel x53 1), (.c 0), (.c 0), (.c 0), (.c 0)])) (
 .leaf .stuck)) (
 .leaf .stuck))) (
 .leaf .stuck)
def t21p1 : Tr Plf :=
 .split x2 (
 .split (.lss (.var 1) (.c 0)) (
 .leaf .stuck) (
 .split (.eql (.sel (.app 9 (.rcons (.c 0) (.rcons (.var 8) (.rcons x3 .rnil)))) 0) (.c 1)) (
 .split (.eql (.sel x54 0) (.c 1)) (
 .split (.lss (.sel x54 1) (.c 0)) (
 .split (.lss x8 (.c 0)) (
 .leaf (.done 0 [(.c 0), (.c 0), (.c 0), (.c 0), (.c 0), (.c 3)])) (
 .split (.lss x55 (.c 0)) (
 .leaf .stuck) (
 .split x56 (
 .split (.lss (.cell (.var 8) x55 1) x8) (
 .leaf (.done 0 [(.c 0), (.c 0), (.c 0), (.c 0), (.c 0), (.c 3)])) (
 .split (.eql x55 (.c 0)) (
 .leaf (.next 1 [(.var 0), x4, (.var 2), (.var 3), (.var 4), (.var 5), (.var 6), (.var 7), (.var 8), (.var 9), (.var 10), (.var 11), (.var 12), (.var 13), (.var 14), (.var 15), x8, (.var 17), (.var 18), (.var 19)])) (
 .split (.eql x55 (.c 1)) (
 .leaf (.next 1 [(.var 0), x4, (.var 2), (.var 3), (.var 4), (.var 5), (.var 6), (.var 7), (.var 8), (.var 9), (.var 10), (.var 11), (.var 12), (.var 13), (.var 14), (.var 15), (.var 16), x8, (.var 18), (.var 19)])) (
 .split (.eql x55 (.c 2)) (
 .leaf (.next 1 [(.var 0), x4, (.var 2), (.var 3), (.var 4), (.var 5), (.var 6), (.var 7), (.var 8), (.var 9), (.var 10), (.var 11), (.var 12), (.var 13), (.var 14), (.var 15), (.var 16), (.var 17), x8, (.var 19)])) (
 .split (.eql x55 (.c 3)) (
 .leaf (.next 1 [(.var 0), x4, (.var 2), (.var 3), (.var 4), (.var 5), (.var 6), (.var 7), (.var 8), (.var 9), (.var 10), (.var 11), (.var 12), (.var 13), (.var 14), (.var 15), (.var 16), (.var 17), (.var 18), x8])) (
 .leaf .stuck)))))) (
 .leaf .stuck)))) (
 .split (.eql (.sel x54 1) (.c 0)) (
 .split (.lss x57 (.c 0)) (
 .leaf (.done 0 [(.c 0), (.c 0), (.c 0), (.c 0), (.c 0), (.c 3)])) (
 .split (.lss x55 (.c 0)) (
 .leaf .stuck) (
 .split x56 (
 .split (.lss (.cell (.var 8) x55 1) x57) (
 .leaf (.done 0 [(.c 0), (.c 0), (.c 0), (.c 0), (.c 0), (.c 3)])) (
 .split (.eql x55 (.c 0)) (
 .leaf (.next 1 [(.var 0), x4, (.var 2), (.var 3), (.var 4), (.var 5), (.var 6), (.var 7), (.var 8), (.var 9), (.var 10), (.var 11), (.var 12), (.var 13), (.var 14), (.var 15), x57, (.var 17), (.var 18), (.var 19)])) (
 .split (.eql x55 (.c 1)) (
 .leaf (.next 1 [(.var 0), x4, (.var 2), (.var 3), (.var 4), (.var 5), (.var 6), (.var 7), (.var 8), (.var 9), (.var 10), (.var 11), (.var 12), (.var 13), (.var 14), (.var 15), (.var 16), x57, (.var 18), (.var 19)])) (
 .split (.eql x55 (.c 2)) (
 .leaf (.next 1 [(.var 0), x4, (.var 2), (.var 3), (.var 4), (.var 5), (.var 6), (.var 7), (.var 8), (.var 9), (.var 10), (.var 11), (.var 12), (.var 13), (.var 14), (.var 15), (.var 16), (.var 17), x57, (.var 19)])) (
 .split (.eql x55 (.c 3)) (
 .leaf (.next 1 [(.var 0), x4, (.var 2), (.var 3), (.var 4), (.var 5), (.var 6), (.var 7), (.var 8), (.var 9), (.var 10), (.var 11), (.var 12), (.var 13), (.var 14), (.var 15), (.var 16), (.var 17), (.var 18), x57])) (
 .leaf .stuck)))))) (
 .leaf .stuck)))) (
 .split (.eql (.sel x54 1) (.c 1)) (
 .split (.lss x58 (.c 0)) (
 .leaf (.done 0 [(.c 0), (.c 0), (.c 0), (.c 0), (.c 0), (.c 3)])) (
 .split (.lss x55 (.c 0)) (
 .leaf .stuck) (
 .split x56 (
 .split (.lss (.cell (.var 8) x55 1) x58) (
 .leaf (.done 0 [(.c 0), (.c 0), (.c 0), (.c 0), (.c 0), (.c 3)])) (
 .split (.eql x55 (.c 0)) (
 .leaf (.next 1 [(.var 0), x4, (.var 2), (.var 3), (.var 4), (.var 5), (.var 6), (.var 7), (.var 8), (.var 9), (.var 10), (.var 11), (.var 12), (.var 13), (.var 14), (.var 15), x58, (.var 17), (.var 18), (.var 19)])) (
 .split (.eql x55 (.c 1)) (
 .leaf (.next 1 [(.var 0), x4, (.var 2), (.var 3), (.var 4), (.var 5), (.var 6), (.var 7), (.var 8), (.var 9), (.var 10), (.var 11), (.var 12), (.var 13), (.var 14), (.var 15), (.var 16), x58, (.var 18), (.var 19)])) (
 .split (.eql x55 (.c 2)) (
 .leaf (.next 1 [(.var 0), x4, (.var 2), (.var 3), (.var 4), (.var 5), (.var 6), (.var 7), (.var 8), (.var 9), (.var 10), (.var 11), (.var 12), (.var 13), (.var 14), (.var 15), (.var 16), (.var 17), x58, (.var 19)])) (
 .split (.eql x55 (.c 3)) (
 .leaf (.next 1 [(.var 0), x4, (.var 2), (.var 3), (.var 4), (.var 5), (.var 6), (.var 7), (.var 8), (.var 9), (.var 10), (.var 11), (.var 12), (.var 13), (.var 14), (.var 15), (.var 16), (.var 17), (.var 18), x58])) (
 .leaf .stuck)))))) (
 .leaf .stuck)))) (
 .split (.eql (.sel x54 1) (.c 2)) (
 .split (.lss x59 (.c 0)) (
 .leaf (.done 0 [(.c 0), (.c 0), (.c 0), (.c 0), (.c 0), (.c 3)])) (
 .split (.lss x55 (.c 0)) (
 .leaf .stuck) (
 .split x56 (
 .split (.lss (.cell (.var 8) x55 1) x59) (
 .leaf (.done 0 [(.c 0), (.c 0), (.c 0), (.c 0), (.c 0), (.c 3)])) (
 .split (.eql x55 (.c 0)) (
 .leaf (.next 1 [(.var 0), x4, (.var 2), (.var 3), (.var 4), (.var 5), (.var 6), (.var 7), (.var 8), (.var 9), (.var 10), (.var 11), (.var 12), (.var 13), (.var 14), (.var 15), x59, (.var 17), (.var 18), (.var 19)])) (
 .split (.eql x55 (.c 1)) (
 .leaf (.next 1 [(.var 0), x4, (.var 2), (.var 3), (.var 4), (.var 5), (.var 6), (.var 7), (.var 8), (.var 9), (.var 10), (.var 11), (.var 12), (.var 13), (.var 14), (.var 15), (.var 16), x59, (.var 18), (.var 19)])) (
 .split (.eql x55 (.c 2)) (
 .leaf (.next 1 [(.var 0), x4, (.var 2), (.var 3), (.var 4), (.var 5), (.var 6), (.var 7), (.var 8), (.var 9), (.var 10), (.var 11), (.var 12), (.var 13), (.var 14), (.var 15), (.var 16), (.var 17), x59, (.var 19)])) (
 .split (.eql x55 (.c 3)) (
 .leaf (.next 1 [(.var 0), x4, (.var 2), (.var 3), (.var 4), (.var 5), (.var 6), (.var 7), (.var 8), (.var 9), (.var 10), (.var 11), (.var 12), (.var 13), (.var 14), (.var 15), (.var 16), (.var 17), (.var 18), x59])) (
 .leaf .stuck)))))) (
 .leaf .stuck)))) (
 .split (.eql (.sel x54 1) (.c 3)) (
 .split (.lss x60 (.c 0)) (
 .leaf (.done 0 [(.c 0), (.c 0), (.c 0), (.c 0), (.c 0), (.c 3)])) (
 .split (.lss x55 (.c 0)) (
 .leaf .stuck) (
 .split x56 (
 .split (.lss (.cell (.var 8) x55 1) x60) (
 .leaf (.done 0 [(.c 0), (.c 0), (.c 0), (.c 0), (.c 0), (.c 3)])) (
 .split (.eql x55 (.c 0)) (
 .leaf (.next 1 [(.var 0), x4, (.var 2), (.var 3), (.var 4), (.var 5), (.var 6), (.var 7), (.var 8), (.var 9), (.var 10), (.var 11), (.var 12), (.var 13), (.var 14), (.var 15), x60, (.var 17), (.var 18), (.var 19)])) (
 .split (.eql x55 (.c 1)) (
 .leaf (.next 1 [(.var 0), x4, (.var 2), (.var 3), (.var 4), (.var 5), (.var 6), (.var 7), (.var 8), (.var 9), (.var 10), (.var 11), (.var 12), (.var 13), (.var 14), (.var 15), (.var 16), x60, (.var 18), (.var 19)])) (
 .split (.eql x55 (.c 2)) (
 .leaf (.next 1 [(.var 0), x4, (.var 2), (.var 3), (.var 4), (.var 5), (.var 6), (.var 7), (.var 8), (.var 9), (.var 10), (.var 11), (.var 12), (.var 13), (.var 14), (.var 15), (.var 16), (.var 17), x60, (.var 19)])) (
 .split (.eql x55 (.c 3)) (
 .leaf (.next 1 [(.var 0), x4, (.var 2), (.var 3), (.var 4), (.var 5), (.var 6), (.var 7), (.var 8), (.var 9), (.var 10), (.var 11), (.var 12), (.var 13), (.var 14), (.var 15), (.var 16), (.var 17), (.var 18), x60])) (
 .leaf .stuck)))))) (
 .leaf .stuck)))) (
 .leaf .stuck)))))) (
 .leaf .stuck)) (
 .leaf .stuck))) (
 .leaf (.done 0 [(.var 15), (.var 16), (.var 17), (.var 18), (.var 19), (.c 0)]))
def t21 : List (Tr Plf) := [t21p0, t21p1]
def t22p0 : Tr Plf :=
 .split (.eql (.sel x61 0) (.c 1)) (
 .split (.lss (.sel x61 1) (.c 0)) (
 .leaf (.done 0 [(.bc false)])) (
 .split (.eql (.lenL (.var 5)) (.lenL (.var 2))) (
 .leaf (.next 1 [(.c 0), (.var 0), (.var 1), (.var 2), (.var 3), (.var 4), (.var 5)])) (
 .leaf (.done 0 [(.bc false)])))) (
 .leaf .stuck)
def t22p1 : Tr Plf :=
 .split (.lss (.var 0) (.lenL (.var 6))) (
 .split (.lss (.var 0) (.c 0)) (
 .leaf .stuck) (
 .split (.lss (.cell (.var 6) (.var 0) 0) (.c 0)) (
 .leaf (.done 0 [(.bc false)])) (
 .split (.lss (.var 0) (.lenL (.var 3))) (
 .split (.lss (.cell (.var 3) (.var 0) 1) (.cell (.var 6) (.var 0) 0)) (
 .leaf (.done 0 [(.bc false)])) (
 .leaf (.next 1 [x42, (.var 1), (.var 2), (.var 3), (.var 4), (.var 5), (.var 6)]))) (
 .leaf .stuck)))) (
 .leaf (.done 0 [(.bc true)]))
def t22 : List (Tr Plf) := [t22p0, t22p1]
def t23p0 : Tr Plf :=
 .split (.eql (.sel x61 0) (.c 1)) (
 .split (.lss (.sel x61 1) (.c 0)) (
 .leaf (.done 0 [(.bc false)])) (
 .split (.eql (.lenL (.var 5)) (.lenL (.var 2))) (
 .leaf (.next 1 [(.c 0), (.var 5), (.var 0), (.var 1), (.var 2), (.var 3), (.var 4), (.var 6)])) (
 .leaf (.done 0 [(.bc false)])))) (
 .leaf .stuck)
def t23p1 : Tr Plf :=
 .split (.lss (.var 0) (.lenL (.var 1))) (
 .split (.lss (.var 0) (.c 0)) (
 .leaf .stuck) (
 .split (.lss (.cell (.var 1) (.var 0) 0) (.c 0)) (
 .leaf (.done 0 [(.bc false)])) (
 .split (.lss (.var 0) (.lenL (.var 4))) (
 .split (.lss (.cell (.var 4) (.var 0) 1) (.cell (.var 1) (.var 0) 0)) (
 .leaf (.done 0 [(.bc false)])) (
 .leaf (.next 1 [x42, (.var 1), (.var 2), (.var 3), (.var 4), (.var 5), (.var 6), (.var 7)]))) (
 .leaf .stuck)))) (
 .leaf (.done 0 [(.bc true)]))
def t23 : List (Tr Plf) := [t23p0, t23p1]
def t24p0 : Tr Plf :=
 .split (.lss (.lenL (.var 2)) (.c 1048577)) (
 .leaf (.next 1 [(.bc false), (.c 0), (.var 0), (.var 1), (.var 2), (.var 3), (.var 4), (.var 5), (.var 6), (.var 7), (.var 8), (.var 9), (.var 10), (.var 11), (.strc 0 0), (.rep (.lenL (.var 2)) (.rcons (.c 0) .rnil))])) (
 .leaf .stuck)
def t24p1 : Tr Plf :=
 .split (.lss (.var 1) (.lenL (.var 10))) (
 .split (.lss (.var 1) (.c 0)) (
 .leaf .stuck) (
 .split (.eqSS (.cell (.var 10) (.var 1) 0) (.var 12)) (
 .leaf (.next 1 [(.bc true), x4, (.var 2), (.var 3), (.var 4), (.var 5), (.var 6), (.var 7), (.var 8), (.var 9), (.var 10), (.var 11), (.var 12), (.var 13), (.cell (.var 10) (.var 1) 1), (.var 15)])) (
 .leaf (.next 1 [(.var 0), x4, (.var 2), (.var 3), (.var 4), (.var 5), (.var 6), (.var 7), (.var 8), (.var 9), (.var 10), (.var 11), (.var 12), (.var 13), (.var 14), (.var 15)])))) (
 .split (.var 0) (
 .leaf (.next 2 [(.c 0), (.var 2), (.var 3), (.var 4), (.var 5), (.var 6), (.var 7), (.var 8), (.var 9), (.var 10), (.var 11), (.var 12), (.var 13), (.var 14), (.var 15)])) (
 .leaf (.done 0 [(.strc 0 0), .nilL, (.bc true), (.c 9)])))
def t24p2 : Tr Plf :=
 .split (.lss (.var 0) (.lenL (.var 10))) (
 .split (.lss (.var 0) (.c 0)) (
 .leaf .stuck) (
 .split (.eql (.sel x62 0) (.c 1)) (
 .split (.lss (.sel x62 1) (.c 0)) (
 .split (.eql (.sel x63 0) (.c 1)) (
 .split (.lss (.sel x63 1) (.c 0)) (
 .leaf .stuck) (
 .split (.lss (.sel x63 1) (.lenL (.var 14))) (
 .leaf (.next 2 [x42, (.var 1), (.var 2), (.var 3), (.var 4), (.var 5), (.var 6), (.var 7), (.var 8), (.var 9), (.var 10), (.var 11), (.var 12), (.var 13), (.upd (.var 14) (.sel x63 1) 0 x49)])) (
 .leaf .stuck))) (
 .leaf .stuck)) (
 .split (.lss (.sel x62 1) (.lenL (.var 12))) (
 .split (.eql (.sel x63 0) (.c 1)) (
 .split (.lss (.sel x63 1) (.c 0)) (
 .leaf .stuck) (
 .split (.lss (.sel x63 1) (.lenL (.var 14))) (
 .leaf (.next 2 [x42, (.var 1), (.var 2), (.var 3), (.var 4), (.var 5), (.var 6), (.var 7), (.var 8), (.var 9), (.var 10), (.var 11), (.var 12), (.var 13), (.upd (.var 14) (.sel x63 1) 0 (.arith .add .i64 x49 (.cell (.var 12) (.sel x62 1) 0)))])) (
 .leaf .stuck))) (
 .leaf .stuck)) (
 .leaf .stuck))) (
 .leaf .stuck))) (
 .split (.eql (.sel x64 0) (.c 1)) (
 .split (.sel x64 1) (
 .leaf (.done 0 [(.var 13), (.var 14), (.bc false), (.c 0)])) (
 .leaf (.done 0 [(.strc 0 0), .nilL, (.bc true), (.c 3)]))) (
 .leaf .stuck))
def t24 : List (Tr Plf) := [t24p0, t24p1, t24p2]
def t25p0 : Tr Plf :=
 .split (.eqSS (.var 0) (.var 3)) (
 .split (.eql (.lenL (.var 1)) (.lenL (.var 4))) (
 .leaf (.next 1 [(.c 0), (.var 1), (.var 4), (.var 0), (.var 2), (.var 3), (.var 5)])) (
 .leaf (.done 0 [(.bc false)]))) (
 .leaf (.done 0 [(.bc false)]))
def t25p1 : Tr Plf :=
 .split (.lss (.var 0) (.lenL (.var 1))) (
 .split (.lss (.var 0) (.c 0)) (
 .leaf .stuck) (
 .split (.lss (.var 0) (.lenL (.var 2))) (
 .split (.eql (.cell (.var 1) (.var 0) 0) (.cell (.var 2) (.var 0) 0)) (
 .leaf (.next 1 [x42, (.var 1), (.var 2), (.var 3), (.var 4), (.var 5), (.var 6)])) (
 .leaf (.done 0 [(.bc false)]))) (
 .leaf .stuck))) (
 .leaf (.done 0 [(.bc true)]))
def t25 : List (Tr Plf) := [t25p0, t25p1]
def t26p0 : Tr Plf :=
 .split (.lss (.c 8) (.lenL (.var 1))) (
 .split (.eql (.sel (.app 0 (.rcons (.c 0) .rnil)) 0) (.c 1)) (
 .leaf (.done 0 [(.bc true)])) (
 .leaf .stuck)) (
 .split (.lss (.c 20) (.lenL (.var 3))) (
 .split (.eql (.sel (.app 0 (.rcons (.c 0) .rnil)) 0) (.c 1)) (
 .leaf (.done 0 [(.bc true)])) (
 .leaf .stuck)) (
 .split (.lss (.c 5) (.lenL (.var 2))) (
 .split (.eql (.sel (.app 0 (.rcons (.c 0) .rnil)) 0) (.c 1)) (
 .leaf (.done 0 [(.bc true)])) (
 .leaf .stuck)) (
 .split (.lss (.c 8) (.lenL (.var 5))) (
 .split (.eql (.sel (.app 0 (.rcons (.c 0) .rnil)) 0) (.c 1)) (
 .leaf (.done 0 [(.bc true)])) (
 .leaf .stuck)) (
 .split (.lss (.c 20) (.lenL (.var 7))) (
 .split (.eql (.sel (.app 0 (.rcons (.c 0) .rnil)) 0) (.c 1)) (
 .leaf (.done 0 [(.bc true)])) (
 .leaf .stuck)) (
 .split (.lss (.c 5) (.lenL (.var 6))) (
 .split (.eql (.sel (.app 0 (.rcons (.c 0) .rnil)) 0) (.c 1)) (
 .leaf (.done 0 [(.bc true)])) (
 .leaf .stuck)) (
 .split (.lss (.c 30) (.lenL (.var 8))) (
 .split (.eql (.sel (.app 0 (.rcons (.c 0) .rnil)) 0) (.c 1)) (
 .leaf (.done 0 [(.bc true)])) (
 .leaf .stuck)) (
 .split (.lss (.c 8) (.lenL (.var 9))) (
 .split (.eql (.sel (.app 0 (.rcons (.c 0) .rnil)) 0) (.c 1)) (
 .leaf (.done 0 [(.bc true)])) (
 .leaf .stuck)) (
 .split (.lss (.c 10) (.lenL (.var 11))) (
 .split (.eql (.sel (.app 0 (.rcons (.c 0) .rnil)) 0) (.c 1)) (
 .leaf (.done 0 [(.bc true)])) (
 .leaf .stuck)) (
 .split (.eql (.sel (.app 10 x65) 0) (.c 1)) (
 .split (.eql (.sel (.app 18 x65) 0) (.c 1)) (
 .split (.eql (.sel (.app 10 x65) 2) (.c 0)) (
 .split (.eql (.sel (.app 19 x66) 0) (.c 1)) (
 .split (.sel (.app 19 x66) 6) (
 .split (.eql (.sel x67 0) (.c 1)) (
 .split (.eql (.sel x67 6) (.c 0)) (
 .split (.lss (.sel x67 1) (.c 0)) (
 .leaf .stuck) (
 .split (.lss (.sel x67 1) (.lenL (.var 5))) (
 .split (.eql (.lenL (.var 6)) (.c 0)) (
 .split x68 (
 .split x69 (
 .split x70 (
 .split x71 (
 .split (.sel (.app 22 x66) 1) (
 .split x73 (
 .split (.eql (.sel (.app 25 (.rcons (.c 0) (.rcons x74 (.rcons .emptyL x75)))) 0) (.c 1)) (
 .split (.sel (.app 25 (.rcons (.c 0) (.rcons x74 (.rcons .emptyL x75)))) 1) (
 .split (.eql (.c 0) (.sel x72 4)) (
 .split (.eql (.sel (.app 0 (.rcons (.c 0) .rnil)) 0) (.c 1)) (
 .leaf (.done 0 [(.bc true)])) (
 .leaf .stuck)) (
 .leaf (.done 0 [(.bc false)]))) (
 .leaf (.done 0 [(.bc false)]))) (
 .leaf .stuck)) (
 .leaf .stuck)) (
 .split x77 (
 .split (.sel (.app 25 (.rcons (.c 0) (.rcons x74 (.rcons .emptyL x76)))) 1) (
 .leaf (.done 0 [(.bc false)])) (
 .leaf (.done 0 [(.bc false)]))) (
 .leaf .stuck))) (
 .leaf .stuck)) (
 .split x77 (
 .split (.sel (.app 25 (.rcons (.c 0) (.rcons x74 (.rcons .emptyL x76)))) 1) (
 .split (.eql (.c 0) (.sel (.app 18 x65) 2)) (
 .split (.eql (.sel (.app 0 (.rcons (.c 0) .rnil)) 0) (.c 1)) (
 .leaf (.done 0 [(.bc true)])) (
 .leaf .stuck)) (
 .leaf (.done 0 [(.bc false)]))) (
 .leaf (.done 0 [(.bc false)]))) (
 .leaf .stuck))) (
 .leaf (.done 0 [(.bc false)]))) (
 .leaf (.done 0 [(.bc false)]))) (
 .split (.eql (.lenL (.var 6)) (.c 1)) (
 .split x68 (
 .split x69 (
 .split x70 (
 .split x71 (
 .split (.sel (.app 22 x66) 1) (
 .split x73 (
 .split (.eql (.sel (.app 25 (.rcons (.c 0) (.rcons x74 (.rcons x78 x75)))) 0) (.c 1)) (
 .split (.sel (.app 25 (.rcons (.c 0) (.rcons x74 (.rcons x78 x75)))) 1) (
 .split (.eql (.c 0) (.sel x72 4)) (
 .split (.eql (.sel (.app 0 (.rcons (.c 0) .rnil)) 0) (.c 1)) (
 .leaf (.done 0 [(.bc true)])) (
 .leaf .stuck)) (
 .leaf (.done 0 [(.bc false)]))) (
 .leaf (.done 0 [(.bc false)]))) (
 .leaf .stuck)) (
 .leaf .stuck)) (
 .split (.eql (.sel (.app 25 (.rcons (.c 0) (.rcons x74 (.rcons x78 x76)))) 0) (.c 1)) (
 .split (.sel (.app 25 (.rcons (.c 0) (.rcons x74 (.rcons x78 x76)))) 1) (
 .leaf (.done 0 [(.bc false)])) (
 .leaf (.done 0 [(.bc false)]))) (
 .leaf .stuck))) (
 .leaf .stuck)) (
 .split (.eql (.sel (.app 25 (.rcons (.c 0) (.rcons x74 (.rcons x78 x76)))) 0) (.c 1)) (
 .split (.sel (.app 25 (.rcons (.c 0) (.rcons x74 (.rcons x78 x76)))) 1) (
 .split (.eql (.c 0) (.sel (.app 18 x65) 2)) (
 .split (.eql (.sel (.app 0 (.rcons (.c 0) .rnil)) 0) (.c 1)) (
 .leaf (.done 0 [(.bc true)])) (
 .leaf .stuck)) (
 .leaf (.done 0 [(.bc false)]))) (
 .leaf (.done 0 [(.bc false)]))) (
 .leaf .stuck))) (
 .leaf (.done 0 [(.bc false)]))) (
 .leaf (.done 0 [(.bc false)]))) (
 .split (.eql (.lenL (.var 6)) (.c 2)) (
 .split x68 (
 .split x69 (
 .split x70 (
 .split x71 (
 .split (.sel (.app 22 x66) 1) (
 .split x73 (
 .split (.eql (.sel x79 0) (.c 1)) (
 .split (.sel x79 1) (
 .split (.eql (.c 0) (.sel x72 4)) (
 .split (.eql (.sel (.app 0 (.rcons (.c 0) .rnil)) 0) (.c 1)) (
 .leaf (.done 0 [(.bc true)])) (
 .leaf .stuck)) (
 .leaf (.done 0 [(.bc false)]))) (
 .leaf (.done 0 [(.bc false)]))) (
 .leaf .stuck)) (
 .leaf .stuck)) (
 .split (.eql (.sel x80 0) (.c 1)) (
 .split (.sel x80 1) (
 .leaf (.done 0 [(.bc false)])) (
 .leaf (.done 0 [(.bc false)]))) (
 .leaf .stuck))) (
 .leaf .stuck)) (
 .split (.eql (.sel x80 0) (.c 1)) (
 .split (.sel x80 1) (
 .split (.eql (.c 0) (.sel (.app 18 x65) 2)) (
 .split (.eql (.sel (.app 0 (.rcons (.c 0) .rnil)) 0) (.c 1)) (
 .leaf (.done 0 [(.bc true)])) (
 .leaf .stuck)) (
 .leaf (.done 0 [(.bc false)]))) (
 .leaf (.done 0 [(.bc false)]))) (
 .leaf .stuck))) (
 .leaf (.done 0 [(.bc false)]))) (
 .leaf (.done 0 [(.bc false)]))) (
 .split (.eql (.lenL (.var 6)) (.c 3)) (
 .split x68 (
 .split x69 (
 .split x70 (
 .split x71 (
 .split (.sel (.app 22 x66) 1) (
 .split x73 (
 .split (.eql (.sel (.app 25 (.rcons (.c 0) (.rcons x74 (.rcons x81 x75)))) 0) (.c 1)) (
 .split (.sel (.app 25 (.rcons (.c 0) (.rcons x74 (.rcons x81 x75)))) 1) (
 .split (.eql (.c 0) (.sel x72 4)) (
 .split (.eql (.sel (.app 0 (.rcons (.c 0) .rnil)) 0) (.c 1)) (
 .leaf (.done 0 [(.bc true)])) (
 .leaf .stuck)) (
 .leaf (.done 0 [(.bc false)]))) (
 .leaf (.done 0 [(.bc false)]))) (
 .leaf .stuck)) (
 .leaf .stuck)) (
 .split (.eql (.sel (.app 25 (.rcons (.c 0) (.rcons x74 (.rcons x81 x76)))) 0) (.c 1)) (
 .split (.sel (.app 25 (.rcons (.c 0) (.rcons x74 (.rcons x81 x76)))) 1) (
 .leaf (.done 0 [(.bc false)])) (
 .leaf (.done 0 [(.bc false)]))) (
 .leaf .stuck))) (
 .leaf .stuck)) (
 .split (.eql (.sel (.app 25 (.rcons (.c 0) (.rcons x74 (.rcons x81 x76)))) 0) (.c 1)) (
 .split (.sel (.app 25 (.rcons (.c 0) (.rcons x74 (.rcons x81 x76)))) 1) (
 .split (.eql (.c 0) (.sel (.app 18 x65) 2)) (
 .split (.eql (.sel (.app 0 (.rcons (.c 0) .rnil)) 0) (.c 1)) (
 .leaf (.done 0 [(.bc true)])) (
 .leaf .stuck)) (
 .leaf (.done 0 [(.bc false)]))) (
 .leaf (.done 0 [(.bc false)]))) (
 .leaf .stuck))) (
 .leaf (.done 0 [(.bc false)]))) (
 .leaf (.done 0 [(.bc false)]))) (
 .split (.eql (.lenL (.var 6)) (.c 4)) (
 .split x68 (
 .split x69 (
 .split x70 (
 .split x71 (
 .split (.sel (.app 22 x66) 1) (
 .split x73 (
 .split (.eql (.sel x82 0) (.c 1)) (
 .split (.sel x82 1) (
 .split (.eql (.c 0) (.sel x72 4)) (
 .split (.eql (.sel (.app 0 (.rcons (.c 0) .rnil)) 0) (.c 1)) (
 .leaf (.done 0 [(.bc true)])) (
 .leaf .stuck)) (
 .leaf (.done 0 [(.bc false)]))) (
 .leaf (.done 0 [(.bc false)]))) (
 .leaf .stuck)) (
 .leaf .stuck)) (
 .split (.eql (.sel x83 0) (.c 1)) (
 .split (.sel x83 1) (
 .leaf (.done 0 [(.bc false)])) (
 .leaf (.done 0 [(.bc false)]))) (
 .leaf .stuck))) (
 .leaf .stuck)) (
 .split (.eql (.sel x83 0) (.c 1)) (
 .split (.sel x83 1) (
 .split (.eql (.c 0) (.sel (.app 18 x65) 2)) (
 .split (.eql (.sel (.app 0 (.rcons (.c 0) .rnil)) 0) (.c 1)) (
 .leaf (.done 0 [(.bc true)])) (
 .leaf .stuck)) (
 .leaf (.done 0 [(.bc false)]))) (
 .leaf (.done 0 [(.bc false)]))) (
 .leaf .stuck))) (
 .leaf (.done 0 [(.bc false)]))) (
 .leaf (.done 0 [(.bc false)]))) (
 .leaf .stuck)))))) (
 .leaf .stuck))) (
 .split x68 (
 .split x69 (
 .split x70 (
 .split x71 (
 .split (.sel (.app 22 x66) 1) (
 .split x73 (
 .split (.eql (.sel x84 0) (.c 1)) (
 .split (.sel x84 1) (
 .split (.eql (.sel x67 6) (.sel x72 4)) (
 .split (.eql (.sel (.app 0 (.rcons (.c 0) .rnil)) 0) (.c 1)) (
 .leaf (.done 0 [(.bc true)])) (
 .leaf .stuck)) (
 .leaf (.done 0 [(.bc false)]))) (
 .leaf (.done 0 [(.bc false)]))) (
 .leaf .stuck)) (
 .leaf .stuck)) (
 .split x86 (
 .split (.sel x85 1) (
 .split (.eql (.sel x67 6) (.c 492)) (
 .split (.eql (.sel (.app 0 (.rcons (.c 0) .rnil)) 0) (.c 1)) (
 .leaf (.done 0 [(.bc true)])) (
 .leaf .stuck)) (
 .leaf (.done 0 [(.bc false)]))) (
 .leaf (.done 0 [(.bc false)]))) (
 .leaf .stuck))) (
 .leaf .stuck)) (
 .split x86 (
 .split (.sel x85 1) (
 .split (.eql (.sel x67 6) (.sel (.app 18 x65) 2)) (
 .split (.eql (.sel (.app 0 (.rcons (.c 0) .rnil)) 0) (.c 1)) (
 .leaf (.done 0 [(.bc true)])) (
 .leaf .stuck)) (
 .leaf (.done 0 [(.bc false)]))) (
 .leaf (.done 0 [(.bc false)]))) (
 .leaf .stuck))) (
 .leaf (.done 0 [(.bc false)]))) (
 .leaf (.done 0 [(.bc false)])))) (
 .leaf .stuck)) (
 .split x68 (
 .split x69 (
 .split x70 (
 .split x71 (
 .split (.sel (.app 22 x66) 1) (
 .split x73 (
 .split (.eql (.sel x84 0) (.c 1)) (
 .split (.sel x84 1) (
 .split (.eql (.c 492) (.sel x72 4)) (
 .split (.eql (.sel (.app 0 (.rcons (.c 0) .rnil)) 0) (.c 1)) (
 .leaf (.done 0 [(.bc true)])) (
 .leaf .stuck)) (
 .leaf (.done 0 [(.bc false)]))) (
 .leaf (.done 0 [(.bc false)]))) (
 .leaf .stuck)) (
 .leaf .stuck)) (
 .split x86 (
 .split (.sel x85 1) (
 .split (.eql (.sel (.app 0 (.rcons (.c 0) .rnil)) 0) (.c 1)) (
 .leaf (.done 0 [(.bc true)])) (
 .leaf .stuck)) (
 .leaf (.done 0 [(.bc false)]))) (
 .leaf .stuck))) (
 .leaf .stuck)) (
 .split x86 (
 .split (.sel x85 1) (
 .split (.eql (.c 492) (.sel (.app 18 x65) 2)) (
 .split (.eql (.sel (.app 0 (.rcons (.c 0) .rnil)) 0) (.c 1)) (
 .leaf (.done 0 [(.bc true)])) (
 .leaf .stuck)) (
 .leaf (.done 0 [(.bc false)]))) (
 .leaf (.done 0 [(.bc false)]))) (
 .leaf .stuck))) (
 .leaf (.done 0 [(.bc false)]))) (
 .leaf (.done 0 [(.bc false)])))) (
 .leaf .stuck)) (
 .split x68 (
 .split x69 (
 .split x70 (
 .split x71 (
 .split (.sel (.app 22 x66) 1) (
 .split x73 (
 .split (.eql (.sel x84 0) (.c 1)) (
 .split (.sel x84 1) (
 .split (.eql (.sel (.app 10 x65) 2) (.sel x72 4)) (
 .split (.eql (.sel (.app 0 (.rcons (.c 0) .rnil)) 0) (.c 1)) (
 .leaf (.done 0 [(.bc true)])) (
 .leaf .stuck)) (
 .leaf (.done 0 [(.bc false)]))) (
 .leaf (.done 0 [(.bc false)]))) (
 .leaf .stuck)) (
 .leaf .stuck)) (
 .split x86 (
 .split (.sel x85 1) (
 .split (.eql (.sel (.app 10 x65) 2) (.c 492)) (
 .split (.eql (.sel (.app 0 (.rcons (.c 0) .rnil)) 0) (.c 1)) (
 .leaf (.done 0 [(.bc true)])) (
 .leaf .stuck)) (
 .leaf (.done 0 [(.bc false)]))) (
 .leaf (.done 0 [(.bc false)]))) (
 .leaf .stuck))) (
 .leaf .stuck)) (
 .split x86 (
 .split (.sel x85 1) (
 .split (.eql (.sel (.app 0 (.rcons (.c 0) .rnil)) 0) (.c 1)) (
 .leaf (.done 0 [(.bc true)])) (
 .leaf .stuck)) (
 .leaf (.done 0 [(.bc false)]))) (
 .leaf .stuck))) (
 .leaf (.done 0 [(.bc false)]))) (
 .leaf (.done 0 [(.bc false)])))) (
 .leaf .stuck)) (
 .leaf .stuck))))))))))
def t26 : List (Tr Plf) := [t26p0]
def ts : List (List (Tr Plf)) := [t0, t1, t2, t3, t4, t5, t6, t7, t8, t9, t10, t11, t12, t13, t14, t15, t16, t17, t18, t19, t20, t21, t22, t23, t24, t25, t26]
end Cv
