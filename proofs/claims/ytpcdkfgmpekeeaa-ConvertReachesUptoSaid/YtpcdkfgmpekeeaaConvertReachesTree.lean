/- What is stated: the trees of tests of the functions that the law ConvertReaches reaches, as data. Conditions: none. -/
import Derived.Test.YtpcdkfgmpekeeaaBeF
set_option linter.unusedVariables false
set_option linter.unusedSectionVars false
namespace Ch
open Go.AE
def x0 : SE := (.lss (.var 2) (.lenL (.var 0)))
def x1 : SE := (.cell (.var 0) (.var 2) 0)
def x2 : SE := (.arith .add .i64 (.var 2) (.c 1))
def x3 : SE := (.lss (.var 1) (.lenL (.var 0)))
def x4 : SE := (.cell (.var 0) (.var 1) 0)
def x5 : SE := (.arith .add .i64 (.var 1) (.c 1))
def x6 : SE := (.lss (.var 1) (.lenL (.var 4)))
def x7 : SE := (.app 2 (.rcons (.c 0) (.rcons (.var 4) (.rcons (.cell (.var 4) (.var 1) 0) .rnil))))
def x8 : SE := (.app 4 (.rcons (.c 0) (.rcons (.var 3) (.rcons (.cell (.var 3) (.var 1) 0) .rnil))))
def x9 : SE := (.cell (.var 0) (.var 1) 1)
def x10 : SE := (.cell (.var 5) (.var 1) 2)
def x11 : SE := (.app 4 (.rcons (.c 0) (.rcons (.var 3) (.rcons (.cell (.var 5) (.var 1) 0) .rnil))))
def x12 : SE := (.app 2 (.rcons (.c 0) (.rcons (.var 4) (.rcons (.cell (.var 5) (.var 1) 5) .rnil))))
def x13 : SE := (.app 4 (.rcons (.c 0) (.rcons (.var 3) (.rcons (.cell (.var 5) (.var 1) 1) .rnil))))
def x14 : SE := (.cell (.var 5) (.var 1) 3)
def x15 : SE := (.cell (.var 5) (.var 1) 4)
def x16 : SE := (.cell (.var 5) (.var 1) 6)
def x17 : SE := (.cell (.var 5) (.var 1) 7)
def x18 : SE := (.cell (.var 5) (.var 1) 8)
def x19 : SE := (.app 6 (.rcons (.c 0) (.rcons (.sub (.var 5) (.c 0) (.var 1)) (.rcons (.cell (.var 5) (.var 1) 0) (.rcons (.cell (.var 5) (.var 1) 1) (.rcons x10 (.rcons x14 (.rcons x15 (.rcons (.cell (.var 5) (.var 1) 5) (.rcons x16 (.rcons x17 (.rcons x18 .rnil))))))))))))
def x20 : SE := (.rcons (.var 3) (.rcons (.var 4) (.rcons (.var 5) (.rcons (.var 6) (.rcons (.var 7) .rnil)))))
def x21 : SE := (.mIdx [(.int .i64), (.int .i64), (.int .i64), (.int .i64), (.int .i64)] (.var 2) x20)
def x22 : SE := (.lss (.lenL (.var 0)) (.c 1048576))
def x23 : SE := (.app 10 (.rcons (.c 0) (.rcons (.var 7) .rnil)))
def x24 : SE := (.snoc (.snoc .emptyL (.rcons (.var 1) .rnil)) (.rcons (.var 2) .rnil))
def x25 : SE := (.rcons (.snoc (.snoc x24 (.rcons (.var 3) .rnil)) (.rcons (.var 4) .rnil)) .rnil)
def x26 : SE := (.app 12 (.rcons (.c 0) (.rcons (.bc true) (.rcons (.sel x23 1) (.rcons (.sel x23 2) (.rcons .emptyL .rnil))))))
def x27 : SE := (.app 12 (.rcons (.c 0) (.rcons (.bc true) (.rcons (.sel x23 1) (.rcons (.sel x23 2) (.rcons (.snoc .emptyL (.rcons (.var 1) .rnil)) .rnil))))))
def x28 : SE := (.app 12 (.rcons (.c 0) (.rcons (.bc true) (.rcons (.sel x23 1) (.rcons (.sel x23 2) (.rcons x24 .rnil))))))
def x29 : SE := (.app 12 (.rcons (.c 0) (.rcons (.bc true) (.rcons (.sel x23 1) (.rcons (.sel x23 2) (.rcons (.snoc x24 (.rcons (.var 3) .rnil)) .rnil))))))
def x30 : SE := (.app 12 (.rcons (.c 0) (.rcons (.bc true) (.rcons (.sel x23 1) (.rcons (.sel x23 2) x25)))))
def x31 : SE := (.app 9 (.rcons (.c 0) (.rcons (.var 1) (.rcons (.var 2) (.rcons (.var 3) .rnil)))))
def x32 : SE := (.app 15 (.rcons (.c 0) (.rcons (.var 0) (.rcons (.var 1) (.rcons (.var 2) (.rcons (.var 8) .rnil))))))
def x33 : SE := (.app 9 (.rcons (.c 0) (.rcons (.var 1) (.rcons (.var 2) (.rcons (.var 8) .rnil)))))
def x34 : SE := (.rcons (.c 0) (.rcons (.var 0) (.rcons (.var 1) (.rcons (.var 2) (.rcons (.var 3) (.rcons (.var 4) (.rcons (.var 5) (.rcons (.var 6) (.rcons (.var 7) (.rcons (.var 8) .rnil))))))))))
def x35 : SE := (.app 16 (.rcons (.c 0) (.rcons (.bc true) (.rcons (.var 14) (.rcons (.var 13) (.rcons (.cell (.var 2) (.var 3) 0) (.rcons (.cell (.var 2) (.var 3) 1) (.rcons (.cell (.var 2) (.var 3) 2) (.rcons (.cell (.var 2) (.var 3) 3) (.rcons (.cell (.var 2) (.var 3) 4) (.rcons (.cell (.var 2) (.var 3) 5) (.rcons (.cell (.var 2) (.var 3) 6) (.rcons (.cell (.var 2) (.var 3) 7) (.rcons (.cell (.var 2) (.var 3) 8) .rnil))))))))))))))
def x36 : SE := (.arith .add .i64 (.var 3) (.c 1))
def x37 : SE := (.app 16 (.rcons (.c 0) (.rcons (.var 0) (.rcons (.var 1) (.rcons (.var 2) (.rcons (.var 3) (.rcons (.var 4) (.rcons (.var 5) (.rcons (.var 6) (.rcons (.var 7) (.rcons (.var 8) (.rcons (.var 9) (.rcons (.var 10) (.rcons (.var 11) .rnil))))))))))))))
def x38 : SE := (.rcons (.cell (.var 8) (.var 9) 0) (.rcons (.cell (.var 8) (.var 9) 1) (.rcons (.cell (.var 8) (.var 9) 2) (.rcons (.cell (.var 8) (.var 9) 3) (.rcons (.cell (.var 8) (.var 9) 4) (.rcons (.cell (.var 8) (.var 9) 5) (.rcons (.cell (.var 8) (.var 9) 6) (.rcons (.cell (.var 8) (.var 9) 7) (.rcons (.cell (.var 8) (.var 9) 8) .rnil)))))))))
def x39 : SE := (.app 19 (.rcons (.c 0) (.rcons (.var 6) (.rcons (.cell (.var 8) (.var 9) 1) .rnil))))
def x40 : SE := (.app 20 (.rcons (.c 0) (.rcons (.bc true) (.rcons (.sel (.app 13 x34) 3) (.rcons (.sel (.app 13 x34) 2) x38)))))
def x41 : SE := (.app 21 (.rcons (.c 0) (.rcons .nilL (.rcons (.bc true) (.rcons (.cat .emptyL (.sel x40 2)) (.rcons (.and (.bc false) (.eql (.lenL (.sel x40 2)) (.c 0))) .rnil))))))
def x42 : SE := (.sel (.app 21 (.rcons (.c 0) (.rcons .nilL (.rcons (.bc true) (.rcons (.cat .emptyL (.sel x40 2)) (.rcons (.bc false) .rnil)))))) 1)
def x43 : SE := (.app 17 (.rcons (.c 0) (.rcons (.var 0) (.rcons (.var 1) (.rcons (.var 2) (.rcons (.var 3) (.rcons (.var 4) (.rcons (.var 8) (.rcons (.var 9) (.rcons (.var 10) (.rcons (.var 11) .rnil)))))))))))
def x44 : SE := (.app 22 (.rcons (.c 0) (.rcons (.var 11) (.rcons (.var 12) (.rcons (.var 13) (.rcons (.var 14) (.rcons (.var 15) (.rcons (.var 7) (.rcons (.var 8) (.rcons (.var 9) (.rcons (.var 10) (.rcons (.cell (.var 0) (.var 3) 0) .rnil))))))))))))
def x45 : SE := (.app 8 (.rcons (.c 0) (.rcons (.var 4) (.rcons (.var 5) (.rcons (.var 6) (.rcons (.sel x44 1) (.rcons (.sel x44 2) (.rcons (.sel x44 3) (.rcons (.sel x44 4) (.rcons (.sel x44 5) .rnil))))))))))
def x46 : SE := (.app 8 (.rcons (.c 0) (.rcons (.var 8) (.rcons (.var 9) (.rcons (.var 10) (.rcons (.cell (.var 1) (.var 3) 0) (.rcons (.cell (.var 1) (.var 3) 1) (.rcons (.cell (.var 1) (.var 3) 2) (.rcons (.cell (.var 1) (.var 3) 3) (.rcons (.cell (.var 1) (.var 3) 4) .rnil))))))))))
def x47 : SE := (.app 23 (.rcons (.c 0) (.rcons (.cell (.var 7) (.var 1) 0) (.rcons (.cell (.var 7) (.var 1) 1) (.rcons (.cell (.var 7) (.var 1) 2) (.rcons (.cell (.var 7) (.var 1) 3) (.rcons (.cell (.var 7) (.var 1) 4) (.rcons (.var 7) (.rcons (.var 8) (.rcons (.var 9) (.rcons (.var 3) (.rcons (.var 4) (.rcons (.var 5) (.rcons (.var 6) .rnil))))))))))))))
def x48 : SE := (.cell (.var 6) (.var 0) 0)
def x49 : SE := (.rcons (.var 0) (.rcons (.var 1) (.rcons (.var 2) (.rcons (.var 3) .rnil))))
def x50 : SE := (.app 3 (.rcons (.c 0) (.rcons (.lenL (.var 2)) (.rcons (.c 0) (.rcons (.c 4) x49)))))
def x51 : SE := (.app 5 (.rcons (.c 0) (.rcons (.lenL (.var 1)) (.rcons (.c 1) (.rcons (.c 24) x49)))))
def x52 : SE := (.app 7 (.rcons (.c 0) (.rcons (.lenL (.var 3)) (.rcons (.c 0) (.rcons (.c 80) x49)))))
def x53 : SE := (.app 24 (.rcons (.c 0) (.rcons (.snoc .emptyL (.rcons (.c 0) (.rcons (.c 0) (.rcons (.c 0) (.rcons (.c 0) (.rcons (.c 0) .rnil)))))) (.rcons (.bc false) (.rcons (.c 2000) x49)))))
def x54 : SE := (.app 25 (.rcons (.c 0) (.rcons (.cell (.var 2) (.var 5) 0) (.rcons (.cell (.var 2) (.var 5) 1) (.rcons (.cell (.var 2) (.var 5) 2) (.rcons (.cell (.var 2) (.var 5) 3) (.rcons (.cell (.var 2) (.var 5) 4) (.rcons (.var 6) (.rcons (.var 7) (.rcons (.var 8) (.rcons (.var 9) .rnil)))))))))))
def x55 : SE := (.arith .add .i64 (.var 5) (.c 1))
def x56 : SE := (.strAt (.var 0) (.var 1))
def x57 : SE := (.app 29 (.rcons (.c 0) (.rcons (.var 0) (.rcons (.var 1) (.rcons (.var 2) (.rcons (.var 3) (.rcons (.cell (.var 3) (.var 4) 0) .rnil)))))))
def x58 : SE := (.app 29 (.rcons (.c 0) (.rcons (.var 0) (.rcons (.var 1) (.rcons (.var 2) (.rcons (.var 3) (.rcons (.cell (.var 3) (.var 4) 1) .rnil)))))))
def x59 : SE := (.cell (.var 3) (.var 4) 6)
def x60 : SE := (.cell (.var 3) (.var 4) 7)
def x61 : SE := (.cell (.var 3) (.var 4) 8)
def x62 : SE := (.app 28 (.rcons (.c 0) (.rcons (.var 0) (.rcons (.var 1) (.rcons (.var 2) (.rcons (.var 3) (.rcons (.cell (.var 3) (.var 4) 5) .rnil)))))))
def x63 : SE := (.app 28 (.rcons (.c 0) (.rcons (.var 1) (.rcons (.var 2) (.rcons (.var 3) (.rcons (.var 4) (.rcons (.cell (.var 3) (.var 0) 0) .rnil)))))))
def x64 : SE := (.arith .add .i64 (.var 0) (.c 1))
def x65 : SE := (.app 29 (.rcons (.c 0) (.rcons (.var 1) (.rcons (.var 2) (.rcons (.var 3) (.rcons (.var 4) (.rcons (.cell (.var 2) (.var 0) 0) .rnil)))))))
def x66 : SE := (.app 30 (.rcons (.c 0) (.rcons (.var 1) (.rcons (.var 2) (.rcons (.var 3) (.rcons (.var 4) (.rcons (.var 0) .rnil)))))))
def x67 : SE := (.app 32 (.rcons (.c 0) (.rcons (.var 4) (.rcons (.var 5) (.rcons (.var 6) (.rcons (.var 7) (.rcons (.cell (.var 7) (.var 2) 5) .rnil)))))))
def x68 : SE := (.cell (.var 0) (.var 2) 1)
def x69 : SE := (.app 34 (.rcons (.c 0) (.rcons x1 (.rcons x68 (.rcons (.var 4) (.rcons (.var 3) (.rcons (.var 5) .rnil)))))))
def x70 : SE := (.app 32 (.rcons (.c 0) (.rcons (.var 3) (.rcons (.var 4) (.rcons (.var 5) (.rcons (.var 6) (.rcons (.cell (.var 6) (.var 2) 5) .rnil)))))))
def x71 : SE := (.app 36 (.rcons (.c 0) (.rcons (.var 3) (.rcons (.var 4) (.rcons (.var 5) (.rcons (.var 6) (.rcons x1 (.rcons x68 .rnil))))))))
def x72 : SE := (.cell (.var 3) (.var 5) 0)
def x73 : SE := (.app 32 (.rcons (.c 0) (.rcons (.var 6) (.rcons (.var 7) (.rcons (.var 8) (.rcons (.var 9) (.rcons (.cell (.var 9) x72 5) .rnil)))))))
def x74 : SE := (.and (.bc true) (.eql (.lenL x68) (.c 0)))
def x75 : SE := (.app 35 (.rcons (.c 0) (.rcons (.var 0) (.rcons (.var 1) (.rcons (.cell (.var 9) x72 1) (.rcons (.cat .nilL x68) (.rcons x74 .rnil)))))))
def x76 : SE := (.upd (.cat .nilL x68) (.sel x73 1) 0 (.arith .add .i64 (.cell (.cat .nilL x68) (.sel x73 1) 0) (.cell (.var 9) x72 8)))
def x77 : SE := (.app 35 (.rcons (.c 0) (.rcons (.var 0) (.rcons (.var 1) (.rcons (.cell (.var 9) x72 1) (.rcons x76 (.rcons x74 .rnil)))))))
def x78 : SE := (.app 26 (.rcons (.c 0) x49))
def x79 : SE := (.app 37 (.rcons (.c 0) x49))
def x80 : SE := (.app 38 (.rcons (.c 0) (.rcons (.cell (.var 0) (.var 4) 0) (.rcons (.cell (.var 0) (.var 4) 1) (.rcons (.cell (.var 2) (.var 4) 0) (.rcons (.cell (.var 2) (.var 4) 1) .rnil))))))
def t0p0 : Tr Plf :=
 .leaf (.done 0 [])
def t0 : List (Tr Plf) := [t0p0]
def t1p0 : Tr Plf :=
 .split (.lss (.lenS (.var 0)) (.c 1)) (
 .leaf (.done 0 [(.bc false)])) (
 .split (.lss (.c 32) (.lenS (.var 0))) (
 .leaf (.done 0 [(.bc false)])) (
 .leaf (.next 1 [(.bytes (.var 0)), (.lenL (.bytes (.var 0))), (.c 0)])))
def t1p1 : Tr Plf :=
 .split (.lss (.var 2) (.var 1)) (
 .split (.lss (.var 2) (.c 0)) (
 .leaf .stuck) (
 .split x0 (
 .split (.lss (.conv .u8 x1) (.c 97)) (
 .split (.lss (.conv .u8 x1) (.c 65)) (
 .split (.eql (.var 2) (.c 0)) (
 .leaf (.done 0 [(.bc false)])) (
 .split (.lss (.conv .u8 x1) (.c 48)) (
 .leaf (.done 0 [(.bc false)])) (
 .split (.lss (.c 57) (.conv .u8 x1)) (
 .leaf (.done 0 [(.bc false)])) (
 .leaf (.next 1 [(.var 0), (.var 1), x2]))))) (
 .split (.lss (.c 90) (.conv .u8 x1)) (
 .split (.eql (.var 2) (.c 0)) (
 .leaf (.done 0 [(.bc false)])) (
 .split (.eql (.conv .u8 x1) (.c 95)) (
 .leaf (.next 1 [(.var 0), (.var 1), x2])) (
 .leaf (.done 0 [(.bc false)])))) (
 .leaf (.next 1 [(.var 0), (.var 1), x2])))) (
 .split (.lss (.c 122) (.conv .u8 x1)) (
 .split (.eql (.var 2) (.c 0)) (
 .leaf (.done 0 [(.bc false)])) (
 .leaf (.done 0 [(.bc false)]))) (
 .leaf (.next 1 [(.var 0), (.var 1), x2])))) (
 .leaf .stuck))) (
 .leaf (.done 0 [(.bc true)]))
def t1 : List (Tr Plf) := [t1p0, t1p1]
def t2p0 : Tr Plf :=
 .leaf (.next 1 [(.var 0), (.c 0), (.var 1)])
def t2p1 : Tr Plf :=
 .split x3 (
 .split (.lss (.var 1) (.c 0)) (
 .leaf .stuck) (
 .split (.eqSS x4 (.var 2)) (
 .leaf (.done 0 [(.var 1)])) (
 .leaf (.next 1 [(.var 0), x5, (.var 2)])))) (
 .leaf (.done 0 [(.c (-1))]))
def t2 : List (Tr Plf) := [t2p0, t2p1]
def t3p0 : Tr Plf :=
 .split (.lss (.var 0) (.var 1)) (
 .leaf (.done 0 [(.c 0)])) (
 .split (.lss (.var 2) (.var 0)) (
 .leaf (.done 0 [(.var 2)])) (
 .leaf (.next 1 [(.var 0), (.c 0), (.var 3), (.var 4), (.var 5), (.var 6)])))
def t3p1 : Tr Plf :=
 .split (.lss (.var 1) (.var 0)) (
 .split (.lss (.var 1) (.c 0)) (
 .leaf .stuck) (
 .split x6 (
 .split (.eql (.sel (.app 1 (.rcons (.c 0) (.rcons (.cell (.var 4) (.var 1) 0) .rnil))) 0) (.c 1)) (
 .split (.sel (.app 1 (.rcons (.c 0) (.rcons (.cell (.var 4) (.var 1) 0) .rnil))) 1) (
 .split (.eql (.sel x7 0) (.c 1)) (
 .split (.lss (.sel x7 1) (.var 1)) (
 .leaf (.done 0 [(.var 1)])) (
 .split (.lss (.cell (.var 4) (.var 1) 1) (.c 1)) (
 .leaf (.done 0 [(.var 1)])) (
 .split (.lss (.c 1000) (.cell (.var 4) (.var 1) 1)) (
 .leaf (.done 0 [(.var 1)])) (
 .leaf (.next 1 [(.var 0), x5, (.var 2), (.var 3), (.var 4), (.var 5)]))))) (
 .leaf .stuck)) (
 .leaf (.done 0 [(.var 1)]))) (
 .leaf .stuck)) (
 .leaf .stuck))) (
 .leaf (.done 0 [(.c (-1))]))
def t3 : List (Tr Plf) := [t3p0, t3p1]
def t4p0 : Tr Plf :=
 .leaf (.next 1 [(.var 0), (.c 0), (.var 1)])
def t4p1 : Tr Plf :=
 .split x3 (
 .split (.lss (.var 1) (.c 0)) (
 .leaf .stuck) (
 .split (.eqSS x4 (.var 2)) (
 .leaf (.done 0 [(.var 1)])) (
 .leaf (.next 1 [(.var 0), x5, (.var 2)])))) (
 .leaf (.done 0 [(.c (-1))]))
def t4 : List (Tr Plf) := [t4p0, t4p1]
def t5p0 : Tr Plf :=
 .split (.lss (.var 0) (.var 1)) (
 .leaf (.done 0 [(.c 0)])) (
 .split (.lss (.var 2) (.var 0)) (
 .leaf (.done 0 [(.var 2)])) (
 .leaf (.next 1 [(.var 0), (.c 0), (.var 3), (.var 4), (.var 5), (.var 6)])))
def t5p1 : Tr Plf :=
 .split (.lss (.var 1) (.var 0)) (
 .split (.lss (.var 1) (.c 0)) (
 .leaf .stuck) (
 .split (.lss (.var 1) (.lenL (.var 3))) (
 .split (.eql (.sel (.app 1 (.rcons (.c 0) (.rcons (.cell (.var 3) (.var 1) 0) .rnil))) 0) (.c 1)) (
 .split (.sel (.app 1 (.rcons (.c 0) (.rcons (.cell (.var 3) (.var 1) 0) .rnil))) 1) (
 .split (.eql (.sel x8 0) (.c 1)) (
 .split (.lss (.sel x8 1) (.var 1)) (
 .leaf (.done 0 [(.var 1)])) (
 .split (.lss (.cell (.var 3) (.var 1) 2) (.c 0)) (
 .leaf (.done 0 [(.var 1)])) (
 .split (.lss (.c 1048576) (.cell (.var 3) (.var 1) 2)) (
 .leaf (.done 0 [(.var 1)])) (
 .leaf (.next 1 [(.var 0), x5, (.var 2), (.var 3), (.var 4), (.var 5)]))))) (
 .leaf .stuck)) (
 .leaf (.done 0 [(.var 1)]))) (
 .leaf .stuck)) (
 .leaf .stuck))) (
 .leaf (.done 0 [(.c (-1))]))
def t5 : List (Tr Plf) := [t5p0, t5p1]
def t6p0 : Tr Plf :=
 .leaf (.next 1 [(.var 0), (.c 0), (.var 1), (.var 2), (.var 3), (.var 4), (.var 5), (.var 6), (.var 7), (.var 8), (.var 9)])
def t6p1 : Tr Plf :=
 .split x3 (
 .split (.lss (.var 1) (.c 0)) (
 .leaf .stuck) (
 .split (.and (.eqSS (.var 2) x4) (.and (.eqSS (.var 3) x9) (.and (.eql (.var 4) (.cell (.var 0) (.var 1) 2)) (.and (.eqSS (.var 5) (.cell (.var 0) (.var 1) 3)) (.and (.eqSS (.var 6) (.cell (.var 0) (.var 1) 4)) (.and (.eqSS (.var 7) (.cell (.var 0) (.var 1) 5)) (.and (.eql (.var 8) (.cell (.var 0) (.var 1) 6)) (.and (.eql (.var 9) (.cell (.var 0) (.var 1) 7)) (.eql (.var 10) (.cell (.var 0) (.var 1) 8)))))))))) (
 .leaf (.done 0 [(.var 1)])) (
 .leaf (.next 1 [(.var 0), x5, (.var 2), (.var 3), (.var 4), (.var 5), (.var 6), (.var 7), (.var 8), (.var 9), (.var 10)])))) (
 .leaf (.done 0 [(.c (-1))]))
def t6 : List (Tr Plf) := [t6p0, t6p1]
def t7p0 : Tr Plf :=
 .split (.lss (.var 0) (.var 1)) (
 .leaf (.done 0 [(.c 0)])) (
 .split (.lss (.var 2) (.var 0)) (
 .leaf (.done 0 [(.var 2)])) (
 .leaf (.next 1 [(.var 0), (.c 0), (.var 3), (.var 4), (.var 5), (.var 6)])))
def t7p1 : Tr Plf :=
 .split (.lss (.var 1) (.var 0)) (
 .split (.lss (.var 1) (.c 0)) (
 .leaf .stuck) (
 .split (.lss (.var 1) (.lenL (.var 5))) (
 .split (.eql x10 (.c 1)) (
 .split (.eql (.sel x11 0) (.c 1)) (
 .split (.eql (.sel x12 0) (.c 1)) (
 .split (.lss (.sel x11 1) (.c 0)) (
 .leaf (.done 0 [(.var 1)])) (
 .split (.eql (.sel x13 0) (.c 1)) (
 .split (.lss (.sel x13 1) (.c 0)) (
 .leaf (.done 0 [(.var 1)])) (
 .split (.lss (.lenL (.var 5)) (.var 1)) (
 .leaf .stuck) (
 .split (.eql (.sel x19 0) (.c 1)) (
 .split (.lss (.sel x19 1) (.c 0)) (
 .split (.lss (.sel x11 1) (.lenL (.var 3))) (
 .split (.eql (.sel (.app 1 (.rcons (.c 0) (.rcons x14 .rnil))) 0) (.c 1)) (
 .split (.sel (.app 1 (.rcons (.c 0) (.rcons x14 .rnil))) 1) (
 .split (.eql (.sel (.app 1 (.rcons (.c 0) (.rcons x15 .rnil))) 0) (.c 1)) (
 .split (.sel (.app 1 (.rcons (.c 0) (.rcons x15 .rnil))) 1) (
 .split (.eqSS x15 (.var 2)) (
 .leaf (.done 0 [(.var 1)])) (
 .split (.eqS (.cell (.var 5) (.var 1) 5) 0 0) (
 .split (.eql x16 (.c 0)) (
 .split (.eql x17 (.c 0)) (
 .split (.eql x18 (.c 0)) (
 .leaf (.next 1 [(.var 0), x5, (.var 2), (.var 3), (.var 4), (.var 5)])) (
 .leaf (.done 0 [(.var 1)]))) (
 .leaf (.done 0 [(.var 1)]))) (
 .leaf (.done 0 [(.var 1)]))) (
 .split (.lss (.sel x12 1) (.c 0)) (
 .leaf (.done 0 [(.var 1)])) (
 .split (.lss x16 (.c 0)) (
 .leaf (.done 0 [(.var 1)])) (
 .split (.lss x17 x16) (
 .leaf (.done 0 [(.var 1)])) (
 .split (.lss x18 (.c (-1000))) (
 .leaf (.done 0 [(.var 1)])) (
 .split (.lss (.c 1000) x18) (
 .leaf (.done 0 [(.var 1)])) (
 .split (.lss (.sel x12 1) (.lenL (.var 4))) (
 .split (.lss (.cell (.var 4) (.sel x12 1) 1) x17) (
 .leaf (.done 0 [(.var 1)])) (
 .split (.lss (.arith .add .i64 x16 x18) (.c 0)) (
 .leaf (.done 0 [(.var 1)])) (
 .split (.lss (.cell (.var 4) (.sel x12 1) 1) (.arith .add .i64 x17 x18)) (
 .leaf (.done 0 [(.var 1)])) (
 .leaf (.next 1 [(.var 0), x5, (.var 2), (.var 3), (.var 4), (.var 5)]))))) (
 .leaf .stuck))))))))) (
 .leaf (.done 0 [(.var 1)]))) (
 .leaf .stuck)) (
 .leaf (.done 0 [(.var 1)]))) (
 .leaf .stuck)) (
 .leaf .stuck)) (
 .leaf (.done 0 [(.var 1)]))) (
 .leaf .stuck)))) (
 .leaf .stuck))) (
 .leaf .stuck)) (
 .leaf .stuck)) (
 .split (.eql x10 (.c 2)) (
 .split (.eql (.sel x11 0) (.c 1)) (
 .split (.eql (.sel x12 0) (.c 1)) (
 .split (.lss (.sel x11 1) (.c 0)) (
 .leaf (.done 0 [(.var 1)])) (
 .split (.eql (.sel x13 0) (.c 1)) (
 .split (.lss (.sel x13 1) (.c 0)) (
 .leaf (.done 0 [(.var 1)])) (
 .split (.lss (.lenL (.var 5)) (.var 1)) (
 .leaf .stuck) (
 .split (.eql (.sel x19 0) (.c 1)) (
 .split (.lss (.sel x19 1) (.c 0)) (
 .split (.lss (.sel x11 1) (.lenL (.var 3))) (
 .split (.eql (.sel (.app 1 (.rcons (.c 0) (.rcons x14 .rnil))) 0) (.c 1)) (
 .split (.sel (.app 1 (.rcons (.c 0) (.rcons x14 .rnil))) 1) (
 .split (.eql (.sel (.app 1 (.rcons (.c 0) (.rcons x15 .rnil))) 0) (.c 1)) (
 .split (.sel (.app 1 (.rcons (.c 0) (.rcons x15 .rnil))) 1) (
 .split (.eqSS x15 (.var 2)) (
 .leaf (.done 0 [(.var 1)])) (
 .split (.eqS (.cell (.var 5) (.var 1) 5) 0 0) (
 .split (.eql x16 (.c 0)) (
 .split (.eql x17 (.c 0)) (
 .split (.eql x18 (.c 0)) (
 .leaf (.next 1 [(.var 0), x5, (.var 2), (.var 3), (.var 4), (.var 5)])) (
 .leaf (.done 0 [(.var 1)]))) (
 .leaf (.done 0 [(.var 1)]))) (
 .leaf (.done 0 [(.var 1)]))) (
 .split (.lss (.sel x12 1) (.c 0)) (
 .leaf (.done 0 [(.var 1)])) (
 .split (.lss x16 (.c 0)) (
 .leaf (.done 0 [(.var 1)])) (
 .split (.lss x17 x16) (
 .leaf (.done 0 [(.var 1)])) (
 .split (.lss x18 (.c (-1000))) (
 .leaf (.done 0 [(.var 1)])) (
 .split (.lss (.c 1000) x18) (
 .leaf (.done 0 [(.var 1)])) (
 .split (.lss (.sel x12 1) (.lenL (.var 4))) (
 .split (.lss (.cell (.var 4) (.sel x12 1) 1) x17) (
 .leaf (.done 0 [(.var 1)])) (
 .split (.lss (.arith .add .i64 x16 x18) (.c 0)) (
 .leaf (.done 0 [(.var 1)])) (
 .split (.lss (.cell (.var 4) (.sel x12 1) 1) (.arith .add .i64 x17 x18)) (
 .leaf (.done 0 [(.var 1)])) (
 .leaf (.next 1 [(.var 0), x5, (.var 2), (.var 3), (.var 4), (.var 5)]))))) (
 .leaf .stuck))))))))) (
 .leaf (.done 0 [(.var 1)]))) (
 .leaf .stuck)) (
 .leaf (.done 0 [(.var 1)]))) (
 .leaf .stuck)) (
 .leaf .stuck)) (
 .leaf (.done 0 [(.var 1)]))) (
 .leaf .stuck)))) (
 .leaf .stuck))) (
 .leaf .stuck)) (
 .leaf .stuck)) (
 .split (.eql x10 (.c 3)) (
 .split (.eql (.sel x11 0) (.c 1)) (
 .split (.eql (.sel x12 0) (.c 1)) (
 .split (.lss (.sel x11 1) (.c 0)) (
 .leaf (.done 0 [(.var 1)])) (
 .split (.eql (.sel x13 0) (.c 1)) (
 .split (.lss (.sel x13 1) (.c 0)) (
 .leaf (.done 0 [(.var 1)])) (
 .split (.lss (.lenL (.var 5)) (.var 1)) (
 .leaf .stuck) (
 .split (.eql (.sel x19 0) (.c 1)) (
 .split (.lss (.sel x19 1) (.c 0)) (
 .split (.lss (.sel x11 1) (.lenL (.var 3))) (
 .split (.lss (.c 0) (.cell (.var 3) (.sel x11 1) 2)) (
 .split (.lss (.lenS x14) (.c 4611686018427387904)) (
 .split (.lss (.lenS x15) (.c 4611686018427387904)) (
 .split (.eqS (.strCat x14 x15) 0 0) (
 .split (.eqS (.cell (.var 5) (.var 1) 5) 0 0) (
 .split (.eql x16 (.c 0)) (
 .split (.eql x17 (.c 0)) (
 .split (.eql x18 (.c 0)) (
 .leaf (.next 1 [(.var 0), x5, (.var 2), (.var 3), (.var 4), (.var 5)])) (
 .leaf (.done 0 [(.var 1)]))) (
 .leaf (.done 0 [(.var 1)]))) (
 .leaf (.done 0 [(.var 1)]))) (
 .split (.lss (.sel x12 1) (.c 0)) (
 .leaf (.done 0 [(.var 1)])) (
 .split (.lss x16 (.c 0)) (
 .leaf (.done 0 [(.var 1)])) (
 .split (.lss x17 x16) (
 .leaf (.done 0 [(.var 1)])) (
 .split (.lss x18 (.c (-1000))) (
 .leaf (.done 0 [(.var 1)])) (
 .split (.lss (.c 1000) x18) (
 .leaf (.done 0 [(.var 1)])) (
 .split (.lss (.sel x12 1) (.lenL (.var 4))) (
 .split (.lss (.cell (.var 4) (.sel x12 1) 1) x17) (
 .leaf (.done 0 [(.var 1)])) (
 .split (.lss (.arith .add .i64 x16 x18) (.c 0)) (
 .leaf (.done 0 [(.var 1)])) (
 .split (.lss (.cell (.var 4) (.sel x12 1) 1) (.arith .add .i64 x17 x18)) (
 .leaf (.done 0 [(.var 1)])) (
 .leaf (.next 1 [(.var 0), x5, (.var 2), (.var 3), (.var 4), (.var 5)]))))) (
 .leaf .stuck)))))))) (
 .leaf (.done 0 [(.var 1)]))) (
 .leaf .stuck)) (
 .leaf .stuck)) (
 .leaf (.done 0 [(.var 1)]))) (
 .leaf .stuck)) (
 .leaf (.done 0 [(.var 1)]))) (
 .leaf .stuck)))) (
 .leaf .stuck))) (
 .leaf .stuck)) (
 .leaf .stuck)) (
 .split (.eql x10 (.c 4)) (
 .split (.eql (.sel x11 0) (.c 1)) (
 .split (.eql (.sel x12 0) (.c 1)) (
 .split (.lss (.sel x11 1) (.c 0)) (
 .leaf (.done 0 [(.var 1)])) (
 .split (.eql (.sel x13 0) (.c 1)) (
 .split (.lss (.sel x13 1) (.c 0)) (
 .leaf (.done 0 [(.var 1)])) (
 .split (.lss (.lenL (.var 5)) (.var 1)) (
 .leaf .stuck) (
 .split (.eql (.sel x19 0) (.c 1)) (
 .split (.lss (.sel x19 1) (.c 0)) (
 .split (.lss (.sel x11 1) (.lenL (.var 3))) (
 .split (.lss (.lenS x14) (.c 4611686018427387904)) (
 .split (.lss (.lenS x15) (.c 4611686018427387904)) (
 .split (.eqS (.strCat x14 x15) 0 0) (
 .split (.eqS (.cell (.var 5) (.var 1) 5) 0 0) (
 .split (.eql x16 (.c 0)) (
 .split (.eql x17 (.c 0)) (
 .split (.eql x18 (.c 0)) (
 .leaf (.next 1 [(.var 0), x5, (.var 2), (.var 3), (.var 4), (.var 5)])) (
 .leaf (.done 0 [(.var 1)]))) (
 .leaf (.done 0 [(.var 1)]))) (
 .leaf (.done 0 [(.var 1)]))) (
 .split (.lss (.sel x12 1) (.c 0)) (
 .leaf (.done 0 [(.var 1)])) (
 .split (.lss x16 (.c 0)) (
 .leaf (.done 0 [(.var 1)])) (
 .split (.lss x17 x16) (
 .leaf (.done 0 [(.var 1)])) (
 .split (.lss x18 (.c (-1000))) (
 .leaf (.done 0 [(.var 1)])) (
 .split (.lss (.c 1000) x18) (
 .leaf (.done 0 [(.var 1)])) (
 .split (.lss (.sel x12 1) (.lenL (.var 4))) (
 .split (.lss (.cell (.var 4) (.sel x12 1) 1) x17) (
 .leaf (.done 0 [(.var 1)])) (
 .split (.lss (.arith .add .i64 x16 x18) (.c 0)) (
 .leaf (.done 0 [(.var 1)])) (
 .split (.lss (.cell (.var 4) (.sel x12 1) 1) (.arith .add .i64 x17 x18)) (
 .leaf (.done 0 [(.var 1)])) (
 .leaf (.next 1 [(.var 0), x5, (.var 2), (.var 3), (.var 4), (.var 5)]))))) (
 .leaf .stuck)))))))) (
 .leaf (.done 0 [(.var 1)]))) (
 .leaf .stuck)) (
 .leaf .stuck)) (
 .leaf .stuck)) (
 .leaf (.done 0 [(.var 1)]))) (
 .leaf .stuck)))) (
 .leaf .stuck))) (
 .leaf .stuck)) (
 .leaf .stuck)) (
 .split (.eql (.sel x11 0) (.c 1)) (
 .split (.eql (.sel x12 0) (.c 1)) (
 .leaf (.done 0 [(.var 1)])) (
 .leaf .stuck)) (
 .leaf .stuck)))))) (
 .leaf .stuck))) (
 .leaf (.done 0 [(.c (-1))]))
def t7 : List (Tr Plf) := [t7p0, t7p1]
def t8p0 : Tr Plf :=
 .split (.lss x21 (.c 0)) (
 .split x22 (
 .leaf (.done 0 [(.snoc (.var 0) x20), (.bc false), (.snoc (.var 2) (.rcons (.var 3) (.rcons (.var 4) (.rcons (.var 5) (.rcons (.var 6) (.rcons (.var 7) (.rcons (.bc true) .rnil)))))))])) (
 .leaf .stuck)) (
 .split (.cell (.var 2) x21 5) (
 .leaf (.done 0 [(.var 0), (.var 1), (.var 2)])) (
 .split x22 (
 .leaf (.done 0 [(.snoc (.var 0) x20), (.bc false), (.upd (.var 2) x21 5 (.bc true))])) (
 .leaf .stuck)))
def t8 : List (Tr Plf) := [t8p0]
def t9p0 : Tr Plf :=
 .leaf (.next 1 [(.var 0), (.var 1), (.c 0), (.var 2)])
def t9p1 : Tr Plf :=
 .split x0 (
 .split (.lss (.var 2) (.c 0)) (
 .leaf .stuck) (
 .split (.eqSS x1 (.var 3)) (
 .leaf (.done 0 [(.var 2)])) (
 .leaf (.next 1 [(.var 0), (.var 1), x2, (.var 3)])))) (
 .leaf (.done 0 [(.c (-1))]))
def t9 : List (Tr Plf) := [t9p0, t9p1]
def t10p0 : Tr Plf :=
 .split (.lss (.c 4) (.lenL (.var 0))) (
 .leaf (.done 0 [])) (
 .leaf (.next 1 [(.var 0), (.c 0), .nilL, (.bc true)]))
def t10p1 : Tr Plf :=
 .split x3 (
 .split (.lss (.var 1) (.c 0)) (
 .leaf .stuck) (
 .split (.eqS x4 0 0) (
 .leaf (.done 0 [])) (
 .split (.lss x9 (.c 1)) (
 .leaf (.done 0 [])) (
 .split (.lss (.c 1000) x9) (
 .leaf (.done 0 [])) (
 .split (.eql (.sel (.app 9 (.rcons (.c 0) (.rcons (.var 2) (.rcons (.var 3) (.rcons x4 .rnil))))) 0) (.c 1)) (
 .split (.lss (.sel (.app 9 (.rcons (.c 0) (.rcons (.var 2) (.rcons (.var 3) (.rcons x4 .rnil))))) 1) (.c 0)) (
 .split (.lss (.lenL (.var 2)) (.c 1048576)) (
 .leaf (.next 1 [(.var 0), x5, (.snoc (.var 2) (.rcons x4 (.rcons x9 (.rcons (.c 0) .rnil)))), (.bc false)])) (
 .leaf .stuck)) (
 .leaf (.done 0 []))) (
 .leaf .stuck)))))) (
 .leaf (.done 1 [(.var 2), (.var 3)]))
def t10 : List (Tr Plf) := [t10p0, t10p1]
def t11p0 : Tr Plf :=
 .leaf (.done 0 [])
def t11 : List (Tr Plf) := [t11p0]
def t12p0 : Tr Plf :=
 .split (.var 0) (
 .split (.eql (.lenL (.var 3)) (.lenL (.var 1))) (
 .leaf (.next 1 [(.var 3), (.c 0), (.var 0), (.var 1), (.var 2)])) (
 .leaf (.done 0 [(.c 2), (.var 1)]))) (
 .leaf (.done 0 [(.c 1), (.var 1)]))
def t12p1 : Tr Plf :=
 .split x3 (
 .split (.lss (.var 1) (.c 0)) (
 .leaf .stuck) (
 .split (.lss x4 (.c 0)) (
 .leaf (.done 0 [(.c 3), (.var 3)])) (
 .split (.lss (.var 1) (.lenL (.var 3))) (
 .split (.lss (.cell (.var 3) (.var 1) 1) x4) (
 .leaf (.done 0 [(.c 3), (.var 3)])) (
 .leaf (.next 1 [(.var 0), x5, (.var 2), (.var 3), (.var 4)]))) (
 .leaf .stuck)))) (
 .leaf (.next 2 [(.var 0), (.lenL (.var 0)), (.c 0), (.var 2), (.var 3), (.var 4)]))
def t12p2 : Tr Plf :=
 .split (.lss (.var 2) (.var 1)) (
 .split (.lss (.var 2) (.c 0)) (
 .leaf .stuck) (
 .split x0 (
 .split (.lss (.var 2) (.lenL (.var 4))) (
 .leaf (.next 2 [(.var 0), (.var 1), x2, (.var 3), (.upd (.var 4) (.var 2) 2 x1), (.var 5)])) (
 .leaf .stuck)) (
 .leaf .stuck))) (
 .leaf (.done 0 [(.c 0), (.var 4)]))
def t12 : List (Tr Plf) := [t12p0, t12p1, t12p2]
def t13p0 : Tr Plf :=
 .split (.eql (.sel x23 0) (.c 1)) (
 .split (.eql (.lenL (.var 7)) (.c 0)) (
 .split (.eql (.sel (.app 11 (.rcons (.c 0) (.rcons .emptyL .rnil))) 0) (.c 1)) (
 .leaf (.done 0 [])) (
 .leaf .stuck)) (
 .split (.eql (.lenL (.var 7)) (.c 1)) (
 .split (.eql (.sel (.app 11 (.rcons (.c 0) (.rcons (.snoc .emptyL (.rcons (.var 1) .rnil)) .rnil))) 0) (.c 1)) (
 .leaf (.done 0 [])) (
 .leaf .stuck)) (
 .split (.eql (.lenL (.var 7)) (.c 2)) (
 .split (.eql (.sel (.app 11 (.rcons (.c 0) (.rcons x24 .rnil))) 0) (.c 1)) (
 .leaf (.done 0 [])) (
 .leaf .stuck)) (
 .split (.eql (.lenL (.var 7)) (.c 3)) (
 .split (.eql (.sel (.app 11 (.rcons (.c 0) (.rcons (.snoc x24 (.rcons (.var 3) .rnil)) .rnil))) 0) (.c 1)) (
 .leaf (.done 0 [])) (
 .leaf .stuck)) (
 .split (.eql (.lenL (.var 7)) (.c 4)) (
 .split (.eql (.sel (.app 11 (.rcons (.c 0) x25)) 0) (.c 1)) (
 .leaf (.done 0 [])) (
 .leaf .stuck)) (
 .leaf .stuck)))))) (
 .split (.eql (.sel x23 0) (.c 2)) (
 .split (.eql (.lenL (.var 7)) (.c 0)) (
 .split (.eql (.sel x26 0) (.c 1)) (
 .leaf (.done 1 [(.lenL (.sel x23 1)), (.sel x23 2), (.sel x26 2)])) (
 .leaf .stuck)) (
 .split (.eql (.lenL (.var 7)) (.c 1)) (
 .split (.eql (.sel x27 0) (.c 1)) (
 .leaf (.done 1 [(.lenL (.sel x23 1)), (.sel x23 2), (.sel x27 2)])) (
 .leaf .stuck)) (
 .split (.eql (.lenL (.var 7)) (.c 2)) (
 .split (.eql (.sel x28 0) (.c 1)) (
 .leaf (.done 1 [(.lenL (.sel x23 1)), (.sel x23 2), (.sel x28 2)])) (
 .leaf .stuck)) (
 .split (.eql (.lenL (.var 7)) (.c 3)) (
 .split (.eql (.sel x29 0) (.c 1)) (
 .leaf (.done 1 [(.lenL (.sel x23 1)), (.sel x23 2), (.sel x29 2)])) (
 .leaf .stuck)) (
 .split (.eql (.lenL (.var 7)) (.c 4)) (
 .split (.eql (.sel x30 0) (.c 1)) (
 .leaf (.done 1 [(.lenL (.sel x23 1)), (.sel x23 2), (.sel x30 2)])) (
 .leaf .stuck)) (
 .leaf .stuck)))))) (
 .leaf .stuck))
def t13 : List (Tr Plf) := [t13p0]
def t14p0 : Tr Plf :=
 .leaf (.done 0 [])
def t14 : List (Tr Plf) := [t14p0]
def t15p0 : Tr Plf :=
 .split (.var 0) (
 .split (.eql (.sel x31 0) (.c 1)) (
 .split (.lss (.sel x31 1) (.c 0)) (
 .leaf (.done 0 [(.c 0), (.c 9)])) (
 .split (.lss (.sel x31 1) (.lenL (.var 1))) (
 .leaf (.done 0 [(.cell (.var 1) (.sel x31 1) 2), (.c 0)])) (
 .leaf .stuck))) (
 .leaf .stuck)) (
 .leaf (.done 0 [(.c 0), (.c 1)]))
def t15 : List (Tr Plf) := [t15p0]
def t16p0 : Tr Plf :=
 .split (.var 0) (
 .split (.eqS (.var 8) 0 0) (
 .leaf (.done 0 [(.bc true), (.c 0)])) (
 .split (.eql (.sel x32 0) (.c 1)) (
 .split (.eql (.sel x32 2) (.c 0)) (
 .split (.eql (.sel x33 0) (.c 1)) (
 .split (.lss (.sel x33 1) (.c 0)) (
 .leaf .stuck) (
 .split (.lss (.sel x33 1) (.lenL (.var 1))) (
 .split (.lss (.sel x32 1) (.var 9)) (
 .leaf (.done 0 [(.bc false), (.c 0)])) (
 .split (.lss (.var 10) (.sel x32 1)) (
 .leaf (.done 0 [(.bc false), (.c 0)])) (
 .split (.lss (.var 11) (.arith .sub .i64 (.c 0) (.sel x32 1))) (
 .leaf (.done 0 [(.bc false), (.c 0)])) (
 .leaf (.done 0 [(.neg (.lss (.arith .sub .i64 (.cell (.var 1) (.sel x33 1) 1) (.sel x32 1)) (.var 11))), (.c 0)]))))) (
 .leaf .stuck))) (
 .leaf .stuck)) (
 .leaf (.done 0 [(.bc false), (.sel x32 2)]))) (
 .leaf .stuck))) (
 .leaf (.done 0 [(.bc false), (.c 1)]))
def t16 : List (Tr Plf) := [t16p0]
def t17p0 : Tr Plf :=
 .split (.eql (.sel (.app 13 x34) 0) (.c 1)) (
 .leaf (.next 1 [(.var 8), (.c 0), (.var 0), (.var 1), (.var 2), (.var 3), (.var 4), (.var 5), (.var 6), (.var 7)])) (
 .split (.eql (.sel (.app 13 x34) 0) (.c 2)) (
 .leaf (.next 2 [.nilL, (.bc true), (.var 8), (.c 0), (.var 0), (.var 1), (.var 2), (.var 3), (.var 4), (.var 5), (.var 6), (.var 7), (.sel (.app 13 x34) 1), (.sel (.app 13 x34) 2), (.sel (.app 13 x34) 3)])) (
 .leaf .stuck))
def t17p1 : Tr Plf :=
 .split x3 (
 .split (.lss (.var 1) (.c 0)) (
 .leaf .stuck) (
 .split (.eql (.sel (.app 14 (.rcons (.c 0) (.rcons x4 (.rcons x9 (.rcons (.cell (.var 0) (.var 1) 2) (.rcons (.cell (.var 0) (.var 1) 3) (.rcons (.cell (.var 0) (.var 1) 4) (.rcons (.cell (.var 0) (.var 1) 5) (.rcons (.cell (.var 0) (.var 1) 6) (.rcons (.cell (.var 0) (.var 1) 7) (.rcons (.cell (.var 0) (.var 1) 8) .rnil))))))))))) 0) (.c 1)) (
 .leaf (.next 1 [(.var 0), x5, (.var 2), (.var 3), (.var 4), (.var 5), (.var 6), (.var 7), (.var 8), (.var 9)])) (
 .leaf .stuck))) (
 .leaf (.done 0 [.nilL, (.bc true)]))
def t17p2 : Tr Plf :=
 .split (.lss (.var 3) (.lenL (.var 2))) (
 .split (.lss (.var 3) (.c 0)) (
 .leaf .stuck) (
 .split (.eql (.lenL (.var 14)) (.var 12)) (
 .split (.eql (.sel x35 0) (.c 1)) (
 .split (.sel x35 1) (
 .split (.lss (.var 4) (.c 0)) (
 .leaf .stuck) (
 .split (.lss (.var 4) (.lenL (.var 10))) (
 .split (.eqSS (.cell (.var 2) (.var 3) 0) (.cell (.var 10) (.var 4) 0)) (
 .split x22 (
 .leaf (.next 2 [(.snoc (.var 0) (.rcons (.var 3) .rnil)), (.bc false), (.var 2), x36, (.var 4), (.var 5), (.var 6), (.var 7), (.var 8), (.var 9), (.var 10), (.var 11), (.lenL (.var 14)), (.var 13), (.var 14)])) (
 .leaf .stuck)) (
 .leaf (.next 2 [(.var 0), (.var 1), (.var 2), x36, (.var 4), (.var 5), (.var 6), (.var 7), (.var 8), (.var 9), (.var 10), (.var 11), (.lenL (.var 14)), (.var 13), (.var 14)]))) (
 .leaf .stuck))) (
 .leaf (.next 2 [(.var 0), (.var 1), (.var 2), x36, (.var 4), (.var 5), (.var 6), (.var 7), (.var 8), (.var 9), (.var 10), (.var 11), (.lenL (.var 14)), (.var 13), (.var 14)]))) (
 .leaf .stuck)) (
 .leaf .stuck))) (
 .leaf (.done 0 [(.var 0), (.var 1)]))
def t17 : List (Tr Plf) := [t17p0, t17p1, t17p2]
def t18p0 : Tr Plf :=
 .split (.eql (.sel (.app 14 x34) 0) (.c 1)) (
 .leaf (.done 0 [])) (
 .leaf .stuck)
def t18 : List (Tr Plf) := [t18p0]
def t19p0 : Tr Plf :=
 .leaf (.next 1 [(.var 0), (.c 0), (.var 1)])
def t19p1 : Tr Plf :=
 .split x3 (
 .split (.lss (.var 1) (.c 0)) (
 .leaf .stuck) (
 .split (.eqSS x4 (.var 2)) (
 .leaf (.done 0 [(.var 1)])) (
 .leaf (.next 1 [(.var 0), x5, (.var 2)])))) (
 .leaf (.done 0 [(.c (-1))]))
def t19 : List (Tr Plf) := [t19p0, t19p1]
def t20p0 : Tr Plf :=
 .split (.eql (.sel x37 0) (.c 1)) (
 .split (.eql (.sel x37 2) (.c 0)) (
 .split (.sel x37 1) (
 .split (.eqS (.var 8) 0 0) (
 .leaf (.done 0 [(.c 0), (.var 1)])) (
 .split (.eql (.sel x33 0) (.c 1)) (
 .split (.lss (.sel x33 1) (.c 0)) (
 .leaf .stuck) (
 .split (.lss (.sel x33 1) (.lenL (.var 1))) (
 .leaf (.done 0 [(.c 0), (.upd (.var 1) (.sel x33 1) 2 (.arith .add .i64 (.cell (.var 1) (.sel x33 1) 2) (.var 11)))])) (
 .leaf .stuck))) (
 .leaf .stuck))) (
 .leaf (.done 0 [(.c 8), (.var 1)]))) (
 .leaf (.done 0 [(.sel x37 2), (.var 1)]))) (
 .leaf .stuck)
def t20 : List (Tr Plf) := [t20p0]
def t21p0 : Tr Plf :=
 .leaf (.next 1 [(.var 2), (.var 3), (.c 0), (.var 0), (.var 1)])
def t21p1 : Tr Plf :=
 .split x0 (
 .split (.lss (.var 2) (.c 0)) (
 .leaf .stuck) (
 .split (.lss (.lenL (.var 3)) (.c 1048576)) (
 .leaf (.next 1 [(.var 0), (.var 1), x2, (.snoc (.var 3) (.rcons (.cell (.var 0) (.var 2) 2) .rnil)), (.bc false)])) (
 .leaf .stuck))) (
 .leaf (.done 0 [(.var 3), (.var 4)]))
def t21 : List (Tr Plf) := [t21p0, t21p1]
def t22p0 : Tr Plf :=
 .split (.eql (.sel (.app 13 x34) 0) (.c 1)) (
 .split (.lss (.var 9) (.c 0)) (
 .leaf .stuck) (
 .split (.lss (.var 9) (.lenL (.var 8))) (
 .split (.eql (.sel (.app 18 (.rcons (.c 0) x38)) 0) (.c 1)) (
 .split (.eql (.sel x39 0) (.c 1)) (
 .leaf (.done 0 [(.sel x39 1), (.c 0), (.c 0), (.c 0), (.c 0)])) (
 .leaf .stuck)) (
 .leaf .stuck)) (
 .leaf .stuck))) (
 .split (.eql (.sel (.app 13 x34) 0) (.c 2)) (
 .split (.lss (.var 9) (.c 0)) (
 .leaf .stuck) (
 .split (.lss (.var 9) (.lenL (.var 8))) (
 .split (.eql (.lenL (.sel (.app 13 x34) 3)) (.sel (.app 13 x34) 1)) (
 .split (.eql (.sel x40 0) (.c 1)) (
 .split (.eql (.sel x39 0) (.c 1)) (
 .split (.sel (.app 13 x34) 2) (
 .leaf (.done 0 [(.sel x39 1), (.c 0), (.c 0), (.c 0), (.c 0)])) (
 .split (.eql (.lenL (.sel (.app 13 x34) 3)) (.lenL (.sel x40 2))) (
 .split (.lss (.lenL (.sel x40 2)) (.c 1048576)) (
 .split (.eql (.sel x41 0) (.c 1)) (
 .split (.lss (.lenL (.sel x41 1)) (.c 4)) (
 .split (.eql (.lenL (.sel x41 1)) (.c 0)) (
 .leaf (.done 0 [(.sel x39 1), (.c 0), (.c 0), (.c 0), (.c 0)])) (
 .split (.eql (.lenL (.sel x41 1)) (.c 1)) (
 .leaf (.done 0 [(.sel x39 1), (.cell x42 (.c 0) 0), (.c 0), (.c 0), (.c 0)])) (
 .split (.eql (.lenL (.sel x41 1)) (.c 2)) (
 .leaf (.done 0 [(.sel x39 1), (.cell x42 (.c 0) 0), (.cell x42 (.c 1) 0), (.c 0), (.c 0)])) (
 .split (.eql (.lenL (.sel x41 1)) (.c 3)) (
 .leaf (.done 0 [(.sel x39 1), (.cell x42 (.c 0) 0), (.cell x42 (.c 1) 0), (.cell x42 (.c 2) 0), (.c 0)])) (
 .leaf .stuck))))) (
 .leaf (.done 0 [(.sel x39 1), (.cell x42 (.c 0) 0), (.cell x42 (.c 1) 0), (.cell x42 (.c 2) 0), (.cell x42 (.c 3) 0)]))) (
 .leaf .stuck)) (
 .leaf .stuck)) (
 .leaf .stuck))) (
 .leaf .stuck)) (
 .leaf .stuck)) (
 .leaf .stuck)) (
 .leaf .stuck))) (
 .leaf .stuck))
def t22 : List (Tr Plf) := [t22p0]
def t23p0 : Tr Plf :=
 .split (.eql (.sel x43 0) (.c 1)) (
 .leaf (.next 1 [(.sel x43 1), (.sel x43 2), (.lenL (.sel x43 1)), (.c 0), (.var 5), (.var 6), (.var 7), (.var 8), (.var 9), (.var 10), (.var 11), (.var 0), (.var 1), (.var 2), (.var 3), (.var 4)])) (
 .leaf .stuck)
def t23p1 : Tr Plf :=
 .split (.lss (.var 3) (.var 2)) (
 .split (.lss (.var 3) (.c 0)) (
 .leaf .stuck) (
 .split (.lss (.var 3) (.lenL (.var 0))) (
 .split (.eql (.sel x44 0) (.c 1)) (
 .split (.eql (.sel x45 0) (.c 1)) (
 .leaf (.next 1 [(.var 0), (.var 1), (.var 2), x36, (.sel x45 1), (.sel x45 2), (.sel x45 3), (.var 7), (.var 8), (.var 9), (.var 10), (.var 11), (.var 12), (.var 13), (.var 14), (.var 15)])) (
 .leaf .stuck)) (
 .leaf .stuck)) (
 .leaf .stuck))) (
 .leaf (.done 0 [(.var 4), (.var 5), (.var 6)]))
def t23 : List (Tr Plf) := [t23p0, t23p1]
def t24p0 : Tr Plf :=
 .leaf (.next 1 [(.var 2), (.var 0), (.var 1), (.c 0), (.var 3), (.var 4), (.var 5), (.var 6), .nilL, (.bc true), .emptyL])
def t24p1 : Tr Plf :=
 .split (.lss (.var 3) (.lenL (.var 1))) (
 .split (.lss (.var 3) (.c 0)) (
 .leaf .stuck) (
 .split (.eql (.sel x46 0) (.c 1)) (
 .leaf (.next 1 [(.var 0), (.var 1), (.var 2), x36, (.var 4), (.var 5), (.var 6), (.var 7), (.sel x46 1), (.sel x46 2), (.sel x46 3)])) (
 .leaf .stuck))) (
 .leaf (.next 2 [(.var 0), (.c 0), (.var 1), (.var 4), (.var 5), (.var 6), (.var 7), (.var 8), (.var 9), (.var 10)]))
def t24p2 : Tr Plf :=
 .split (.lss (.var 1) (.lenL (.var 7))) (
 .split (.lss (.var 1) (.var 0)) (
 .split (.lss (.var 1) (.c 0)) (
 .leaf .stuck) (
 .split (.eql (.sel x47 0) (.c 1)) (
 .leaf (.next 2 [(.var 0), x5, (.var 2), (.var 3), (.var 4), (.var 5), (.var 6), (.sel x47 1), (.sel x47 2), (.sel x47 3)])) (
 .leaf .stuck))) (
 .leaf (.done 0 [(.var 7), (.var 8), (.lss (.var 0) (.lenL (.var 7)))]))) (
 .leaf (.done 0 [(.var 7), (.var 8), (.lss (.var 0) (.lenL (.var 7)))]))
def t24 : List (Tr Plf) := [t24p0, t24p1, t24p2]
def t25p0 : Tr Plf :=
 .split (.lss (.var 0) (.c 0)) (
 .leaf .stuck) (
 .split (.lss (.var 0) (.lenL (.var 6))) (
 .split (.eql (.lenL (.var 7)) (.c 0)) (
 .leaf (.done 0 [x48, .emptyL])) (
 .split (.eql (.lenL (.var 7)) (.c 1)) (
 .leaf (.done 0 [x48, (.snoc .emptyL (.rcons (.var 1) .rnil))])) (
 .split (.eql (.lenL (.var 7)) (.c 2)) (
 .leaf (.done 0 [x48, x24])) (
 .split (.eql (.lenL (.var 7)) (.c 3)) (
 .leaf (.done 0 [x48, (.snoc x24 (.rcons (.var 3) .rnil))])) (
 .split (.eql (.lenL (.var 7)) (.c 4)) (
 .leaf (.done 0 [x48, (.snoc (.snoc x24 (.rcons (.var 3) .rnil)) (.rcons (.var 4) .rnil))])) (
 .leaf .stuck)))))) (
 .leaf .stuck))
def t25 : List (Tr Plf) := [t25p0]
def t26p0 : Tr Plf :=
 .split (.eql (.sel (.app 1 (.rcons (.c 0) (.rcons (.var 0) .rnil))) 0) (.c 1)) (
 .split (.sel (.app 1 (.rcons (.c 0) (.rcons (.var 0) .rnil))) 1) (
 .split (.eql (.sel x50 0) (.c 1)) (
 .split (.lss (.sel x50 1) (.c 0)) (
 .split (.eql (.sel x51 0) (.c 1)) (
 .split (.lss (.sel x51 1) (.c 0)) (
 .split (.eql (.sel x52 0) (.c 1)) (
 .split (.lss (.sel x52 1) (.c 0)) (
 .split (.eql (.sel x53 0) (.c 1)) (
 .split (.sel x53 3) (
 .leaf (.done 0 [.nilL, (.bc true), (.c 7)])) (
 .leaf (.next 1 [.nilL, (.bc true), (.sel x53 1), (.sel x53 2), (.lenL (.sel x53 1)), (.c 0), (.var 0), (.var 1), (.var 2), (.var 3)]))) (
 .leaf .stuck)) (
 .leaf (.done 0 [.nilL, (.bc true), (.c 2)]))) (
 .leaf .stuck)) (
 .leaf (.done 0 [.nilL, (.bc true), (.c 2)]))) (
 .leaf .stuck)) (
 .leaf (.done 0 [.nilL, (.bc true), (.c 2)]))) (
 .leaf .stuck)) (
 .leaf (.done 0 [.nilL, (.bc true), (.c 2)]))) (
 .leaf .stuck)
def t26p1 : Tr Plf :=
 .split (.lss (.var 5) (.var 4)) (
 .split (.lss (.var 5) (.c 0)) (
 .leaf .stuck) (
 .split (.lss (.var 5) (.lenL (.var 2))) (
 .split (.eql (.sel x54 0) (.c 1)) (
 .split x22 (
 .leaf (.next 1 [(.snoc (.var 0) (.rcons (.sel x54 1) (.rcons (.nilIs (.sel x54 2) (.bc false)) .rnil))), (.bc false), (.var 2), (.var 3), (.var 4), x55, (.var 6), (.var 7), (.var 8), (.var 9)])) (
 .leaf .stuck)) (
 .leaf .stuck)) (
 .leaf .stuck))) (
 .leaf (.done 0 [(.var 0), (.var 1), (.c 0)]))
def t26 : List (Tr Plf) := [t26p0, t26p1]
def t27p0 : Tr Plf :=
 .split (.lss (.lenS (.var 0)) (.c 1)) (
 .leaf (.done 0 [(.bc false)])) (
 .split (.lss (.c 32) (.lenS (.var 0))) (
 .leaf (.done 0 [(.bc false)])) (
 .split (.eql (.strAt (.var 0) (.c 0)) (.c 95)) (
 .leaf (.done 0 [(.bc false)])) (
 .split (.lss (.strAt (.var 0) (.c 0)) (.c 48)) (
 .leaf (.next 1 [(.var 0), (.c 0)])) (
 .split (.lss (.c 57) (.strAt (.var 0) (.c 0))) (
 .leaf (.next 1 [(.var 0), (.c 0)])) (
 .leaf (.done 0 [(.bc false)]))))))
def t27p1 : Tr Plf :=
 .split (.lss (.var 1) (.lenS (.var 0))) (
 .split (.lss (.var 1) (.c 0)) (
 .leaf .stuck) (
 .split (.lss x56 (.c 97)) (
 .split (.lss x56 (.c 65)) (
 .split (.lss x56 (.c 48)) (
 .leaf (.done 0 [(.bc false)])) (
 .split (.lss (.c 57) x56) (
 .leaf (.done 0 [(.bc false)])) (
 .leaf (.next 1 [(.var 0), x5])))) (
 .split (.lss (.c 90) x56) (
 .split (.eql x56 (.c 95)) (
 .leaf (.next 1 [(.var 0), x5])) (
 .leaf (.done 0 [(.bc false)]))) (
 .leaf (.next 1 [(.var 0), x5])))) (
 .split (.lss (.c 122) x56) (
 .leaf (.done 0 [(.bc false)])) (
 .leaf (.next 1 [(.var 0), x5]))))) (
 .leaf (.done 0 [(.bc true)]))
def t27 : List (Tr Plf) := [t27p0, t27p1]
def t28p0 : Tr Plf :=
 .leaf (.next 1 [(.var 4), (.c 0), (.var 0), (.var 1), (.var 2), (.var 3)])
def t28p1 : Tr Plf :=
 .split x6 (
 .split (.lss (.var 1) (.c 0)) (
 .leaf .stuck) (
 .split (.eqSS (.cell (.var 4) (.var 1) 0) (.var 0)) (
 .leaf (.done 0 [(.var 1)])) (
 .leaf (.next 1 [(.var 0), x5, (.var 2), (.var 3), (.var 4), (.var 5)])))) (
 .leaf (.done 0 [(.c (-1))]))
def t28 : List (Tr Plf) := [t28p0, t28p1]
def t29p0 : Tr Plf :=
 .leaf (.next 1 [(.var 4), (.c 0), (.var 0), (.var 1), (.var 2), (.var 3)])
def t29p1 : Tr Plf :=
 .split (.lss (.var 1) (.lenL (.var 3))) (
 .split (.lss (.var 1) (.c 0)) (
 .leaf .stuck) (
 .split (.eqSS (.cell (.var 3) (.var 1) 0) (.var 0)) (
 .leaf (.done 0 [(.var 1)])) (
 .leaf (.next 1 [(.var 0), x5, (.var 2), (.var 3), (.var 4), (.var 5)])))) (
 .leaf (.done 0 [(.c (-1))]))
def t29 : List (Tr Plf) := [t29p0, t29p1]
def t30p0 : Tr Plf :=
 .split (.lss (.var 4) (.c 0)) (
 .leaf .stuck) (
 .split (.lss (.var 4) (.lenL (.var 3))) (
 .split (.eql (.sel x57 0) (.c 1)) (
 .split (.lss (.sel x57 1) (.c 0)) (
 .leaf (.done 0 [(.bc false)])) (
 .split (.eql (.sel x58 0) (.c 1)) (
 .split (.lss (.sel x58 1) (.c 0)) (
 .leaf (.done 0 [(.bc false)])) (
 .split (.eqS (.cell (.var 3) (.var 4) 5) 0 0) (
 .split (.eql x59 (.c 0)) (
 .split (.eql x60 (.c 0)) (
 .split (.eql x61 (.c 0)) (
 .leaf (.next 1 [(.var 4), (.sel x57 1), (.c 0), (.var 0), (.var 1), (.var 2), (.var 3), (.cell (.var 3) (.var 4) 0), (.cell (.var 3) (.var 4) 1), (.cell (.var 3) (.var 4) 2), (.cell (.var 3) (.var 4) 3), (.cell (.var 3) (.var 4) 4), (.cell (.var 3) (.var 4) 5), x59, x60, x61])) (
 .leaf (.done 0 [(.bc false)]))) (
 .leaf (.done 0 [(.bc false)]))) (
 .leaf (.done 0 [(.bc false)]))) (
 .split (.eql (.sel x62 0) (.c 1)) (
 .split (.lss (.sel x62 1) (.c 0)) (
 .leaf (.done 0 [(.bc false)])) (
 .split (.lss x59 (.c 0)) (
 .leaf (.done 0 [(.bc false)])) (
 .split (.lss x60 x59) (
 .leaf (.done 0 [(.bc false)])) (
 .split (.lss (.sel x62 1) (.lenL (.var 2))) (
 .split (.lss (.cell (.var 2) (.sel x62 1) 1) x60) (
 .leaf (.done 0 [(.bc false)])) (
 .split (.lss x61 (.c (-1000))) (
 .leaf (.done 0 [(.bc false)])) (
 .split (.lss (.c 1000) x61) (
 .leaf (.done 0 [(.bc false)])) (
 .split (.lss (.arith .add .i64 x59 x61) (.c 0)) (
 .leaf (.done 0 [(.bc false)])) (
 .split (.lss (.cell (.var 2) (.sel x62 1) 1) (.arith .add .i64 x60 x61)) (
 .leaf (.done 0 [(.bc false)])) (
 .leaf (.next 1 [(.var 4), (.sel x57 1), (.c 0), (.var 0), (.var 1), (.var 2), (.var 3), (.cell (.var 3) (.var 4) 0), (.cell (.var 3) (.var 4) 1), (.cell (.var 3) (.var 4) 2), (.cell (.var 3) (.var 4) 3), (.cell (.var 3) (.var 4) 4), (.cell (.var 3) (.var 4) 5), x59, x60, x61]))))))) (
 .leaf .stuck))))) (
 .leaf .stuck)))) (
 .leaf .stuck))) (
 .leaf .stuck)) (
 .leaf .stuck))
def t30p1 : Tr Plf :=
 .split (.lss (.var 2) (.var 0)) (
 .split (.lss (.var 2) (.c 0)) (
 .leaf .stuck) (
 .split (.lss (.var 2) (.lenL (.var 6))) (
 .split (.and (.eqSS (.cell (.var 6) (.var 2) 0) (.var 7)) (.and (.eqSS (.cell (.var 6) (.var 2) 1) (.var 8)) (.and (.eql (.cell (.var 6) (.var 2) 2) (.var 9)) (.and (.eqSS (.cell (.var 6) (.var 2) 3) (.var 10)) (.and (.eqSS (.cell (.var 6) (.var 2) 4) (.var 11)) (.and (.eqSS (.cell (.var 6) (.var 2) 5) (.var 12)) (.and (.eql (.cell (.var 6) (.var 2) 6) (.var 13)) (.and (.eql (.cell (.var 6) (.var 2) 7) (.var 14)) (.eql (.cell (.var 6) (.var 2) 8) (.var 15)))))))))) (
 .leaf (.done 0 [(.bc false)])) (
 .leaf (.next 1 [(.var 0), (.var 1), x2, (.var 3), (.var 4), (.var 5), (.var 6), (.var 7), (.var 8), (.var 9), (.var 10), (.var 11), (.var 12), (.var 13), (.var 14), (.var 15)]))) (
 .leaf .stuck))) (
 .split (.eql (.var 9) (.c 1)) (
 .split (.eql (.sel (.app 27 (.rcons (.c 0) (.rcons (.var 10) .rnil))) 0) (.c 1)) (
 .split (.sel (.app 27 (.rcons (.c 0) (.rcons (.var 10) .rnil))) 1) (
 .split (.eql (.sel (.app 27 (.rcons (.c 0) (.rcons (.var 11) .rnil))) 0) (.c 1)) (
 .split (.sel (.app 27 (.rcons (.c 0) (.rcons (.var 11) .rnil))) 1) (
 .leaf (.done 0 [(.neg (.eqSS (.var 11) (.var 3)))])) (
 .leaf (.done 0 [(.bc false)]))) (
 .leaf .stuck)) (
 .leaf (.done 0 [(.bc false)]))) (
 .leaf .stuck)) (
 .split (.eql (.var 9) (.c 2)) (
 .split (.eql (.sel (.app 27 (.rcons (.c 0) (.rcons (.var 10) .rnil))) 0) (.c 1)) (
 .split (.sel (.app 27 (.rcons (.c 0) (.rcons (.var 10) .rnil))) 1) (
 .split (.eql (.sel (.app 27 (.rcons (.c 0) (.rcons (.var 11) .rnil))) 0) (.c 1)) (
 .split (.sel (.app 27 (.rcons (.c 0) (.rcons (.var 11) .rnil))) 1) (
 .leaf (.done 0 [(.neg (.eqSS (.var 11) (.var 3)))])) (
 .leaf (.done 0 [(.bc false)]))) (
 .leaf .stuck)) (
 .leaf (.done 0 [(.bc false)]))) (
 .leaf .stuck)) (
 .split (.eql (.var 9) (.c 3)) (
 .split (.eqS (.var 10) 0 0) (
 .split (.eqS (.var 11) 0 0) (
 .split (.lss (.var 1) (.c 0)) (
 .leaf .stuck) (
 .split x6 (
 .leaf (.done 0 [(.lss (.c 0) (.cell (.var 4) (.var 1) 2))])) (
 .leaf .stuck))) (
 .leaf (.done 0 [(.bc false)]))) (
 .leaf (.done 0 [(.bc false)]))) (
 .split (.eql (.var 9) (.c 4)) (
 .split (.eqS (.var 10) 0 0) (
 .leaf (.done 0 [(.eqS (.var 11) 0 0)])) (
 .leaf (.done 0 [(.bc false)]))) (
 .leaf (.done 0 [(.bc false)]))))))
def t30 : List (Tr Plf) := [t30p0, t30p1]
def t31p0 : Tr Plf :=
 .split (.eql (.sel (.app 27 (.rcons (.c 0) (.rcons (.var 0) .rnil))) 0) (.c 1)) (
 .split (.sel (.app 27 (.rcons (.c 0) (.rcons (.var 0) .rnil))) 1) (
 .split (.lss (.c 4) (.lenL (.var 2))) (
 .leaf (.done 0 [(.c 4), (.c 291)])) (
 .leaf (.next 1 [(.c 0), (.var 0), (.var 1), (.var 2), (.var 3)]))) (
 .leaf (.done 0 [(.c 0), (.c 290)]))) (
 .leaf .stuck)
def t31p1 : Tr Plf :=
 .split (.lss (.var 0) (.lenL (.var 3))) (
 .split (.lss (.var 0) (.c 0)) (
 .leaf .stuck) (
 .split (.eql (.sel (.app 27 (.rcons (.c 0) (.rcons (.cell (.var 3) (.var 0) 0) .rnil))) 0) (.c 1)) (
 .split (.sel (.app 27 (.rcons (.c 0) (.rcons (.cell (.var 3) (.var 0) 0) .rnil))) 1) (
 .split (.eql (.sel x63 0) (.c 1)) (
 .split (.eql (.sel x63 1) (.var 0)) (
 .split (.lss (.cell (.var 3) (.var 0) 1) (.c 1)) (
 .leaf (.done 0 [(.var 0), (.c 291)])) (
 .split (.lss (.c 1000) (.cell (.var 3) (.var 0) 1)) (
 .leaf (.done 0 [(.var 0), (.c 291)])) (
 .leaf (.next 1 [x64, (.var 1), (.var 2), (.var 3), (.var 4)])))) (
 .leaf (.done 0 [(.var 0), (.c 291)]))) (
 .leaf .stuck)) (
 .leaf (.done 0 [(.var 0), (.c 291)]))) (
 .leaf .stuck))) (
 .split (.eql (.lenL (.var 2)) (.c 0)) (
 .leaf (.done 0 [(.c 0), (.c 292)])) (
 .split (.lss (.c 24) (.lenL (.var 2))) (
 .leaf (.done 0 [(.c 24), (.c 292)])) (
 .leaf (.next 2 [(.c 0), (.var 1), (.var 2), (.var 3), (.var 4)]))))
def t31p2 : Tr Plf :=
 .split (.lss (.var 0) (.lenL (.var 2))) (
 .split (.lss (.var 0) (.c 0)) (
 .leaf .stuck) (
 .split (.eql (.sel (.app 27 (.rcons (.c 0) (.rcons (.cell (.var 2) (.var 0) 0) .rnil))) 0) (.c 1)) (
 .split (.sel (.app 27 (.rcons (.c 0) (.rcons (.cell (.var 2) (.var 0) 0) .rnil))) 1) (
 .split (.eql (.sel x65 0) (.c 1)) (
 .split (.eql (.sel x65 1) (.var 0)) (
 .split (.lss (.cell (.var 2) (.var 0) 2) (.c 0)) (
 .leaf (.done 0 [(.var 0), (.c 292)])) (
 .split (.lss (.c 1048576) (.cell (.var 2) (.var 0) 2)) (
 .leaf (.done 0 [(.var 0), (.c 292)])) (
 .leaf (.next 2 [x64, (.var 1), (.var 2), (.var 3), (.var 4)])))) (
 .leaf (.done 0 [(.var 0), (.c 292)]))) (
 .leaf .stuck)) (
 .leaf (.done 0 [(.var 0), (.c 292)]))) (
 .leaf .stuck))) (
 .split (.lss (.c 80) (.lenL (.var 4))) (
 .leaf (.done 0 [(.c 80), (.c 293)])) (
 .leaf (.next 3 [(.c 0), (.var 1), (.var 2), (.var 3), (.var 4)])))
def t31p3 : Tr Plf :=
 .split (.lss (.var 0) (.lenL (.var 4))) (
 .split (.eql (.sel x66 0) (.c 1)) (
 .split (.sel x66 1) (
 .leaf (.next 3 [x64, (.var 1), (.var 2), (.var 3), (.var 4)])) (
 .leaf (.done 0 [(.var 0), (.c 293)]))) (
 .leaf .stuck)) (
 .leaf (.done 0 [(.c 0), (.c 0)]))
def t31 : List (Tr Plf) := [t31p0, t31p1, t31p2, t31p3]
def t32p0 : Tr Plf :=
 .leaf (.next 1 [(.var 4), (.c 0), (.var 0), (.var 1), (.var 2), (.var 3)])
def t32p1 : Tr Plf :=
 .split x6 (
 .split (.lss (.var 1) (.c 0)) (
 .leaf .stuck) (
 .split (.eqSS (.cell (.var 4) (.var 1) 0) (.var 0)) (
 .leaf (.done 0 [(.var 1)])) (
 .leaf (.next 1 [(.var 0), x5, (.var 2), (.var 3), (.var 4), (.var 5)])))) (
 .leaf (.done 0 [(.c (-1))]))
def t32 : List (Tr Plf) := [t32p0, t32p1]
def t33p0 : Tr Plf :=
 .leaf (.next 1 [.nilL, (.bc true), (.c 0), (.var 5), (.var 0), (.var 1), (.var 2), (.var 3), (.var 4), (.var 6)])
def t33p1 : Tr Plf :=
 .split (.lss (.var 2) (.lenL (.var 7))) (
 .split (.lss (.var 2) (.c 0)) (
 .leaf .stuck) (
 .split (.eql (.sel x67 0) (.c 1)) (
 .split (.eqSS (.cell (.var 7) (.var 2) 0) (.var 8)) (
 .split (.lss (.sel x67 1) (.c 0)) (
 .split x22 (
 .leaf (.next 1 [(.snoc (.var 0) (.rcons (.var 2) .rnil)), (.bc false), x2, (.var 3), (.var 4), (.var 5), (.var 6), (.var 7), (.var 8), (.var 9)])) (
 .leaf .stuck)) (
 .split (.lss (.sel x67 1) (.lenL (.var 3))) (
 .split (.lss (.cell (.var 3) (.sel x67 1) 0) (.cell (.var 7) (.var 2) 6)) (
 .leaf (.next 1 [(.var 0), (.var 1), x2, (.var 3), (.var 4), (.var 5), (.var 6), (.var 7), (.var 8), (.var 9)])) (
 .split (.lss (.cell (.var 7) (.var 2) 7) (.cell (.var 3) (.sel x67 1) 0)) (
 .leaf (.next 1 [(.var 0), (.var 1), x2, (.var 3), (.var 4), (.var 5), (.var 6), (.var 7), (.var 8), (.var 9)])) (
 .split x22 (
 .leaf (.next 1 [(.snoc (.var 0) (.rcons (.var 2) .rnil)), (.bc false), x2, (.var 3), (.var 4), (.var 5), (.var 6), (.var 7), (.var 8), (.var 9)])) (
 .leaf .stuck)))) (
 .leaf .stuck))) (
 .leaf (.next 1 [(.var 0), (.var 1), x2, (.var 3), (.var 4), (.var 5), (.var 6), (.var 7), (.var 8), (.var 9)]))) (
 .leaf .stuck))) (
 .leaf (.done 0 [(.var 0), (.var 1)]))
def t33 : List (Tr Plf) := [t33p0, t33p1]
def t34p0 : Tr Plf :=
 .split (.eqSS (.var 0) (.var 2)) (
 .split (.eql (.lenL (.var 1)) (.lenL (.var 3))) (
 .leaf (.next 1 [(.c 0), (.var 3), (.var 0), (.var 1), (.var 2), (.var 4)])) (
 .leaf (.done 0 [(.bc false)]))) (
 .leaf (.done 0 [(.bc false)]))
def t34p1 : Tr Plf :=
 .split (.lss (.var 0) (.lenL (.var 3))) (
 .split (.lss (.var 0) (.c 0)) (
 .leaf .stuck) (
 .split (.lss (.var 0) (.lenL (.var 1))) (
 .split (.eql (.cell (.var 3) (.var 0) 0) (.cell (.var 1) (.var 0) 0)) (
 .leaf (.next 1 [x64, (.var 1), (.var 2), (.var 3), (.var 4), (.var 5)])) (
 .leaf (.done 0 [(.bc false)]))) (
 .leaf .stuck))) (
 .leaf (.done 0 [(.bc true)]))
def t34 : List (Tr Plf) := [t34p0, t34p1]
def t35p0 : Tr Plf :=
 .leaf (.next 1 [(.var 0), (.var 1), (.c 0), (.var 3), (.var 2), (.var 4)])
def t35p1 : Tr Plf :=
 .split x0 (
 .split (.lss (.var 2) (.c 0)) (
 .leaf .stuck) (
 .split (.eql (.sel x69 0) (.c 1)) (
 .split (.sel x69 1) (
 .leaf (.done 0 [(.bc true)])) (
 .leaf (.next 1 [(.var 0), (.var 1), x2, (.var 3), (.var 4), (.var 5)]))) (
 .leaf .stuck))) (
 .leaf (.done 0 [(.bc false)]))
def t35 : List (Tr Plf) := [t35p0, t35p1]
def t36p0 : Tr Plf :=
 .leaf (.next 1 [.nilL, (.bc true), (.c 0), (.var 0), (.var 1), (.var 2), (.var 3), (.var 4), (.var 5)])
def t36p1 : Tr Plf :=
 .split (.lss (.var 2) (.lenL (.var 6))) (
 .split (.lss (.var 2) (.c 0)) (
 .leaf .stuck) (
 .split (.eql (.sel x70 0) (.c 1)) (
 .split (.eqSS (.cell (.var 6) (.var 2) 0) (.var 7)) (
 .split (.lss (.sel x70 1) (.c 0)) (
 .split x22 (
 .leaf (.next 1 [(.snoc (.var 0) (.rcons (.var 2) .rnil)), (.bc false), x2, (.var 3), (.var 4), (.var 5), (.var 6), (.var 7), (.var 8)])) (
 .leaf .stuck)) (
 .split (.lss (.sel x70 1) (.lenL (.var 8))) (
 .split (.lss (.cell (.var 8) (.sel x70 1) 0) (.cell (.var 6) (.var 2) 6)) (
 .leaf (.next 1 [(.var 0), (.var 1), x2, (.var 3), (.var 4), (.var 5), (.var 6), (.var 7), (.var 8)])) (
 .split (.lss (.cell (.var 6) (.var 2) 7) (.cell (.var 8) (.sel x70 1) 0)) (
 .leaf (.next 1 [(.var 0), (.var 1), x2, (.var 3), (.var 4), (.var 5), (.var 6), (.var 7), (.var 8)])) (
 .split x22 (
 .leaf (.next 1 [(.snoc (.var 0) (.rcons (.var 2) .rnil)), (.bc false), x2, (.var 3), (.var 4), (.var 5), (.var 6), (.var 7), (.var 8)])) (
 .leaf .stuck)))) (
 .leaf .stuck))) (
 .leaf (.next 1 [(.var 0), (.var 1), x2, (.var 3), (.var 4), (.var 5), (.var 6), (.var 7), (.var 8)]))) (
 .leaf .stuck))) (
 .leaf (.done 0 [(.var 0), (.var 1)]))
def t36 : List (Tr Plf) := [t36p0, t36p1]
def t37p0 : Tr Plf :=
 .split (.lss (.c 0) (.lenL (.var 1))) (
 .split (.lss (.lenL (.var 2)) (.c 1048577)) (
 .leaf (.next 1 [(.snoc .emptyL (.rcons (.cell (.var 1) (.c 0) 0) (.rcons (.nilIs (.rep (.lenL (.var 2)) (.rcons (.c 0) .rnil)) (.bc false)) .rnil))), (.bc false), (.c 0), (.var 0), (.var 1), (.var 2), (.var 3), .nilL])) (
 .leaf .stuck)) (
 .leaf .stuck)
def t37p1 : Tr Plf :=
 .split x0 (
 .split (.lss (.var 2) (.c 0)) (
 .leaf .stuck) (
 .split (.eql (.sel x71 0) (.c 1)) (
 .leaf (.next 2 [(.var 0), (.var 1), (.var 2), (.sel x71 1), (.sel x71 2), (.c 0), (.var 3), (.var 4), (.var 5), (.var 6), .nilL])) (
 .leaf .stuck))) (
 .leaf (.done 0 [(.var 0), (.var 1), (.bc true)]))
def t37p2 : Tr Plf :=
 .split (.lss (.var 5) (.lenL (.var 3))) (
 .split (.lss (.var 2) (.c 0)) (
 .leaf .stuck) (
 .split x0 (
 .split (.lss (.var 5) (.c 0)) (
 .leaf .stuck) (
 .split (.lss x72 (.c 0)) (
 .leaf .stuck) (
 .split (.lss x72 (.lenL (.var 9))) (
 .split (.lss (.lenL x68) (.c 1048576)) (
 .split (.eql (.sel x73 0) (.c 1)) (
 .split (.lss (.sel x73 1) (.c 0)) (
 .split (.eql (.sel x75 0) (.c 1)) (
 .split (.sel x75 1) (
 .split (.lss (.c 2000) (.lenL (.var 0))) (
 .leaf (.done 0 [.nilL, (.bc true), (.bc false)])) (
 .leaf (.next 2 [(.var 0), (.var 1), (.var 2), (.var 3), (.var 4), x55, (.var 6), (.var 7), (.var 8), (.var 9), .nilL]))) (
 .split x22 (
 .split (.lss (.c 2000) (.lenL (.snoc (.var 0) (.rcons (.cell (.var 9) x72 1) (.rcons (.nilIs (.cat .nilL x68) x74) .rnil))))) (
 .leaf (.done 0 [.nilL, (.bc true), (.bc false)])) (
 .leaf (.next 2 [(.snoc (.var 0) (.rcons (.cell (.var 9) x72 1) (.rcons (.nilIs (.cat .nilL x68) (.eql (.lenL x68) (.c 0))) .rnil))), (.bc false), (.var 2), (.var 3), (.var 4), x55, (.var 6), (.var 7), (.var 8), (.var 9), .nilL]))) (
 .leaf .stuck))) (
 .leaf .stuck)) (
 .split (.lss (.sel x73 1) (.lenL (.cat .nilL x68))) (
 .split (.eql (.sel x77 0) (.c 1)) (
 .split (.sel x77 1) (
 .split (.lss (.c 2000) (.lenL (.var 0))) (
 .leaf (.done 0 [.nilL, (.bc true), (.bc false)])) (
 .leaf (.next 2 [(.var 0), (.var 1), (.var 2), (.var 3), (.var 4), x55, (.var 6), (.var 7), (.var 8), (.var 9), .nilL]))) (
 .split x22 (
 .split (.lss (.c 2000) (.lenL (.snoc (.var 0) (.rcons (.cell (.var 9) x72 1) (.rcons (.nilIs x76 x74) .rnil))))) (
 .leaf (.done 0 [.nilL, (.bc true), (.bc false)])) (
 .leaf (.next 2 [(.snoc (.var 0) (.rcons (.cell (.var 9) x72 1) (.rcons (.nilIs x76 (.eql (.lenL x68) (.c 0))) .rnil))), (.bc false), (.var 2), (.var 3), (.var 4), x55, (.var 6), (.var 7), (.var 8), (.var 9), .nilL]))) (
 .leaf .stuck))) (
 .leaf .stuck)) (
 .leaf .stuck))) (
 .leaf .stuck)) (
 .leaf .stuck)) (
 .leaf .stuck)))) (
 .leaf .stuck))) (
 .leaf (.next 1 [(.var 0), (.var 1), x2, (.var 6), (.var 7), (.var 8), (.var 9), .nilL]))
def t37 : List (Tr Plf) := [t37p0, t37p1, t37p2]
def t38p0 : Tr Plf :=
 .split (.eqSS (.var 0) (.var 2)) (
 .split (.eql (.lenL (.var 1)) (.lenL (.var 3))) (
 .leaf (.next 1 [(.c 0), (.var 0), (.var 1), (.var 2), (.var 3)])) (
 .leaf (.done 0 [(.bc false)]))) (
 .leaf (.done 0 [(.bc false)]))
def t38p1 : Tr Plf :=
 .split (.lss (.var 0) (.lenL (.var 2))) (
 .split (.lss (.var 0) (.c 0)) (
 .leaf .stuck) (
 .split (.lss (.var 0) (.lenL (.var 4))) (
 .split (.eql (.cell (.var 2) (.var 0) 0) (.cell (.var 4) (.var 0) 0)) (
 .leaf (.next 1 [x64, (.var 1), (.var 2), (.var 3), (.var 4)])) (
 .leaf (.done 0 [(.bc false)]))) (
 .leaf .stuck))) (
 .leaf (.done 0 [(.bc true)]))
def t38 : List (Tr Plf) := [t38p0, t38p1]
def t39p0 : Tr Plf :=
 .split (.lss (.c 8) (.lenL (.var 1))) (
 .split (.eql (.sel (.app 0 (.rcons (.c 0) .rnil)) 0) (.c 1)) (
 .leaf (.done 0 [(.bc true)])) (
 .leaf .stuck)) (
 .split (.lss (.c 20) (.lenL (.var 3))) (
 .split (.eql (.sel (.app 0 (.rcons (.c 0) .rnil)) 0) (.c 1)) (
 .leaf (.done 0 [(.bc true)])) (
 .leaf .stuck)) (
 .split (.lss (.c 5) (.lenL (.var 2))) (
 .split (.eql (.sel (.app 0 (.rcons (.c 0) .rnil)) 0) (.c 1)) (
 .leaf (.done 0 [(.bc true)])) (
 .leaf .stuck)) (
 .split (.eql (.sel x78 0) (.c 1)) (
 .split (.eql (.sel (.app 31 (.rcons (.c 0) x49)) 0) (.c 1)) (
 .split (.eql (.sel (.app 31 (.rcons (.c 0) x49)) 2) (.c 0)) (
 .split (.eql (.sel x79 0) (.c 1)) (
 .split (.sel x79 3) (
 .split (.eql (.sel x78 3) (.c 0)) (
 .split (.eql (.lenL (.sel x78 1)) (.lenL (.sel x79 1))) (
 .leaf (.next 1 [(.sel x78 1), (.sel x78 2), (.sel x79 1), (.sel x79 2), (.c 0)])) (
 .leaf (.done 0 [(.bc false)]))) (
 .leaf (.done 0 [(.bc false)]))) (
 .split (.eql (.lenL (.sel x78 1)) (.c 0)) (
 .split (.eql (.sel x78 3) (.c 7)) (
 .split (.eql (.sel (.app 0 (.rcons (.c 0) .rnil)) 0) (.c 1)) (
 .leaf (.done 0 [(.bc true)])) (
 .leaf .stuck)) (
 .leaf (.done 0 [(.bc false)]))) (
 .leaf (.done 0 [(.bc false)])))) (
 .leaf .stuck)) (
 .split (.eql (.lenL (.sel x78 1)) (.c 0)) (
 .split (.eql (.sel x78 3) (.c 2)) (
 .split (.eql (.sel (.app 0 (.rcons (.c 0) .rnil)) 0) (.c 1)) (
 .leaf (.done 0 [(.bc true)])) (
 .leaf .stuck)) (
 .leaf (.done 0 [(.bc false)]))) (
 .leaf (.done 0 [(.bc false)])))) (
 .leaf .stuck)) (
 .leaf .stuck))))
def t39p1 : Tr Plf :=
 .split (.lss (.var 4) (.lenL (.var 0))) (
 .split (.lss (.var 4) (.c 0)) (
 .leaf .stuck) (
 .split (.lss (.var 4) (.lenL (.var 2))) (
 .split (.eql (.sel x80 0) (.c 1)) (
 .split (.sel x80 1) (
 .leaf (.next 1 [(.var 0), (.var 1), (.var 2), (.var 3), (.arith .add .i64 (.var 4) (.c 1))])) (
 .leaf (.done 0 [(.bc false)]))) (
 .leaf .stuck)) (
 .leaf .stuck))) (
 .split (.eql (.sel (.app 0 (.rcons (.c 0) .rnil)) 0) (.c 1)) (
 .leaf (.done 0 [(.bc true)])) (
 .leaf .stuck))
def t39 : List (Tr Plf) := [t39p0, t39p1]
def ts : List (List (Tr Plf)) := [t0, t1, t2, t3, t4, t5, t6, t7, t8, t9, t10, t11, t12, t13, t14, t15, t16, t17, t18, t19, t20, t21, t22, t23, t24, t25, t26, t27, t28, t29, t30, t31, t32, t33, t34, t35, t36, t37, t38, t39]
end Ch
