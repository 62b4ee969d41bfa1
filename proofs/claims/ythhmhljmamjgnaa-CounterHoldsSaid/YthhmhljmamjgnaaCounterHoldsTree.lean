/- What is stated: the trees of tests of the functions that the law CounterHolds reaches, as data. Conditions: none. -/
import Derived.Test.YthhmhljmamjgnaaBeF
set_option linter.unusedVariables false
set_option linter.unusedSectionVars false
namespace Go.CH
open Go.AE
def t0p0 : Tr Plf :=
  .leaf (.done 0 [])
def t0 : List (Tr Plf) := [t0p0]
def t1p0 : Tr Plf :=
  .leaf (.next 1 [(.var 0), (.var 1), (.c 0)])
def t1p1 : Tr Plf :=
  .split (.lss (.var 2) (.lenL (.var 0))) (
   .split (.lss (.var 2) (.c 0)) (
    .leaf .stuck) (
    .split (.lss (.cell (.var 0) (.var 2) 8) (.c (-1000))) (
     .leaf (.done 0 [(.var 2)])) (
     .split (.lss (.c 1000) (.cell (.var 0) (.var 2) 8)) (
      .leaf (.done 0 [(.var 2)])) (
      .leaf (.next 1 [(.var 0), (.var 1), (.arith .add .i64 (.var 2) (.c 1))]))))) (
   .leaf (.done 0 [(.c (-1))]))
def t1 : List (Tr Plf) := [t1p0, t1p1]
def t2p0 : Tr Plf :=
  .split (.lss (.var 0) (.c 1)) (
   .leaf (.done 0 [.nilL, (.bc true), .nilL, (.bc true), (.c 2)])) (
   .split (.lss (.c 1000) (.var 0)) (
    .leaf (.done 0 [.nilL, (.bc true), .nilL, (.bc true), (.c 2)])) (
    .split (.eql (.sel (.app 1 (.rcons (.c 0) (.rcons (.var 1) (.rcons (.var 2) .rnil)))) 0) (.c 1)) (
     .split (.lss (.sel (.app 1 (.rcons (.c 0) (.rcons (.var 1) (.rcons (.var 2) .rnil)))) 1) (.c 0)) (
      .split (.lss (.arith .add .i64 (.var 0) (.c 1)) (.c 0)) (
       .leaf .stuck) (
       .split (.lss (.arith .add .i64 (.var 0) (.c 1)) (.c 1048577)) (
        .split (.lss (.c 0) (.lenL (.rep (.arith .add .i64 (.var 0) (.c 1)) (.rcons (.bc false) .rnil)))) (
         .leaf (.next 1 [(.var 0), (.var 1), (.var 2), (.rep (.arith .add .i64 (.var 0) (.c 1)) (.rcons .nilL .rnil)), (.upd (.rep (.arith .add .i64 (.var 0) (.c 1)) (.rcons (.bc false) .rnil)) (.c 0) 0 (.bc true)), (.snoc .emptyL (.rcons (.c 0) .rnil)), (.bc false)])) (
         .leaf .stuck)) (
        .leaf .stuck))) (
      .leaf (.done 0 [.nilL, (.bc true), .nilL, (.bc true), (.c 2)]))) (
     .leaf .stuck)))
def t2p1 : Tr Plf :=
  .split (.lss (.c 0) (.lenL (.var 5))) (
   .leaf (.next 2 [(.var 0), (.var 1), (.var 2), (.var 3), (.var 4), .nilL, (.bc true), (.var 5), (.var 6), (.lenL (.var 5)), (.c 0)])) (
   .leaf (.done 0 [(.var 3), (.bc false), (.var 4), (.bc false), (.c 0)]))
def t2p2 : Tr Plf :=
  .split (.lss (.var 10) (.var 9)) (
   .split (.lss (.var 10) (.c 0)) (
    .leaf .stuck) (
    .split (.lss (.var 10) (.lenL (.var 7))) (
     .leaf (.next 3 [(.var 0), (.var 1), (.var 2), (.var 3), (.var 4), (.var 5), (.var 6), (.cell (.var 7) (.var 10) 0), (.var 7), (.var 8), (.var 9), (.var 10), (.c 0)])) (
     .leaf .stuck))) (
   .leaf (.next 1 [(.var 0), (.var 1), (.var 2), (.var 3), (.var 4), (.var 5), (.var 6)]))
def t2p3 : Tr Plf :=
  .split (.lss (.var 12) (.lenL (.var 1))) (
   .split (.lss (.var 12) (.c 0)) (
    .leaf .stuck) (
    .split (.lss (.var 7) (.cell (.var 1) (.var 12) 6)) (
     .leaf (.next 3 [(.var 0), (.var 1), (.var 2), (.var 3), (.var 4), (.var 5), (.var 6), (.var 7), (.var 8), (.var 9), (.var 10), (.var 11), (.arith .add .i64 (.var 12) (.c 1))])) (
     .split (.lss (.cell (.var 1) (.var 12) 7) (.var 7)) (
      .leaf (.next 3 [(.var 0), (.var 1), (.var 2), (.var 3), (.var 4), (.var 5), (.var 6), (.var 7), (.var 8), (.var 9), (.var 10), (.var 11), (.arith .add .i64 (.var 12) (.c 1))])) (
      .split (.lss (.cell (.var 1) (.var 12) 8) (.arith .sub .i64 (.c 0) (.var 7))) (
       .leaf (.next 3 [(.var 0), (.var 1), (.var 2), (.var 3), (.var 4), (.var 5), (.var 6), (.var 7), (.var 8), (.var 9), (.var 10), (.var 11), (.arith .add .i64 (.var 12) (.c 1))])) (
       .split (.lss (.arith .sub .i64 (.var 0) (.var 7)) (.cell (.var 1) (.var 12) 8)) (
        .leaf (.next 3 [(.var 0), (.var 1), (.var 2), (.var 3), (.var 4), (.var 5), (.var 6), (.var 7), (.var 8), (.var 9), (.var 10), (.var 11), (.arith .add .i64 (.var 12) (.c 1))])) (
        .split (.lss (.arith .add .i64 (.var 7) (.cell (.var 1) (.var 12) 8)) (.c 0)) (
         .leaf .stuck) (
         .split (.lss (.arith .add .i64 (.var 7) (.cell (.var 1) (.var 12) 8)) (.lenL (.var 4))) (
          .split (.cell (.var 4) (.arith .add .i64 (.var 7) (.cell (.var 1) (.var 12) 8)) 0) (
           .leaf (.next 3 [(.var 0), (.var 1), (.var 2), (.var 3), (.var 4), (.var 5), (.var 6), (.var 7), (.var 8), (.var 9), (.var 10), (.var 11), (.arith .add .i64 (.var 12) (.c 1))])) (
           .split (.lss (.var 7) (.c 0)) (
            .leaf .stuck) (
            .split (.lss (.var 7) (.lenL (.var 3))) (
             .split (.isNil (.cell (.var 3) (.var 7) 0)) (
              .split (.lss (.arith .add .i64 (.var 7) (.cell (.var 1) (.var 12) 8)) (.lenL (.var 3))) (
               .split (.lss (.lenL (.var 5)) (.c 1048576)) (
                .leaf (.next 3 [(.var 0), (.var 1), (.var 2), (.upd (.var 3) (.arith .add .i64 (.var 7) (.cell (.var 1) (.var 12) 8)) 0 (.snoc .emptyL (.rcons (.var 12) .rnil))), (.upd (.var 4) (.arith .add .i64 (.var 7) (.cell (.var 1) (.var 12) 8)) 0 (.bc true)), (.snoc (.var 5) (.rcons (.arith .add .i64 (.var 7) (.cell (.var 1) (.var 12) 8)) .rnil)), (.bc false), (.var 7), (.var 8), (.var 9), (.var 10), (.var 11), (.arith .add .i64 (.var 12) (.c 1))])) (
                .leaf .stuck)) (
               .leaf .stuck)) (
              .split (.lss (.lenL (.cell (.var 3) (.var 7) 0)) (.c 1048576)) (
               .split (.lss (.lenL (.cat .emptyL (.cell (.var 3) (.var 7) 0))) (.c 1048576)) (
                .split (.lss (.arith .add .i64 (.var 7) (.cell (.var 1) (.var 12) 8)) (.lenL (.var 3))) (
                 .split (.lss (.lenL (.var 5)) (.c 1048576)) (
                  .leaf (.next 3 [(.var 0), (.var 1), (.var 2), (.upd (.var 3) (.arith .add .i64 (.var 7) (.cell (.var 1) (.var 12) 8)) 0 (.nilIs (.snoc (.cat .emptyL (.cell (.var 3) (.var 7) 0)) (.rcons (.var 12) .rnil)) (.bc false))), (.upd (.var 4) (.arith .add .i64 (.var 7) (.cell (.var 1) (.var 12) 8)) 0 (.bc true)), (.snoc (.var 5) (.rcons (.arith .add .i64 (.var 7) (.cell (.var 1) (.var 12) 8)) .rnil)), (.bc false), (.var 7), (.var 8), (.var 9), (.var 10), (.var 11), (.arith .add .i64 (.var 12) (.c 1))])) (
                  .leaf .stuck)) (
                 .leaf .stuck)) (
                .leaf .stuck)) (
               .leaf .stuck))) (
             .leaf .stuck)))) (
          .leaf .stuck)))))))) (
   .leaf (.next 2 [(.var 0), (.var 1), (.var 2), (.var 3), (.var 4), (.var 5), (.var 6), (.var 8), (.var 9), (.var 10), (.arith .add .i64 (.var 11) (.c 1))]))
def t2 : List (Tr Plf) := [t2p0, t2p1, t2p2, t2p3]
def t3p0 : Tr Plf :=
  .split (.eql (.sel (.app 2 (.rcons (.c 0) (.rcons (.var 0) (.rcons (.var 1) (.rcons (.var 2) .rnil))))) 0) (.c 1)) (
   .leaf (.next 1 [.nilL, (.bc true), (.sel (.app 2 (.rcons (.c 0) (.rcons (.var 0) (.rcons (.var 1) (.rcons (.var 2) .rnil))))) 5), (.sel (.app 2 (.rcons (.c 0) (.rcons (.var 0) (.rcons (.var 1) (.rcons (.var 2) .rnil))))) 3), (.sel (.app 2 (.rcons (.c 0) (.rcons (.var 0) (.rcons (.var 1) (.rcons (.var 2) .rnil))))) 4), (.lenL (.sel (.app 2 (.rcons (.c 0) (.rcons (.var 0) (.rcons (.var 1) (.rcons (.var 2) .rnil))))) 3)), (.c 0), (.var 1)])) (
   .leaf .stuck)
def t3p1 : Tr Plf :=
  .split (.lss (.var 6) (.var 5)) (
   .split (.lss (.var 6) (.c 0)) (
    .leaf .stuck) (
    .split (.lss (.var 6) (.lenL (.var 3))) (
     .split (.cell (.var 3) (.var 6) 0) (
      .split (.lss (.lenL (.var 0)) (.c 1048576)) (
       .leaf (.next 1 [(.snoc (.var 0) (.rcons (.var 6) .rnil)), (.bc false), (.var 2), (.var 3), (.var 4), (.var 5), (.arith .add .i64 (.var 6) (.c 1)), (.var 7)])) (
       .leaf .stuck)) (
      .leaf (.next 1 [(.var 0), (.var 1), (.var 2), (.var 3), (.var 4), (.var 5), (.arith .add .i64 (.var 6) (.c 1)), (.var 7)]))) (
     .leaf .stuck))) (
   .leaf (.done 0 [(.var 0), (.var 1), (.var 2)]))
def t3 : List (Tr Plf) := [t3p0, t3p1]
def t4p0 : Tr Plf :=
  .leaf (.next 1 [(.var 0), (.var 1), (.c 0), (.var 2)])
def t4p1 : Tr Plf :=
  .split (.lss (.var 2) (.lenL (.var 0))) (
   .split (.lss (.var 2) (.c 0)) (
    .leaf .stuck) (
    .split (.eqSS (.cell (.var 0) (.var 2) 0) (.var 3)) (
     .leaf (.done 0 [(.var 2)])) (
     .leaf (.next 1 [(.var 0), (.var 1), (.arith .add .i64 (.var 2) (.c 1)), (.var 3)])))) (
   .leaf (.done 0 [(.c (-1))]))
def t4 : List (Tr Plf) := [t4p0, t4p1]
def t5p0 : Tr Plf :=
  .split (.lss (.c 4) (.lenL (.var 0))) (
   .leaf (.done 0 [])) (
   .leaf (.next 1 [(.var 0), (.var 1), (.c 0), .nilL, (.bc true)]))
def t5p1 : Tr Plf :=
  .split (.lss (.var 2) (.lenL (.var 0))) (
   .split (.lss (.var 2) (.c 0)) (
    .leaf .stuck) (
    .split (.eqS (.cell (.var 0) (.var 2) 0) 0 0) (
     .leaf (.done 0 [])) (
     .split (.lss (.cell (.var 0) (.var 2) 1) (.c 1)) (
      .leaf (.done 0 [])) (
      .split (.lss (.c 1000) (.cell (.var 0) (.var 2) 1)) (
       .leaf (.done 0 [])) (
       .split (.eql (.sel (.app 4 (.rcons (.c 0) (.rcons (.var 3) (.rcons (.var 4) (.rcons (.cell (.var 0) (.var 2) 0) .rnil))))) 0) (.c 1)) (
        .split (.lss (.sel (.app 4 (.rcons (.c 0) (.rcons (.var 3) (.rcons (.var 4) (.rcons (.cell (.var 0) (.var 2) 0) .rnil))))) 1) (.c 0)) (
         .split (.lss (.lenL (.var 3)) (.c 1048576)) (
          .leaf (.next 1 [(.var 0), (.var 1), (.arith .add .i64 (.var 2) (.c 1)), (.snoc (.var 3) (.rcons (.cell (.var 0) (.var 2) 0) (.rcons (.cell (.var 0) (.var 2) 1) (.rcons (.c 0) .rnil)))), (.bc false)])) (
          .leaf .stuck)) (
         .leaf (.done 0 []))) (
        .leaf .stuck)))))) (
   .leaf (.done 1 [(.var 3), (.var 4)]))
def t5 : List (Tr Plf) := [t5p0, t5p1]
def t6p0 : Tr Plf :=
  .split (.var 0) (
   .split (.eql (.lenL (.var 3)) (.lenL (.var 1))) (
    .leaf (.next 1 [(.var 3), (.var 4), (.c 0), (.var 0), (.var 1), (.var 2)])) (
    .leaf (.done 0 [(.c 2), (.var 1)]))) (
   .leaf (.done 0 [(.c 1), (.var 1)]))
def t6p1 : Tr Plf :=
  .split (.lss (.var 2) (.lenL (.var 0))) (
   .split (.lss (.var 2) (.c 0)) (
    .leaf .stuck) (
    .split (.lss (.cell (.var 0) (.var 2) 0) (.c 0)) (
     .leaf (.done 0 [(.c 3), (.var 4)])) (
     .split (.lss (.var 2) (.lenL (.var 4))) (
      .split (.lss (.cell (.var 4) (.var 2) 1) (.cell (.var 0) (.var 2) 0)) (
       .leaf (.done 0 [(.c 3), (.var 4)])) (
       .leaf (.next 1 [(.var 0), (.var 1), (.arith .add .i64 (.var 2) (.c 1)), (.var 3), (.var 4), (.var 5)]))) (
      .leaf .stuck)))) (
   .leaf (.next 2 [(.var 0), (.var 1), (.lenL (.var 0)), (.c 0), (.var 3), (.var 4), (.var 5)]))
def t6p2 : Tr Plf :=
  .split (.lss (.var 3) (.var 2)) (
   .split (.lss (.var 3) (.c 0)) (
    .leaf .stuck) (
    .split (.lss (.var 3) (.lenL (.var 0))) (
     .split (.lss (.var 3) (.lenL (.var 5))) (
      .leaf (.next 2 [(.var 0), (.var 1), (.var 2), (.arith .add .i64 (.var 3) (.c 1)), (.var 4), (.upd (.var 5) (.var 3) 2 (.cell (.var 0) (.var 3) 0)), (.var 6)])) (
      .leaf .stuck)) (
     .leaf .stuck))) (
   .leaf (.done 0 [(.c 0), (.var 5)]))
def t6 : List (Tr Plf) := [t6p0, t6p1, t6p2]
def t7p0 : Tr Plf :=
  .split (.lss (.var 0) (.c 1)) (
   .split (.eql (.sel (.app 0 (.rcons (.c 0) .rnil)) 0) (.c 1)) (
    .leaf (.done 0 [(.bc true)])) (
    .leaf .stuck)) (
   .split (.lss (.c 100) (.var 0)) (
    .split (.eql (.sel (.app 0 (.rcons (.c 0) .rnil)) 0) (.c 1)) (
     .leaf (.done 0 [(.bc true)])) (
     .leaf .stuck)) (
    .split (.lss (.c 12) (.lenL (.var 1))) (
     .split (.eql (.sel (.app 0 (.rcons (.c 0) .rnil)) 0) (.c 1)) (
      .leaf (.done 0 [(.bc true)])) (
      .leaf .stuck)) (
     .split (.lss (.c 60) (.lenL (.var 2))) (
      .split (.eql (.sel (.app 0 (.rcons (.c 0) .rnil)) 0) (.c 1)) (
       .leaf (.done 0 [(.bc true)])) (
       .leaf .stuck)) (
      .leaf (.next 1 [(.var 0), (.var 1), (.var 2), .nilL, (.bc true), (.c 0)])))))
def t7p1 : Tr Plf :=
  .split (.lss (.var 5) (.lenL (.var 1))) (
   .split (.lss (.var 5) (.c 0)) (
    .leaf .stuck) (
    .split (.lss (.lenL (.var 3)) (.c 1048576)) (
     .leaf (.next 1 [(.var 0), (.var 1), (.var 2), (.snoc (.var 3) (.rcons (.cell (.var 1) (.var 5) 0) (.rcons (.cell (.var 1) (.var 5) 1) (.rcons (.cell (.var 1) (.var 5) 2) (.rcons (.cell (.var 1) (.var 5) 3) (.rcons (.cell (.var 1) (.var 5) 4) (.rcons (.strc 1 110) (.rcons (.cell (.var 1) (.var 5) 6) (.rcons (.cell (.var 1) (.var 5) 7) (.rcons (.cell (.var 1) (.var 5) 8) .rnil)))))))))), (.bc false), (.arith .add .i64 (.var 5) (.c 1))])) (
     .leaf .stuck))) (
   .split (.eql (.sel (.app 3 (.rcons (.c 0) (.rcons (.var 0) (.rcons (.var 3) (.rcons (.var 4) .rnil))))) 0) (.c 1)) (
    .split (.eql (.sel (.app 3 (.rcons (.c 0) (.rcons (.var 0) (.rcons (.var 3) (.rcons (.var 4) .rnil))))) 3) (.c 0)) (
     .split (.eql (.sel (.app 5 (.rcons (.c 0) (.rcons (.snoc .emptyL (.rcons (.strc 1 110) (.rcons (.var 0) .rnil))) (.rcons (.bc false) .rnil)))) 0) (.c 1)) (
      .leaf (.done 0 [(.bc false)])) (
      .split (.eql (.sel (.app 5 (.rcons (.c 0) (.rcons (.snoc .emptyL (.rcons (.strc 1 110) (.rcons (.var 0) .rnil))) (.rcons (.bc false) .rnil)))) 0) (.c 2)) (
       .leaf (.next 2 [(.var 0), (.var 2), (.var 3), (.var 4), (.sel (.app 3 (.rcons (.c 0) (.rcons (.var 0) (.rcons (.var 3) (.rcons (.var 4) .rnil))))) 1), (.sel (.app 3 (.rcons (.c 0) (.rcons (.var 0) (.rcons (.var 3) (.rcons (.var 4) .rnil))))) 2), (.c 0), (.sel (.app 5 (.rcons (.c 0) (.rcons (.snoc .emptyL (.rcons (.strc 1 110) (.rcons (.var 0) .rnil))) (.rcons (.bc false) .rnil)))) 1), (.sel (.app 5 (.rcons (.c 0) (.rcons (.snoc .emptyL (.rcons (.strc 1 110) (.rcons (.var 0) .rnil))) (.rcons (.bc false) .rnil)))) 2)])) (
       .leaf .stuck))) (
     .split (.eql (.sel (.app 3 (.rcons (.c 0) (.rcons (.var 0) (.rcons (.var 3) (.rcons (.var 4) .rnil))))) 3) (.c 2)) (
      .split (.eql (.sel (.app 0 (.rcons (.c 0) .rnil)) 0) (.c 1)) (
       .leaf (.done 0 [(.bc true)])) (
       .leaf .stuck)) (
      .leaf (.done 0 [(.bc false)])))) (
    .leaf .stuck))
def t7p2 : Tr Plf :=
  .split (.lss (.var 6) (.lenL (.var 1))) (
   .split (.lss (.c 0) (.lenL (.var 2))) (
    .split (.lss (.var 6) (.c 0)) (
     .leaf .stuck) (
     .split (.lss (.arith .rem .i64 (.conv .i64 (.conv .u8 (.cell (.var 1) (.var 6) 0))) (.lenL (.var 2))) (.c 0)) (
      .leaf .stuck) (
      .split (.lss (.arith .rem .i64 (.conv .i64 (.conv .u8 (.cell (.var 1) (.var 6) 0))) (.lenL (.var 2))) (.lenL (.var 2))) (
       .split (.eqS (.cell (.var 2) (.arith .rem .i64 (.conv .i64 (.conv .u8 (.cell (.var 1) (.var 6) 0))) (.lenL (.var 2))) 5) 0 0) (
        .split (.eql (.sel (.app 4 (.rcons (.c 0) (.rcons (.var 7) (.rcons (.var 8) (.rcons (.strc 1 110) .rnil))))) 0) (.c 1)) (
         .split (.lss (.sel (.app 4 (.rcons (.c 0) (.rcons (.var 7) (.rcons (.var 8) (.rcons (.strc 1 110) .rnil))))) 1) (.c 0)) (
          .leaf (.next 6 [(.var 0), (.var 1), (.var 2), (.var 3), (.var 4), (.var 5), (.var 6), (.c 0), (.c 9), (.var 7), (.var 8)])) (
          .split (.lss (.sel (.app 4 (.rcons (.c 0) (.rcons (.var 7) (.rcons (.var 8) (.rcons (.strc 1 110) .rnil))))) 1) (.lenL (.var 7))) (
           .leaf (.next 6 [(.var 0), (.var 1), (.var 2), (.var 3), (.var 4), (.var 5), (.var 6), (.cell (.var 7) (.sel (.app 4 (.rcons (.c 0) (.rcons (.var 7) (.rcons (.var 8) (.rcons (.strc 1 110) .rnil))))) 1) 2), (.c 0), (.var 7), (.var 8)])) (
           .leaf .stuck))) (
         .leaf .stuck)) (
        .split (.eql (.sel (.app 4 (.rcons (.c 0) (.rcons (.var 7) (.rcons (.var 8) (.rcons (.cell (.var 2) (.arith .rem .i64 (.conv .i64 (.conv .u8 (.cell (.var 1) (.var 6) 0))) (.lenL (.var 2))) 5) .rnil))))) 0) (.c 1)) (
         .split (.lss (.sel (.app 4 (.rcons (.c 0) (.rcons (.var 7) (.rcons (.var 8) (.rcons (.cell (.var 2) (.arith .rem .i64 (.conv .i64 (.conv .u8 (.cell (.var 1) (.var 6) 0))) (.lenL (.var 2))) 5) .rnil))))) 1) (.c 0)) (
          .split (.eql (.sel (.app 4 (.rcons (.c 0) (.rcons (.var 7) (.rcons (.var 8) (.rcons (.strc 1 110) .rnil))))) 0) (.c 1)) (
           .split (.lss (.sel (.app 4 (.rcons (.c 0) (.rcons (.var 7) (.rcons (.var 8) (.rcons (.strc 1 110) .rnil))))) 1) (.c 0)) (
            .leaf (.next 6 [(.var 0), (.var 1), (.var 2), (.var 3), (.var 4), (.var 5), (.var 6), (.c 0), (.c 9), (.var 7), (.var 8)])) (
            .split (.lss (.sel (.app 4 (.rcons (.c 0) (.rcons (.var 7) (.rcons (.var 8) (.rcons (.strc 1 110) .rnil))))) 1) (.lenL (.var 7))) (
             .leaf (.next 6 [(.var 0), (.var 1), (.var 2), (.var 3), (.var 4), (.var 5), (.var 6), (.cell (.var 7) (.sel (.app 4 (.rcons (.c 0) (.rcons (.var 7) (.rcons (.var 8) (.rcons (.strc 1 110) .rnil))))) 1) 2), (.c 0), (.var 7), (.var 8)])) (
             .leaf .stuck))) (
           .leaf .stuck)) (
          .split (.lss (.sel (.app 4 (.rcons (.c 0) (.rcons (.var 7) (.rcons (.var 8) (.rcons (.cell (.var 2) (.arith .rem .i64 (.conv .i64 (.conv .u8 (.cell (.var 1) (.var 6) 0))) (.lenL (.var 2))) 5) .rnil))))) 1) (.lenL (.var 7))) (
           .split (.lss (.cell (.var 7) (.sel (.app 4 (.rcons (.c 0) (.rcons (.var 7) (.rcons (.var 8) (.rcons (.cell (.var 2) (.arith .rem .i64 (.conv .i64 (.conv .u8 (.cell (.var 1) (.var 6) 0))) (.lenL (.var 2))) 5) .rnil))))) 1) 2) (.cell (.var 2) (.arith .rem .i64 (.conv .i64 (.conv .u8 (.cell (.var 1) (.var 6) 0))) (.lenL (.var 2))) 6)) (
            .split (.eql (.sel (.app 4 (.rcons (.c 0) (.rcons (.var 7) (.rcons (.var 8) (.rcons (.strc 1 110) .rnil))))) 0) (.c 1)) (
             .split (.lss (.sel (.app 4 (.rcons (.c 0) (.rcons (.var 7) (.rcons (.var 8) (.rcons (.strc 1 110) .rnil))))) 1) (.c 0)) (
              .leaf (.next 6 [(.var 0), (.var 1), (.var 2), (.var 3), (.var 4), (.var 5), (.var 6), (.c 0), (.c 9), (.var 7), (.var 8)])) (
              .split (.lss (.sel (.app 4 (.rcons (.c 0) (.rcons (.var 7) (.rcons (.var 8) (.rcons (.strc 1 110) .rnil))))) 1) (.lenL (.var 7))) (
               .leaf (.next 6 [(.var 0), (.var 1), (.var 2), (.var 3), (.var 4), (.var 5), (.var 6), (.cell (.var 7) (.sel (.app 4 (.rcons (.c 0) (.rcons (.var 7) (.rcons (.var 8) (.rcons (.strc 1 110) .rnil))))) 1) 2), (.c 0), (.var 7), (.var 8)])) (
               .leaf .stuck))) (
             .leaf .stuck)) (
            .split (.lss (.cell (.var 2) (.arith .rem .i64 (.conv .i64 (.conv .u8 (.cell (.var 1) (.var 6) 0))) (.lenL (.var 2))) 7) (.cell (.var 7) (.sel (.app 4 (.rcons (.c 0) (.rcons (.var 7) (.rcons (.var 8) (.rcons (.cell (.var 2) (.arith .rem .i64 (.conv .i64 (.conv .u8 (.cell (.var 1) (.var 6) 0))) (.lenL (.var 2))) 5) .rnil))))) 1) 2)) (
             .split (.eql (.sel (.app 4 (.rcons (.c 0) (.rcons (.var 7) (.rcons (.var 8) (.rcons (.strc 1 110) .rnil))))) 0) (.c 1)) (
              .split (.lss (.sel (.app 4 (.rcons (.c 0) (.rcons (.var 7) (.rcons (.var 8) (.rcons (.strc 1 110) .rnil))))) 1) (.c 0)) (
               .leaf (.next 6 [(.var 0), (.var 1), (.var 2), (.var 3), (.var 4), (.var 5), (.var 6), (.c 0), (.c 9), (.var 7), (.var 8)])) (
               .split (.lss (.sel (.app 4 (.rcons (.c 0) (.rcons (.var 7) (.rcons (.var 8) (.rcons (.strc 1 110) .rnil))))) 1) (.lenL (.var 7))) (
                .leaf (.next 6 [(.var 0), (.var 1), (.var 2), (.var 3), (.var 4), (.var 5), (.var 6), (.cell (.var 7) (.sel (.app 4 (.rcons (.c 0) (.rcons (.var 7) (.rcons (.var 8) (.rcons (.strc 1 110) .rnil))))) 1) 2), (.c 0), (.var 7), (.var 8)])) (
                .leaf .stuck))) (
              .leaf .stuck)) (
             .split (.lss (.cell (.var 2) (.arith .rem .i64 (.conv .i64 (.conv .u8 (.cell (.var 1) (.var 6) 0))) (.lenL (.var 2))) 8) (.arith .sub .i64 (.c 0) (.cell (.var 7) (.sel (.app 4 (.rcons (.c 0) (.rcons (.var 7) (.rcons (.var 8) (.rcons (.cell (.var 2) (.arith .rem .i64 (.conv .i64 (.conv .u8 (.cell (.var 1) (.var 6) 0))) (.lenL (.var 2))) 5) .rnil))))) 1) 2))) (
              .split (.eql (.sel (.app 4 (.rcons (.c 0) (.rcons (.var 7) (.rcons (.var 8) (.rcons (.strc 1 110) .rnil))))) 0) (.c 1)) (
               .split (.lss (.sel (.app 4 (.rcons (.c 0) (.rcons (.var 7) (.rcons (.var 8) (.rcons (.strc 1 110) .rnil))))) 1) (.c 0)) (
                .leaf (.next 6 [(.var 0), (.var 1), (.var 2), (.var 3), (.var 4), (.var 5), (.var 6), (.c 0), (.c 9), (.var 7), (.var 8)])) (
                .split (.lss (.sel (.app 4 (.rcons (.c 0) (.rcons (.var 7) (.rcons (.var 8) (.rcons (.strc 1 110) .rnil))))) 1) (.lenL (.var 7))) (
                 .leaf (.next 6 [(.var 0), (.var 1), (.var 2), (.var 3), (.var 4), (.var 5), (.var 6), (.cell (.var 7) (.sel (.app 4 (.rcons (.c 0) (.rcons (.var 7) (.rcons (.var 8) (.rcons (.strc 1 110) .rnil))))) 1) 2), (.c 0), (.var 7), (.var 8)])) (
                 .leaf .stuck))) (
               .leaf .stuck)) (
              .split (.lss (.arith .sub .i64 (.cell (.var 7) (.sel (.app 4 (.rcons (.c 0) (.rcons (.var 7) (.rcons (.var 8) (.rcons (.cell (.var 2) (.arith .rem .i64 (.conv .i64 (.conv .u8 (.cell (.var 1) (.var 6) 0))) (.lenL (.var 2))) 5) .rnil))))) 1) 1) (.cell (.var 7) (.sel (.app 4 (.rcons (.c 0) (.rcons (.var 7) (.rcons (.var 8) (.rcons (.cell (.var 2) (.arith .rem .i64 (.conv .i64 (.conv .u8 (.cell (.var 1) (.var 6) 0))) (.lenL (.var 2))) 5) .rnil))))) 1) 2)) (.cell (.var 2) (.arith .rem .i64 (.conv .i64 (.conv .u8 (.cell (.var 1) (.var 6) 0))) (.lenL (.var 2))) 8)) (
               .split (.eql (.sel (.app 4 (.rcons (.c 0) (.rcons (.var 7) (.rcons (.var 8) (.rcons (.strc 1 110) .rnil))))) 0) (.c 1)) (
                .split (.lss (.sel (.app 4 (.rcons (.c 0) (.rcons (.var 7) (.rcons (.var 8) (.rcons (.strc 1 110) .rnil))))) 1) (.c 0)) (
                 .leaf (.next 6 [(.var 0), (.var 1), (.var 2), (.var 3), (.var 4), (.var 5), (.var 6), (.c 0), (.c 9), (.var 7), (.var 8)])) (
                 .split (.lss (.sel (.app 4 (.rcons (.c 0) (.rcons (.var 7) (.rcons (.var 8) (.rcons (.strc 1 110) .rnil))))) 1) (.lenL (.var 7))) (
                  .leaf (.next 6 [(.var 0), (.var 1), (.var 2), (.var 3), (.var 4), (.var 5), (.var 6), (.cell (.var 7) (.sel (.app 4 (.rcons (.c 0) (.rcons (.var 7) (.rcons (.var 8) (.rcons (.strc 1 110) .rnil))))) 1) 2), (.c 0), (.var 7), (.var 8)])) (
                  .leaf .stuck))) (
                .leaf .stuck)) (
               .split (.eql (.sel (.app 4 (.rcons (.c 0) (.rcons (.upd (.var 7) (.sel (.app 4 (.rcons (.c 0) (.rcons (.var 7) (.rcons (.var 8) (.rcons (.cell (.var 2) (.arith .rem .i64 (.conv .i64 (.conv .u8 (.cell (.var 1) (.var 6) 0))) (.lenL (.var 2))) 5) .rnil))))) 1) 2 (.arith .add .i64 (.cell (.var 7) (.sel (.app 4 (.rcons (.c 0) (.rcons (.var 7) (.rcons (.var 8) (.rcons (.cell (.var 2) (.arith .rem .i64 (.conv .i64 (.conv .u8 (.cell (.var 1) (.var 6) 0))) (.lenL (.var 2))) 5) .rnil))))) 1) 2) (.cell (.var 2) (.arith .rem .i64 (.conv .i64 (.conv .u8 (.cell (.var 1) (.var 6) 0))) (.lenL (.var 2))) 8))) (.rcons (.var 8) (.rcons (.strc 1 110) .rnil))))) 0) (.c 1)) (
                .split (.lss (.sel (.app 4 (.rcons (.c 0) (.rcons (.upd (.var 7) (.sel (.app 4 (.rcons (.c 0) (.rcons (.var 7) (.rcons (.var 8) (.rcons (.cell (.var 2) (.arith .rem .i64 (.conv .i64 (.conv .u8 (.cell (.var 1) (.var 6) 0))) (.lenL (.var 2))) 5) .rnil))))) 1) 2 (.arith .add .i64 (.cell (.var 7) (.sel (.app 4 (.rcons (.c 0) (.rcons (.var 7) (.rcons (.var 8) (.rcons (.cell (.var 2) (.arith .rem .i64 (.conv .i64 (.conv .u8 (.cell (.var 1) (.var 6) 0))) (.lenL (.var 2))) 5) .rnil))))) 1) 2) (.cell (.var 2) (.arith .rem .i64 (.conv .i64 (.conv .u8 (.cell (.var 1) (.var 6) 0))) (.lenL (.var 2))) 8))) (.rcons (.var 8) (.rcons (.strc 1 110) .rnil))))) 1) (.c 0)) (
                 .leaf (.next 6 [(.var 0), (.var 1), (.var 2), (.var 3), (.var 4), (.var 5), (.var 6), (.c 0), (.c 9), (.upd (.var 7) (.sel (.app 4 (.rcons (.c 0) (.rcons (.var 7) (.rcons (.var 8) (.rcons (.cell (.var 2) (.arith .rem .i64 (.conv .i64 (.conv .u8 (.cell (.var 1) (.var 6) 0))) (.lenL (.var 2))) 5) .rnil))))) 1) 2 (.arith .add .i64 (.cell (.var 7) (.sel (.app 4 (.rcons (.c 0) (.rcons (.var 7) (.rcons (.var 8) (.rcons (.cell (.var 2) (.arith .rem .i64 (.conv .i64 (.conv .u8 (.cell (.var 1) (.var 6) 0))) (.lenL (.var 2))) 5) .rnil))))) 1) 2) (.cell (.var 2) (.arith .rem .i64 (.conv .i64 (.conv .u8 (.cell (.var 1) (.var 6) 0))) (.lenL (.var 2))) 8))), (.var 8)])) (
                 .split (.lss (.sel (.app 4 (.rcons (.c 0) (.rcons (.upd (.var 7) (.sel (.app 4 (.rcons (.c 0) (.rcons (.var 7) (.rcons (.var 8) (.rcons (.cell (.var 2) (.arith .rem .i64 (.conv .i64 (.conv .u8 (.cell (.var 1) (.var 6) 0))) (.lenL (.var 2))) 5) .rnil))))) 1) 2 (.arith .add .i64 (.cell (.var 7) (.sel (.app 4 (.rcons (.c 0) (.rcons (.var 7) (.rcons (.var 8) (.rcons (.cell (.var 2) (.arith .rem .i64 (.conv .i64 (.conv .u8 (.cell (.var 1) (.var 6) 0))) (.lenL (.var 2))) 5) .rnil))))) 1) 2) (.cell (.var 2) (.arith .rem .i64 (.conv .i64 (.conv .u8 (.cell (.var 1) (.var 6) 0))) (.lenL (.var 2))) 8))) (.rcons (.var 8) (.rcons (.strc 1 110) .rnil))))) 1) (.lenL (.var 7))) (
                  .leaf (.next 6 [(.var 0), (.var 1), (.var 2), (.var 3), (.var 4), (.var 5), (.var 6), (.cell (.upd (.var 7) (.sel (.app 4 (.rcons (.c 0) (.rcons (.var 7) (.rcons (.var 8) (.rcons (.cell (.var 2) (.arith .rem .i64 (.conv .i64 (.conv .u8 (.cell (.var 1) (.var 6) 0))) (.lenL (.var 2))) 5) .rnil))))) 1) 2 (.arith .add .i64 (.cell (.var 7) (.sel (.app 4 (.rcons (.c 0) (.rcons (.var 7) (.rcons (.var 8) (.rcons (.cell (.var 2) (.arith .rem .i64 (.conv .i64 (.conv .u8 (.cell (.var 1) (.var 6) 0))) (.lenL (.var 2))) 5) .rnil))))) 1) 2) (.cell (.var 2) (.arith .rem .i64 (.conv .i64 (.conv .u8 (.cell (.var 1) (.var 6) 0))) (.lenL (.var 2))) 8))) (.sel (.app 4 (.rcons (.c 0) (.rcons (.upd (.var 7) (.sel (.app 4 (.rcons (.c 0) (.rcons (.var 7) (.rcons (.var 8) (.rcons (.cell (.var 2) (.arith .rem .i64 (.conv .i64 (.conv .u8 (.cell (.var 1) (.var 6) 0))) (.lenL (.var 2))) 5) .rnil))))) 1) 2 (.arith .add .i64 (.cell (.var 7) (.sel (.app 4 (.rcons (.c 0) (.rcons (.var 7) (.rcons (.var 8) (.rcons (.cell (.var 2) (.arith .rem .i64 (.conv .i64 (.conv .u8 (.cell (.var 1) (.var 6) 0))) (.lenL (.var 2))) 5) .rnil))))) 1) 2) (.cell (.var 2) (.arith .rem .i64 (.conv .i64 (.conv .u8 (.cell (.var 1) (.var 6) 0))) (.lenL (.var 2))) 8))) (.rcons (.var 8) (.rcons (.strc 1 110) .rnil))))) 1) 2), (.c 0), (.upd (.var 7) (.sel (.app 4 (.rcons (.c 0) (.rcons (.var 7) (.rcons (.var 8) (.rcons (.cell (.var 2) (.arith .rem .i64 (.conv .i64 (.conv .u8 (.cell (.var 1) (.var 6) 0))) (.lenL (.var 2))) 5) .rnil))))) 1) 2 (.arith .add .i64 (.cell (.var 7) (.sel (.app 4 (.rcons (.c 0) (.rcons (.var 7) (.rcons (.var 8) (.rcons (.cell (.var 2) (.arith .rem .i64 (.conv .i64 (.conv .u8 (.cell (.var 1) (.var 6) 0))) (.lenL (.var 2))) 5) .rnil))))) 1) 2) (.cell (.var 2) (.arith .rem .i64 (.conv .i64 (.conv .u8 (.cell (.var 1) (.var 6) 0))) (.lenL (.var 2))) 8))), (.var 8)])) (
                  .leaf .stuck))) (
                .leaf .stuck)))))) (
           .leaf .stuck))) (
         .leaf .stuck))) (
       .leaf .stuck)))) (
    .split (.eql (.sel (.app 4 (.rcons (.c 0) (.rcons (.var 7) (.rcons (.var 8) (.rcons (.strc 1 110) .rnil))))) 0) (.c 1)) (
     .split (.lss (.sel (.app 4 (.rcons (.c 0) (.rcons (.var 7) (.rcons (.var 8) (.rcons (.strc 1 110) .rnil))))) 1) (.c 0)) (
      .leaf (.next 6 [(.var 0), (.var 1), (.var 2), (.var 3), (.var 4), (.var 5), (.var 6), (.c 0), (.c 9), (.var 7), (.var 8)])) (
      .split (.lss (.sel (.app 4 (.rcons (.c 0) (.rcons (.var 7) (.rcons (.var 8) (.rcons (.strc 1 110) .rnil))))) 1) (.lenL (.var 7))) (
       .leaf (.next 6 [(.var 0), (.var 1), (.var 2), (.var 3), (.var 4), (.var 5), (.var 6), (.cell (.var 7) (.sel (.app 4 (.rcons (.c 0) (.rcons (.var 7) (.rcons (.var 8) (.rcons (.strc 1 110) .rnil))))) 1) 2), (.c 0), (.var 7), (.var 8)])) (
       .leaf .stuck))) (
     .leaf .stuck))) (
   .leaf (.next 4 [(.var 0), (.var 2), (.var 3), (.var 4), (.var 5), (.c 0), (.bc true), (.lenL (.var 7)), (.var 8), (.var 7)]))
def t7p3 : Tr Plf :=
  .split (.lss (.var 10) (.lenL (.var 4))) (
   .split (.var 9) (
    .leaf (.next 3 [(.var 0), (.var 1), (.var 2), (.var 3), (.var 4), (.var 5), (.var 6), (.var 7), (.var 8), (.bc true), (.arith .add .i64 (.var 10) (.c 1)), (.var 11), (.var 12)])) (
    .split (.lss (.var 10) (.c 0)) (
     .leaf .stuck) (
     .leaf (.next 3 [(.var 0), (.var 1), (.var 2), (.var 3), (.var 4), (.var 5), (.var 6), (.var 7), (.var 8), (.eql (.cell (.var 4) (.var 10) 0) (.var 7)), (.arith .add .i64 (.var 10) (.c 1)), (.var 11), (.var 12)])))) (
   .split (.eql (.var 8) (.c 0)) (
    .split (.var 9) (
     .leaf (.next 2 [(.var 0), (.var 1), (.var 2), (.var 3), (.var 4), (.var 5), (.arith .add .i64 (.var 6) (.c 1)), (.var 11), (.var 12)])) (
     .leaf (.done 0 [(.bc false)]))) (
    .leaf (.done 0 [(.bc false)])))
def t7p4 : Tr Plf :=
  .split (.lss (.var 5) (.lenL (.var 3))) (
   .split (.lss (.var 5) (.c 0)) (
    .leaf .stuck) (
    .split (.eql (.sel (.app 2 (.rcons (.c 0) (.rcons (.var 0) (.rcons (.var 1) (.rcons (.var 2) .rnil))))) 0) (.c 1)) (
     .split (.eql (.sel (.app 2 (.rcons (.c 0) (.rcons (.var 0) (.rcons (.var 1) (.rcons (.var 2) .rnil))))) 5) (.c 0)) (
      .split (.lss (.cell (.var 3) (.var 5) 0) (.c 0)) (
       .leaf (.done 0 [(.bc false)])) (
       .split (.lss (.var 0) (.cell (.var 3) (.var 5) 0)) (
        .leaf (.done 0 [(.bc false)])) (
        .split (.lss (.cell (.var 3) (.var 5) 0) (.lenL (.sel (.app 2 (.rcons (.c 0) (.rcons (.var 0) (.rcons (.var 1) (.rcons (.var 2) .rnil))))) 3))) (
         .split (.cell (.sel (.app 2 (.rcons (.c 0) (.rcons (.var 0) (.rcons (.var 1) (.rcons (.var 2) .rnil))))) 3) (.cell (.var 3) (.var 5) 0) 0) (
          .split (.lss (.cell (.var 3) (.var 5) 0) (.lenL (.sel (.app 2 (.rcons (.c 0) (.rcons (.var 0) (.rcons (.var 1) (.rcons (.var 2) .rnil))))) 1))) (
           .split (.eql (.lenL (.var 9)) (.var 7)) (
            .split (.eql (.sel (.app 6 (.rcons (.c 0) (.rcons (.var 6) (.rcons (.var 9) (.rcons (.var 8) (.rcons (.snoc .emptyL (.rcons (.c 0) .rnil)) (.rcons (.bc false) .rnil))))))) 0) (.c 1)) (
             .split (.eql (.sel (.app 6 (.rcons (.c 0) (.rcons (.var 6) (.rcons (.var 9) (.rcons (.var 8) (.rcons (.snoc .emptyL (.rcons (.c 0) .rnil)) (.rcons (.bc false) .rnil))))))) 1) (.c 0)) (
              .leaf (.next 5 [(.var 0), (.var 1), (.var 2), (.var 3), (.var 4), (.var 5), (.cell (.sel (.app 2 (.rcons (.c 0) (.rcons (.var 0) (.rcons (.var 1) (.rcons (.var 2) .rnil))))) 1) (.cell (.var 3) (.var 5) 0) 0), (.c 0), (.var 6), (.lenL (.var 9)), (.var 8), (.sel (.app 6 (.rcons (.c 0) (.rcons (.var 6) (.rcons (.var 9) (.rcons (.var 8) (.rcons (.snoc .emptyL (.rcons (.c 0) .rnil)) (.rcons (.bc false) .rnil))))))) 2)])) (
              .leaf (.done 0 [(.bc false)]))) (
             .leaf .stuck)) (
            .leaf .stuck)) (
           .leaf .stuck)) (
          .leaf (.done 0 [(.bc false)]))) (
         .leaf .stuck)))) (
      .leaf (.done 0 [(.bc false)]))) (
     .leaf .stuck))) (
   .split (.eql (.sel (.app 0 (.rcons (.c 0) .rnil)) 0) (.c 1)) (
    .leaf (.done 0 [(.bc true)])) (
    .leaf .stuck))
def t7p5 : Tr Plf :=
  .split (.lss (.var 7) (.lenL (.var 6))) (
   .split (.lss (.var 7) (.c 0)) (
    .leaf .stuck) (
    .split (.lss (.cell (.var 6) (.var 7) 0) (.c 0)) (
     .leaf (.done 0 [(.bc false)])) (
     .split (.lss (.cell (.var 6) (.var 7) 0) (.lenL (.var 1))) (
      .split (.var 8) (
       .split (.eqS (.cell (.var 1) (.cell (.var 6) (.var 7) 0) 5) 0 0) (
        .leaf (.next 5 [(.var 0), (.var 1), (.var 2), (.var 3), (.var 4), (.var 5), (.var 6), (.arith .add .i64 (.var 7) (.c 1)), (.var 8), (.var 9), (.var 10), (.var 11)])) (
        .split (.eql (.lenL (.var 11)) (.var 9)) (
         .split (.eql (.sel (.app 4 (.rcons (.c 0) (.rcons (.var 11) (.rcons (.var 10) (.rcons (.cell (.var 1) (.cell (.var 6) (.var 7) 0) 5) .rnil))))) 0) (.c 1)) (
          .split (.lss (.sel (.app 4 (.rcons (.c 0) (.rcons (.var 11) (.rcons (.var 10) (.rcons (.cell (.var 1) (.cell (.var 6) (.var 7) 0) 5) .rnil))))) 1) (.c 0)) (
           .leaf (.done 0 [(.bc false)])) (
           .split (.lss (.sel (.app 4 (.rcons (.c 0) (.rcons (.var 11) (.rcons (.var 10) (.rcons (.cell (.var 1) (.cell (.var 6) (.var 7) 0) 5) .rnil))))) 1) (.var 9)) (
            .split (.lss (.sel (.app 4 (.rcons (.c 0) (.rcons (.var 11) (.rcons (.var 10) (.rcons (.cell (.var 1) (.cell (.var 6) (.var 7) 0) 5) .rnil))))) 1) (.lenL (.var 11))) (
             .split (.lss (.cell (.var 11) (.sel (.app 4 (.rcons (.c 0) (.rcons (.var 11) (.rcons (.var 10) (.rcons (.cell (.var 1) (.cell (.var 6) (.var 7) 0) 5) .rnil))))) 1) 2) (.cell (.var 1) (.cell (.var 6) (.var 7) 0) 6)) (
              .leaf (.done 0 [(.bc false)])) (
              .split (.lss (.cell (.var 1) (.cell (.var 6) (.var 7) 0) 7) (.cell (.var 11) (.sel (.app 4 (.rcons (.c 0) (.rcons (.var 11) (.rcons (.var 10) (.rcons (.cell (.var 1) (.cell (.var 6) (.var 7) 0) 5) .rnil))))) 1) 2)) (
               .leaf (.done 0 [(.bc false)])) (
               .split (.lss (.cell (.var 1) (.cell (.var 6) (.var 7) 0) 8) (.arith .sub .i64 (.c 0) (.cell (.var 11) (.sel (.app 4 (.rcons (.c 0) (.rcons (.var 11) (.rcons (.var 10) (.rcons (.cell (.var 1) (.cell (.var 6) (.var 7) 0) 5) .rnil))))) 1) 2))) (
                .leaf (.done 0 [(.bc false)])) (
                .split (.lss (.arith .sub .i64 (.cell (.var 11) (.sel (.app 4 (.rcons (.c 0) (.rcons (.var 11) (.rcons (.var 10) (.rcons (.cell (.var 1) (.cell (.var 6) (.var 7) 0) 5) .rnil))))) 1) 1) (.cell (.var 11) (.sel (.app 4 (.rcons (.c 0) (.rcons (.var 11) (.rcons (.var 10) (.rcons (.cell (.var 1) (.cell (.var 6) (.var 7) 0) 5) .rnil))))) 1) 2)) (.cell (.var 1) (.cell (.var 6) (.var 7) 0) 8)) (
                 .leaf (.done 0 [(.bc false)])) (
                 .leaf (.next 5 [(.var 0), (.var 1), (.var 2), (.var 3), (.var 4), (.var 5), (.var 6), (.arith .add .i64 (.var 7) (.c 1)), (.var 8), (.var 9), (.var 10), (.upd (.var 11) (.sel (.app 4 (.rcons (.c 0) (.rcons (.var 11) (.rcons (.var 10) (.rcons (.cell (.var 1) (.cell (.var 6) (.var 7) 0) 5) .rnil))))) 1) 2 (.arith .add .i64 (.cell (.var 11) (.sel (.app 4 (.rcons (.c 0) (.rcons (.var 11) (.rcons (.var 10) (.rcons (.cell (.var 1) (.cell (.var 6) (.var 7) 0) 5) .rnil))))) 1) 2) (.cell (.var 1) (.cell (.var 6) (.var 7) 0) 8)))])))))) (
             .leaf .stuck)) (
            .leaf .stuck))) (
          .leaf .stuck)) (
         .leaf .stuck))) (
       .leaf (.done 0 [(.bc false)]))) (
      .leaf (.done 0 [(.bc false)]))))) (
   .split (.var 8) (
    .split (.eql (.lenL (.var 11)) (.var 9)) (
     .split (.eql (.sel (.app 4 (.rcons (.c 0) (.rcons (.var 11) (.rcons (.var 10) (.rcons (.strc 1 110) .rnil))))) 0) (.c 1)) (
      .split (.lss (.sel (.app 4 (.rcons (.c 0) (.rcons (.var 11) (.rcons (.var 10) (.rcons (.strc 1 110) .rnil))))) 1) (.c 0)) (
       .split (.lss (.var 5) (.c 0)) (
        .leaf .stuck) (
        .split (.lss (.var 5) (.lenL (.var 3))) (
         .split (.eql (.c 0) (.cell (.var 3) (.var 5) 0)) (
          .leaf (.done 0 [(.bc false)])) (
          .leaf (.done 0 [(.bc false)]))) (
         .leaf .stuck))) (
       .split (.lss (.sel (.app 4 (.rcons (.c 0) (.rcons (.var 11) (.rcons (.var 10) (.rcons (.strc 1 110) .rnil))))) 1) (.var 9)) (
        .split (.lss (.sel (.app 4 (.rcons (.c 0) (.rcons (.var 11) (.rcons (.var 10) (.rcons (.strc 1 110) .rnil))))) 1) (.lenL (.var 11))) (
         .split (.lss (.var 5) (.c 0)) (
          .leaf .stuck) (
          .split (.lss (.var 5) (.lenL (.var 3))) (
           .split (.eql (.cell (.var 11) (.sel (.app 4 (.rcons (.c 0) (.rcons (.var 11) (.rcons (.var 10) (.rcons (.strc 1 110) .rnil))))) 1) 2) (.cell (.var 3) (.var 5) 0)) (
            .leaf (.next 4 [(.var 0), (.var 1), (.var 2), (.var 3), (.var 4), (.arith .add .i64 (.var 5) (.c 1)), (.var 8), (.var 9), (.var 10), (.var 11)])) (
            .leaf (.done 0 [(.bc false)]))) (
           .leaf .stuck))) (
         .leaf .stuck)) (
        .leaf .stuck))) (
      .leaf .stuck)) (
     .leaf .stuck)) (
    .split (.lss (.var 5) (.c 0)) (
     .leaf .stuck) (
     .split (.lss (.var 5) (.lenL (.var 3))) (
      .split (.eql (.c 0) (.cell (.var 3) (.var 5) 0)) (
       .leaf (.done 0 [(.bc false)])) (
       .leaf (.done 0 [(.bc false)]))) (
      .leaf .stuck))))
def t7p6 : Tr Plf :=
  .leaf (.next 3 [(.var 0), (.var 1), (.var 2), (.var 3), (.var 4), (.var 5), (.var 6), (.var 7), (.var 8), (.bc false), (.c 0), (.var 9), (.var 10)])
def t7 : List (Tr Plf) := [t7p0, t7p1, t7p2, t7p3, t7p4, t7p5, t7p6]
def ts : List (List (Tr Plf)) := [t0, t1, t2, t3, t4, t5, t6, t7]
end Go.CH
