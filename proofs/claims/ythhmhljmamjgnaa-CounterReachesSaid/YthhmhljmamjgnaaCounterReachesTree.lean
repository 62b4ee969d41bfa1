/- What is stated: the trees of tests of the functions that the law CounterReaches reaches, as data. Conditions: none. -/
import Derived.Test.YthhmhljmamjgnaaBeF
set_option linter.unusedVariables false
set_option linter.unusedSectionVars false
namespace Go.CR
open Go.AE
def t0p0 : Tr Plf :=
  .leaf (.done 0 [])
def t0 : List (Tr Plf) := [t0p0]
def t1p0 : Tr Plf :=
  .leaf (.next 1 [(.var 0), (.c 0)])
def t1p1 : Tr Plf :=
  .split (.lss (.var 1) (.lenL (.var 0))) (
   .split (.lss (.var 1) (.c 0)) (
    .leaf .stuck) (
    .split (.lss (.cell (.var 0) (.var 1) 8) (.c (-1000))) (
     .leaf (.done 0 [(.var 1)])) (
     .split (.lss (.c 1000) (.cell (.var 0) (.var 1) 8)) (
      .leaf (.done 0 [(.var 1)])) (
      .leaf (.next 1 [(.var 0), (.arith .add .i64 (.var 1) (.c 1))]))))) (
   .leaf (.done 0 [(.c (-1))]))
def t1 : List (Tr Plf) := [t1p0, t1p1]
def t2p0 : Tr Plf :=
  .split (.lss (.var 0) (.c 1)) (
   .leaf (.done 0 [.nilL, (.bc true), .nilL, (.bc true), (.c 2)])) (
   .split (.lss (.c 1000) (.var 0)) (
    .leaf (.done 0 [.nilL, (.bc true), .nilL, (.bc true), (.c 2)])) (
    .split (.eql (.sel (.app 1 (.rcons (.c 0) (.rcons (.var 1) .rnil))) 0) (.c 1)) (
     .split (.lss (.sel (.app 1 (.rcons (.c 0) (.rcons (.var 1) .rnil))) 1) (.c 0)) (
      .split (.lss (.arith .add .i64 (.var 0) (.c 1)) (.c 0)) (
       .leaf .stuck) (
       .split (.lss (.arith .add .i64 (.var 0) (.c 1)) (.c 1048577)) (
        .split (.lss (.c 0) (.lenL (.rep (.arith .add .i64 (.var 0) (.c 1)) (.rcons (.bc false) .rnil)))) (
         .leaf (.next 1 [(.var 0), (.var 1), (.rep (.arith .add .i64 (.var 0) (.c 1)) (.rcons .nilL .rnil)), (.upd (.rep (.arith .add .i64 (.var 0) (.c 1)) (.rcons (.bc false) .rnil)) (.c 0) 0 (.bc true)), (.snoc .emptyL (.rcons (.c 0) .rnil)), (.bc false)])) (
         .leaf .stuck)) (
        .leaf .stuck))) (
      .leaf (.done 0 [.nilL, (.bc true), .nilL, (.bc true), (.c 2)]))) (
     .leaf .stuck)))
def t2p1 : Tr Plf :=
  .split (.lss (.c 0) (.lenL (.var 4))) (
   .leaf (.next 2 [(.var 0), (.var 1), (.var 2), (.var 3), .nilL, (.bc true), (.var 4), (.var 5), (.lenL (.var 4)), (.c 0)])) (
   .leaf (.done 0 [(.var 2), (.bc false), (.var 3), (.bc false), (.c 0)]))
def t2p2 : Tr Plf :=
  .split (.lss (.var 9) (.var 8)) (
   .split (.lss (.var 9) (.c 0)) (
    .leaf .stuck) (
    .split (.lss (.var 9) (.lenL (.var 6))) (
     .leaf (.next 3 [(.var 0), (.var 1), (.var 2), (.var 3), (.var 4), (.var 5), (.cell (.var 6) (.var 9) 0), (.var 6), (.var 7), (.var 8), (.var 9), (.c 0)])) (
     .leaf .stuck))) (
   .leaf (.next 1 [(.var 0), (.var 1), (.var 2), (.var 3), (.var 4), (.var 5)]))
def t2p3 : Tr Plf :=
  .split (.lss (.var 11) (.lenL (.var 1))) (
   .split (.lss (.var 11) (.c 0)) (
    .leaf .stuck) (
    .split (.lss (.var 6) (.cell (.var 1) (.var 11) 6)) (
     .leaf (.next 3 [(.var 0), (.var 1), (.var 2), (.var 3), (.var 4), (.var 5), (.var 6), (.var 7), (.var 8), (.var 9), (.var 10), (.arith .add .i64 (.var 11) (.c 1))])) (
     .split (.lss (.cell (.var 1) (.var 11) 7) (.var 6)) (
      .leaf (.next 3 [(.var 0), (.var 1), (.var 2), (.var 3), (.var 4), (.var 5), (.var 6), (.var 7), (.var 8), (.var 9), (.var 10), (.arith .add .i64 (.var 11) (.c 1))])) (
      .split (.lss (.cell (.var 1) (.var 11) 8) (.arith .sub .i64 (.c 0) (.var 6))) (
       .leaf (.next 3 [(.var 0), (.var 1), (.var 2), (.var 3), (.var 4), (.var 5), (.var 6), (.var 7), (.var 8), (.var 9), (.var 10), (.arith .add .i64 (.var 11) (.c 1))])) (
       .split (.lss (.arith .sub .i64 (.var 0) (.var 6)) (.cell (.var 1) (.var 11) 8)) (
        .leaf (.next 3 [(.var 0), (.var 1), (.var 2), (.var 3), (.var 4), (.var 5), (.var 6), (.var 7), (.var 8), (.var 9), (.var 10), (.arith .add .i64 (.var 11) (.c 1))])) (
        .split (.lss (.arith .add .i64 (.var 6) (.cell (.var 1) (.var 11) 8)) (.c 0)) (
         .leaf .stuck) (
         .split (.lss (.arith .add .i64 (.var 6) (.cell (.var 1) (.var 11) 8)) (.lenL (.var 3))) (
          .split (.cell (.var 3) (.arith .add .i64 (.var 6) (.cell (.var 1) (.var 11) 8)) 0) (
           .leaf (.next 3 [(.var 0), (.var 1), (.var 2), (.var 3), (.var 4), (.var 5), (.var 6), (.var 7), (.var 8), (.var 9), (.var 10), (.arith .add .i64 (.var 11) (.c 1))])) (
           .split (.lss (.var 6) (.c 0)) (
            .leaf .stuck) (
            .split (.lss (.var 6) (.lenL (.var 2))) (
             .split (.isNil (.cell (.var 2) (.var 6) 0)) (
              .split (.lss (.arith .add .i64 (.var 6) (.cell (.var 1) (.var 11) 8)) (.lenL (.var 2))) (
               .split (.lss (.lenL (.var 4)) (.c 1048576)) (
                .leaf (.next 3 [(.var 0), (.var 1), (.upd (.var 2) (.arith .add .i64 (.var 6) (.cell (.var 1) (.var 11) 8)) 0 (.snoc .emptyL (.rcons (.var 11) .rnil))), (.upd (.var 3) (.arith .add .i64 (.var 6) (.cell (.var 1) (.var 11) 8)) 0 (.bc true)), (.snoc (.var 4) (.rcons (.arith .add .i64 (.var 6) (.cell (.var 1) (.var 11) 8)) .rnil)), (.bc false), (.var 6), (.var 7), (.var 8), (.var 9), (.var 10), (.arith .add .i64 (.var 11) (.c 1))])) (
                .leaf .stuck)) (
               .leaf .stuck)) (
              .split (.lss (.lenL (.cell (.var 2) (.var 6) 0)) (.c 1048576)) (
               .split (.lss (.lenL (.cat .emptyL (.cell (.var 2) (.var 6) 0))) (.c 1048576)) (
                .split (.lss (.arith .add .i64 (.var 6) (.cell (.var 1) (.var 11) 8)) (.lenL (.var 2))) (
                 .split (.lss (.lenL (.var 4)) (.c 1048576)) (
                  .leaf (.next 3 [(.var 0), (.var 1), (.upd (.var 2) (.arith .add .i64 (.var 6) (.cell (.var 1) (.var 11) 8)) 0 (.nilIs (.snoc (.cat .emptyL (.cell (.var 2) (.var 6) 0)) (.rcons (.var 11) .rnil)) (.bc false))), (.upd (.var 3) (.arith .add .i64 (.var 6) (.cell (.var 1) (.var 11) 8)) 0 (.bc true)), (.snoc (.var 4) (.rcons (.arith .add .i64 (.var 6) (.cell (.var 1) (.var 11) 8)) .rnil)), (.bc false), (.var 6), (.var 7), (.var 8), (.var 9), (.var 10), (.arith .add .i64 (.var 11) (.c 1))])) (
                  .leaf .stuck)) (
                 .leaf .stuck)) (
                .leaf .stuck)) (
               .leaf .stuck))) (
             .leaf .stuck)))) (
          .leaf .stuck)))))))) (
   .leaf (.next 2 [(.var 0), (.var 1), (.var 2), (.var 3), (.var 4), (.var 5), (.var 7), (.var 8), (.var 9), (.arith .add .i64 (.var 10) (.c 1))]))
def t2 : List (Tr Plf) := [t2p0, t2p1, t2p2, t2p3]
def t3p0 : Tr Plf :=
  .split (.eql (.sel (.app 2 (.rcons (.c 0) (.rcons (.var 0) (.rcons (.var 1) .rnil)))) 0) (.c 1)) (
   .leaf (.next 1 [.nilL, (.bc true), (.sel (.app 2 (.rcons (.c 0) (.rcons (.var 0) (.rcons (.var 1) .rnil)))) 5), (.sel (.app 2 (.rcons (.c 0) (.rcons (.var 0) (.rcons (.var 1) .rnil)))) 3), (.sel (.app 2 (.rcons (.c 0) (.rcons (.var 0) (.rcons (.var 1) .rnil)))) 4), (.lenL (.sel (.app 2 (.rcons (.c 0) (.rcons (.var 0) (.rcons (.var 1) .rnil)))) 3)), (.c 0)])) (
   .leaf .stuck)
def t3p1 : Tr Plf :=
  .split (.lss (.var 6) (.var 5)) (
   .split (.lss (.var 6) (.c 0)) (
    .leaf .stuck) (
    .split (.lss (.var 6) (.lenL (.var 3))) (
     .split (.cell (.var 3) (.var 6) 0) (
      .split (.lss (.lenL (.var 0)) (.c 1048576)) (
       .leaf (.next 1 [(.snoc (.var 0) (.rcons (.var 6) .rnil)), (.bc false), (.var 2), (.var 3), (.var 4), (.var 5), (.arith .add .i64 (.var 6) (.c 1))])) (
       .leaf .stuck)) (
      .leaf (.next 1 [(.var 0), (.var 1), (.var 2), (.var 3), (.var 4), (.var 5), (.arith .add .i64 (.var 6) (.c 1))]))) (
     .leaf .stuck))) (
   .leaf (.done 0 [(.var 0), (.var 1), (.var 2)]))
def t3 : List (Tr Plf) := [t3p0, t3p1]
def t4p0 : Tr Plf :=
  .leaf (.next 1 [(.var 0), (.var 1), (.c 0)])
def t4p1 : Tr Plf :=
  .split (.lss (.var 2) (.lenL (.var 1))) (
   .split (.lss (.var 2) (.c 0)) (
    .leaf .stuck) (
    .split (.lss (.cell (.var 1) (.var 2) 8) (.c (-1000))) (
     .leaf (.done 0 [(.bc false)])) (
     .split (.lss (.c 1000) (.cell (.var 1) (.var 2) 8)) (
      .leaf (.done 0 [(.bc false)])) (
      .leaf (.next 1 [(.var 0), (.var 1), (.arith .add .i64 (.var 2) (.c 1))]))))) (
   .split (.lss (.var 0) (.c 1)) (
    .leaf (.done 0 [(.bc false)])) (
    .leaf (.done 0 [(.neg (.lss (.c 1000) (.var 0)))])))
def t4 : List (Tr Plf) := [t4p0, t4p1]
def t5p0 : Tr Plf :=
  .split (.lss (.arith .add .i64 (.var 0) (.c 1)) (.c 0)) (
   .leaf .stuck) (
   .split (.lss (.arith .add .i64 (.var 0) (.c 1)) (.c 1048577)) (
    .leaf (.next 1 [(.var 0), (.var 1), (.rep (.arith .add .i64 (.var 0) (.c 1)) (.rcons (.c 0) .rnil)), (.c 1)])) (
    .leaf .stuck))
def t5p1 : Tr Plf :=
  .split (.lss (.var 0) (.var 3)) (
   .leaf (.next 2 [(.var 0), (.var 1), (.var 2), (.c 0), (.bc true)])) (
   .split (.lss (.var 3) (.c 0)) (
    .leaf .stuck) (
    .split (.lss (.var 3) (.lenL (.var 2))) (
     .leaf (.next 1 [(.var 0), (.var 1), (.upd (.var 2) (.var 3) 0 (.c (-1))), (.arith .add .i64 (.var 3) (.c 1))])) (
     .leaf .stuck)))
def t5p2 : Tr Plf :=
  .split (.var 4) (
   .leaf (.next 3 [(.var 0), (.var 1), (.var 2), (.var 3), (.bc false), (.c 0)])) (
   .leaf (.done 0 [(.var 2)]))
def t5p3 : Tr Plf :=
  .split (.lss (.var 0) (.var 5)) (
   .leaf (.next 2 [(.var 0), (.var 1), (.var 2), (.arith .add .i64 (.var 3) (.c 1)), (.var 4)])) (
   .leaf (.next 4 [(.var 0), (.var 1), (.var 2), (.var 3), (.var 4), (.var 5), (.c 0)]))
def t5p4 : Tr Plf :=
  .split (.lss (.var 6) (.lenL (.var 1))) (
   .split (.lss (.var 5) (.c 0)) (
    .leaf .stuck) (
    .split (.lss (.var 5) (.lenL (.var 2))) (
     .split (.eql (.cell (.var 2) (.var 5) 0) (.var 3)) (
      .split (.lss (.var 6) (.c 0)) (
       .leaf .stuck) (
       .split (.lss (.var 5) (.cell (.var 1) (.var 6) 6)) (
        .leaf (.next 4 [(.var 0), (.var 1), (.var 2), (.var 3), (.var 4), (.var 5), (.arith .add .i64 (.var 6) (.c 1))])) (
        .split (.lss (.cell (.var 1) (.var 6) 7) (.var 5)) (
         .leaf (.next 4 [(.var 0), (.var 1), (.var 2), (.var 3), (.var 4), (.var 5), (.arith .add .i64 (.var 6) (.c 1))])) (
         .split (.lss (.cell (.var 1) (.var 6) 8) (.c (-1000))) (
          .leaf (.next 4 [(.var 0), (.var 1), (.var 2), (.var 3), (.var 4), (.var 5), (.arith .add .i64 (.var 6) (.c 1))])) (
          .split (.lss (.c 1000) (.cell (.var 1) (.var 6) 8)) (
           .leaf (.next 4 [(.var 0), (.var 1), (.var 2), (.var 3), (.var 4), (.var 5), (.arith .add .i64 (.var 6) (.c 1))])) (
           .split (.lss (.arith .add .i64 (.var 5) (.cell (.var 1) (.var 6) 8)) (.c 0)) (
            .leaf (.next 4 [(.var 0), (.var 1), (.var 2), (.var 3), (.var 4), (.var 5), (.arith .add .i64 (.var 6) (.c 1))])) (
            .split (.lss (.var 0) (.arith .add .i64 (.var 5) (.cell (.var 1) (.var 6) 8))) (
             .leaf (.next 4 [(.var 0), (.var 1), (.var 2), (.var 3), (.var 4), (.var 5), (.arith .add .i64 (.var 6) (.c 1))])) (
             .split (.lss (.arith .add .i64 (.var 5) (.cell (.var 1) (.var 6) 8)) (.lenL (.var 2))) (
              .split (.lss (.cell (.var 2) (.arith .add .i64 (.var 5) (.cell (.var 1) (.var 6) 8)) 0) (.c 0)) (
               .leaf (.next 4 [(.var 0), (.var 1), (.upd (.var 2) (.arith .add .i64 (.var 5) (.cell (.var 1) (.var 6) 8)) 0 (.arith .add .i64 (.var 3) (.c 1))), (.var 3), (.bc true), (.var 5), (.arith .add .i64 (.var 6) (.c 1))])) (
               .leaf (.next 4 [(.var 0), (.var 1), (.var 2), (.var 3), (.var 4), (.var 5), (.arith .add .i64 (.var 6) (.c 1))]))) (
              .leaf .stuck))))))))) (
      .leaf (.next 3 [(.var 0), (.var 1), (.var 2), (.var 3), (.var 4), (.arith .add .i64 (.var 5) (.c 1))]))) (
     .leaf .stuck))) (
   .leaf (.next 3 [(.var 0), (.var 1), (.var 2), (.var 3), (.var 4), (.arith .add .i64 (.var 5) (.c 1))]))
def t5 : List (Tr Plf) := [t5p0, t5p1, t5p2, t5p3, t5p4]
def t6p0 : Tr Plf :=
  .split (.eql (.sel (.app 4 (.rcons (.c 0) (.rcons (.var 0) (.rcons (.var 1) .rnil)))) 0) (.c 1)) (
   .split (.sel (.app 4 (.rcons (.c 0) (.rcons (.var 0) (.rcons (.var 1) .rnil)))) 1) (
    .split (.eql (.sel (.app 5 (.rcons (.c 0) (.rcons (.var 0) (.rcons (.var 1) .rnil)))) 0) (.c 1)) (
     .leaf (.next 1 [(.var 0), (.sel (.app 5 (.rcons (.c 0) (.rcons (.var 0) (.rcons (.var 1) .rnil)))) 1), .nilL, (.bc true), (.c 0)])) (
     .leaf .stuck)) (
    .leaf (.done 0 [.nilL, (.bc true), (.c 2)]))) (
   .leaf .stuck)
def t6p1 : Tr Plf :=
  .split (.lss (.var 0) (.var 4)) (
   .leaf (.done 0 [(.var 2), (.var 3), (.c 0)])) (
   .split (.lss (.var 4) (.c 0)) (
    .leaf .stuck) (
    .split (.lss (.var 4) (.lenL (.var 1))) (
     .split (.lss (.cell (.var 1) (.var 4) 0) (.c 0)) (
      .leaf (.next 1 [(.var 0), (.var 1), (.var 2), (.var 3), (.arith .add .i64 (.var 4) (.c 1))])) (
      .split (.lss (.lenL (.var 2)) (.c 1048576)) (
       .leaf (.next 1 [(.var 0), (.var 1), (.snoc (.var 2) (.rcons (.var 4) .rnil)), (.bc false), (.arith .add .i64 (.var 4) (.c 1))])) (
       .leaf .stuck))) (
     .leaf .stuck)))
def t6 : List (Tr Plf) := [t6p0, t6p1]
def t7p0 : Tr Plf :=
  .split (.lss (.arith .add .i64 (.var 0) (.c 1)) (.c 0)) (
   .leaf .stuck) (
   .split (.lss (.arith .add .i64 (.var 0) (.c 1)) (.c 1048577)) (
    .split (.lss (.var 2) (.c 0)) (
     .leaf .stuck) (
     .split (.lss (.var 2) (.lenL (.rep (.arith .add .i64 (.var 0) (.c 1)) (.rcons (.bc false) .rnil)))) (
      .leaf (.next 1 [(.var 0), (.var 1), (.var 3), (.snoc .emptyL (.rcons (.nilIs (.upd (.rep (.arith .add .i64 (.var 0) (.c 1)) (.rcons (.bc false) .rnil)) (.var 2) 0 (.bc true)) (.bc false)) .rnil)), (.c 1), .nilL])) (
      .leaf .stuck))) (
    .leaf .stuck))
def t7p1 : Tr Plf :=
  .split (.lss (.var 2) (.var 4)) (
   .leaf (.done 0 [(.var 3)])) (
   .split (.lss (.arith .add .i64 (.var 0) (.c 1)) (.c 0)) (
    .leaf .stuck) (
    .split (.lss (.arith .add .i64 (.var 0) (.c 1)) (.c 1048577)) (
     .leaf (.next 2 [(.var 0), (.var 1), (.var 2), (.var 3), (.bc false), (.var 4), (.rep (.arith .add .i64 (.var 0) (.c 1)) (.rcons (.bc false) .rnil)), (.c 0), .nilL])) (
     .leaf .stuck)))
def t7p2 : Tr Plf :=
  .split (.lss (.var 0) (.var 7)) (
   .split (.lss (.lenL (.var 3)) (.c 1048576)) (
    .leaf (.next 1 [(.var 0), (.var 1), (.var 2), (.snoc (.var 3) (.rcons (.nilIs (.var 6) (.bc false)) .rnil)), (.arith .add .i64 (.var 5) (.c 1)), .nilL])) (
    .leaf .stuck)) (
   .leaf (.next 3 [(.var 0), (.var 1), (.var 2), (.var 3), (.var 4), (.var 5), (.var 6), (.var 7), (.c 0), .nilL]))
def t7p3 : Tr Plf :=
  .split (.lss (.var 8) (.lenL (.var 1))) (
   .split (.lss (.var 8) (.c 0)) (
    .leaf .stuck) (
    .split (.lss (.var 7) (.cell (.var 1) (.var 8) 6)) (
     .split (.lss (.var 7) (.c 0)) (
      .leaf .stuck) (
      .split (.lss (.var 7) (.lenL (.var 6))) (
       .split (.cell (.var 6) (.var 7) 0) (
        .leaf (.next 3 [(.var 0), (.var 1), (.var 2), (.var 3), (.var 4), (.var 5), (.upd (.var 6) (.var 7) 0 (.bc true)), (.var 7), (.arith .add .i64 (.var 8) (.c 1)), .nilL])) (
        .leaf (.next 3 [(.var 0), (.var 1), (.var 2), (.var 3), (.var 4), (.var 5), (.upd (.var 6) (.var 7) 0 (.bc false)), (.var 7), (.arith .add .i64 (.var 8) (.c 1)), .nilL]))) (
       .leaf .stuck))) (
     .split (.lss (.cell (.var 1) (.var 8) 7) (.var 7)) (
      .split (.lss (.var 7) (.c 0)) (
       .leaf .stuck) (
       .split (.lss (.var 7) (.lenL (.var 6))) (
        .split (.cell (.var 6) (.var 7) 0) (
         .leaf (.next 3 [(.var 0), (.var 1), (.var 2), (.var 3), (.var 4), (.var 5), (.upd (.var 6) (.var 7) 0 (.bc true)), (.var 7), (.arith .add .i64 (.var 8) (.c 1)), .nilL])) (
         .leaf (.next 3 [(.var 0), (.var 1), (.var 2), (.var 3), (.var 4), (.var 5), (.upd (.var 6) (.var 7) 0 (.bc false)), (.var 7), (.arith .add .i64 (.var 8) (.c 1)), .nilL]))) (
        .leaf .stuck))) (
      .split (.lss (.cell (.var 1) (.var 8) 8) (.c (-1000))) (
       .split (.lss (.var 7) (.c 0)) (
        .leaf .stuck) (
        .split (.lss (.var 7) (.lenL (.var 6))) (
         .split (.cell (.var 6) (.var 7) 0) (
          .leaf (.next 3 [(.var 0), (.var 1), (.var 2), (.var 3), (.var 4), (.var 5), (.upd (.var 6) (.var 7) 0 (.bc true)), (.var 7), (.arith .add .i64 (.var 8) (.c 1)), .nilL])) (
          .leaf (.next 3 [(.var 0), (.var 1), (.var 2), (.var 3), (.var 4), (.var 5), (.upd (.var 6) (.var 7) 0 (.bc false)), (.var 7), (.arith .add .i64 (.var 8) (.c 1)), .nilL]))) (
         .leaf .stuck))) (
       .split (.lss (.c 1000) (.cell (.var 1) (.var 8) 8)) (
        .split (.lss (.var 7) (.c 0)) (
         .leaf .stuck) (
         .split (.lss (.var 7) (.lenL (.var 6))) (
          .split (.cell (.var 6) (.var 7) 0) (
           .leaf (.next 3 [(.var 0), (.var 1), (.var 2), (.var 3), (.var 4), (.var 5), (.upd (.var 6) (.var 7) 0 (.bc true)), (.var 7), (.arith .add .i64 (.var 8) (.c 1)), .nilL])) (
           .leaf (.next 3 [(.var 0), (.var 1), (.var 2), (.var 3), (.var 4), (.var 5), (.upd (.var 6) (.var 7) 0 (.bc false)), (.var 7), (.arith .add .i64 (.var 8) (.c 1)), .nilL]))) (
          .leaf .stuck))) (
        .split (.lss (.arith .add .i64 (.var 7) (.cell (.var 1) (.var 8) 8)) (.c 0)) (
         .split (.lss (.var 7) (.c 0)) (
          .leaf .stuck) (
          .split (.lss (.var 7) (.lenL (.var 6))) (
           .split (.cell (.var 6) (.var 7) 0) (
            .leaf (.next 3 [(.var 0), (.var 1), (.var 2), (.var 3), (.var 4), (.var 5), (.upd (.var 6) (.var 7) 0 (.bc true)), (.var 7), (.arith .add .i64 (.var 8) (.c 1)), .nilL])) (
            .leaf (.next 3 [(.var 0), (.var 1), (.var 2), (.var 3), (.var 4), (.var 5), (.upd (.var 6) (.var 7) 0 (.bc false)), (.var 7), (.arith .add .i64 (.var 8) (.c 1)), .nilL]))) (
           .leaf .stuck))) (
         .split (.lss (.var 0) (.arith .add .i64 (.var 7) (.cell (.var 1) (.var 8) 8))) (
          .split (.lss (.var 7) (.c 0)) (
           .leaf .stuck) (
           .split (.lss (.var 7) (.lenL (.var 6))) (
            .split (.cell (.var 6) (.var 7) 0) (
             .leaf (.next 3 [(.var 0), (.var 1), (.var 2), (.var 3), (.var 4), (.var 5), (.upd (.var 6) (.var 7) 0 (.bc true)), (.var 7), (.arith .add .i64 (.var 8) (.c 1)), .nilL])) (
             .leaf (.next 3 [(.var 0), (.var 1), (.var 2), (.var 3), (.var 4), (.var 5), (.upd (.var 6) (.var 7) 0 (.bc false)), (.var 7), (.arith .add .i64 (.var 8) (.c 1)), .nilL]))) (
            .leaf .stuck))) (
          .split (.lss (.var 7) (.c 0)) (
           .leaf .stuck) (
           .split (.lss (.var 7) (.lenL (.var 6))) (
            .split (.cell (.var 6) (.var 7) 0) (
             .leaf (.next 3 [(.var 0), (.var 1), (.var 2), (.var 3), (.var 4), (.var 5), (.upd (.var 6) (.var 7) 0 (.bc true)), (.var 7), (.arith .add .i64 (.var 8) (.c 1)), .nilL])) (
             .split (.lss (.arith .sub .i64 (.var 5) (.c 1)) (.c 0)) (
              .leaf .stuck) (
              .split (.lss (.arith .sub .i64 (.var 5) (.c 1)) (.lenL (.var 3))) (
               .split (.lss (.arith .add .i64 (.var 7) (.cell (.var 1) (.var 8) 8)) (.lenL (.cell (.var 3) (.arith .sub .i64 (.var 5) (.c 1)) 0))) (
                .leaf (.next 3 [(.var 0), (.var 1), (.var 2), (.var 3), (.var 4), (.var 5), (.upd (.var 6) (.var 7) 0 (.cell (.cell (.var 3) (.arith .sub .i64 (.var 5) (.c 1)) 0) (.arith .add .i64 (.var 7) (.cell (.var 1) (.var 8) 8)) 0)), (.var 7), (.arith .add .i64 (.var 8) (.c 1)), .nilL])) (
                .leaf .stuck)) (
               .leaf .stuck)))) (
            .leaf .stuck)))))))))) (
   .leaf (.next 2 [(.var 0), (.var 1), (.var 2), (.var 3), (.var 4), (.var 5), (.var 6), (.arith .add .i64 (.var 7) (.c 1)), .nilL]))
def t7 : List (Tr Plf) := [t7p0, t7p1, t7p2, t7p3]
def t8p0 : Tr Plf :=
  .split (.eql (.sel (.app 4 (.rcons (.c 0) (.rcons (.var 0) (.rcons (.var 1) .rnil)))) 0) (.c 1)) (
   .split (.sel (.app 4 (.rcons (.c 0) (.rcons (.var 0) (.rcons (.var 1) .rnil)))) 1) (
    .split (.lss (.var 2) (.c 0)) (
     .leaf (.done 0 [.nilL, (.bc true), (.c 9)])) (
     .split (.lss (.var 0) (.var 2)) (
      .leaf (.done 0 [.nilL, (.bc true), (.c 9)])) (
      .split (.eql (.sel (.app 5 (.rcons (.c 0) (.rcons (.var 0) (.rcons (.var 1) .rnil)))) 0) (.c 1)) (
       .split (.lss (.var 2) (.lenL (.sel (.app 5 (.rcons (.c 0) (.rcons (.var 0) (.rcons (.var 1) .rnil)))) 1))) (
        .split (.lss (.cell (.sel (.app 5 (.rcons (.c 0) (.rcons (.var 0) (.rcons (.var 1) .rnil)))) 1) (.var 2) 0) (.c 0)) (
         .leaf (.done 0 [.nilL, (.bc true), (.c 9)])) (
         .split (.eql (.sel (.app 7 (.rcons (.c 0) (.rcons (.var 0) (.rcons (.var 1) (.rcons (.var 2) (.rcons (.cell (.sel (.app 5 (.rcons (.c 0) (.rcons (.var 0) (.rcons (.var 1) .rnil)))) 1) (.var 2) 0) .rnil)))))) 0) (.c 1)) (
          .leaf (.next 1 [(.var 0), (.var 1), (.sel (.app 7 (.rcons (.c 0) (.rcons (.var 0) (.rcons (.var 1) (.rcons (.var 2) (.rcons (.cell (.sel (.app 5 (.rcons (.c 0) (.rcons (.var 0) (.rcons (.var 1) .rnil)))) 1) (.var 2) 0) .rnil)))))) 1), .nilL, (.bc true), (.c 0), (.cell (.sel (.app 5 (.rcons (.c 0) (.rcons (.var 0) (.rcons (.var 1) .rnil)))) 1) (.var 2) 0)])) (
          .leaf .stuck))) (
        .leaf .stuck)) (
       .leaf .stuck)))) (
    .leaf (.done 0 [.nilL, (.bc true), (.c 2)]))) (
   .leaf .stuck)
def t8p1 : Tr Plf :=
  .split (.lss (.c 0) (.var 6)) (
   .leaf (.next 2 [(.var 0), (.var 1), (.var 2), (.var 3), (.var 4), (.var 5), (.var 6), (.c 0)])) (
   .leaf (.done 0 [(.var 3), (.var 4), (.c 0)]))
def t8p2 : Tr Plf :=
  .split (.lss (.var 7) (.lenL (.var 1))) (
   .split (.lss (.var 7) (.c 0)) (
    .leaf .stuck) (
    .split (.lss (.var 5) (.cell (.var 1) (.var 7) 6)) (
     .leaf (.next 2 [(.var 0), (.var 1), (.var 2), (.var 3), (.var 4), (.var 5), (.var 6), (.arith .add .i64 (.var 7) (.c 1))])) (
     .split (.lss (.cell (.var 1) (.var 7) 7) (.var 5)) (
      .leaf (.next 2 [(.var 0), (.var 1), (.var 2), (.var 3), (.var 4), (.var 5), (.var 6), (.arith .add .i64 (.var 7) (.c 1))])) (
      .split (.lss (.cell (.var 1) (.var 7) 8) (.c (-1000))) (
       .leaf (.next 2 [(.var 0), (.var 1), (.var 2), (.var 3), (.var 4), (.var 5), (.var 6), (.arith .add .i64 (.var 7) (.c 1))])) (
       .split (.lss (.c 1000) (.cell (.var 1) (.var 7) 8)) (
        .leaf (.next 2 [(.var 0), (.var 1), (.var 2), (.var 3), (.var 4), (.var 5), (.var 6), (.arith .add .i64 (.var 7) (.c 1))])) (
        .split (.lss (.arith .add .i64 (.var 5) (.cell (.var 1) (.var 7) 8)) (.c 0)) (
         .leaf (.next 2 [(.var 0), (.var 1), (.var 2), (.var 3), (.var 4), (.var 5), (.var 6), (.arith .add .i64 (.var 7) (.c 1))])) (
         .split (.lss (.var 0) (.arith .add .i64 (.var 5) (.cell (.var 1) (.var 7) 8))) (
          .leaf (.next 2 [(.var 0), (.var 1), (.var 2), (.var 3), (.var 4), (.var 5), (.var 6), (.arith .add .i64 (.var 7) (.c 1))])) (
          .split (.lss (.arith .sub .i64 (.var 6) (.c 1)) (.c 0)) (
           .leaf .stuck) (
           .split (.lss (.arith .sub .i64 (.var 6) (.c 1)) (.lenL (.var 2))) (
            .split (.lss (.arith .add .i64 (.var 5) (.cell (.var 1) (.var 7) 8)) (.lenL (.cell (.var 2) (.arith .sub .i64 (.var 6) (.c 1)) 0))) (
             .split (.cell (.cell (.var 2) (.arith .sub .i64 (.var 6) (.c 1)) 0) (.arith .add .i64 (.var 5) (.cell (.var 1) (.var 7) 8)) 0) (
              .split (.lss (.lenL (.var 3)) (.c 1048576)) (
               .leaf (.next 1 [(.var 0), (.var 1), (.var 2), (.snoc (.var 3) (.rcons (.var 7) .rnil)), (.bc false), (.arith .add .i64 (.var 5) (.cell (.var 1) (.var 7) 8)), (.arith .sub .i64 (.var 6) (.c 1))])) (
               .leaf .stuck)) (
              .leaf (.next 2 [(.var 0), (.var 1), (.var 2), (.var 3), (.var 4), (.var 5), (.var 6), (.arith .add .i64 (.var 7) (.c 1))]))) (
             .leaf .stuck)) (
            .leaf .stuck)))))))))) (
   .leaf (.next 1 [(.var 0), (.var 1), (.var 2), (.var 3), (.var 4), (.var 5), (.arith .sub .i64 (.var 6) (.c 1))]))
def t8 : List (Tr Plf) := [t8p0, t8p1, t8p2]
def t9p0 : Tr Plf :=
  .split (.eql (.lenL (.var 0)) (.lenL (.var 2))) (
   .leaf (.next 1 [(.var 0), (.var 1), (.var 2), (.var 3), (.c 0)])) (
   .leaf (.done 0 [(.bc false)]))
def t9p1 : Tr Plf :=
  .split (.lss (.var 4) (.lenL (.var 0))) (
   .split (.lss (.var 4) (.c 0)) (
    .leaf .stuck) (
    .split (.lss (.var 4) (.lenL (.var 2))) (
     .split (.eql (.cell (.var 0) (.var 4) 0) (.cell (.var 2) (.var 4) 0)) (
      .leaf (.next 1 [(.var 0), (.var 1), (.var 2), (.var 3), (.arith .add .i64 (.var 4) (.c 1))])) (
      .leaf (.done 0 [(.bc false)]))) (
     .leaf .stuck))) (
   .leaf (.done 0 [(.bc true)]))
def t9 : List (Tr Plf) := [t9p0, t9p1]
def t10p0 : Tr Plf :=
  .split (.eql (.lenL (.var 0)) (.lenL (.var 1))) (
   .leaf (.next 1 [(.var 0), (.var 1), (.var 2), (.c 0)])) (
   .leaf (.done 0 [(.bc false)]))
def t10p1 : Tr Plf :=
  .split (.lss (.var 3) (.lenL (.var 0))) (
   .split (.lss (.var 3) (.c 0)) (
    .leaf .stuck) (
    .split (.lss (.var 3) (.lenL (.var 1))) (
     .split (.eql (.cell (.var 0) (.var 3) 0) (.cell (.var 1) (.var 3) 0)) (
      .leaf (.next 1 [(.var 0), (.var 1), (.var 2), (.arith .add .i64 (.var 3) (.c 1))])) (
      .leaf (.done 0 [(.bc false)]))) (
     .leaf .stuck))) (
   .leaf (.done 0 [(.bc true)]))
def t10 : List (Tr Plf) := [t10p0, t10p1]
def t11p0 : Tr Plf :=
  .split (.lss (.c 100) (.var 0)) (
   .split (.lss (.c 1000) (.var 0)) (
    .split (.lss (.c 12) (.lenL (.var 1))) (
     .split (.eql (.sel (.app 0 (.rcons (.c 0) .rnil)) 0) (.c 1)) (
      .leaf (.done 0 [(.bc true)])) (
      .leaf .stuck)) (
     .split (.eql (.sel (.app 3 (.rcons (.c 0) (.rcons (.var 0) (.rcons (.var 1) .rnil)))) 0) (.c 1)) (
      .split (.eql (.sel (.app 6 (.rcons (.c 0) (.rcons (.var 0) (.rcons (.var 1) .rnil)))) 0) (.c 1)) (
       .split (.eql (.sel (.app 2 (.rcons (.c 0) (.rcons (.var 0) (.rcons (.var 1) .rnil)))) 0) (.c 1)) (
        .split (.eql (.sel (.app 2 (.rcons (.c 0) (.rcons (.var 0) (.rcons (.var 1) .rnil)))) 5) (.c 0)) (
         .split (.lss (.var 2) (.c 0)) (
          .split (.eql (.sel (.app 8 (.rcons (.c 0) (.rcons (.var 0) (.rcons (.var 1) (.rcons (.var 2) .rnil))))) 0) (.c 1)) (
           .split (.eql (.sel (.app 9 (.rcons (.c 0) (.rcons (.sel (.app 3 (.rcons (.c 0) (.rcons (.var 0) (.rcons (.var 1) .rnil)))) 1) (.rcons (.sel (.app 3 (.rcons (.c 0) (.rcons (.var 0) (.rcons (.var 1) .rnil)))) 2) (.rcons (.sel (.app 6 (.rcons (.c 0) (.rcons (.var 0) (.rcons (.var 1) .rnil)))) 1) (.rcons (.sel (.app 6 (.rcons (.c 0) (.rcons (.var 0) (.rcons (.var 1) .rnil)))) 2) .rnil)))))) 0) (.c 1)) (
            .split (.sel (.app 9 (.rcons (.c 0) (.rcons (.sel (.app 3 (.rcons (.c 0) (.rcons (.var 0) (.rcons (.var 1) .rnil)))) 1) (.rcons (.sel (.app 3 (.rcons (.c 0) (.rcons (.var 0) (.rcons (.var 1) .rnil)))) 2) (.rcons (.sel (.app 6 (.rcons (.c 0) (.rcons (.var 0) (.rcons (.var 1) .rnil)))) 1) (.rcons (.sel (.app 6 (.rcons (.c 0) (.rcons (.var 0) (.rcons (.var 1) .rnil)))) 2) .rnil)))))) 1) (
             .split (.eql (.sel (.app 3 (.rcons (.c 0) (.rcons (.var 0) (.rcons (.var 1) .rnil)))) 3) (.sel (.app 6 (.rcons (.c 0) (.rcons (.var 0) (.rcons (.var 1) .rnil)))) 3)) (
              .split (.eql (.sel (.app 10 (.rcons (.c 0) (.rcons .nilL (.rcons (.sel (.app 8 (.rcons (.c 0) (.rcons (.var 0) (.rcons (.var 1) (.rcons (.var 2) .rnil))))) 1) (.rcons (.sel (.app 8 (.rcons (.c 0) (.rcons (.var 0) (.rcons (.var 1) (.rcons (.var 2) .rnil))))) 2) .rnil))))) 0) (.c 1)) (
               .split (.sel (.app 10 (.rcons (.c 0) (.rcons .nilL (.rcons (.sel (.app 8 (.rcons (.c 0) (.rcons (.var 0) (.rcons (.var 1) (.rcons (.var 2) .rnil))))) 1) (.rcons (.sel (.app 8 (.rcons (.c 0) (.rcons (.var 0) (.rcons (.var 1) (.rcons (.var 2) .rnil))))) 2) .rnil))))) 1) (
                .split (.eql (.c 9) (.sel (.app 8 (.rcons (.c 0) (.rcons (.var 0) (.rcons (.var 1) (.rcons (.var 2) .rnil))))) 3)) (
                 .split (.eql (.sel (.app 0 (.rcons (.c 0) .rnil)) 0) (.c 1)) (
                  .leaf (.done 0 [(.bc true)])) (
                  .leaf .stuck)) (
                 .leaf (.done 0 [(.bc false)]))) (
                .leaf (.done 0 [(.bc false)]))) (
               .split (.eql (.sel (.app 9 (.rcons (.c 0) (.rcons .nilL (.rcons (.bc true) (.rcons (.sel (.app 8 (.rcons (.c 0) (.rcons (.var 0) (.rcons (.var 1) (.rcons (.var 2) .rnil))))) 1) (.rcons (.sel (.app 8 (.rcons (.c 0) (.rcons (.var 0) (.rcons (.var 1) (.rcons (.var 2) .rnil))))) 2) .rnil)))))) 0) (.c 1)) (
                .split (.sel (.app 9 (.rcons (.c 0) (.rcons .nilL (.rcons (.bc true) (.rcons (.sel (.app 8 (.rcons (.c 0) (.rcons (.var 0) (.rcons (.var 1) (.rcons (.var 2) .rnil))))) 1) (.rcons (.sel (.app 8 (.rcons (.c 0) (.rcons (.var 0) (.rcons (.var 1) (.rcons (.var 2) .rnil))))) 2) .rnil)))))) 1) (
                 .split (.eql (.c 9) (.sel (.app 8 (.rcons (.c 0) (.rcons (.var 0) (.rcons (.var 1) (.rcons (.var 2) .rnil))))) 3)) (
                  .split (.eql (.sel (.app 0 (.rcons (.c 0) .rnil)) 0) (.c 1)) (
                   .leaf (.done 0 [(.bc true)])) (
                   .leaf .stuck)) (
                  .leaf (.done 0 [(.bc false)]))) (
                 .leaf (.done 0 [(.bc false)]))) (
                .leaf .stuck))) (
              .leaf (.done 0 [(.bc false)]))) (
             .leaf (.done 0 [(.bc false)]))) (
            .leaf .stuck)) (
           .leaf .stuck)) (
          .split (.lss (.var 0) (.var 2)) (
           .split (.eql (.sel (.app 8 (.rcons (.c 0) (.rcons (.var 0) (.rcons (.var 1) (.rcons (.var 2) .rnil))))) 0) (.c 1)) (
            .split (.eql (.sel (.app 9 (.rcons (.c 0) (.rcons (.sel (.app 3 (.rcons (.c 0) (.rcons (.var 0) (.rcons (.var 1) .rnil)))) 1) (.rcons (.sel (.app 3 (.rcons (.c 0) (.rcons (.var 0) (.rcons (.var 1) .rnil)))) 2) (.rcons (.sel (.app 6 (.rcons (.c 0) (.rcons (.var 0) (.rcons (.var 1) .rnil)))) 1) (.rcons (.sel (.app 6 (.rcons (.c 0) (.rcons (.var 0) (.rcons (.var 1) .rnil)))) 2) .rnil)))))) 0) (.c 1)) (
             .split (.sel (.app 9 (.rcons (.c 0) (.rcons (.sel (.app 3 (.rcons (.c 0) (.rcons (.var 0) (.rcons (.var 1) .rnil)))) 1) (.rcons (.sel (.app 3 (.rcons (.c 0) (.rcons (.var 0) (.rcons (.var 1) .rnil)))) 2) (.rcons (.sel (.app 6 (.rcons (.c 0) (.rcons (.var 0) (.rcons (.var 1) .rnil)))) 1) (.rcons (.sel (.app 6 (.rcons (.c 0) (.rcons (.var 0) (.rcons (.var 1) .rnil)))) 2) .rnil)))))) 1) (
              .split (.eql (.sel (.app 3 (.rcons (.c 0) (.rcons (.var 0) (.rcons (.var 1) .rnil)))) 3) (.sel (.app 6 (.rcons (.c 0) (.rcons (.var 0) (.rcons (.var 1) .rnil)))) 3)) (
               .split (.eql (.sel (.app 10 (.rcons (.c 0) (.rcons .nilL (.rcons (.sel (.app 8 (.rcons (.c 0) (.rcons (.var 0) (.rcons (.var 1) (.rcons (.var 2) .rnil))))) 1) (.rcons (.sel (.app 8 (.rcons (.c 0) (.rcons (.var 0) (.rcons (.var 1) (.rcons (.var 2) .rnil))))) 2) .rnil))))) 0) (.c 1)) (
                .split (.sel (.app 10 (.rcons (.c 0) (.rcons .nilL (.rcons (.sel (.app 8 (.rcons (.c 0) (.rcons (.var 0) (.rcons (.var 1) (.rcons (.var 2) .rnil))))) 1) (.rcons (.sel (.app 8 (.rcons (.c 0) (.rcons (.var 0) (.rcons (.var 1) (.rcons (.var 2) .rnil))))) 2) .rnil))))) 1) (
                 .split (.eql (.c 9) (.sel (.app 8 (.rcons (.c 0) (.rcons (.var 0) (.rcons (.var 1) (.rcons (.var 2) .rnil))))) 3)) (
                  .split (.eql (.sel (.app 0 (.rcons (.c 0) .rnil)) 0) (.c 1)) (
                   .leaf (.done 0 [(.bc true)])) (
                   .leaf .stuck)) (
                  .leaf (.done 0 [(.bc false)]))) (
                 .leaf (.done 0 [(.bc false)]))) (
                .split (.eql (.sel (.app 9 (.rcons (.c 0) (.rcons .nilL (.rcons (.bc true) (.rcons (.sel (.app 8 (.rcons (.c 0) (.rcons (.var 0) (.rcons (.var 1) (.rcons (.var 2) .rnil))))) 1) (.rcons (.sel (.app 8 (.rcons (.c 0) (.rcons (.var 0) (.rcons (.var 1) (.rcons (.var 2) .rnil))))) 2) .rnil)))))) 0) (.c 1)) (
                 .split (.sel (.app 9 (.rcons (.c 0) (.rcons .nilL (.rcons (.bc true) (.rcons (.sel (.app 8 (.rcons (.c 0) (.rcons (.var 0) (.rcons (.var 1) (.rcons (.var 2) .rnil))))) 1) (.rcons (.sel (.app 8 (.rcons (.c 0) (.rcons (.var 0) (.rcons (.var 1) (.rcons (.var 2) .rnil))))) 2) .rnil)))))) 1) (
                  .split (.eql (.c 9) (.sel (.app 8 (.rcons (.c 0) (.rcons (.var 0) (.rcons (.var 1) (.rcons (.var 2) .rnil))))) 3)) (
                   .split (.eql (.sel (.app 0 (.rcons (.c 0) .rnil)) 0) (.c 1)) (
                    .leaf (.done 0 [(.bc true)])) (
                    .leaf .stuck)) (
                   .leaf (.done 0 [(.bc false)]))) (
                  .leaf (.done 0 [(.bc false)]))) (
                 .leaf .stuck))) (
               .leaf (.done 0 [(.bc false)]))) (
              .leaf (.done 0 [(.bc false)]))) (
             .leaf .stuck)) (
            .leaf .stuck)) (
           .split (.lss (.var 2) (.lenL (.sel (.app 2 (.rcons (.c 0) (.rcons (.var 0) (.rcons (.var 1) .rnil)))) 3))) (
            .split (.cell (.sel (.app 2 (.rcons (.c 0) (.rcons (.var 0) (.rcons (.var 1) .rnil)))) 3) (.var 2) 0) (
             .split (.lss (.var 2) (.lenL (.sel (.app 2 (.rcons (.c 0) (.rcons (.var 0) (.rcons (.var 1) .rnil)))) 1))) (
              .split (.eql (.sel (.app 8 (.rcons (.c 0) (.rcons (.var 0) (.rcons (.var 1) (.rcons (.var 2) .rnil))))) 0) (.c 1)) (
               .split (.eql (.sel (.app 9 (.rcons (.c 0) (.rcons (.sel (.app 3 (.rcons (.c 0) (.rcons (.var 0) (.rcons (.var 1) .rnil)))) 1) (.rcons (.sel (.app 3 (.rcons (.c 0) (.rcons (.var 0) (.rcons (.var 1) .rnil)))) 2) (.rcons (.sel (.app 6 (.rcons (.c 0) (.rcons (.var 0) (.rcons (.var 1) .rnil)))) 1) (.rcons (.sel (.app 6 (.rcons (.c 0) (.rcons (.var 0) (.rcons (.var 1) .rnil)))) 2) .rnil)))))) 0) (.c 1)) (
                .split (.sel (.app 9 (.rcons (.c 0) (.rcons (.sel (.app 3 (.rcons (.c 0) (.rcons (.var 0) (.rcons (.var 1) .rnil)))) 1) (.rcons (.sel (.app 3 (.rcons (.c 0) (.rcons (.var 0) (.rcons (.var 1) .rnil)))) 2) (.rcons (.sel (.app 6 (.rcons (.c 0) (.rcons (.var 0) (.rcons (.var 1) .rnil)))) 1) (.rcons (.sel (.app 6 (.rcons (.c 0) (.rcons (.var 0) (.rcons (.var 1) .rnil)))) 2) .rnil)))))) 1) (
                 .split (.eql (.sel (.app 3 (.rcons (.c 0) (.rcons (.var 0) (.rcons (.var 1) .rnil)))) 3) (.sel (.app 6 (.rcons (.c 0) (.rcons (.var 0) (.rcons (.var 1) .rnil)))) 3)) (
                  .split (.eql (.sel (.app 10 (.rcons (.c 0) (.rcons (.cell (.sel (.app 2 (.rcons (.c 0) (.rcons (.var 0) (.rcons (.var 1) .rnil)))) 1) (.var 2) 0) (.rcons (.sel (.app 8 (.rcons (.c 0) (.rcons (.var 0) (.rcons (.var 1) (.rcons (.var 2) .rnil))))) 1) (.rcons (.sel (.app 8 (.rcons (.c 0) (.rcons (.var 0) (.rcons (.var 1) (.rcons (.var 2) .rnil))))) 2) .rnil))))) 0) (.c 1)) (
                   .split (.sel (.app 10 (.rcons (.c 0) (.rcons (.cell (.sel (.app 2 (.rcons (.c 0) (.rcons (.var 0) (.rcons (.var 1) .rnil)))) 1) (.var 2) 0) (.rcons (.sel (.app 8 (.rcons (.c 0) (.rcons (.var 0) (.rcons (.var 1) (.rcons (.var 2) .rnil))))) 1) (.rcons (.sel (.app 8 (.rcons (.c 0) (.rcons (.var 0) (.rcons (.var 1) (.rcons (.var 2) .rnil))))) 2) .rnil))))) 1) (
                    .split (.eql (.c 0) (.sel (.app 8 (.rcons (.c 0) (.rcons (.var 0) (.rcons (.var 1) (.rcons (.var 2) .rnil))))) 3)) (
                     .split (.eql (.sel (.app 0 (.rcons (.c 0) .rnil)) 0) (.c 1)) (
                      .leaf (.done 0 [(.bc true)])) (
                      .leaf .stuck)) (
                     .leaf (.done 0 [(.bc false)]))) (
                    .leaf (.done 0 [(.bc false)]))) (
                   .leaf .stuck)) (
                  .leaf (.done 0 [(.bc false)]))) (
                 .leaf (.done 0 [(.bc false)]))) (
                .leaf .stuck)) (
               .leaf .stuck)) (
              .leaf .stuck)) (
             .split (.eql (.sel (.app 8 (.rcons (.c 0) (.rcons (.var 0) (.rcons (.var 1) (.rcons (.var 2) .rnil))))) 0) (.c 1)) (
              .split (.eql (.sel (.app 9 (.rcons (.c 0) (.rcons (.sel (.app 3 (.rcons (.c 0) (.rcons (.var 0) (.rcons (.var 1) .rnil)))) 1) (.rcons (.sel (.app 3 (.rcons (.c 0) (.rcons (.var 0) (.rcons (.var 1) .rnil)))) 2) (.rcons (.sel (.app 6 (.rcons (.c 0) (.rcons (.var 0) (.rcons (.var 1) .rnil)))) 1) (.rcons (.sel (.app 6 (.rcons (.c 0) (.rcons (.var 0) (.rcons (.var 1) .rnil)))) 2) .rnil)))))) 0) (.c 1)) (
               .split (.sel (.app 9 (.rcons (.c 0) (.rcons (.sel (.app 3 (.rcons (.c 0) (.rcons (.var 0) (.rcons (.var 1) .rnil)))) 1) (.rcons (.sel (.app 3 (.rcons (.c 0) (.rcons (.var 0) (.rcons (.var 1) .rnil)))) 2) (.rcons (.sel (.app 6 (.rcons (.c 0) (.rcons (.var 0) (.rcons (.var 1) .rnil)))) 1) (.rcons (.sel (.app 6 (.rcons (.c 0) (.rcons (.var 0) (.rcons (.var 1) .rnil)))) 2) .rnil)))))) 1) (
                .split (.eql (.sel (.app 3 (.rcons (.c 0) (.rcons (.var 0) (.rcons (.var 1) .rnil)))) 3) (.sel (.app 6 (.rcons (.c 0) (.rcons (.var 0) (.rcons (.var 1) .rnil)))) 3)) (
                 .split (.eql (.sel (.app 10 (.rcons (.c 0) (.rcons .nilL (.rcons (.sel (.app 8 (.rcons (.c 0) (.rcons (.var 0) (.rcons (.var 1) (.rcons (.var 2) .rnil))))) 1) (.rcons (.sel (.app 8 (.rcons (.c 0) (.rcons (.var 0) (.rcons (.var 1) (.rcons (.var 2) .rnil))))) 2) .rnil))))) 0) (.c 1)) (
                  .split (.sel (.app 10 (.rcons (.c 0) (.rcons .nilL (.rcons (.sel (.app 8 (.rcons (.c 0) (.rcons (.var 0) (.rcons (.var 1) (.rcons (.var 2) .rnil))))) 1) (.rcons (.sel (.app 8 (.rcons (.c 0) (.rcons (.var 0) (.rcons (.var 1) (.rcons (.var 2) .rnil))))) 2) .rnil))))) 1) (
                   .split (.eql (.c 9) (.sel (.app 8 (.rcons (.c 0) (.rcons (.var 0) (.rcons (.var 1) (.rcons (.var 2) .rnil))))) 3)) (
                    .split (.eql (.sel (.app 0 (.rcons (.c 0) .rnil)) 0) (.c 1)) (
                     .leaf (.done 0 [(.bc true)])) (
                     .leaf .stuck)) (
                    .leaf (.done 0 [(.bc false)]))) (
                   .leaf (.done 0 [(.bc false)]))) (
                  .split (.eql (.sel (.app 9 (.rcons (.c 0) (.rcons .nilL (.rcons (.bc true) (.rcons (.sel (.app 8 (.rcons (.c 0) (.rcons (.var 0) (.rcons (.var 1) (.rcons (.var 2) .rnil))))) 1) (.rcons (.sel (.app 8 (.rcons (.c 0) (.rcons (.var 0) (.rcons (.var 1) (.rcons (.var 2) .rnil))))) 2) .rnil)))))) 0) (.c 1)) (
                   .split (.sel (.app 9 (.rcons (.c 0) (.rcons .nilL (.rcons (.bc true) (.rcons (.sel (.app 8 (.rcons (.c 0) (.rcons (.var 0) (.rcons (.var 1) (.rcons (.var 2) .rnil))))) 1) (.rcons (.sel (.app 8 (.rcons (.c 0) (.rcons (.var 0) (.rcons (.var 1) (.rcons (.var 2) .rnil))))) 2) .rnil)))))) 1) (
                    .split (.eql (.c 9) (.sel (.app 8 (.rcons (.c 0) (.rcons (.var 0) (.rcons (.var 1) (.rcons (.var 2) .rnil))))) 3)) (
                     .split (.eql (.sel (.app 0 (.rcons (.c 0) .rnil)) 0) (.c 1)) (
                      .leaf (.done 0 [(.bc true)])) (
                      .leaf .stuck)) (
                     .leaf (.done 0 [(.bc false)]))) (
                    .leaf (.done 0 [(.bc false)]))) (
                   .leaf .stuck))) (
                 .leaf (.done 0 [(.bc false)]))) (
                .leaf (.done 0 [(.bc false)]))) (
               .leaf .stuck)) (
              .leaf .stuck))) (
            .leaf .stuck)))) (
         .split (.eql (.sel (.app 8 (.rcons (.c 0) (.rcons (.var 0) (.rcons (.var 1) (.rcons (.var 2) .rnil))))) 0) (.c 1)) (
          .split (.eql (.sel (.app 9 (.rcons (.c 0) (.rcons (.sel (.app 3 (.rcons (.c 0) (.rcons (.var 0) (.rcons (.var 1) .rnil)))) 1) (.rcons (.sel (.app 3 (.rcons (.c 0) (.rcons (.var 0) (.rcons (.var 1) .rnil)))) 2) (.rcons (.sel (.app 6 (.rcons (.c 0) (.rcons (.var 0) (.rcons (.var 1) .rnil)))) 1) (.rcons (.sel (.app 6 (.rcons (.c 0) (.rcons (.var 0) (.rcons (.var 1) .rnil)))) 2) .rnil)))))) 0) (.c 1)) (
           .split (.sel (.app 9 (.rcons (.c 0) (.rcons (.sel (.app 3 (.rcons (.c 0) (.rcons (.var 0) (.rcons (.var 1) .rnil)))) 1) (.rcons (.sel (.app 3 (.rcons (.c 0) (.rcons (.var 0) (.rcons (.var 1) .rnil)))) 2) (.rcons (.sel (.app 6 (.rcons (.c 0) (.rcons (.var 0) (.rcons (.var 1) .rnil)))) 1) (.rcons (.sel (.app 6 (.rcons (.c 0) (.rcons (.var 0) (.rcons (.var 1) .rnil)))) 2) .rnil)))))) 1) (
            .split (.eql (.sel (.app 3 (.rcons (.c 0) (.rcons (.var 0) (.rcons (.var 1) .rnil)))) 3) (.sel (.app 6 (.rcons (.c 0) (.rcons (.var 0) (.rcons (.var 1) .rnil)))) 3)) (
             .split (.eql (.sel (.app 10 (.rcons (.c 0) (.rcons .nilL (.rcons (.sel (.app 8 (.rcons (.c 0) (.rcons (.var 0) (.rcons (.var 1) (.rcons (.var 2) .rnil))))) 1) (.rcons (.sel (.app 8 (.rcons (.c 0) (.rcons (.var 0) (.rcons (.var 1) (.rcons (.var 2) .rnil))))) 2) .rnil))))) 0) (.c 1)) (
              .split (.sel (.app 10 (.rcons (.c 0) (.rcons .nilL (.rcons (.sel (.app 8 (.rcons (.c 0) (.rcons (.var 0) (.rcons (.var 1) (.rcons (.var 2) .rnil))))) 1) (.rcons (.sel (.app 8 (.rcons (.c 0) (.rcons (.var 0) (.rcons (.var 1) (.rcons (.var 2) .rnil))))) 2) .rnil))))) 1) (
               .split (.eql (.sel (.app 2 (.rcons (.c 0) (.rcons (.var 0) (.rcons (.var 1) .rnil)))) 5) (.sel (.app 8 (.rcons (.c 0) (.rcons (.var 0) (.rcons (.var 1) (.rcons (.var 2) .rnil))))) 3)) (
                .split (.eql (.sel (.app 0 (.rcons (.c 0) .rnil)) 0) (.c 1)) (
                 .leaf (.done 0 [(.bc true)])) (
                 .leaf .stuck)) (
                .leaf (.done 0 [(.bc false)]))) (
               .leaf (.done 0 [(.bc false)]))) (
              .split (.eql (.sel (.app 9 (.rcons (.c 0) (.rcons .nilL (.rcons (.bc true) (.rcons (.sel (.app 8 (.rcons (.c 0) (.rcons (.var 0) (.rcons (.var 1) (.rcons (.var 2) .rnil))))) 1) (.rcons (.sel (.app 8 (.rcons (.c 0) (.rcons (.var 0) (.rcons (.var 1) (.rcons (.var 2) .rnil))))) 2) .rnil)))))) 0) (.c 1)) (
               .split (.sel (.app 9 (.rcons (.c 0) (.rcons .nilL (.rcons (.bc true) (.rcons (.sel (.app 8 (.rcons (.c 0) (.rcons (.var 0) (.rcons (.var 1) (.rcons (.var 2) .rnil))))) 1) (.rcons (.sel (.app 8 (.rcons (.c 0) (.rcons (.var 0) (.rcons (.var 1) (.rcons (.var 2) .rnil))))) 2) .rnil)))))) 1) (
                .split (.eql (.sel (.app 2 (.rcons (.c 0) (.rcons (.var 0) (.rcons (.var 1) .rnil)))) 5) (.sel (.app 8 (.rcons (.c 0) (.rcons (.var 0) (.rcons (.var 1) (.rcons (.var 2) .rnil))))) 3)) (
                 .split (.eql (.sel (.app 0 (.rcons (.c 0) .rnil)) 0) (.c 1)) (
                  .leaf (.done 0 [(.bc true)])) (
                  .leaf .stuck)) (
                 .leaf (.done 0 [(.bc false)]))) (
                .leaf (.done 0 [(.bc false)]))) (
               .leaf .stuck))) (
             .leaf (.done 0 [(.bc false)]))) (
            .leaf (.done 0 [(.bc false)]))) (
           .leaf .stuck)) (
          .leaf .stuck))) (
        .leaf .stuck)) (
       .leaf .stuck)) (
      .leaf .stuck))) (
    .split (.eql (.sel (.app 0 (.rcons (.c 0) .rnil)) 0) (.c 1)) (
     .leaf (.done 0 [(.bc true)])) (
     .leaf .stuck))) (
   .split (.lss (.c 12) (.lenL (.var 1))) (
    .split (.eql (.sel (.app 0 (.rcons (.c 0) .rnil)) 0) (.c 1)) (
     .leaf (.done 0 [(.bc true)])) (
     .leaf .stuck)) (
    .split (.eql (.sel (.app 3 (.rcons (.c 0) (.rcons (.var 0) (.rcons (.var 1) .rnil)))) 0) (.c 1)) (
     .split (.eql (.sel (.app 6 (.rcons (.c 0) (.rcons (.var 0) (.rcons (.var 1) .rnil)))) 0) (.c 1)) (
      .split (.eql (.sel (.app 2 (.rcons (.c 0) (.rcons (.var 0) (.rcons (.var 1) .rnil)))) 0) (.c 1)) (
       .split (.eql (.sel (.app 2 (.rcons (.c 0) (.rcons (.var 0) (.rcons (.var 1) .rnil)))) 5) (.c 0)) (
        .split (.lss (.var 2) (.c 0)) (
         .split (.eql (.sel (.app 8 (.rcons (.c 0) (.rcons (.var 0) (.rcons (.var 1) (.rcons (.var 2) .rnil))))) 0) (.c 1)) (
          .split (.eql (.sel (.app 9 (.rcons (.c 0) (.rcons (.sel (.app 3 (.rcons (.c 0) (.rcons (.var 0) (.rcons (.var 1) .rnil)))) 1) (.rcons (.sel (.app 3 (.rcons (.c 0) (.rcons (.var 0) (.rcons (.var 1) .rnil)))) 2) (.rcons (.sel (.app 6 (.rcons (.c 0) (.rcons (.var 0) (.rcons (.var 1) .rnil)))) 1) (.rcons (.sel (.app 6 (.rcons (.c 0) (.rcons (.var 0) (.rcons (.var 1) .rnil)))) 2) .rnil)))))) 0) (.c 1)) (
           .split (.sel (.app 9 (.rcons (.c 0) (.rcons (.sel (.app 3 (.rcons (.c 0) (.rcons (.var 0) (.rcons (.var 1) .rnil)))) 1) (.rcons (.sel (.app 3 (.rcons (.c 0) (.rcons (.var 0) (.rcons (.var 1) .rnil)))) 2) (.rcons (.sel (.app 6 (.rcons (.c 0) (.rcons (.var 0) (.rcons (.var 1) .rnil)))) 1) (.rcons (.sel (.app 6 (.rcons (.c 0) (.rcons (.var 0) (.rcons (.var 1) .rnil)))) 2) .rnil)))))) 1) (
            .split (.eql (.sel (.app 3 (.rcons (.c 0) (.rcons (.var 0) (.rcons (.var 1) .rnil)))) 3) (.sel (.app 6 (.rcons (.c 0) (.rcons (.var 0) (.rcons (.var 1) .rnil)))) 3)) (
             .split (.eql (.sel (.app 10 (.rcons (.c 0) (.rcons .nilL (.rcons (.sel (.app 8 (.rcons (.c 0) (.rcons (.var 0) (.rcons (.var 1) (.rcons (.var 2) .rnil))))) 1) (.rcons (.sel (.app 8 (.rcons (.c 0) (.rcons (.var 0) (.rcons (.var 1) (.rcons (.var 2) .rnil))))) 2) .rnil))))) 0) (.c 1)) (
              .split (.sel (.app 10 (.rcons (.c 0) (.rcons .nilL (.rcons (.sel (.app 8 (.rcons (.c 0) (.rcons (.var 0) (.rcons (.var 1) (.rcons (.var 2) .rnil))))) 1) (.rcons (.sel (.app 8 (.rcons (.c 0) (.rcons (.var 0) (.rcons (.var 1) (.rcons (.var 2) .rnil))))) 2) .rnil))))) 1) (
               .split (.eql (.c 9) (.sel (.app 8 (.rcons (.c 0) (.rcons (.var 0) (.rcons (.var 1) (.rcons (.var 2) .rnil))))) 3)) (
                .split (.eql (.sel (.app 0 (.rcons (.c 0) .rnil)) 0) (.c 1)) (
                 .leaf (.done 0 [(.bc true)])) (
                 .leaf .stuck)) (
                .leaf (.done 0 [(.bc false)]))) (
               .leaf (.done 0 [(.bc false)]))) (
              .split (.eql (.sel (.app 9 (.rcons (.c 0) (.rcons .nilL (.rcons (.bc true) (.rcons (.sel (.app 8 (.rcons (.c 0) (.rcons (.var 0) (.rcons (.var 1) (.rcons (.var 2) .rnil))))) 1) (.rcons (.sel (.app 8 (.rcons (.c 0) (.rcons (.var 0) (.rcons (.var 1) (.rcons (.var 2) .rnil))))) 2) .rnil)))))) 0) (.c 1)) (
               .split (.sel (.app 9 (.rcons (.c 0) (.rcons .nilL (.rcons (.bc true) (.rcons (.sel (.app 8 (.rcons (.c 0) (.rcons (.var 0) (.rcons (.var 1) (.rcons (.var 2) .rnil))))) 1) (.rcons (.sel (.app 8 (.rcons (.c 0) (.rcons (.var 0) (.rcons (.var 1) (.rcons (.var 2) .rnil))))) 2) .rnil)))))) 1) (
                .split (.eql (.c 9) (.sel (.app 8 (.rcons (.c 0) (.rcons (.var 0) (.rcons (.var 1) (.rcons (.var 2) .rnil))))) 3)) (
                 .split (.eql (.sel (.app 0 (.rcons (.c 0) .rnil)) 0) (.c 1)) (
                  .leaf (.done 0 [(.bc true)])) (
                  .leaf .stuck)) (
                 .leaf (.done 0 [(.bc false)]))) (
                .leaf (.done 0 [(.bc false)]))) (
               .leaf .stuck))) (
             .leaf (.done 0 [(.bc false)]))) (
            .leaf (.done 0 [(.bc false)]))) (
           .leaf .stuck)) (
          .leaf .stuck)) (
         .split (.lss (.var 0) (.var 2)) (
          .split (.eql (.sel (.app 8 (.rcons (.c 0) (.rcons (.var 0) (.rcons (.var 1) (.rcons (.var 2) .rnil))))) 0) (.c 1)) (
           .split (.eql (.sel (.app 9 (.rcons (.c 0) (.rcons (.sel (.app 3 (.rcons (.c 0) (.rcons (.var 0) (.rcons (.var 1) .rnil)))) 1) (.rcons (.sel (.app 3 (.rcons (.c 0) (.rcons (.var 0) (.rcons (.var 1) .rnil)))) 2) (.rcons (.sel (.app 6 (.rcons (.c 0) (.rcons (.var 0) (.rcons (.var 1) .rnil)))) 1) (.rcons (.sel (.app 6 (.rcons (.c 0) (.rcons (.var 0) (.rcons (.var 1) .rnil)))) 2) .rnil)))))) 0) (.c 1)) (
            .split (.sel (.app 9 (.rcons (.c 0) (.rcons (.sel (.app 3 (.rcons (.c 0) (.rcons (.var 0) (.rcons (.var 1) .rnil)))) 1) (.rcons (.sel (.app 3 (.rcons (.c 0) (.rcons (.var 0) (.rcons (.var 1) .rnil)))) 2) (.rcons (.sel (.app 6 (.rcons (.c 0) (.rcons (.var 0) (.rcons (.var 1) .rnil)))) 1) (.rcons (.sel (.app 6 (.rcons (.c 0) (.rcons (.var 0) (.rcons (.var 1) .rnil)))) 2) .rnil)))))) 1) (
             .split (.eql (.sel (.app 3 (.rcons (.c 0) (.rcons (.var 0) (.rcons (.var 1) .rnil)))) 3) (.sel (.app 6 (.rcons (.c 0) (.rcons (.var 0) (.rcons (.var 1) .rnil)))) 3)) (
              .split (.eql (.sel (.app 10 (.rcons (.c 0) (.rcons .nilL (.rcons (.sel (.app 8 (.rcons (.c 0) (.rcons (.var 0) (.rcons (.var 1) (.rcons (.var 2) .rnil))))) 1) (.rcons (.sel (.app 8 (.rcons (.c 0) (.rcons (.var 0) (.rcons (.var 1) (.rcons (.var 2) .rnil))))) 2) .rnil))))) 0) (.c 1)) (
               .split (.sel (.app 10 (.rcons (.c 0) (.rcons .nilL (.rcons (.sel (.app 8 (.rcons (.c 0) (.rcons (.var 0) (.rcons (.var 1) (.rcons (.var 2) .rnil))))) 1) (.rcons (.sel (.app 8 (.rcons (.c 0) (.rcons (.var 0) (.rcons (.var 1) (.rcons (.var 2) .rnil))))) 2) .rnil))))) 1) (
                .split (.eql (.c 9) (.sel (.app 8 (.rcons (.c 0) (.rcons (.var 0) (.rcons (.var 1) (.rcons (.var 2) .rnil))))) 3)) (
                 .split (.eql (.sel (.app 0 (.rcons (.c 0) .rnil)) 0) (.c 1)) (
                  .leaf (.done 0 [(.bc true)])) (
                  .leaf .stuck)) (
                 .leaf (.done 0 [(.bc false)]))) (
                .leaf (.done 0 [(.bc false)]))) (
               .split (.eql (.sel (.app 9 (.rcons (.c 0) (.rcons .nilL (.rcons (.bc true) (.rcons (.sel (.app 8 (.rcons (.c 0) (.rcons (.var 0) (.rcons (.var 1) (.rcons (.var 2) .rnil))))) 1) (.rcons (.sel (.app 8 (.rcons (.c 0) (.rcons (.var 0) (.rcons (.var 1) (.rcons (.var 2) .rnil))))) 2) .rnil)))))) 0) (.c 1)) (
                .split (.sel (.app 9 (.rcons (.c 0) (.rcons .nilL (.rcons (.bc true) (.rcons (.sel (.app 8 (.rcons (.c 0) (.rcons (.var 0) (.rcons (.var 1) (.rcons (.var 2) .rnil))))) 1) (.rcons (.sel (.app 8 (.rcons (.c 0) (.rcons (.var 0) (.rcons (.var 1) (.rcons (.var 2) .rnil))))) 2) .rnil)))))) 1) (
                 .split (.eql (.c 9) (.sel (.app 8 (.rcons (.c 0) (.rcons (.var 0) (.rcons (.var 1) (.rcons (.var 2) .rnil))))) 3)) (
                  .split (.eql (.sel (.app 0 (.rcons (.c 0) .rnil)) 0) (.c 1)) (
                   .leaf (.done 0 [(.bc true)])) (
                   .leaf .stuck)) (
                  .leaf (.done 0 [(.bc false)]))) (
                 .leaf (.done 0 [(.bc false)]))) (
                .leaf .stuck))) (
              .leaf (.done 0 [(.bc false)]))) (
             .leaf (.done 0 [(.bc false)]))) (
            .leaf .stuck)) (
           .leaf .stuck)) (
          .split (.lss (.var 2) (.lenL (.sel (.app 2 (.rcons (.c 0) (.rcons (.var 0) (.rcons (.var 1) .rnil)))) 3))) (
           .split (.cell (.sel (.app 2 (.rcons (.c 0) (.rcons (.var 0) (.rcons (.var 1) .rnil)))) 3) (.var 2) 0) (
            .split (.lss (.var 2) (.lenL (.sel (.app 2 (.rcons (.c 0) (.rcons (.var 0) (.rcons (.var 1) .rnil)))) 1))) (
             .split (.eql (.sel (.app 8 (.rcons (.c 0) (.rcons (.var 0) (.rcons (.var 1) (.rcons (.var 2) .rnil))))) 0) (.c 1)) (
              .split (.eql (.sel (.app 9 (.rcons (.c 0) (.rcons (.sel (.app 3 (.rcons (.c 0) (.rcons (.var 0) (.rcons (.var 1) .rnil)))) 1) (.rcons (.sel (.app 3 (.rcons (.c 0) (.rcons (.var 0) (.rcons (.var 1) .rnil)))) 2) (.rcons (.sel (.app 6 (.rcons (.c 0) (.rcons (.var 0) (.rcons (.var 1) .rnil)))) 1) (.rcons (.sel (.app 6 (.rcons (.c 0) (.rcons (.var 0) (.rcons (.var 1) .rnil)))) 2) .rnil)))))) 0) (.c 1)) (
               .split (.sel (.app 9 (.rcons (.c 0) (.rcons (.sel (.app 3 (.rcons (.c 0) (.rcons (.var 0) (.rcons (.var 1) .rnil)))) 1) (.rcons (.sel (.app 3 (.rcons (.c 0) (.rcons (.var 0) (.rcons (.var 1) .rnil)))) 2) (.rcons (.sel (.app 6 (.rcons (.c 0) (.rcons (.var 0) (.rcons (.var 1) .rnil)))) 1) (.rcons (.sel (.app 6 (.rcons (.c 0) (.rcons (.var 0) (.rcons (.var 1) .rnil)))) 2) .rnil)))))) 1) (
                .split (.eql (.sel (.app 3 (.rcons (.c 0) (.rcons (.var 0) (.rcons (.var 1) .rnil)))) 3) (.sel (.app 6 (.rcons (.c 0) (.rcons (.var 0) (.rcons (.var 1) .rnil)))) 3)) (
                 .split (.eql (.sel (.app 10 (.rcons (.c 0) (.rcons (.cell (.sel (.app 2 (.rcons (.c 0) (.rcons (.var 0) (.rcons (.var 1) .rnil)))) 1) (.var 2) 0) (.rcons (.sel (.app 8 (.rcons (.c 0) (.rcons (.var 0) (.rcons (.var 1) (.rcons (.var 2) .rnil))))) 1) (.rcons (.sel (.app 8 (.rcons (.c 0) (.rcons (.var 0) (.rcons (.var 1) (.rcons (.var 2) .rnil))))) 2) .rnil))))) 0) (.c 1)) (
                  .split (.sel (.app 10 (.rcons (.c 0) (.rcons (.cell (.sel (.app 2 (.rcons (.c 0) (.rcons (.var 0) (.rcons (.var 1) .rnil)))) 1) (.var 2) 0) (.rcons (.sel (.app 8 (.rcons (.c 0) (.rcons (.var 0) (.rcons (.var 1) (.rcons (.var 2) .rnil))))) 1) (.rcons (.sel (.app 8 (.rcons (.c 0) (.rcons (.var 0) (.rcons (.var 1) (.rcons (.var 2) .rnil))))) 2) .rnil))))) 1) (
                   .split (.eql (.c 0) (.sel (.app 8 (.rcons (.c 0) (.rcons (.var 0) (.rcons (.var 1) (.rcons (.var 2) .rnil))))) 3)) (
                    .split (.eql (.sel (.app 0 (.rcons (.c 0) .rnil)) 0) (.c 1)) (
                     .leaf (.done 0 [(.bc true)])) (
                     .leaf .stuck)) (
                    .leaf (.done 0 [(.bc false)]))) (
                   .leaf (.done 0 [(.bc false)]))) (
                  .leaf .stuck)) (
                 .leaf (.done 0 [(.bc false)]))) (
                .leaf (.done 0 [(.bc false)]))) (
               .leaf .stuck)) (
              .leaf .stuck)) (
             .leaf .stuck)) (
            .split (.eql (.sel (.app 8 (.rcons (.c 0) (.rcons (.var 0) (.rcons (.var 1) (.rcons (.var 2) .rnil))))) 0) (.c 1)) (
             .split (.eql (.sel (.app 9 (.rcons (.c 0) (.rcons (.sel (.app 3 (.rcons (.c 0) (.rcons (.var 0) (.rcons (.var 1) .rnil)))) 1) (.rcons (.sel (.app 3 (.rcons (.c 0) (.rcons (.var 0) (.rcons (.var 1) .rnil)))) 2) (.rcons (.sel (.app 6 (.rcons (.c 0) (.rcons (.var 0) (.rcons (.var 1) .rnil)))) 1) (.rcons (.sel (.app 6 (.rcons (.c 0) (.rcons (.var 0) (.rcons (.var 1) .rnil)))) 2) .rnil)))))) 0) (.c 1)) (
              .split (.sel (.app 9 (.rcons (.c 0) (.rcons (.sel (.app 3 (.rcons (.c 0) (.rcons (.var 0) (.rcons (.var 1) .rnil)))) 1) (.rcons (.sel (.app 3 (.rcons (.c 0) (.rcons (.var 0) (.rcons (.var 1) .rnil)))) 2) (.rcons (.sel (.app 6 (.rcons (.c 0) (.rcons (.var 0) (.rcons (.var 1) .rnil)))) 1) (.rcons (.sel (.app 6 (.rcons (.c 0) (.rcons (.var 0) (.rcons (.var 1) .rnil)))) 2) .rnil)))))) 1) (
               .split (.eql (.sel (.app 3 (.rcons (.c 0) (.rcons (.var 0) (.rcons (.var 1) .rnil)))) 3) (.sel (.app 6 (.rcons (.c 0) (.rcons (.var 0) (.rcons (.var 1) .rnil)))) 3)) (
                .split (.eql (.sel (.app 10 (.rcons (.c 0) (.rcons .nilL (.rcons (.sel (.app 8 (.rcons (.c 0) (.rcons (.var 0) (.rcons (.var 1) (.rcons (.var 2) .rnil))))) 1) (.rcons (.sel (.app 8 (.rcons (.c 0) (.rcons (.var 0) (.rcons (.var 1) (.rcons (.var 2) .rnil))))) 2) .rnil))))) 0) (.c 1)) (
                 .split (.sel (.app 10 (.rcons (.c 0) (.rcons .nilL (.rcons (.sel (.app 8 (.rcons (.c 0) (.rcons (.var 0) (.rcons (.var 1) (.rcons (.var 2) .rnil))))) 1) (.rcons (.sel (.app 8 (.rcons (.c 0) (.rcons (.var 0) (.rcons (.var 1) (.rcons (.var 2) .rnil))))) 2) .rnil))))) 1) (
                  .split (.eql (.c 9) (.sel (.app 8 (.rcons (.c 0) (.rcons (.var 0) (.rcons (.var 1) (.rcons (.var 2) .rnil))))) 3)) (
                   .split (.eql (.sel (.app 0 (.rcons (.c 0) .rnil)) 0) (.c 1)) (
                    .leaf (.done 0 [(.bc true)])) (
                    .leaf .stuck)) (
                   .leaf (.done 0 [(.bc false)]))) (
                  .leaf (.done 0 [(.bc false)]))) (
                 .split (.eql (.sel (.app 9 (.rcons (.c 0) (.rcons .nilL (.rcons (.bc true) (.rcons (.sel (.app 8 (.rcons (.c 0) (.rcons (.var 0) (.rcons (.var 1) (.rcons (.var 2) .rnil))))) 1) (.rcons (.sel (.app 8 (.rcons (.c 0) (.rcons (.var 0) (.rcons (.var 1) (.rcons (.var 2) .rnil))))) 2) .rnil)))))) 0) (.c 1)) (
                  .split (.sel (.app 9 (.rcons (.c 0) (.rcons .nilL (.rcons (.bc true) (.rcons (.sel (.app 8 (.rcons (.c 0) (.rcons (.var 0) (.rcons (.var 1) (.rcons (.var 2) .rnil))))) 1) (.rcons (.sel (.app 8 (.rcons (.c 0) (.rcons (.var 0) (.rcons (.var 1) (.rcons (.var 2) .rnil))))) 2) .rnil)))))) 1) (
                   .split (.eql (.c 9) (.sel (.app 8 (.rcons (.c 0) (.rcons (.var 0) (.rcons (.var 1) (.rcons (.var 2) .rnil))))) 3)) (
                    .split (.eql (.sel (.app 0 (.rcons (.c 0) .rnil)) 0) (.c 1)) (
                     .leaf (.done 0 [(.bc true)])) (
                     .leaf .stuck)) (
                    .leaf (.done 0 [(.bc false)]))) (
                   .leaf (.done 0 [(.bc false)]))) (
                  .leaf .stuck))) (
                .leaf (.done 0 [(.bc false)]))) (
               .leaf (.done 0 [(.bc false)]))) (
              .leaf .stuck)) (
             .leaf .stuck))) (
           .leaf .stuck)))) (
        .split (.eql (.sel (.app 8 (.rcons (.c 0) (.rcons (.var 0) (.rcons (.var 1) (.rcons (.var 2) .rnil))))) 0) (.c 1)) (
         .split (.eql (.sel (.app 9 (.rcons (.c 0) (.rcons (.sel (.app 3 (.rcons (.c 0) (.rcons (.var 0) (.rcons (.var 1) .rnil)))) 1) (.rcons (.sel (.app 3 (.rcons (.c 0) (.rcons (.var 0) (.rcons (.var 1) .rnil)))) 2) (.rcons (.sel (.app 6 (.rcons (.c 0) (.rcons (.var 0) (.rcons (.var 1) .rnil)))) 1) (.rcons (.sel (.app 6 (.rcons (.c 0) (.rcons (.var 0) (.rcons (.var 1) .rnil)))) 2) .rnil)))))) 0) (.c 1)) (
          .split (.sel (.app 9 (.rcons (.c 0) (.rcons (.sel (.app 3 (.rcons (.c 0) (.rcons (.var 0) (.rcons (.var 1) .rnil)))) 1) (.rcons (.sel (.app 3 (.rcons (.c 0) (.rcons (.var 0) (.rcons (.var 1) .rnil)))) 2) (.rcons (.sel (.app 6 (.rcons (.c 0) (.rcons (.var 0) (.rcons (.var 1) .rnil)))) 1) (.rcons (.sel (.app 6 (.rcons (.c 0) (.rcons (.var 0) (.rcons (.var 1) .rnil)))) 2) .rnil)))))) 1) (
           .split (.eql (.sel (.app 3 (.rcons (.c 0) (.rcons (.var 0) (.rcons (.var 1) .rnil)))) 3) (.sel (.app 6 (.rcons (.c 0) (.rcons (.var 0) (.rcons (.var 1) .rnil)))) 3)) (
            .split (.eql (.sel (.app 10 (.rcons (.c 0) (.rcons .nilL (.rcons (.sel (.app 8 (.rcons (.c 0) (.rcons (.var 0) (.rcons (.var 1) (.rcons (.var 2) .rnil))))) 1) (.rcons (.sel (.app 8 (.rcons (.c 0) (.rcons (.var 0) (.rcons (.var 1) (.rcons (.var 2) .rnil))))) 2) .rnil))))) 0) (.c 1)) (
             .split (.sel (.app 10 (.rcons (.c 0) (.rcons .nilL (.rcons (.sel (.app 8 (.rcons (.c 0) (.rcons (.var 0) (.rcons (.var 1) (.rcons (.var 2) .rnil))))) 1) (.rcons (.sel (.app 8 (.rcons (.c 0) (.rcons (.var 0) (.rcons (.var 1) (.rcons (.var 2) .rnil))))) 2) .rnil))))) 1) (
              .split (.eql (.sel (.app 2 (.rcons (.c 0) (.rcons (.var 0) (.rcons (.var 1) .rnil)))) 5) (.sel (.app 8 (.rcons (.c 0) (.rcons (.var 0) (.rcons (.var 1) (.rcons (.var 2) .rnil))))) 3)) (
               .split (.eql (.sel (.app 0 (.rcons (.c 0) .rnil)) 0) (.c 1)) (
                .leaf (.done 0 [(.bc true)])) (
                .leaf .stuck)) (
               .leaf (.done 0 [(.bc false)]))) (
              .leaf (.done 0 [(.bc false)]))) (
             .split (.eql (.sel (.app 9 (.rcons (.c 0) (.rcons .nilL (.rcons (.bc true) (.rcons (.sel (.app 8 (.rcons (.c 0) (.rcons (.var 0) (.rcons (.var 1) (.rcons (.var 2) .rnil))))) 1) (.rcons (.sel (.app 8 (.rcons (.c 0) (.rcons (.var 0) (.rcons (.var 1) (.rcons (.var 2) .rnil))))) 2) .rnil)))))) 0) (.c 1)) (
              .split (.sel (.app 9 (.rcons (.c 0) (.rcons .nilL (.rcons (.bc true) (.rcons (.sel (.app 8 (.rcons (.c 0) (.rcons (.var 0) (.rcons (.var 1) (.rcons (.var 2) .rnil))))) 1) (.rcons (.sel (.app 8 (.rcons (.c 0) (.rcons (.var 0) (.rcons (.var 1) (.rcons (.var 2) .rnil))))) 2) .rnil)))))) 1) (
               .split (.eql (.sel (.app 2 (.rcons (.c 0) (.rcons (.var 0) (.rcons (.var 1) .rnil)))) 5) (.sel (.app 8 (.rcons (.c 0) (.rcons (.var 0) (.rcons (.var 1) (.rcons (.var 2) .rnil))))) 3)) (
                .split (.eql (.sel (.app 0 (.rcons (.c 0) .rnil)) 0) (.c 1)) (
                 .leaf (.done 0 [(.bc true)])) (
                 .leaf .stuck)) (
                .leaf (.done 0 [(.bc false)]))) (
               .leaf (.done 0 [(.bc false)]))) (
              .leaf .stuck))) (
            .leaf (.done 0 [(.bc false)]))) (
           .leaf (.done 0 [(.bc false)]))) (
          .leaf .stuck)) (
         .leaf .stuck))) (
       .leaf .stuck)) (
      .leaf .stuck)) (
     .leaf .stuck)))
def t11 : List (Tr Plf) := [t11p0]
def ts : List (List (Tr Plf)) := [t0, t1, t2, t3, t4, t5, t6, t7, t8, t9, t10, t11]
end Go.CR
