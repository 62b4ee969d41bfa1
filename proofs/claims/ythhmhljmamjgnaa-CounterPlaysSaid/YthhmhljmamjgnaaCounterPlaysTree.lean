/- What is stated: the trees of tests of the functions that the law CounterPlays reaches, as data. Conditions: none. -/
import Derived.Test.YthhmhljmamjgnaaBeF
set_option linter.unusedVariables false
set_option linter.unusedSectionVars false
namespace Go.CP
open Go.AE
def t0p0 : Tr Plf :=
  .leaf (.next 1 [(.var 0), (.c 0)])
def t0p1 : Tr Plf :=
  .split (.lss (.var 1) (.lenL (.var 0))) (
   .split (.lss (.var 1) (.c 7)) (
    .split (.lss (.var 1) (.c 0)) (
     .leaf .stuck) (
     .split (.lss (.c 60) (.lenS (.cell (.var 0) (.var 1) 0))) (
      .leaf (.done 0 [(.bc false)])) (
      .leaf (.next 1 [(.var 0), (.arith .add .i64 (.var 1) (.c 1))])))) (
    .leaf (.done 0 [(.neg (.lss (.c 6) (.lenL (.var 0))))]))) (
   .leaf (.done 0 [(.neg (.lss (.c 6) (.lenL (.var 0))))]))
def t0 : List (Tr Plf) := [t0p0, t0p1]
def t1p0 : Tr Plf :=
  .leaf (.done 0 [])
def t1 : List (Tr Plf) := [t1p0]
def t2p0 : Tr Plf :=
  .leaf (.next 1 [(.var 0), (.var 1), (.c 0), (.var 2)])
def t2p1 : Tr Plf :=
  .split (.lss (.var 2) (.lenL (.var 0))) (
   .split (.lss (.var 2) (.c 0)) (
    .leaf .stuck) (
    .split (.eqSS (.cell (.var 0) (.var 2) 0) (.var 3)) (
     .leaf (.done 0 [(.var 2)])) (
     .leaf (.next 1 [(.var 0), (.var 1), (.arith .add .i64 (.var 2) (.c 1)), (.var 3)])))) (
   .leaf (.done 0 [(.c (-1))]))
def t2 : List (Tr Plf) := [t2p0, t2p1]
def t3p0 : Tr Plf :=
  .split (.eql (.sel (.app 2 (.rcons (.c 0) (.rcons (.var 1) (.rcons (.var 2) (.rcons (.var 3) .rnil))))) 0) (.c 1)) (
   .leaf (.done 0 [(.sel (.app 2 (.rcons (.c 0) (.rcons (.var 1) (.rcons (.var 2) (.rcons (.var 3) .rnil))))) 1)])) (
   .leaf .stuck)
def t3 : List (Tr Plf) := [t3p0]
def t4p0 : Tr Plf :=
  .split (.lss (.c 4) (.lenL (.var 0))) (
   .leaf (.done 0 [])) (
   .leaf (.next 1 [(.var 0), (.c 0), .nilL, (.bc true)]))
def t4p1 : Tr Plf :=
  .split (.lss (.var 1) (.lenL (.var 0))) (
   .split (.lss (.var 1) (.c 0)) (
    .leaf .stuck) (
    .split (.eqS (.cell (.var 0) (.var 1) 0) 0 0) (
     .leaf (.done 0 [])) (
     .split (.lss (.cell (.var 0) (.var 1) 1) (.c 1)) (
      .leaf (.done 0 [])) (
      .split (.lss (.c 1000) (.cell (.var 0) (.var 1) 1)) (
       .leaf (.done 0 [])) (
       .split (.eql (.sel (.app 3 (.rcons (.c 0) (.rcons (.bc true) (.rcons (.var 2) (.rcons (.var 3) (.rcons (.cell (.var 0) (.var 1) 0) .rnil)))))) 0) (.c 1)) (
        .split (.lss (.sel (.app 3 (.rcons (.c 0) (.rcons (.bc true) (.rcons (.var 2) (.rcons (.var 3) (.rcons (.cell (.var 0) (.var 1) 0) .rnil)))))) 1) (.c 0)) (
         .split (.lss (.lenL (.var 2)) (.c 1048576)) (
          .leaf (.next 1 [(.var 0), (.arith .add .i64 (.var 1) (.c 1)), (.snoc (.var 2) (.rcons (.cell (.var 0) (.var 1) 0) (.rcons (.cell (.var 0) (.var 1) 1) (.rcons (.c 0) .rnil)))), (.bc false)])) (
          .leaf .stuck)) (
         .leaf (.done 0 []))) (
        .leaf .stuck)))))) (
   .leaf (.done 1 [(.var 2), (.var 3)]))
def t4 : List (Tr Plf) := [t4p0, t4p1]
def t5p0 : Tr Plf :=
  .split (.lss (.c 4) (.lenL (.var 0))) (
   .leaf (.done 0 [.nilL, (.bc true), .nilL, (.bc true), (.c 2)])) (
   .leaf (.next 1 [(.var 0), (.c 0), .nilL, (.bc true), .nilL, (.bc true)]))
def t5p1 : Tr Plf :=
  .split (.lss (.var 1) (.lenL (.var 0))) (
   .split (.lss (.var 1) (.c 0)) (
    .leaf .stuck) (
    .split (.eqS (.cell (.var 0) (.var 1) 0) 0 0) (
     .leaf (.done 0 [.nilL, (.bc true), .nilL, (.bc true), (.c 2)])) (
     .split (.lss (.cell (.var 0) (.var 1) 1) (.c 1)) (
      .leaf (.done 0 [.nilL, (.bc true), .nilL, (.bc true), (.c 2)])) (
      .split (.lss (.c 1000) (.cell (.var 0) (.var 1) 1)) (
       .leaf (.done 0 [.nilL, (.bc true), .nilL, (.bc true), (.c 2)])) (
       .leaf (.next 2 [(.var 0), (.var 1), (.c 0), (.var 2), (.var 3), (.var 4), (.var 5)])))))) (
   .leaf (.done 0 [(.var 2), (.var 3), (.var 4), (.var 5), (.c 0)]))
def t5p2 : Tr Plf :=
  .split (.lss (.var 2) (.var 1)) (
   .split (.lss (.var 2) (.c 0)) (
    .leaf .stuck) (
    .split (.lss (.var 2) (.lenL (.var 0))) (
     .split (.lss (.var 1) (.c 0)) (
      .leaf .stuck) (
      .split (.lss (.var 1) (.lenL (.var 0))) (
       .split (.eqSS (.cell (.var 0) (.var 2) 0) (.cell (.var 0) (.var 1) 0)) (
        .leaf (.done 0 [.nilL, (.bc true), .nilL, (.bc true), (.c 2)])) (
        .leaf (.next 2 [(.var 0), (.var 1), (.arith .add .i64 (.var 2) (.c 1)), (.var 3), (.var 4), (.var 5), (.var 6)]))) (
       .leaf .stuck))) (
     .leaf .stuck))) (
   .split (.lss (.var 1) (.c 0)) (
    .leaf .stuck) (
    .split (.lss (.var 1) (.lenL (.var 0))) (
     .split (.lss (.lenL (.var 3)) (.c 1048576)) (
      .split (.lss (.lenL (.var 5)) (.c 1048576)) (
       .leaf (.next 1 [(.var 0), (.arith .add .i64 (.var 1) (.c 1)), (.snoc (.var 3) (.rcons (.cell (.var 0) (.var 1) 0) (.rcons (.cell (.var 0) (.var 1) 1) .rnil))), (.bc false), (.snoc (.var 5) (.rcons (.c 0) .rnil)), (.bc false)])) (
       .leaf .stuck)) (
      .leaf .stuck)) (
     .leaf .stuck)))
def t5 : List (Tr Plf) := [t5p0, t5p1, t5p2]
def t6p0 : Tr Plf :=
  .leaf (.next 1 [(.var 4), (.c 0), (.var 0), (.var 2), (.var 1), (.var 3)])
def t6p1 : Tr Plf :=
  .split (.lss (.var 1) (.lenL (.var 2))) (
   .split (.lss (.var 1) (.c 0)) (
    .leaf .stuck) (
    .split (.eqSS (.cell (.var 2) (.var 1) 0) (.var 0)) (
     .leaf (.done 0 [(.var 1)])) (
     .leaf (.next 1 [(.var 0), (.arith .add .i64 (.var 1) (.c 1)), (.var 2), (.var 3), (.var 4), (.var 5)])))) (
   .leaf (.done 0 [(.c (-1))]))
def t6 : List (Tr Plf) := [t6p0, t6p1]
def t7p0 : Tr Plf :=
  .split (.eqS (.var 9) 0 0) (
   .leaf (.done 0 [(.bc true), (.c 0)])) (
   .split (.eql (.sel (.app 6 (.rcons (.c 0) (.rcons (.var 0) (.rcons (.var 1) (.rcons (.var 2) (.rcons (.var 3) (.rcons (.var 9) .rnil))))))) 0) (.c 1)) (
    .split (.lss (.sel (.app 6 (.rcons (.c 0) (.rcons (.var 0) (.rcons (.var 1) (.rcons (.var 2) (.rcons (.var 3) (.rcons (.var 9) .rnil))))))) 1) (.c 0)) (
     .leaf (.done 0 [(.bc false), (.c 9)])) (
     .split (.lss (.sel (.app 6 (.rcons (.c 0) (.rcons (.var 0) (.rcons (.var 1) (.rcons (.var 2) (.rcons (.var 3) (.rcons (.var 9) .rnil))))))) 1) (.lenL (.var 0))) (
      .split (.lss (.sel (.app 6 (.rcons (.c 0) (.rcons (.var 0) (.rcons (.var 1) (.rcons (.var 2) (.rcons (.var 3) (.rcons (.var 9) .rnil))))))) 1) (.lenL (.var 2))) (
       .split (.lss (.cell (.var 2) (.sel (.app 6 (.rcons (.c 0) (.rcons (.var 0) (.rcons (.var 1) (.rcons (.var 2) (.rcons (.var 3) (.rcons (.var 9) .rnil))))))) 1) 0) (.var 10)) (
        .leaf (.done 0 [(.bc false), (.c 0)])) (
        .split (.lss (.var 11) (.cell (.var 2) (.sel (.app 6 (.rcons (.c 0) (.rcons (.var 0) (.rcons (.var 1) (.rcons (.var 2) (.rcons (.var 3) (.rcons (.var 9) .rnil))))))) 1) 0)) (
         .leaf (.done 0 [(.bc false), (.c 0)])) (
         .split (.lss (.var 12) (.c (-1000))) (
          .leaf (.done 0 [(.bc false), (.c 0)])) (
          .split (.lss (.c 1000) (.var 12)) (
           .leaf (.done 0 [(.bc false), (.c 0)])) (
           .split (.lss (.arith .add .i64 (.cell (.var 2) (.sel (.app 6 (.rcons (.c 0) (.rcons (.var 0) (.rcons (.var 1) (.rcons (.var 2) (.rcons (.var 3) (.rcons (.var 9) .rnil))))))) 1) 0) (.var 12)) (.c 0)) (
            .leaf (.done 0 [(.bc false), (.c 0)])) (
            .split (.lss (.cell (.var 0) (.sel (.app 6 (.rcons (.c 0) (.rcons (.var 0) (.rcons (.var 1) (.rcons (.var 2) (.rcons (.var 3) (.rcons (.var 9) .rnil))))))) 1) 1) (.arith .add .i64 (.cell (.var 2) (.sel (.app 6 (.rcons (.c 0) (.rcons (.var 0) (.rcons (.var 1) (.rcons (.var 2) (.rcons (.var 3) (.rcons (.var 9) .rnil))))))) 1) 0) (.var 12))) (
             .leaf (.done 0 [(.bc false), (.c 0)])) (
             .leaf (.done 0 [(.bc true), (.c 0)])))))))) (
       .leaf .stuck)) (
      .leaf .stuck))) (
    .leaf .stuck))
def t7 : List (Tr Plf) := [t7p0]
def t8p0 : Tr Plf :=
  .split (.eql (.sel (.app 7 (.rcons (.c 0) (.rcons (.var 0) (.rcons (.var 1) (.rcons (.var 2) (.rcons (.var 3) (.rcons (.var 4) (.rcons (.var 5) (.rcons (.var 6) (.rcons (.var 7) (.rcons (.var 8) (.rcons (.var 9) (.rcons (.var 10) (.rcons (.var 11) (.rcons (.var 12) .rnil))))))))))))))) 0) (.c 1)) (
   .split (.eql (.sel (.app 7 (.rcons (.c 0) (.rcons (.var 0) (.rcons (.var 1) (.rcons (.var 2) (.rcons (.var 3) (.rcons (.var 4) (.rcons (.var 5) (.rcons (.var 6) (.rcons (.var 7) (.rcons (.var 8) (.rcons (.var 9) (.rcons (.var 10) (.rcons (.var 11) (.rcons (.var 12) .rnil))))))))))))))) 2) (.c 0)) (
    .split (.sel (.app 7 (.rcons (.c 0) (.rcons (.var 0) (.rcons (.var 1) (.rcons (.var 2) (.rcons (.var 3) (.rcons (.var 4) (.rcons (.var 5) (.rcons (.var 6) (.rcons (.var 7) (.rcons (.var 8) (.rcons (.var 9) (.rcons (.var 10) (.rcons (.var 11) (.rcons (.var 12) .rnil))))))))))))))) 1) (
     .split (.eqS (.var 9) 0 0) (
      .leaf (.done 0 [(.var 0), (.var 1), (.var 2), (.var 3), (.c 0)])) (
      .split (.eql (.sel (.app 6 (.rcons (.c 0) (.rcons (.var 0) (.rcons (.var 1) (.rcons (.var 2) (.rcons (.var 3) (.rcons (.var 9) .rnil))))))) 0) (.c 1)) (
       .split (.lss (.lenL (.var 2)) (.c 1048576)) (
        .split (.lss (.sel (.app 6 (.rcons (.c 0) (.rcons (.var 0) (.rcons (.var 1) (.rcons (.var 2) (.rcons (.var 3) (.rcons (.var 9) .rnil))))))) 1) (.c 0)) (
         .leaf .stuck) (
         .split (.lss (.sel (.app 6 (.rcons (.c 0) (.rcons (.var 0) (.rcons (.var 1) (.rcons (.var 2) (.rcons (.var 3) (.rcons (.var 9) .rnil))))))) 1) (.lenL (.cat .emptyL (.var 2)))) (
          .leaf (.done 1 [(.var 0), (.var 1), (.upd (.cat .emptyL (.var 2)) (.sel (.app 6 (.rcons (.c 0) (.rcons (.var 0) (.rcons (.var 1) (.rcons (.var 2) (.rcons (.var 3) (.rcons (.var 9) .rnil))))))) 1) 0 (.arith .add .i64 (.cell (.cat .emptyL (.var 2)) (.sel (.app 6 (.rcons (.c 0) (.rcons (.var 0) (.rcons (.var 1) (.rcons (.var 2) (.rcons (.var 3) (.rcons (.var 9) .rnil))))))) 1) 0) (.var 12))), (.bc false)])) (
          .leaf .stuck))) (
        .leaf .stuck)) (
       .leaf .stuck))) (
     .leaf (.done 0 [(.var 0), (.var 1), (.var 2), (.var 3), (.c 8)]))) (
    .leaf (.done 0 [(.var 0), (.var 1), (.var 2), (.var 3), (.sel (.app 7 (.rcons (.c 0) (.rcons (.var 0) (.rcons (.var 1) (.rcons (.var 2) (.rcons (.var 3) (.rcons (.var 4) (.rcons (.var 5) (.rcons (.var 6) (.rcons (.var 7) (.rcons (.var 8) (.rcons (.var 9) (.rcons (.var 10) (.rcons (.var 11) (.rcons (.var 12) .rnil))))))))))))))) 2)]))) (
   .leaf .stuck)
def t8 : List (Tr Plf) := [t8p0]
def t9p0 : Tr Plf :=
  .split (.var 0) (
   .split (.eql (.sel (.app 3 (.rcons (.c 0) (.rcons (.var 0) (.rcons (.var 1) (.rcons (.var 2) (.rcons (.var 3) .rnil)))))) 0) (.c 1)) (
    .split (.lss (.sel (.app 3 (.rcons (.c 0) (.rcons (.var 0) (.rcons (.var 1) (.rcons (.var 2) (.rcons (.var 3) .rnil)))))) 1) (.c 0)) (
     .leaf (.done 0 [(.c 0), (.c 9)])) (
     .split (.lss (.sel (.app 3 (.rcons (.c 0) (.rcons (.var 0) (.rcons (.var 1) (.rcons (.var 2) (.rcons (.var 3) .rnil)))))) 1) (.lenL (.var 1))) (
      .leaf (.done 0 [(.cell (.var 1) (.sel (.app 3 (.rcons (.c 0) (.rcons (.var 0) (.rcons (.var 1) (.rcons (.var 2) (.rcons (.var 3) .rnil)))))) 1) 2), (.c 0)])) (
      .leaf .stuck))) (
    .leaf .stuck)) (
   .leaf (.done 0 [(.c 0), (.c 1)]))
def t9 : List (Tr Plf) := [t9p0]
def t10p0 : Tr Plf :=
  .split (.var 0) (
   .split (.eqS (.var 8) 0 0) (
    .leaf (.done 0 [(.bc true), (.c 0)])) (
    .split (.eql (.sel (.app 9 (.rcons (.c 0) (.rcons (.var 0) (.rcons (.var 1) (.rcons (.var 2) (.rcons (.var 8) .rnil)))))) 0) (.c 1)) (
     .split (.eql (.sel (.app 9 (.rcons (.c 0) (.rcons (.var 0) (.rcons (.var 1) (.rcons (.var 2) (.rcons (.var 8) .rnil)))))) 2) (.c 0)) (
      .split (.eql (.sel (.app 3 (.rcons (.c 0) (.rcons (.bc true) (.rcons (.var 1) (.rcons (.var 2) (.rcons (.var 8) .rnil)))))) 0) (.c 1)) (
       .split (.lss (.sel (.app 3 (.rcons (.c 0) (.rcons (.bc true) (.rcons (.var 1) (.rcons (.var 2) (.rcons (.var 8) .rnil)))))) 1) (.c 0)) (
        .leaf .stuck) (
        .split (.lss (.sel (.app 3 (.rcons (.c 0) (.rcons (.bc true) (.rcons (.var 1) (.rcons (.var 2) (.rcons (.var 8) .rnil)))))) 1) (.lenL (.var 1))) (
         .split (.lss (.sel (.app 9 (.rcons (.c 0) (.rcons (.var 0) (.rcons (.var 1) (.rcons (.var 2) (.rcons (.var 8) .rnil)))))) 1) (.var 9)) (
          .leaf (.done 0 [(.bc false), (.c 0)])) (
          .split (.lss (.var 10) (.sel (.app 9 (.rcons (.c 0) (.rcons (.var 0) (.rcons (.var 1) (.rcons (.var 2) (.rcons (.var 8) .rnil)))))) 1)) (
           .leaf (.done 0 [(.bc false), (.c 0)])) (
           .split (.lss (.var 11) (.arith .sub .i64 (.c 0) (.sel (.app 9 (.rcons (.c 0) (.rcons (.var 0) (.rcons (.var 1) (.rcons (.var 2) (.rcons (.var 8) .rnil)))))) 1))) (
            .leaf (.done 0 [(.bc false), (.c 0)])) (
            .leaf (.done 0 [(.neg (.lss (.arith .sub .i64 (.cell (.var 1) (.sel (.app 3 (.rcons (.c 0) (.rcons (.bc true) (.rcons (.var 1) (.rcons (.var 2) (.rcons (.var 8) .rnil)))))) 1) 1) (.sel (.app 9 (.rcons (.c 0) (.rcons (.var 0) (.rcons (.var 1) (.rcons (.var 2) (.rcons (.var 8) .rnil)))))) 1)) (.var 11))), (.c 0)]))))) (
         .leaf .stuck))) (
       .leaf .stuck)) (
      .leaf (.done 0 [(.bc false), (.sel (.app 9 (.rcons (.c 0) (.rcons (.var 0) (.rcons (.var 1) (.rcons (.var 2) (.rcons (.var 8) .rnil)))))) 2)]))) (
     .leaf .stuck))) (
   .leaf (.done 0 [(.bc false), (.c 1)]))
def t10 : List (Tr Plf) := [t10p0]
def t11p0 : Tr Plf :=
  .split (.eql (.sel (.app 10 (.rcons (.c 0) (.rcons (.var 0) (.rcons (.var 1) (.rcons (.var 2) (.rcons (.var 3) (.rcons (.var 4) (.rcons (.var 5) (.rcons (.var 6) (.rcons (.var 7) (.rcons (.var 8) (.rcons (.var 9) (.rcons (.var 10) (.rcons (.var 11) .rnil)))))))))))))) 0) (.c 1)) (
   .split (.eql (.sel (.app 10 (.rcons (.c 0) (.rcons (.var 0) (.rcons (.var 1) (.rcons (.var 2) (.rcons (.var 3) (.rcons (.var 4) (.rcons (.var 5) (.rcons (.var 6) (.rcons (.var 7) (.rcons (.var 8) (.rcons (.var 9) (.rcons (.var 10) (.rcons (.var 11) .rnil)))))))))))))) 2) (.c 0)) (
    .split (.sel (.app 10 (.rcons (.c 0) (.rcons (.var 0) (.rcons (.var 1) (.rcons (.var 2) (.rcons (.var 3) (.rcons (.var 4) (.rcons (.var 5) (.rcons (.var 6) (.rcons (.var 7) (.rcons (.var 8) (.rcons (.var 9) (.rcons (.var 10) (.rcons (.var 11) .rnil)))))))))))))) 1) (
     .split (.eqS (.var 8) 0 0) (
      .leaf (.done 0 [(.c 0), (.var 1)])) (
      .split (.eql (.sel (.app 3 (.rcons (.c 0) (.rcons (.var 0) (.rcons (.var 1) (.rcons (.var 2) (.rcons (.var 8) .rnil)))))) 0) (.c 1)) (
       .split (.lss (.sel (.app 3 (.rcons (.c 0) (.rcons (.var 0) (.rcons (.var 1) (.rcons (.var 2) (.rcons (.var 8) .rnil)))))) 1) (.c 0)) (
        .leaf .stuck) (
        .split (.lss (.sel (.app 3 (.rcons (.c 0) (.rcons (.var 0) (.rcons (.var 1) (.rcons (.var 2) (.rcons (.var 8) .rnil)))))) 1) (.lenL (.var 1))) (
         .leaf (.done 0 [(.c 0), (.upd (.var 1) (.sel (.app 3 (.rcons (.c 0) (.rcons (.var 0) (.rcons (.var 1) (.rcons (.var 2) (.rcons (.var 8) .rnil)))))) 1) 2 (.arith .add .i64 (.cell (.var 1) (.sel (.app 3 (.rcons (.c 0) (.rcons (.var 0) (.rcons (.var 1) (.rcons (.var 2) (.rcons (.var 8) .rnil)))))) 1) 2) (.var 11)))])) (
         .leaf .stuck))) (
       .leaf .stuck))) (
     .leaf (.done 0 [(.c 8), (.var 1)]))) (
    .leaf (.done 0 [(.sel (.app 10 (.rcons (.c 0) (.rcons (.var 0) (.rcons (.var 1) (.rcons (.var 2) (.rcons (.var 3) (.rcons (.var 4) (.rcons (.var 5) (.rcons (.var 6) (.rcons (.var 7) (.rcons (.var 8) (.rcons (.var 9) (.rcons (.var 10) (.rcons (.var 11) .rnil)))))))))))))) 2), (.var 1)]))) (
   .leaf .stuck)
def t11 : List (Tr Plf) := [t11p0]
def t12p0 : Tr Plf :=
  .leaf (.next 1 [(.var 2), (.var 3), (.c 0), (.var 0), (.var 1)])
def t12p1 : Tr Plf :=
  .split (.lss (.var 2) (.lenL (.var 0))) (
   .split (.lss (.var 2) (.c 0)) (
    .leaf .stuck) (
    .split (.lss (.lenL (.var 3)) (.c 1048576)) (
     .leaf (.next 1 [(.var 0), (.var 1), (.arith .add .i64 (.var 2) (.c 1)), (.snoc (.var 3) (.rcons (.cell (.var 0) (.var 2) 2) .rnil)), (.bc false)])) (
     .leaf .stuck))) (
   .leaf (.done 0 [(.var 3), (.var 4)]))
def t12 : List (Tr Plf) := [t12p0, t12p1]
def t13p0 : Tr Plf :=
  .split (.var 0) (
   .split (.var 2) (
    .split (.eql (.sel (.app 12 (.rcons (.c 0) (.rcons .nilL (.rcons (.bc true) (.rcons .nilL (.rcons (.bc true) .rnil)))))) 0) (.c 1)) (
     .leaf (.done 0 [(.sel (.app 12 (.rcons (.c 0) (.rcons .nilL (.rcons (.bc true) (.rcons .nilL (.rcons (.bc true) .rnil)))))) 1), (.sel (.app 12 (.rcons (.c 0) (.rcons .nilL (.rcons (.bc true) (.rcons .nilL (.rcons (.bc true) .rnil)))))) 2)])) (
     .leaf .stuck)) (
    .split (.lss (.lenL (.var 1)) (.c 1048576)) (
     .split (.eql (.sel (.app 12 (.rcons (.c 0) (.rcons .nilL (.rcons (.bc true) (.rcons (.cat .emptyL (.var 1)) (.rcons (.and (.bc false) (.eql (.lenL (.var 1)) (.c 0))) .rnil)))))) 0) (.c 1)) (
      .leaf (.done 0 [(.sel (.app 12 (.rcons (.c 0) (.rcons .nilL (.rcons (.bc true) (.rcons (.cat .emptyL (.var 1)) (.rcons (.bc false) .rnil)))))) 1), (.sel (.app 12 (.rcons (.c 0) (.rcons .nilL (.rcons (.bc true) (.rcons (.cat .emptyL (.var 1)) (.rcons (.bc false) .rnil)))))) 2)])) (
      .leaf .stuck)) (
     .leaf .stuck))) (
   .split (.eql (.sel (.app 12 (.rcons (.c 0) (.rcons .nilL (.rcons (.bc true) (.rcons .nilL (.rcons (.bc true) .rnil)))))) 0) (.c 1)) (
    .leaf (.done 0 [(.sel (.app 12 (.rcons (.c 0) (.rcons .nilL (.rcons (.bc true) (.rcons .nilL (.rcons (.bc true) .rnil)))))) 1), (.sel (.app 12 (.rcons (.c 0) (.rcons .nilL (.rcons (.bc true) (.rcons .nilL (.rcons (.bc true) .rnil)))))) 2)])) (
    .leaf .stuck))
def t13 : List (Tr Plf) := [t13p0]
def t14p0 : Tr Plf :=
  .split (.eql (.lenL (.var 0)) (.lenL (.var 2))) (
   .leaf (.next 1 [(.var 0), (.var 1), (.var 2), (.var 3), (.c 0)])) (
   .leaf (.done 0 [(.bc false)]))
def t14p1 : Tr Plf :=
  .split (.lss (.var 4) (.lenL (.var 0))) (
   .split (.lss (.var 4) (.c 0)) (
    .leaf .stuck) (
    .split (.lss (.var 4) (.lenL (.var 2))) (
     .split (.eql (.cell (.var 0) (.var 4) 0) (.cell (.var 2) (.var 4) 0)) (
      .leaf (.next 1 [(.var 0), (.var 1), (.var 2), (.var 3), (.arith .add .i64 (.var 4) (.c 1))])) (
      .leaf (.done 0 [(.bc false)]))) (
     .leaf .stuck))) (
   .leaf (.done 0 [(.bc true)]))
def t14 : List (Tr Plf) := [t14p0, t14p1]
def t15p0 : Tr Plf :=
  .leaf (.next 1 [(.c 0), (.var 0), (.var 1), (.var 2), (.var 3), (.var 5), (.var 4), (.var 6)])
def t15p1 : Tr Plf :=
  .split (.lss (.var 0) (.lenL (.var 4))) (
   .split (.lss (.var 0) (.c 0)) (
    .leaf .stuck) (
    .split (.eql (.sel (.app 9 (.rcons (.c 0) (.rcons (.var 1) (.rcons (.var 2) (.rcons (.var 3) (.rcons (.cell (.var 4) (.var 0) 0) .rnil)))))) 0) (.c 1)) (
     .split (.lss (.var 0) (.lenL (.var 5))) (
      .split (.eql (.sel (.app 9 (.rcons (.c 0) (.rcons (.var 1) (.rcons (.var 2) (.rcons (.var 3) (.rcons (.cell (.var 4) (.var 0) 0) .rnil)))))) 1) (.cell (.var 5) (.var 0) 0)) (
       .split (.eql (.sel (.app 9 (.rcons (.c 0) (.rcons (.var 1) (.rcons (.var 2) (.rcons (.var 3) (.rcons (.cell (.var 4) (.var 0) 0) .rnil)))))) 2) (.c 0)) (
        .leaf (.next 1 [(.arith .add .i64 (.var 0) (.c 1)), (.var 1), (.var 2), (.var 3), (.var 4), (.var 5), (.var 6), (.var 7)])) (
        .leaf (.done 0 [(.bc false)]))) (
       .leaf (.done 0 [(.bc false)]))) (
      .leaf .stuck)) (
     .leaf .stuck))) (
   .split (.eql (.sel (.app 13 (.rcons (.c 0) (.rcons (.var 1) (.rcons (.var 2) (.rcons (.var 3) .rnil))))) 0) (.c 1)) (
    .split (.eql (.sel (.app 14 (.rcons (.c 0) (.rcons (.sel (.app 13 (.rcons (.c 0) (.rcons (.var 1) (.rcons (.var 2) (.rcons (.var 3) .rnil))))) 1) (.rcons (.sel (.app 13 (.rcons (.c 0) (.rcons (.var 1) (.rcons (.var 2) (.rcons (.var 3) .rnil))))) 2) (.rcons (.var 5) (.rcons (.var 7) .rnil)))))) 0) (.c 1)) (
     .leaf (.done 0 [(.sel (.app 14 (.rcons (.c 0) (.rcons (.sel (.app 13 (.rcons (.c 0) (.rcons (.var 1) (.rcons (.var 2) (.rcons (.var 3) .rnil))))) 1) (.rcons (.sel (.app 13 (.rcons (.c 0) (.rcons (.var 1) (.rcons (.var 2) (.rcons (.var 3) .rnil))))) 2) (.rcons (.var 5) (.rcons (.var 7) .rnil)))))) 1)])) (
     .leaf .stuck)) (
    .leaf .stuck))
def t15 : List (Tr Plf) := [t15p0, t15p1]
def t16p0 : Tr Plf :=
  .split (.eql (.lenL (.var 4)) (.lenL (.var 2))) (
   .leaf (.next 1 [(.var 4), (.c 0), (.var 0), (.var 2), (.var 1), (.var 3)])) (
   .leaf (.done 0 [(.var 0), (.var 1), (.var 2), (.var 3), (.c 2)]))
def t16p1 : Tr Plf :=
  .split (.lss (.var 1) (.lenL (.var 0))) (
   .split (.lss (.var 1) (.c 0)) (
    .leaf .stuck) (
    .split (.lss (.cell (.var 0) (.var 1) 0) (.c 0)) (
     .leaf (.done 0 [(.var 2), (.var 4), (.var 3), (.var 5), (.c 3)])) (
     .split (.lss (.var 1) (.lenL (.var 2))) (
      .split (.lss (.cell (.var 2) (.var 1) 1) (.cell (.var 0) (.var 1) 0)) (
       .leaf (.done 0 [(.var 2), (.var 4), (.var 3), (.var 5), (.c 3)])) (
       .leaf (.next 1 [(.var 0), (.arith .add .i64 (.var 1) (.c 1)), (.var 2), (.var 3), (.var 4), (.var 5)]))) (
      .leaf .stuck)))) (
   .split (.lss (.lenL (.var 0)) (.c 1048576)) (
    .leaf (.done 1 [(.var 2), (.var 4), (.cat .emptyL (.var 0)), (.bc false)])) (
    .leaf .stuck))
def t16 : List (Tr Plf) := [t16p0, t16p1]
def t17p0 : Tr Plf :=
  .split (.var 0) (
   .split (.eql (.lenL (.var 3)) (.lenL (.var 1))) (
    .leaf (.next 1 [(.var 3), (.c 0), (.var 0), (.var 1), (.var 2)])) (
    .leaf (.done 0 [(.c 2), (.var 1)]))) (
   .leaf (.done 0 [(.c 1), (.var 1)]))
def t17p1 : Tr Plf :=
  .split (.lss (.var 1) (.lenL (.var 0))) (
   .split (.lss (.var 1) (.c 0)) (
    .leaf .stuck) (
    .split (.lss (.cell (.var 0) (.var 1) 0) (.c 0)) (
     .leaf (.done 0 [(.c 3), (.var 3)])) (
     .split (.lss (.var 1) (.lenL (.var 3))) (
      .split (.lss (.cell (.var 3) (.var 1) 1) (.cell (.var 0) (.var 1) 0)) (
       .leaf (.done 0 [(.c 3), (.var 3)])) (
       .leaf (.next 1 [(.var 0), (.arith .add .i64 (.var 1) (.c 1)), (.var 2), (.var 3), (.var 4)]))) (
      .leaf .stuck)))) (
   .leaf (.next 2 [(.var 0), (.lenL (.var 0)), (.c 0), (.var 2), (.var 3), (.var 4)]))
def t17p2 : Tr Plf :=
  .split (.lss (.var 2) (.var 1)) (
   .split (.lss (.var 2) (.c 0)) (
    .leaf .stuck) (
    .split (.lss (.var 2) (.lenL (.var 0))) (
     .split (.lss (.var 2) (.lenL (.var 4))) (
      .leaf (.next 2 [(.var 0), (.var 1), (.arith .add .i64 (.var 2) (.c 1)), (.var 3), (.upd (.var 4) (.var 2) 2 (.cell (.var 0) (.var 2) 0)), (.var 5)])) (
      .leaf .stuck)) (
     .leaf .stuck))) (
   .leaf (.done 0 [(.c 0), (.var 4)]))
def t17 : List (Tr Plf) := [t17p0, t17p1, t17p2]
def t18p0 : Tr Plf :=
  .split (.var 0) (
   .split (.var 2) (
    .leaf (.done 0 [.nilL, (.bc true)])) (
    .split (.lss (.lenL (.var 1)) (.c 1048576)) (
     .leaf (.done 0 [(.cat .emptyL (.var 1)), (.bc false)])) (
     .leaf .stuck))) (
   .leaf (.done 1 []))
def t18 : List (Tr Plf) := [t18p0]
def t19p0 : Tr Plf :=
  .split (.eql (.sel (.app 0 (.rcons (.c 0) (.rcons (.var 0) .rnil))) 0) (.c 1)) (
   .split (.sel (.app 0 (.rcons (.c 0) (.rcons (.var 0) .rnil))) 1) (
    .split (.lss (.c 60) (.lenL (.var 1))) (
     .split (.eql (.sel (.app 1 (.rcons (.c 0) .rnil)) 0) (.c 1)) (
      .leaf (.done 0 [(.bc true)])) (
      .leaf .stuck)) (
     .split (.eql (.sel (.app 4 (.rcons (.c 0) (.rcons (.var 0) .rnil))) 0) (.c 1)) (
      .split (.eql (.sel (.app 5 (.rcons (.c 0) (.rcons (.var 0) .rnil))) 0) (.c 1)) (
       .split (.eql (.c 2) (.sel (.app 5 (.rcons (.c 0) (.rcons (.var 0) .rnil))) 5)) (
        .split (.eql (.sel (.app 5 (.rcons (.c 0) (.rcons (.var 0) .rnil))) 5) (.c 0)) (
         .leaf (.done 0 [(.bc false)])) (
         .split (.eql (.sel (.app 1 (.rcons (.c 0) .rnil)) 0) (.c 1)) (
          .leaf (.done 0 [(.bc true)])) (
          .leaf .stuck))) (
        .leaf (.done 0 [(.bc false)]))) (
       .leaf .stuck)) (
      .split (.eql (.sel (.app 4 (.rcons (.c 0) (.rcons (.var 0) .rnil))) 0) (.c 2)) (
       .split (.eql (.sel (.app 5 (.rcons (.c 0) (.rcons (.var 0) .rnil))) 0) (.c 1)) (
        .split (.eql (.c 0) (.sel (.app 5 (.rcons (.c 0) (.rcons (.var 0) .rnil))) 5)) (
         .split (.eql (.sel (.app 5 (.rcons (.c 0) (.rcons (.var 0) .rnil))) 5) (.c 0)) (
          .leaf (.next 1 [(.var 1), (.c 0), (.sel (.app 4 (.rcons (.c 0) (.rcons (.var 0) .rnil))) 1), (.sel (.app 4 (.rcons (.c 0) (.rcons (.var 0) .rnil))) 2), (.sel (.app 5 (.rcons (.c 0) (.rcons (.var 0) .rnil))) 1), (.sel (.app 5 (.rcons (.c 0) (.rcons (.var 0) .rnil))) 2), (.sel (.app 5 (.rcons (.c 0) (.rcons (.var 0) .rnil))) 3), (.sel (.app 5 (.rcons (.c 0) (.rcons (.var 0) .rnil))) 4)])) (
          .leaf (.done 0 [(.bc false)]))) (
         .leaf (.done 0 [(.bc false)]))) (
        .leaf .stuck)) (
       .leaf .stuck)))) (
    .split (.eql (.sel (.app 1 (.rcons (.c 0) .rnil)) 0) (.c 1)) (
     .leaf (.done 0 [(.bc true)])) (
     .leaf .stuck))) (
   .leaf .stuck)
def t19p1 : Tr Plf :=
  .split (.lss (.var 1) (.lenL (.var 0))) (
   .split (.lss (.var 1) (.c 0)) (
    .leaf .stuck) (
    .split (.lss (.c 10) (.lenL (.cell (.var 0) (.var 1) 10))) (
     .split (.eql (.sel (.app 1 (.rcons (.c 0) .rnil)) 0) (.c 1)) (
      .leaf (.done 0 [(.bc true)])) (
      .leaf .stuck)) (
     .split (.lss (.c 60) (.lenS (.cell (.var 0) (.var 1) 6))) (
      .split (.eql (.sel (.app 1 (.rcons (.c 0) .rnil)) 0) (.c 1)) (
       .leaf (.done 0 [(.bc true)])) (
       .leaf .stuck)) (
      .split (.eql (.cell (.var 0) (.var 1) 0) (.c 0)) (
       .split (.eql (.sel (.app 8 (.rcons (.c 0) (.rcons (.var 4) (.rcons (.var 5) (.rcons (.var 6) (.rcons (.var 7) (.rcons (.cell (.var 0) (.var 1) 1) (.rcons (.cell (.var 0) (.var 1) 2) (.rcons (.cell (.var 0) (.var 1) 3) (.rcons (.cell (.var 0) (.var 1) 4) (.rcons (.cell (.var 0) (.var 1) 5) (.rcons (.cell (.var 0) (.var 1) 6) (.rcons (.cell (.var 0) (.var 1) 7) (.rcons (.cell (.var 0) (.var 1) 8) (.rcons (.cell (.var 0) (.var 1) 9) .rnil))))))))))))))) 0) (.c 1)) (
        .split (.eql (.sel (.app 11 (.rcons (.c 0) (.rcons (.bc true) (.rcons (.var 2) (.rcons (.var 3) (.rcons (.cell (.var 0) (.var 1) 1) (.rcons (.cell (.var 0) (.var 1) 2) (.rcons (.cell (.var 0) (.var 1) 3) (.rcons (.cell (.var 0) (.var 1) 4) (.rcons (.cell (.var 0) (.var 1) 5) (.rcons (.cell (.var 0) (.var 1) 6) (.rcons (.cell (.var 0) (.var 1) 7) (.rcons (.cell (.var 0) (.var 1) 8) (.rcons (.cell (.var 0) (.var 1) 9) .rnil)))))))))))))) 0) (.c 1)) (
         .split (.eql (.sel (.app 11 (.rcons (.c 0) (.rcons (.bc true) (.rcons (.var 2) (.rcons (.var 3) (.rcons (.cell (.var 0) (.var 1) 1) (.rcons (.cell (.var 0) (.var 1) 2) (.rcons (.cell (.var 0) (.var 1) 3) (.rcons (.cell (.var 0) (.var 1) 4) (.rcons (.cell (.var 0) (.var 1) 5) (.rcons (.cell (.var 0) (.var 1) 6) (.rcons (.cell (.var 0) (.var 1) 7) (.rcons (.cell (.var 0) (.var 1) 8) (.rcons (.cell (.var 0) (.var 1) 9) .rnil)))))))))))))) 1) (.sel (.app 8 (.rcons (.c 0) (.rcons (.var 4) (.rcons (.var 5) (.rcons (.var 6) (.rcons (.var 7) (.rcons (.cell (.var 0) (.var 1) 1) (.rcons (.cell (.var 0) (.var 1) 2) (.rcons (.cell (.var 0) (.var 1) 3) (.rcons (.cell (.var 0) (.var 1) 4) (.rcons (.cell (.var 0) (.var 1) 5) (.rcons (.cell (.var 0) (.var 1) 6) (.rcons (.cell (.var 0) (.var 1) 7) (.rcons (.cell (.var 0) (.var 1) 8) (.rcons (.cell (.var 0) (.var 1) 9) .rnil))))))))))))))) 5)) (
          .split (.eql (.lenL (.sel (.app 11 (.rcons (.c 0) (.rcons (.bc true) (.rcons (.var 2) (.rcons (.var 3) (.rcons (.cell (.var 0) (.var 1) 1) (.rcons (.cell (.var 0) (.var 1) 2) (.rcons (.cell (.var 0) (.var 1) 3) (.rcons (.cell (.var 0) (.var 1) 4) (.rcons (.cell (.var 0) (.var 1) 5) (.rcons (.cell (.var 0) (.var 1) 6) (.rcons (.cell (.var 0) (.var 1) 7) (.rcons (.cell (.var 0) (.var 1) 8) (.rcons (.cell (.var 0) (.var 1) 9) .rnil)))))))))))))) 2)) (.lenL (.var 2))) (
           .split (.eql (.sel (.app 15 (.rcons (.c 0) (.rcons (.bc true) (.rcons (.sel (.app 11 (.rcons (.c 0) (.rcons (.bc true) (.rcons (.var 2) (.rcons (.var 3) (.rcons (.cell (.var 0) (.var 1) 1) (.rcons (.cell (.var 0) (.var 1) 2) (.rcons (.cell (.var 0) (.var 1) 3) (.rcons (.cell (.var 0) (.var 1) 4) (.rcons (.cell (.var 0) (.var 1) 5) (.rcons (.cell (.var 0) (.var 1) 6) (.rcons (.cell (.var 0) (.var 1) 7) (.rcons (.cell (.var 0) (.var 1) 8) (.rcons (.cell (.var 0) (.var 1) 9) .rnil)))))))))))))) 2) (.rcons (.var 3) (.rcons (.sel (.app 8 (.rcons (.c 0) (.rcons (.var 4) (.rcons (.var 5) (.rcons (.var 6) (.rcons (.var 7) (.rcons (.cell (.var 0) (.var 1) 1) (.rcons (.cell (.var 0) (.var 1) 2) (.rcons (.cell (.var 0) (.var 1) 3) (.rcons (.cell (.var 0) (.var 1) 4) (.rcons (.cell (.var 0) (.var 1) 5) (.rcons (.cell (.var 0) (.var 1) 6) (.rcons (.cell (.var 0) (.var 1) 7) (.rcons (.cell (.var 0) (.var 1) 8) (.rcons (.cell (.var 0) (.var 1) 9) .rnil))))))))))))))) 1) (.rcons (.sel (.app 8 (.rcons (.c 0) (.rcons (.var 4) (.rcons (.var 5) (.rcons (.var 6) (.rcons (.var 7) (.rcons (.cell (.var 0) (.var 1) 1) (.rcons (.cell (.var 0) (.var 1) 2) (.rcons (.cell (.var 0) (.var 1) 3) (.rcons (.cell (.var 0) (.var 1) 4) (.rcons (.cell (.var 0) (.var 1) 5) (.rcons (.cell (.var 0) (.var 1) 6) (.rcons (.cell (.var 0) (.var 1) 7) (.rcons (.cell (.var 0) (.var 1) 8) (.rcons (.cell (.var 0) (.var 1) 9) .rnil))))))))))))))) 2) (.rcons (.sel (.app 8 (.rcons (.c 0) (.rcons (.var 4) (.rcons (.var 5) (.rcons (.var 6) (.rcons (.var 7) (.rcons (.cell (.var 0) (.var 1) 1) (.rcons (.cell (.var 0) (.var 1) 2) (.rcons (.cell (.var 0) (.var 1) 3) (.rcons (.cell (.var 0) (.var 1) 4) (.rcons (.cell (.var 0) (.var 1) 5) (.rcons (.cell (.var 0) (.var 1) 6) (.rcons (.cell (.var 0) (.var 1) 7) (.rcons (.cell (.var 0) (.var 1) 8) (.rcons (.cell (.var 0) (.var 1) 9) .rnil))))))))))))))) 3) (.rcons (.sel (.app 8 (.rcons (.c 0) (.rcons (.var 4) (.rcons (.var 5) (.rcons (.var 6) (.rcons (.var 7) (.rcons (.cell (.var 0) (.var 1) 1) (.rcons (.cell (.var 0) (.var 1) 2) (.rcons (.cell (.var 0) (.var 1) 3) (.rcons (.cell (.var 0) (.var 1) 4) (.rcons (.cell (.var 0) (.var 1) 5) (.rcons (.cell (.var 0) (.var 1) 6) (.rcons (.cell (.var 0) (.var 1) 7) (.rcons (.cell (.var 0) (.var 1) 8) (.rcons (.cell (.var 0) (.var 1) 9) .rnil))))))))))))))) 4) .rnil))))))))) 0) (.c 1)) (
            .split (.sel (.app 15 (.rcons (.c 0) (.rcons (.bc true) (.rcons (.sel (.app 11 (.rcons (.c 0) (.rcons (.bc true) (.rcons (.var 2) (.rcons (.var 3) (.rcons (.cell (.var 0) (.var 1) 1) (.rcons (.cell (.var 0) (.var 1) 2) (.rcons (.cell (.var 0) (.var 1) 3) (.rcons (.cell (.var 0) (.var 1) 4) (.rcons (.cell (.var 0) (.var 1) 5) (.rcons (.cell (.var 0) (.var 1) 6) (.rcons (.cell (.var 0) (.var 1) 7) (.rcons (.cell (.var 0) (.var 1) 8) (.rcons (.cell (.var 0) (.var 1) 9) .rnil)))))))))))))) 2) (.rcons (.var 3) (.rcons (.sel (.app 8 (.rcons (.c 0) (.rcons (.var 4) (.rcons (.var 5) (.rcons (.var 6) (.rcons (.var 7) (.rcons (.cell (.var 0) (.var 1) 1) (.rcons (.cell (.var 0) (.var 1) 2) (.rcons (.cell (.var 0) (.var 1) 3) (.rcons (.cell (.var 0) (.var 1) 4) (.rcons (.cell (.var 0) (.var 1) 5) (.rcons (.cell (.var 0) (.var 1) 6) (.rcons (.cell (.var 0) (.var 1) 7) (.rcons (.cell (.var 0) (.var 1) 8) (.rcons (.cell (.var 0) (.var 1) 9) .rnil))))))))))))))) 1) (.rcons (.sel (.app 8 (.rcons (.c 0) (.rcons (.var 4) (.rcons (.var 5) (.rcons (.var 6) (.rcons (.var 7) (.rcons (.cell (.var 0) (.var 1) 1) (.rcons (.cell (.var 0) (.var 1) 2) (.rcons (.cell (.var 0) (.var 1) 3) (.rcons (.cell (.var 0) (.var 1) 4) (.rcons (.cell (.var 0) (.var 1) 5) (.rcons (.cell (.var 0) (.var 1) 6) (.rcons (.cell (.var 0) (.var 1) 7) (.rcons (.cell (.var 0) (.var 1) 8) (.rcons (.cell (.var 0) (.var 1) 9) .rnil))))))))))))))) 2) (.rcons (.sel (.app 8 (.rcons (.c 0) (.rcons (.var 4) (.rcons (.var 5) (.rcons (.var 6) (.rcons (.var 7) (.rcons (.cell (.var 0) (.var 1) 1) (.rcons (.cell (.var 0) (.var 1) 2) (.rcons (.cell (.var 0) (.var 1) 3) (.rcons (.cell (.var 0) (.var 1) 4) (.rcons (.cell (.var 0) (.var 1) 5) (.rcons (.cell (.var 0) (.var 1) 6) (.rcons (.cell (.var 0) (.var 1) 7) (.rcons (.cell (.var 0) (.var 1) 8) (.rcons (.cell (.var 0) (.var 1) 9) .rnil))))))))))))))) 3) (.rcons (.sel (.app 8 (.rcons (.c 0) (.rcons (.var 4) (.rcons (.var 5) (.rcons (.var 6) (.rcons (.var 7) (.rcons (.cell (.var 0) (.var 1) 1) (.rcons (.cell (.var 0) (.var 1) 2) (.rcons (.cell (.var 0) (.var 1) 3) (.rcons (.cell (.var 0) (.var 1) 4) (.rcons (.cell (.var 0) (.var 1) 5) (.rcons (.cell (.var 0) (.var 1) 6) (.rcons (.cell (.var 0) (.var 1) 7) (.rcons (.cell (.var 0) (.var 1) 8) (.rcons (.cell (.var 0) (.var 1) 9) .rnil))))))))))))))) 4) .rnil))))))))) 1) (
             .leaf (.next 1 [(.var 0), (.arith .add .i64 (.var 1) (.c 1)), (.sel (.app 11 (.rcons (.c 0) (.rcons (.bc true) (.rcons (.var 2) (.rcons (.var 3) (.rcons (.cell (.var 0) (.var 1) 1) (.rcons (.cell (.var 0) (.var 1) 2) (.rcons (.cell (.var 0) (.var 1) 3) (.rcons (.cell (.var 0) (.var 1) 4) (.rcons (.cell (.var 0) (.var 1) 5) (.rcons (.cell (.var 0) (.var 1) 6) (.rcons (.cell (.var 0) (.var 1) 7) (.rcons (.cell (.var 0) (.var 1) 8) (.rcons (.cell (.var 0) (.var 1) 9) .rnil)))))))))))))) 2), (.var 3), (.sel (.app 8 (.rcons (.c 0) (.rcons (.var 4) (.rcons (.var 5) (.rcons (.var 6) (.rcons (.var 7) (.rcons (.cell (.var 0) (.var 1) 1) (.rcons (.cell (.var 0) (.var 1) 2) (.rcons (.cell (.var 0) (.var 1) 3) (.rcons (.cell (.var 0) (.var 1) 4) (.rcons (.cell (.var 0) (.var 1) 5) (.rcons (.cell (.var 0) (.var 1) 6) (.rcons (.cell (.var 0) (.var 1) 7) (.rcons (.cell (.var 0) (.var 1) 8) (.rcons (.cell (.var 0) (.var 1) 9) .rnil))))))))))))))) 1), (.sel (.app 8 (.rcons (.c 0) (.rcons (.var 4) (.rcons (.var 5) (.rcons (.var 6) (.rcons (.var 7) (.rcons (.cell (.var 0) (.var 1) 1) (.rcons (.cell (.var 0) (.var 1) 2) (.rcons (.cell (.var 0) (.var 1) 3) (.rcons (.cell (.var 0) (.var 1) 4) (.rcons (.cell (.var 0) (.var 1) 5) (.rcons (.cell (.var 0) (.var 1) 6) (.rcons (.cell (.var 0) (.var 1) 7) (.rcons (.cell (.var 0) (.var 1) 8) (.rcons (.cell (.var 0) (.var 1) 9) .rnil))))))))))))))) 2), (.sel (.app 8 (.rcons (.c 0) (.rcons (.var 4) (.rcons (.var 5) (.rcons (.var 6) (.rcons (.var 7) (.rcons (.cell (.var 0) (.var 1) 1) (.rcons (.cell (.var 0) (.var 1) 2) (.rcons (.cell (.var 0) (.var 1) 3) (.rcons (.cell (.var 0) (.var 1) 4) (.rcons (.cell (.var 0) (.var 1) 5) (.rcons (.cell (.var 0) (.var 1) 6) (.rcons (.cell (.var 0) (.var 1) 7) (.rcons (.cell (.var 0) (.var 1) 8) (.rcons (.cell (.var 0) (.var 1) 9) .rnil))))))))))))))) 3), (.sel (.app 8 (.rcons (.c 0) (.rcons (.var 4) (.rcons (.var 5) (.rcons (.var 6) (.rcons (.var 7) (.rcons (.cell (.var 0) (.var 1) 1) (.rcons (.cell (.var 0) (.var 1) 2) (.rcons (.cell (.var 0) (.var 1) 3) (.rcons (.cell (.var 0) (.var 1) 4) (.rcons (.cell (.var 0) (.var 1) 5) (.rcons (.cell (.var 0) (.var 1) 6) (.rcons (.cell (.var 0) (.var 1) 7) (.rcons (.cell (.var 0) (.var 1) 8) (.rcons (.cell (.var 0) (.var 1) 9) .rnil))))))))))))))) 4)])) (
             .leaf (.done 0 [(.bc false)]))) (
            .leaf .stuck)) (
           .leaf .stuck)) (
          .leaf (.done 0 [(.bc false)]))) (
         .leaf .stuck)) (
        .split (.eql (.sel (.app 8 (.rcons (.c 0) (.rcons (.var 4) (.rcons (.var 5) (.rcons (.var 6) (.rcons (.var 7) (.rcons (.cell (.var 0) (.var 1) 1) (.rcons (.cell (.var 0) (.var 1) 2) (.rcons (.cell (.var 0) (.var 1) 3) (.rcons (.cell (.var 0) (.var 1) 4) (.rcons (.cell (.var 0) (.var 1) 5) (.rcons (.cell (.var 0) (.var 1) 6) (.rcons (.cell (.var 0) (.var 1) 7) (.rcons (.cell (.var 0) (.var 1) 8) (.rcons (.cell (.var 0) (.var 1) 9) .rnil))))))))))))))) 0) (.c 2)) (
         .split (.eql (.sel (.app 11 (.rcons (.c 0) (.rcons (.bc true) (.rcons (.var 2) (.rcons (.var 3) (.rcons (.cell (.var 0) (.var 1) 1) (.rcons (.cell (.var 0) (.var 1) 2) (.rcons (.cell (.var 0) (.var 1) 3) (.rcons (.cell (.var 0) (.var 1) 4) (.rcons (.cell (.var 0) (.var 1) 5) (.rcons (.cell (.var 0) (.var 1) 6) (.rcons (.cell (.var 0) (.var 1) 7) (.rcons (.cell (.var 0) (.var 1) 8) (.rcons (.cell (.var 0) (.var 1) 9) .rnil)))))))))))))) 0) (.c 1)) (
          .split (.eql (.sel (.app 11 (.rcons (.c 0) (.rcons (.bc true) (.rcons (.var 2) (.rcons (.var 3) (.rcons (.cell (.var 0) (.var 1) 1) (.rcons (.cell (.var 0) (.var 1) 2) (.rcons (.cell (.var 0) (.var 1) 3) (.rcons (.cell (.var 0) (.var 1) 4) (.rcons (.cell (.var 0) (.var 1) 5) (.rcons (.cell (.var 0) (.var 1) 6) (.rcons (.cell (.var 0) (.var 1) 7) (.rcons (.cell (.var 0) (.var 1) 8) (.rcons (.cell (.var 0) (.var 1) 9) .rnil)))))))))))))) 1) (.c 0)) (
           .split (.eql (.lenL (.sel (.app 11 (.rcons (.c 0) (.rcons (.bc true) (.rcons (.var 2) (.rcons (.var 3) (.rcons (.cell (.var 0) (.var 1) 1) (.rcons (.cell (.var 0) (.var 1) 2) (.rcons (.cell (.var 0) (.var 1) 3) (.rcons (.cell (.var 0) (.var 1) 4) (.rcons (.cell (.var 0) (.var 1) 5) (.rcons (.cell (.var 0) (.var 1) 6) (.rcons (.cell (.var 0) (.var 1) 7) (.rcons (.cell (.var 0) (.var 1) 8) (.rcons (.cell (.var 0) (.var 1) 9) .rnil)))))))))))))) 2)) (.lenL (.var 2))) (
            .split (.eql (.sel (.app 15 (.rcons (.c 0) (.rcons (.bc true) (.rcons (.sel (.app 11 (.rcons (.c 0) (.rcons (.bc true) (.rcons (.var 2) (.rcons (.var 3) (.rcons (.cell (.var 0) (.var 1) 1) (.rcons (.cell (.var 0) (.var 1) 2) (.rcons (.cell (.var 0) (.var 1) 3) (.rcons (.cell (.var 0) (.var 1) 4) (.rcons (.cell (.var 0) (.var 1) 5) (.rcons (.cell (.var 0) (.var 1) 6) (.rcons (.cell (.var 0) (.var 1) 7) (.rcons (.cell (.var 0) (.var 1) 8) (.rcons (.cell (.var 0) (.var 1) 9) .rnil)))))))))))))) 2) (.rcons (.var 3) (.rcons (.sel (.app 8 (.rcons (.c 0) (.rcons (.var 4) (.rcons (.var 5) (.rcons (.var 6) (.rcons (.var 7) (.rcons (.cell (.var 0) (.var 1) 1) (.rcons (.cell (.var 0) (.var 1) 2) (.rcons (.cell (.var 0) (.var 1) 3) (.rcons (.cell (.var 0) (.var 1) 4) (.rcons (.cell (.var 0) (.var 1) 5) (.rcons (.cell (.var 0) (.var 1) 6) (.rcons (.cell (.var 0) (.var 1) 7) (.rcons (.cell (.var 0) (.var 1) 8) (.rcons (.cell (.var 0) (.var 1) 9) .rnil))))))))))))))) 1) (.rcons (.sel (.app 8 (.rcons (.c 0) (.rcons (.var 4) (.rcons (.var 5) (.rcons (.var 6) (.rcons (.var 7) (.rcons (.cell (.var 0) (.var 1) 1) (.rcons (.cell (.var 0) (.var 1) 2) (.rcons (.cell (.var 0) (.var 1) 3) (.rcons (.cell (.var 0) (.var 1) 4) (.rcons (.cell (.var 0) (.var 1) 5) (.rcons (.cell (.var 0) (.var 1) 6) (.rcons (.cell (.var 0) (.var 1) 7) (.rcons (.cell (.var 0) (.var 1) 8) (.rcons (.cell (.var 0) (.var 1) 9) .rnil))))))))))))))) 2) (.rcons (.sel (.app 8 (.rcons (.c 0) (.rcons (.var 4) (.rcons (.var 5) (.rcons (.var 6) (.rcons (.var 7) (.rcons (.cell (.var 0) (.var 1) 1) (.rcons (.cell (.var 0) (.var 1) 2) (.rcons (.cell (.var 0) (.var 1) 3) (.rcons (.cell (.var 0) (.var 1) 4) (.rcons (.cell (.var 0) (.var 1) 5) (.rcons (.cell (.var 0) (.var 1) 6) (.rcons (.cell (.var 0) (.var 1) 7) (.rcons (.cell (.var 0) (.var 1) 8) (.rcons (.cell (.var 0) (.var 1) 9) .rnil))))))))))))))) 3) (.rcons (.sel (.app 8 (.rcons (.c 0) (.rcons (.var 4) (.rcons (.var 5) (.rcons (.var 6) (.rcons (.var 7) (.rcons (.cell (.var 0) (.var 1) 1) (.rcons (.cell (.var 0) (.var 1) 2) (.rcons (.cell (.var 0) (.var 1) 3) (.rcons (.cell (.var 0) (.var 1) 4) (.rcons (.cell (.var 0) (.var 1) 5) (.rcons (.cell (.var 0) (.var 1) 6) (.rcons (.cell (.var 0) (.var 1) 7) (.rcons (.cell (.var 0) (.var 1) 8) (.rcons (.cell (.var 0) (.var 1) 9) .rnil))))))))))))))) 4) .rnil))))))))) 0) (.c 1)) (
             .split (.sel (.app 15 (.rcons (.c 0) (.rcons (.bc true) (.rcons (.sel (.app 11 (.rcons (.c 0) (.rcons (.bc true) (.rcons (.var 2) (.rcons (.var 3) (.rcons (.cell (.var 0) (.var 1) 1) (.rcons (.cell (.var 0) (.var 1) 2) (.rcons (.cell (.var 0) (.var 1) 3) (.rcons (.cell (.var 0) (.var 1) 4) (.rcons (.cell (.var 0) (.var 1) 5) (.rcons (.cell (.var 0) (.var 1) 6) (.rcons (.cell (.var 0) (.var 1) 7) (.rcons (.cell (.var 0) (.var 1) 8) (.rcons (.cell (.var 0) (.var 1) 9) .rnil)))))))))))))) 2) (.rcons (.var 3) (.rcons (.sel (.app 8 (.rcons (.c 0) (.rcons (.var 4) (.rcons (.var 5) (.rcons (.var 6) (.rcons (.var 7) (.rcons (.cell (.var 0) (.var 1) 1) (.rcons (.cell (.var 0) (.var 1) 2) (.rcons (.cell (.var 0) (.var 1) 3) (.rcons (.cell (.var 0) (.var 1) 4) (.rcons (.cell (.var 0) (.var 1) 5) (.rcons (.cell (.var 0) (.var 1) 6) (.rcons (.cell (.var 0) (.var 1) 7) (.rcons (.cell (.var 0) (.var 1) 8) (.rcons (.cell (.var 0) (.var 1) 9) .rnil))))))))))))))) 1) (.rcons (.sel (.app 8 (.rcons (.c 0) (.rcons (.var 4) (.rcons (.var 5) (.rcons (.var 6) (.rcons (.var 7) (.rcons (.cell (.var 0) (.var 1) 1) (.rcons (.cell (.var 0) (.var 1) 2) (.rcons (.cell (.var 0) (.var 1) 3) (.rcons (.cell (.var 0) (.var 1) 4) (.rcons (.cell (.var 0) (.var 1) 5) (.rcons (.cell (.var 0) (.var 1) 6) (.rcons (.cell (.var 0) (.var 1) 7) (.rcons (.cell (.var 0) (.var 1) 8) (.rcons (.cell (.var 0) (.var 1) 9) .rnil))))))))))))))) 2) (.rcons (.sel (.app 8 (.rcons (.c 0) (.rcons (.var 4) (.rcons (.var 5) (.rcons (.var 6) (.rcons (.var 7) (.rcons (.cell (.var 0) (.var 1) 1) (.rcons (.cell (.var 0) (.var 1) 2) (.rcons (.cell (.var 0) (.var 1) 3) (.rcons (.cell (.var 0) (.var 1) 4) (.rcons (.cell (.var 0) (.var 1) 5) (.rcons (.cell (.var 0) (.var 1) 6) (.rcons (.cell (.var 0) (.var 1) 7) (.rcons (.cell (.var 0) (.var 1) 8) (.rcons (.cell (.var 0) (.var 1) 9) .rnil))))))))))))))) 3) (.rcons (.sel (.app 8 (.rcons (.c 0) (.rcons (.var 4) (.rcons (.var 5) (.rcons (.var 6) (.rcons (.var 7) (.rcons (.cell (.var 0) (.var 1) 1) (.rcons (.cell (.var 0) (.var 1) 2) (.rcons (.cell (.var 0) (.var 1) 3) (.rcons (.cell (.var 0) (.var 1) 4) (.rcons (.cell (.var 0) (.var 1) 5) (.rcons (.cell (.var 0) (.var 1) 6) (.rcons (.cell (.var 0) (.var 1) 7) (.rcons (.cell (.var 0) (.var 1) 8) (.rcons (.cell (.var 0) (.var 1) 9) .rnil))))))))))))))) 4) .rnil))))))))) 1) (
              .leaf (.next 1 [(.var 0), (.arith .add .i64 (.var 1) (.c 1)), (.sel (.app 11 (.rcons (.c 0) (.rcons (.bc true) (.rcons (.var 2) (.rcons (.var 3) (.rcons (.cell (.var 0) (.var 1) 1) (.rcons (.cell (.var 0) (.var 1) 2) (.rcons (.cell (.var 0) (.var 1) 3) (.rcons (.cell (.var 0) (.var 1) 4) (.rcons (.cell (.var 0) (.var 1) 5) (.rcons (.cell (.var 0) (.var 1) 6) (.rcons (.cell (.var 0) (.var 1) 7) (.rcons (.cell (.var 0) (.var 1) 8) (.rcons (.cell (.var 0) (.var 1) 9) .rnil)))))))))))))) 2), (.var 3), (.sel (.app 8 (.rcons (.c 0) (.rcons (.var 4) (.rcons (.var 5) (.rcons (.var 6) (.rcons (.var 7) (.rcons (.cell (.var 0) (.var 1) 1) (.rcons (.cell (.var 0) (.var 1) 2) (.rcons (.cell (.var 0) (.var 1) 3) (.rcons (.cell (.var 0) (.var 1) 4) (.rcons (.cell (.var 0) (.var 1) 5) (.rcons (.cell (.var 0) (.var 1) 6) (.rcons (.cell (.var 0) (.var 1) 7) (.rcons (.cell (.var 0) (.var 1) 8) (.rcons (.cell (.var 0) (.var 1) 9) .rnil))))))))))))))) 1), (.sel (.app 8 (.rcons (.c 0) (.rcons (.var 4) (.rcons (.var 5) (.rcons (.var 6) (.rcons (.var 7) (.rcons (.cell (.var 0) (.var 1) 1) (.rcons (.cell (.var 0) (.var 1) 2) (.rcons (.cell (.var 0) (.var 1) 3) (.rcons (.cell (.var 0) (.var 1) 4) (.rcons (.cell (.var 0) (.var 1) 5) (.rcons (.cell (.var 0) (.var 1) 6) (.rcons (.cell (.var 0) (.var 1) 7) (.rcons (.cell (.var 0) (.var 1) 8) (.rcons (.cell (.var 0) (.var 1) 9) .rnil))))))))))))))) 2), (.sel (.app 8 (.rcons (.c 0) (.rcons (.var 4) (.rcons (.var 5) (.rcons (.var 6) (.rcons (.var 7) (.rcons (.cell (.var 0) (.var 1) 1) (.rcons (.cell (.var 0) (.var 1) 2) (.rcons (.cell (.var 0) (.var 1) 3) (.rcons (.cell (.var 0) (.var 1) 4) (.rcons (.cell (.var 0) (.var 1) 5) (.rcons (.cell (.var 0) (.var 1) 6) (.rcons (.cell (.var 0) (.var 1) 7) (.rcons (.cell (.var 0) (.var 1) 8) (.rcons (.cell (.var 0) (.var 1) 9) .rnil))))))))))))))) 3), (.sel (.app 8 (.rcons (.c 0) (.rcons (.var 4) (.rcons (.var 5) (.rcons (.var 6) (.rcons (.var 7) (.rcons (.cell (.var 0) (.var 1) 1) (.rcons (.cell (.var 0) (.var 1) 2) (.rcons (.cell (.var 0) (.var 1) 3) (.rcons (.cell (.var 0) (.var 1) 4) (.rcons (.cell (.var 0) (.var 1) 5) (.rcons (.cell (.var 0) (.var 1) 6) (.rcons (.cell (.var 0) (.var 1) 7) (.rcons (.cell (.var 0) (.var 1) 8) (.rcons (.cell (.var 0) (.var 1) 9) .rnil))))))))))))))) 4)])) (
              .leaf (.done 0 [(.bc false)]))) (
             .leaf .stuck)) (
            .leaf .stuck)) (
           .leaf (.done 0 [(.bc false)]))) (
          .leaf .stuck)) (
         .leaf .stuck))) (
       .split (.eql (.cell (.var 0) (.var 1) 0) (.c 1)) (
        .split (.eql (.sel (.app 8 (.rcons (.c 0) (.rcons (.var 4) (.rcons (.var 5) (.rcons (.var 6) (.rcons (.var 7) (.rcons (.cell (.var 0) (.var 1) 1) (.rcons (.cell (.var 0) (.var 1) 2) (.rcons (.cell (.var 0) (.var 1) 3) (.rcons (.cell (.var 0) (.var 1) 4) (.rcons (.cell (.var 0) (.var 1) 5) (.rcons (.cell (.var 0) (.var 1) 6) (.rcons (.cell (.var 0) (.var 1) 7) (.rcons (.cell (.var 0) (.var 1) 8) (.rcons (.cell (.var 0) (.var 1) 9) .rnil))))))))))))))) 0) (.c 1)) (
         .split (.eql (.sel (.app 11 (.rcons (.c 0) (.rcons (.bc true) (.rcons (.var 2) (.rcons (.var 3) (.rcons (.cell (.var 0) (.var 1) 1) (.rcons (.cell (.var 0) (.var 1) 2) (.rcons (.cell (.var 0) (.var 1) 3) (.rcons (.cell (.var 0) (.var 1) 4) (.rcons (.cell (.var 0) (.var 1) 5) (.rcons (.cell (.var 0) (.var 1) 6) (.rcons (.cell (.var 0) (.var 1) 7) (.rcons (.cell (.var 0) (.var 1) 8) (.rcons (.cell (.var 0) (.var 1) 9) .rnil)))))))))))))) 0) (.c 1)) (
          .split (.eql (.sel (.app 11 (.rcons (.c 0) (.rcons (.bc true) (.rcons (.var 2) (.rcons (.var 3) (.rcons (.cell (.var 0) (.var 1) 1) (.rcons (.cell (.var 0) (.var 1) 2) (.rcons (.cell (.var 0) (.var 1) 3) (.rcons (.cell (.var 0) (.var 1) 4) (.rcons (.cell (.var 0) (.var 1) 5) (.rcons (.cell (.var 0) (.var 1) 6) (.rcons (.cell (.var 0) (.var 1) 7) (.rcons (.cell (.var 0) (.var 1) 8) (.rcons (.cell (.var 0) (.var 1) 9) .rnil)))))))))))))) 1) (.sel (.app 8 (.rcons (.c 0) (.rcons (.var 4) (.rcons (.var 5) (.rcons (.var 6) (.rcons (.var 7) (.rcons (.cell (.var 0) (.var 1) 1) (.rcons (.cell (.var 0) (.var 1) 2) (.rcons (.cell (.var 0) (.var 1) 3) (.rcons (.cell (.var 0) (.var 1) 4) (.rcons (.cell (.var 0) (.var 1) 5) (.rcons (.cell (.var 0) (.var 1) 6) (.rcons (.cell (.var 0) (.var 1) 7) (.rcons (.cell (.var 0) (.var 1) 8) (.rcons (.cell (.var 0) (.var 1) 9) .rnil))))))))))))))) 5)) (
           .split (.eql (.lenL (.sel (.app 11 (.rcons (.c 0) (.rcons (.bc true) (.rcons (.var 2) (.rcons (.var 3) (.rcons (.cell (.var 0) (.var 1) 1) (.rcons (.cell (.var 0) (.var 1) 2) (.rcons (.cell (.var 0) (.var 1) 3) (.rcons (.cell (.var 0) (.var 1) 4) (.rcons (.cell (.var 0) (.var 1) 5) (.rcons (.cell (.var 0) (.var 1) 6) (.rcons (.cell (.var 0) (.var 1) 7) (.rcons (.cell (.var 0) (.var 1) 8) (.rcons (.cell (.var 0) (.var 1) 9) .rnil)))))))))))))) 2)) (.lenL (.var 2))) (
            .split (.eql (.sel (.app 15 (.rcons (.c 0) (.rcons (.bc true) (.rcons (.sel (.app 11 (.rcons (.c 0) (.rcons (.bc true) (.rcons (.var 2) (.rcons (.var 3) (.rcons (.cell (.var 0) (.var 1) 1) (.rcons (.cell (.var 0) (.var 1) 2) (.rcons (.cell (.var 0) (.var 1) 3) (.rcons (.cell (.var 0) (.var 1) 4) (.rcons (.cell (.var 0) (.var 1) 5) (.rcons (.cell (.var 0) (.var 1) 6) (.rcons (.cell (.var 0) (.var 1) 7) (.rcons (.cell (.var 0) (.var 1) 8) (.rcons (.cell (.var 0) (.var 1) 9) .rnil)))))))))))))) 2) (.rcons (.var 3) (.rcons (.sel (.app 8 (.rcons (.c 0) (.rcons (.var 4) (.rcons (.var 5) (.rcons (.var 6) (.rcons (.var 7) (.rcons (.cell (.var 0) (.var 1) 1) (.rcons (.cell (.var 0) (.var 1) 2) (.rcons (.cell (.var 0) (.var 1) 3) (.rcons (.cell (.var 0) (.var 1) 4) (.rcons (.cell (.var 0) (.var 1) 5) (.rcons (.cell (.var 0) (.var 1) 6) (.rcons (.cell (.var 0) (.var 1) 7) (.rcons (.cell (.var 0) (.var 1) 8) (.rcons (.cell (.var 0) (.var 1) 9) .rnil))))))))))))))) 1) (.rcons (.sel (.app 8 (.rcons (.c 0) (.rcons (.var 4) (.rcons (.var 5) (.rcons (.var 6) (.rcons (.var 7) (.rcons (.cell (.var 0) (.var 1) 1) (.rcons (.cell (.var 0) (.var 1) 2) (.rcons (.cell (.var 0) (.var 1) 3) (.rcons (.cell (.var 0) (.var 1) 4) (.rcons (.cell (.var 0) (.var 1) 5) (.rcons (.cell (.var 0) (.var 1) 6) (.rcons (.cell (.var 0) (.var 1) 7) (.rcons (.cell (.var 0) (.var 1) 8) (.rcons (.cell (.var 0) (.var 1) 9) .rnil))))))))))))))) 2) (.rcons (.sel (.app 8 (.rcons (.c 0) (.rcons (.var 4) (.rcons (.var 5) (.rcons (.var 6) (.rcons (.var 7) (.rcons (.cell (.var 0) (.var 1) 1) (.rcons (.cell (.var 0) (.var 1) 2) (.rcons (.cell (.var 0) (.var 1) 3) (.rcons (.cell (.var 0) (.var 1) 4) (.rcons (.cell (.var 0) (.var 1) 5) (.rcons (.cell (.var 0) (.var 1) 6) (.rcons (.cell (.var 0) (.var 1) 7) (.rcons (.cell (.var 0) (.var 1) 8) (.rcons (.cell (.var 0) (.var 1) 9) .rnil))))))))))))))) 3) (.rcons (.sel (.app 8 (.rcons (.c 0) (.rcons (.var 4) (.rcons (.var 5) (.rcons (.var 6) (.rcons (.var 7) (.rcons (.cell (.var 0) (.var 1) 1) (.rcons (.cell (.var 0) (.var 1) 2) (.rcons (.cell (.var 0) (.var 1) 3) (.rcons (.cell (.var 0) (.var 1) 4) (.rcons (.cell (.var 0) (.var 1) 5) (.rcons (.cell (.var 0) (.var 1) 6) (.rcons (.cell (.var 0) (.var 1) 7) (.rcons (.cell (.var 0) (.var 1) 8) (.rcons (.cell (.var 0) (.var 1) 9) .rnil))))))))))))))) 4) .rnil))))))))) 0) (.c 1)) (
             .split (.sel (.app 15 (.rcons (.c 0) (.rcons (.bc true) (.rcons (.sel (.app 11 (.rcons (.c 0) (.rcons (.bc true) (.rcons (.var 2) (.rcons (.var 3) (.rcons (.cell (.var 0) (.var 1) 1) (.rcons (.cell (.var 0) (.var 1) 2) (.rcons (.cell (.var 0) (.var 1) 3) (.rcons (.cell (.var 0) (.var 1) 4) (.rcons (.cell (.var 0) (.var 1) 5) (.rcons (.cell (.var 0) (.var 1) 6) (.rcons (.cell (.var 0) (.var 1) 7) (.rcons (.cell (.var 0) (.var 1) 8) (.rcons (.cell (.var 0) (.var 1) 9) .rnil)))))))))))))) 2) (.rcons (.var 3) (.rcons (.sel (.app 8 (.rcons (.c 0) (.rcons (.var 4) (.rcons (.var 5) (.rcons (.var 6) (.rcons (.var 7) (.rcons (.cell (.var 0) (.var 1) 1) (.rcons (.cell (.var 0) (.var 1) 2) (.rcons (.cell (.var 0) (.var 1) 3) (.rcons (.cell (.var 0) (.var 1) 4) (.rcons (.cell (.var 0) (.var 1) 5) (.rcons (.cell (.var 0) (.var 1) 6) (.rcons (.cell (.var 0) (.var 1) 7) (.rcons (.cell (.var 0) (.var 1) 8) (.rcons (.cell (.var 0) (.var 1) 9) .rnil))))))))))))))) 1) (.rcons (.sel (.app 8 (.rcons (.c 0) (.rcons (.var 4) (.rcons (.var 5) (.rcons (.var 6) (.rcons (.var 7) (.rcons (.cell (.var 0) (.var 1) 1) (.rcons (.cell (.var 0) (.var 1) 2) (.rcons (.cell (.var 0) (.var 1) 3) (.rcons (.cell (.var 0) (.var 1) 4) (.rcons (.cell (.var 0) (.var 1) 5) (.rcons (.cell (.var 0) (.var 1) 6) (.rcons (.cell (.var 0) (.var 1) 7) (.rcons (.cell (.var 0) (.var 1) 8) (.rcons (.cell (.var 0) (.var 1) 9) .rnil))))))))))))))) 2) (.rcons (.sel (.app 8 (.rcons (.c 0) (.rcons (.var 4) (.rcons (.var 5) (.rcons (.var 6) (.rcons (.var 7) (.rcons (.cell (.var 0) (.var 1) 1) (.rcons (.cell (.var 0) (.var 1) 2) (.rcons (.cell (.var 0) (.var 1) 3) (.rcons (.cell (.var 0) (.var 1) 4) (.rcons (.cell (.var 0) (.var 1) 5) (.rcons (.cell (.var 0) (.var 1) 6) (.rcons (.cell (.var 0) (.var 1) 7) (.rcons (.cell (.var 0) (.var 1) 8) (.rcons (.cell (.var 0) (.var 1) 9) .rnil))))))))))))))) 3) (.rcons (.sel (.app 8 (.rcons (.c 0) (.rcons (.var 4) (.rcons (.var 5) (.rcons (.var 6) (.rcons (.var 7) (.rcons (.cell (.var 0) (.var 1) 1) (.rcons (.cell (.var 0) (.var 1) 2) (.rcons (.cell (.var 0) (.var 1) 3) (.rcons (.cell (.var 0) (.var 1) 4) (.rcons (.cell (.var 0) (.var 1) 5) (.rcons (.cell (.var 0) (.var 1) 6) (.rcons (.cell (.var 0) (.var 1) 7) (.rcons (.cell (.var 0) (.var 1) 8) (.rcons (.cell (.var 0) (.var 1) 9) .rnil))))))))))))))) 4) .rnil))))))))) 1) (
              .leaf (.next 1 [(.var 0), (.arith .add .i64 (.var 1) (.c 1)), (.sel (.app 11 (.rcons (.c 0) (.rcons (.bc true) (.rcons (.var 2) (.rcons (.var 3) (.rcons (.cell (.var 0) (.var 1) 1) (.rcons (.cell (.var 0) (.var 1) 2) (.rcons (.cell (.var 0) (.var 1) 3) (.rcons (.cell (.var 0) (.var 1) 4) (.rcons (.cell (.var 0) (.var 1) 5) (.rcons (.cell (.var 0) (.var 1) 6) (.rcons (.cell (.var 0) (.var 1) 7) (.rcons (.cell (.var 0) (.var 1) 8) (.rcons (.cell (.var 0) (.var 1) 9) .rnil)))))))))))))) 2), (.var 3), (.sel (.app 8 (.rcons (.c 0) (.rcons (.var 4) (.rcons (.var 5) (.rcons (.var 6) (.rcons (.var 7) (.rcons (.cell (.var 0) (.var 1) 1) (.rcons (.cell (.var 0) (.var 1) 2) (.rcons (.cell (.var 0) (.var 1) 3) (.rcons (.cell (.var 0) (.var 1) 4) (.rcons (.cell (.var 0) (.var 1) 5) (.rcons (.cell (.var 0) (.var 1) 6) (.rcons (.cell (.var 0) (.var 1) 7) (.rcons (.cell (.var 0) (.var 1) 8) (.rcons (.cell (.var 0) (.var 1) 9) .rnil))))))))))))))) 1), (.sel (.app 8 (.rcons (.c 0) (.rcons (.var 4) (.rcons (.var 5) (.rcons (.var 6) (.rcons (.var 7) (.rcons (.cell (.var 0) (.var 1) 1) (.rcons (.cell (.var 0) (.var 1) 2) (.rcons (.cell (.var 0) (.var 1) 3) (.rcons (.cell (.var 0) (.var 1) 4) (.rcons (.cell (.var 0) (.var 1) 5) (.rcons (.cell (.var 0) (.var 1) 6) (.rcons (.cell (.var 0) (.var 1) 7) (.rcons (.cell (.var 0) (.var 1) 8) (.rcons (.cell (.var 0) (.var 1) 9) .rnil))))))))))))))) 2), (.sel (.app 8 (.rcons (.c 0) (.rcons (.var 4) (.rcons (.var 5) (.rcons (.var 6) (.rcons (.var 7) (.rcons (.cell (.var 0) (.var 1) 1) (.rcons (.cell (.var 0) (.var 1) 2) (.rcons (.cell (.var 0) (.var 1) 3) (.rcons (.cell (.var 0) (.var 1) 4) (.rcons (.cell (.var 0) (.var 1) 5) (.rcons (.cell (.var 0) (.var 1) 6) (.rcons (.cell (.var 0) (.var 1) 7) (.rcons (.cell (.var 0) (.var 1) 8) (.rcons (.cell (.var 0) (.var 1) 9) .rnil))))))))))))))) 3), (.sel (.app 8 (.rcons (.c 0) (.rcons (.var 4) (.rcons (.var 5) (.rcons (.var 6) (.rcons (.var 7) (.rcons (.cell (.var 0) (.var 1) 1) (.rcons (.cell (.var 0) (.var 1) 2) (.rcons (.cell (.var 0) (.var 1) 3) (.rcons (.cell (.var 0) (.var 1) 4) (.rcons (.cell (.var 0) (.var 1) 5) (.rcons (.cell (.var 0) (.var 1) 6) (.rcons (.cell (.var 0) (.var 1) 7) (.rcons (.cell (.var 0) (.var 1) 8) (.rcons (.cell (.var 0) (.var 1) 9) .rnil))))))))))))))) 4)])) (
              .leaf (.done 0 [(.bc false)]))) (
             .leaf .stuck)) (
            .leaf .stuck)) (
           .leaf (.done 0 [(.bc false)]))) (
          .leaf .stuck)) (
         .split (.eql (.sel (.app 8 (.rcons (.c 0) (.rcons (.var 4) (.rcons (.var 5) (.rcons (.var 6) (.rcons (.var 7) (.rcons (.cell (.var 0) (.var 1) 1) (.rcons (.cell (.var 0) (.var 1) 2) (.rcons (.cell (.var 0) (.var 1) 3) (.rcons (.cell (.var 0) (.var 1) 4) (.rcons (.cell (.var 0) (.var 1) 5) (.rcons (.cell (.var 0) (.var 1) 6) (.rcons (.cell (.var 0) (.var 1) 7) (.rcons (.cell (.var 0) (.var 1) 8) (.rcons (.cell (.var 0) (.var 1) 9) .rnil))))))))))))))) 0) (.c 2)) (
          .split (.eql (.sel (.app 11 (.rcons (.c 0) (.rcons (.bc true) (.rcons (.var 2) (.rcons (.var 3) (.rcons (.cell (.var 0) (.var 1) 1) (.rcons (.cell (.var 0) (.var 1) 2) (.rcons (.cell (.var 0) (.var 1) 3) (.rcons (.cell (.var 0) (.var 1) 4) (.rcons (.cell (.var 0) (.var 1) 5) (.rcons (.cell (.var 0) (.var 1) 6) (.rcons (.cell (.var 0) (.var 1) 7) (.rcons (.cell (.var 0) (.var 1) 8) (.rcons (.cell (.var 0) (.var 1) 9) .rnil)))))))))))))) 0) (.c 1)) (
           .split (.eql (.sel (.app 11 (.rcons (.c 0) (.rcons (.bc true) (.rcons (.var 2) (.rcons (.var 3) (.rcons (.cell (.var 0) (.var 1) 1) (.rcons (.cell (.var 0) (.var 1) 2) (.rcons (.cell (.var 0) (.var 1) 3) (.rcons (.cell (.var 0) (.var 1) 4) (.rcons (.cell (.var 0) (.var 1) 5) (.rcons (.cell (.var 0) (.var 1) 6) (.rcons (.cell (.var 0) (.var 1) 7) (.rcons (.cell (.var 0) (.var 1) 8) (.rcons (.cell (.var 0) (.var 1) 9) .rnil)))))))))))))) 1) (.c 0)) (
            .split (.eql (.lenL (.sel (.app 11 (.rcons (.c 0) (.rcons (.bc true) (.rcons (.var 2) (.rcons (.var 3) (.rcons (.cell (.var 0) (.var 1) 1) (.rcons (.cell (.var 0) (.var 1) 2) (.rcons (.cell (.var 0) (.var 1) 3) (.rcons (.cell (.var 0) (.var 1) 4) (.rcons (.cell (.var 0) (.var 1) 5) (.rcons (.cell (.var 0) (.var 1) 6) (.rcons (.cell (.var 0) (.var 1) 7) (.rcons (.cell (.var 0) (.var 1) 8) (.rcons (.cell (.var 0) (.var 1) 9) .rnil)))))))))))))) 2)) (.lenL (.var 2))) (
             .split (.eql (.sel (.app 15 (.rcons (.c 0) (.rcons (.bc true) (.rcons (.sel (.app 11 (.rcons (.c 0) (.rcons (.bc true) (.rcons (.var 2) (.rcons (.var 3) (.rcons (.cell (.var 0) (.var 1) 1) (.rcons (.cell (.var 0) (.var 1) 2) (.rcons (.cell (.var 0) (.var 1) 3) (.rcons (.cell (.var 0) (.var 1) 4) (.rcons (.cell (.var 0) (.var 1) 5) (.rcons (.cell (.var 0) (.var 1) 6) (.rcons (.cell (.var 0) (.var 1) 7) (.rcons (.cell (.var 0) (.var 1) 8) (.rcons (.cell (.var 0) (.var 1) 9) .rnil)))))))))))))) 2) (.rcons (.var 3) (.rcons (.sel (.app 8 (.rcons (.c 0) (.rcons (.var 4) (.rcons (.var 5) (.rcons (.var 6) (.rcons (.var 7) (.rcons (.cell (.var 0) (.var 1) 1) (.rcons (.cell (.var 0) (.var 1) 2) (.rcons (.cell (.var 0) (.var 1) 3) (.rcons (.cell (.var 0) (.var 1) 4) (.rcons (.cell (.var 0) (.var 1) 5) (.rcons (.cell (.var 0) (.var 1) 6) (.rcons (.cell (.var 0) (.var 1) 7) (.rcons (.cell (.var 0) (.var 1) 8) (.rcons (.cell (.var 0) (.var 1) 9) .rnil))))))))))))))) 1) (.rcons (.sel (.app 8 (.rcons (.c 0) (.rcons (.var 4) (.rcons (.var 5) (.rcons (.var 6) (.rcons (.var 7) (.rcons (.cell (.var 0) (.var 1) 1) (.rcons (.cell (.var 0) (.var 1) 2) (.rcons (.cell (.var 0) (.var 1) 3) (.rcons (.cell (.var 0) (.var 1) 4) (.rcons (.cell (.var 0) (.var 1) 5) (.rcons (.cell (.var 0) (.var 1) 6) (.rcons (.cell (.var 0) (.var 1) 7) (.rcons (.cell (.var 0) (.var 1) 8) (.rcons (.cell (.var 0) (.var 1) 9) .rnil))))))))))))))) 2) (.rcons (.sel (.app 8 (.rcons (.c 0) (.rcons (.var 4) (.rcons (.var 5) (.rcons (.var 6) (.rcons (.var 7) (.rcons (.cell (.var 0) (.var 1) 1) (.rcons (.cell (.var 0) (.var 1) 2) (.rcons (.cell (.var 0) (.var 1) 3) (.rcons (.cell (.var 0) (.var 1) 4) (.rcons (.cell (.var 0) (.var 1) 5) (.rcons (.cell (.var 0) (.var 1) 6) (.rcons (.cell (.var 0) (.var 1) 7) (.rcons (.cell (.var 0) (.var 1) 8) (.rcons (.cell (.var 0) (.var 1) 9) .rnil))))))))))))))) 3) (.rcons (.sel (.app 8 (.rcons (.c 0) (.rcons (.var 4) (.rcons (.var 5) (.rcons (.var 6) (.rcons (.var 7) (.rcons (.cell (.var 0) (.var 1) 1) (.rcons (.cell (.var 0) (.var 1) 2) (.rcons (.cell (.var 0) (.var 1) 3) (.rcons (.cell (.var 0) (.var 1) 4) (.rcons (.cell (.var 0) (.var 1) 5) (.rcons (.cell (.var 0) (.var 1) 6) (.rcons (.cell (.var 0) (.var 1) 7) (.rcons (.cell (.var 0) (.var 1) 8) (.rcons (.cell (.var 0) (.var 1) 9) .rnil))))))))))))))) 4) .rnil))))))))) 0) (.c 1)) (
              .split (.sel (.app 15 (.rcons (.c 0) (.rcons (.bc true) (.rcons (.sel (.app 11 (.rcons (.c 0) (.rcons (.bc true) (.rcons (.var 2) (.rcons (.var 3) (.rcons (.cell (.var 0) (.var 1) 1) (.rcons (.cell (.var 0) (.var 1) 2) (.rcons (.cell (.var 0) (.var 1) 3) (.rcons (.cell (.var 0) (.var 1) 4) (.rcons (.cell (.var 0) (.var 1) 5) (.rcons (.cell (.var 0) (.var 1) 6) (.rcons (.cell (.var 0) (.var 1) 7) (.rcons (.cell (.var 0) (.var 1) 8) (.rcons (.cell (.var 0) (.var 1) 9) .rnil)))))))))))))) 2) (.rcons (.var 3) (.rcons (.sel (.app 8 (.rcons (.c 0) (.rcons (.var 4) (.rcons (.var 5) (.rcons (.var 6) (.rcons (.var 7) (.rcons (.cell (.var 0) (.var 1) 1) (.rcons (.cell (.var 0) (.var 1) 2) (.rcons (.cell (.var 0) (.var 1) 3) (.rcons (.cell (.var 0) (.var 1) 4) (.rcons (.cell (.var 0) (.var 1) 5) (.rcons (.cell (.var 0) (.var 1) 6) (.rcons (.cell (.var 0) (.var 1) 7) (.rcons (.cell (.var 0) (.var 1) 8) (.rcons (.cell (.var 0) (.var 1) 9) .rnil))))))))))))))) 1) (.rcons (.sel (.app 8 (.rcons (.c 0) (.rcons (.var 4) (.rcons (.var 5) (.rcons (.var 6) (.rcons (.var 7) (.rcons (.cell (.var 0) (.var 1) 1) (.rcons (.cell (.var 0) (.var 1) 2) (.rcons (.cell (.var 0) (.var 1) 3) (.rcons (.cell (.var 0) (.var 1) 4) (.rcons (.cell (.var 0) (.var 1) 5) (.rcons (.cell (.var 0) (.var 1) 6) (.rcons (.cell (.var 0) (.var 1) 7) (.rcons (.cell (.var 0) (.var 1) 8) (.rcons (.cell (.var 0) (.var 1) 9) .rnil))))))))))))))) 2) (.rcons (.sel (.app 8 (.rcons (.c 0) (.rcons (.var 4) (.rcons (.var 5) (.rcons (.var 6) (.rcons (.var 7) (.rcons (.cell (.var 0) (.var 1) 1) (.rcons (.cell (.var 0) (.var 1) 2) (.rcons (.cell (.var 0) (.var 1) 3) (.rcons (.cell (.var 0) (.var 1) 4) (.rcons (.cell (.var 0) (.var 1) 5) (.rcons (.cell (.var 0) (.var 1) 6) (.rcons (.cell (.var 0) (.var 1) 7) (.rcons (.cell (.var 0) (.var 1) 8) (.rcons (.cell (.var 0) (.var 1) 9) .rnil))))))))))))))) 3) (.rcons (.sel (.app 8 (.rcons (.c 0) (.rcons (.var 4) (.rcons (.var 5) (.rcons (.var 6) (.rcons (.var 7) (.rcons (.cell (.var 0) (.var 1) 1) (.rcons (.cell (.var 0) (.var 1) 2) (.rcons (.cell (.var 0) (.var 1) 3) (.rcons (.cell (.var 0) (.var 1) 4) (.rcons (.cell (.var 0) (.var 1) 5) (.rcons (.cell (.var 0) (.var 1) 6) (.rcons (.cell (.var 0) (.var 1) 7) (.rcons (.cell (.var 0) (.var 1) 8) (.rcons (.cell (.var 0) (.var 1) 9) .rnil))))))))))))))) 4) .rnil))))))))) 1) (
               .leaf (.next 1 [(.var 0), (.arith .add .i64 (.var 1) (.c 1)), (.sel (.app 11 (.rcons (.c 0) (.rcons (.bc true) (.rcons (.var 2) (.rcons (.var 3) (.rcons (.cell (.var 0) (.var 1) 1) (.rcons (.cell (.var 0) (.var 1) 2) (.rcons (.cell (.var 0) (.var 1) 3) (.rcons (.cell (.var 0) (.var 1) 4) (.rcons (.cell (.var 0) (.var 1) 5) (.rcons (.cell (.var 0) (.var 1) 6) (.rcons (.cell (.var 0) (.var 1) 7) (.rcons (.cell (.var 0) (.var 1) 8) (.rcons (.cell (.var 0) (.var 1) 9) .rnil)))))))))))))) 2), (.var 3), (.sel (.app 8 (.rcons (.c 0) (.rcons (.var 4) (.rcons (.var 5) (.rcons (.var 6) (.rcons (.var 7) (.rcons (.cell (.var 0) (.var 1) 1) (.rcons (.cell (.var 0) (.var 1) 2) (.rcons (.cell (.var 0) (.var 1) 3) (.rcons (.cell (.var 0) (.var 1) 4) (.rcons (.cell (.var 0) (.var 1) 5) (.rcons (.cell (.var 0) (.var 1) 6) (.rcons (.cell (.var 0) (.var 1) 7) (.rcons (.cell (.var 0) (.var 1) 8) (.rcons (.cell (.var 0) (.var 1) 9) .rnil))))))))))))))) 1), (.sel (.app 8 (.rcons (.c 0) (.rcons (.var 4) (.rcons (.var 5) (.rcons (.var 6) (.rcons (.var 7) (.rcons (.cell (.var 0) (.var 1) 1) (.rcons (.cell (.var 0) (.var 1) 2) (.rcons (.cell (.var 0) (.var 1) 3) (.rcons (.cell (.var 0) (.var 1) 4) (.rcons (.cell (.var 0) (.var 1) 5) (.rcons (.cell (.var 0) (.var 1) 6) (.rcons (.cell (.var 0) (.var 1) 7) (.rcons (.cell (.var 0) (.var 1) 8) (.rcons (.cell (.var 0) (.var 1) 9) .rnil))))))))))))))) 2), (.sel (.app 8 (.rcons (.c 0) (.rcons (.var 4) (.rcons (.var 5) (.rcons (.var 6) (.rcons (.var 7) (.rcons (.cell (.var 0) (.var 1) 1) (.rcons (.cell (.var 0) (.var 1) 2) (.rcons (.cell (.var 0) (.var 1) 3) (.rcons (.cell (.var 0) (.var 1) 4) (.rcons (.cell (.var 0) (.var 1) 5) (.rcons (.cell (.var 0) (.var 1) 6) (.rcons (.cell (.var 0) (.var 1) 7) (.rcons (.cell (.var 0) (.var 1) 8) (.rcons (.cell (.var 0) (.var 1) 9) .rnil))))))))))))))) 3), (.sel (.app 8 (.rcons (.c 0) (.rcons (.var 4) (.rcons (.var 5) (.rcons (.var 6) (.rcons (.var 7) (.rcons (.cell (.var 0) (.var 1) 1) (.rcons (.cell (.var 0) (.var 1) 2) (.rcons (.cell (.var 0) (.var 1) 3) (.rcons (.cell (.var 0) (.var 1) 4) (.rcons (.cell (.var 0) (.var 1) 5) (.rcons (.cell (.var 0) (.var 1) 6) (.rcons (.cell (.var 0) (.var 1) 7) (.rcons (.cell (.var 0) (.var 1) 8) (.rcons (.cell (.var 0) (.var 1) 9) .rnil))))))))))))))) 4)])) (
               .leaf (.done 0 [(.bc false)]))) (
              .leaf .stuck)) (
             .leaf .stuck)) (
            .leaf (.done 0 [(.bc false)]))) (
           .leaf .stuck)) (
          .leaf .stuck))) (
        .split (.eql (.cell (.var 0) (.var 1) 0) (.c 2)) (
         .split (.eql (.sel (.app 8 (.rcons (.c 0) (.rcons (.var 4) (.rcons (.var 5) (.rcons (.var 6) (.rcons (.var 7) (.rcons (.cell (.var 0) (.var 1) 1) (.rcons (.cell (.var 0) (.var 1) 2) (.rcons (.cell (.var 0) (.var 1) 3) (.rcons (.cell (.var 0) (.var 1) 4) (.rcons (.cell (.var 0) (.var 1) 5) (.rcons (.cell (.var 0) (.var 1) 6) (.rcons (.cell (.var 0) (.var 1) 7) (.rcons (.cell (.var 0) (.var 1) 8) (.rcons (.cell (.var 0) (.var 1) 9) .rnil))))))))))))))) 0) (.c 1)) (
          .split (.eql (.sel (.app 11 (.rcons (.c 0) (.rcons (.bc true) (.rcons (.var 2) (.rcons (.var 3) (.rcons (.cell (.var 0) (.var 1) 1) (.rcons (.cell (.var 0) (.var 1) 2) (.rcons (.cell (.var 0) (.var 1) 3) (.rcons (.cell (.var 0) (.var 1) 4) (.rcons (.cell (.var 0) (.var 1) 5) (.rcons (.cell (.var 0) (.var 1) 6) (.rcons (.cell (.var 0) (.var 1) 7) (.rcons (.cell (.var 0) (.var 1) 8) (.rcons (.cell (.var 0) (.var 1) 9) .rnil)))))))))))))) 0) (.c 1)) (
           .split (.eql (.sel (.app 11 (.rcons (.c 0) (.rcons (.bc true) (.rcons (.var 2) (.rcons (.var 3) (.rcons (.cell (.var 0) (.var 1) 1) (.rcons (.cell (.var 0) (.var 1) 2) (.rcons (.cell (.var 0) (.var 1) 3) (.rcons (.cell (.var 0) (.var 1) 4) (.rcons (.cell (.var 0) (.var 1) 5) (.rcons (.cell (.var 0) (.var 1) 6) (.rcons (.cell (.var 0) (.var 1) 7) (.rcons (.cell (.var 0) (.var 1) 8) (.rcons (.cell (.var 0) (.var 1) 9) .rnil)))))))))))))) 1) (.sel (.app 8 (.rcons (.c 0) (.rcons (.var 4) (.rcons (.var 5) (.rcons (.var 6) (.rcons (.var 7) (.rcons (.cell (.var 0) (.var 1) 1) (.rcons (.cell (.var 0) (.var 1) 2) (.rcons (.cell (.var 0) (.var 1) 3) (.rcons (.cell (.var 0) (.var 1) 4) (.rcons (.cell (.var 0) (.var 1) 5) (.rcons (.cell (.var 0) (.var 1) 6) (.rcons (.cell (.var 0) (.var 1) 7) (.rcons (.cell (.var 0) (.var 1) 8) (.rcons (.cell (.var 0) (.var 1) 9) .rnil))))))))))))))) 5)) (
            .split (.eql (.lenL (.sel (.app 11 (.rcons (.c 0) (.rcons (.bc true) (.rcons (.var 2) (.rcons (.var 3) (.rcons (.cell (.var 0) (.var 1) 1) (.rcons (.cell (.var 0) (.var 1) 2) (.rcons (.cell (.var 0) (.var 1) 3) (.rcons (.cell (.var 0) (.var 1) 4) (.rcons (.cell (.var 0) (.var 1) 5) (.rcons (.cell (.var 0) (.var 1) 6) (.rcons (.cell (.var 0) (.var 1) 7) (.rcons (.cell (.var 0) (.var 1) 8) (.rcons (.cell (.var 0) (.var 1) 9) .rnil)))))))))))))) 2)) (.lenL (.var 2))) (
             .split (.eql (.sel (.app 15 (.rcons (.c 0) (.rcons (.bc true) (.rcons (.sel (.app 11 (.rcons (.c 0) (.rcons (.bc true) (.rcons (.var 2) (.rcons (.var 3) (.rcons (.cell (.var 0) (.var 1) 1) (.rcons (.cell (.var 0) (.var 1) 2) (.rcons (.cell (.var 0) (.var 1) 3) (.rcons (.cell (.var 0) (.var 1) 4) (.rcons (.cell (.var 0) (.var 1) 5) (.rcons (.cell (.var 0) (.var 1) 6) (.rcons (.cell (.var 0) (.var 1) 7) (.rcons (.cell (.var 0) (.var 1) 8) (.rcons (.cell (.var 0) (.var 1) 9) .rnil)))))))))))))) 2) (.rcons (.var 3) (.rcons (.sel (.app 8 (.rcons (.c 0) (.rcons (.var 4) (.rcons (.var 5) (.rcons (.var 6) (.rcons (.var 7) (.rcons (.cell (.var 0) (.var 1) 1) (.rcons (.cell (.var 0) (.var 1) 2) (.rcons (.cell (.var 0) (.var 1) 3) (.rcons (.cell (.var 0) (.var 1) 4) (.rcons (.cell (.var 0) (.var 1) 5) (.rcons (.cell (.var 0) (.var 1) 6) (.rcons (.cell (.var 0) (.var 1) 7) (.rcons (.cell (.var 0) (.var 1) 8) (.rcons (.cell (.var 0) (.var 1) 9) .rnil))))))))))))))) 1) (.rcons (.sel (.app 8 (.rcons (.c 0) (.rcons (.var 4) (.rcons (.var 5) (.rcons (.var 6) (.rcons (.var 7) (.rcons (.cell (.var 0) (.var 1) 1) (.rcons (.cell (.var 0) (.var 1) 2) (.rcons (.cell (.var 0) (.var 1) 3) (.rcons (.cell (.var 0) (.var 1) 4) (.rcons (.cell (.var 0) (.var 1) 5) (.rcons (.cell (.var 0) (.var 1) 6) (.rcons (.cell (.var 0) (.var 1) 7) (.rcons (.cell (.var 0) (.var 1) 8) (.rcons (.cell (.var 0) (.var 1) 9) .rnil))))))))))))))) 2) (.rcons (.sel (.app 8 (.rcons (.c 0) (.rcons (.var 4) (.rcons (.var 5) (.rcons (.var 6) (.rcons (.var 7) (.rcons (.cell (.var 0) (.var 1) 1) (.rcons (.cell (.var 0) (.var 1) 2) (.rcons (.cell (.var 0) (.var 1) 3) (.rcons (.cell (.var 0) (.var 1) 4) (.rcons (.cell (.var 0) (.var 1) 5) (.rcons (.cell (.var 0) (.var 1) 6) (.rcons (.cell (.var 0) (.var 1) 7) (.rcons (.cell (.var 0) (.var 1) 8) (.rcons (.cell (.var 0) (.var 1) 9) .rnil))))))))))))))) 3) (.rcons (.sel (.app 8 (.rcons (.c 0) (.rcons (.var 4) (.rcons (.var 5) (.rcons (.var 6) (.rcons (.var 7) (.rcons (.cell (.var 0) (.var 1) 1) (.rcons (.cell (.var 0) (.var 1) 2) (.rcons (.cell (.var 0) (.var 1) 3) (.rcons (.cell (.var 0) (.var 1) 4) (.rcons (.cell (.var 0) (.var 1) 5) (.rcons (.cell (.var 0) (.var 1) 6) (.rcons (.cell (.var 0) (.var 1) 7) (.rcons (.cell (.var 0) (.var 1) 8) (.rcons (.cell (.var 0) (.var 1) 9) .rnil))))))))))))))) 4) .rnil))))))))) 0) (.c 1)) (
              .split (.sel (.app 15 (.rcons (.c 0) (.rcons (.bc true) (.rcons (.sel (.app 11 (.rcons (.c 0) (.rcons (.bc true) (.rcons (.var 2) (.rcons (.var 3) (.rcons (.cell (.var 0) (.var 1) 1) (.rcons (.cell (.var 0) (.var 1) 2) (.rcons (.cell (.var 0) (.var 1) 3) (.rcons (.cell (.var 0) (.var 1) 4) (.rcons (.cell (.var 0) (.var 1) 5) (.rcons (.cell (.var 0) (.var 1) 6) (.rcons (.cell (.var 0) (.var 1) 7) (.rcons (.cell (.var 0) (.var 1) 8) (.rcons (.cell (.var 0) (.var 1) 9) .rnil)))))))))))))) 2) (.rcons (.var 3) (.rcons (.sel (.app 8 (.rcons (.c 0) (.rcons (.var 4) (.rcons (.var 5) (.rcons (.var 6) (.rcons (.var 7) (.rcons (.cell (.var 0) (.var 1) 1) (.rcons (.cell (.var 0) (.var 1) 2) (.rcons (.cell (.var 0) (.var 1) 3) (.rcons (.cell (.var 0) (.var 1) 4) (.rcons (.cell (.var 0) (.var 1) 5) (.rcons (.cell (.var 0) (.var 1) 6) (.rcons (.cell (.var 0) (.var 1) 7) (.rcons (.cell (.var 0) (.var 1) 8) (.rcons (.cell (.var 0) (.var 1) 9) .rnil))))))))))))))) 1) (.rcons (.sel (.app 8 (.rcons (.c 0) (.rcons (.var 4) (.rcons (.var 5) (.rcons (.var 6) (.rcons (.var 7) (.rcons (.cell (.var 0) (.var 1) 1) (.rcons (.cell (.var 0) (.var 1) 2) (.rcons (.cell (.var 0) (.var 1) 3) (.rcons (.cell (.var 0) (.var 1) 4) (.rcons (.cell (.var 0) (.var 1) 5) (.rcons (.cell (.var 0) (.var 1) 6) (.rcons (.cell (.var 0) (.var 1) 7) (.rcons (.cell (.var 0) (.var 1) 8) (.rcons (.cell (.var 0) (.var 1) 9) .rnil))))))))))))))) 2) (.rcons (.sel (.app 8 (.rcons (.c 0) (.rcons (.var 4) (.rcons (.var 5) (.rcons (.var 6) (.rcons (.var 7) (.rcons (.cell (.var 0) (.var 1) 1) (.rcons (.cell (.var 0) (.var 1) 2) (.rcons (.cell (.var 0) (.var 1) 3) (.rcons (.cell (.var 0) (.var 1) 4) (.rcons (.cell (.var 0) (.var 1) 5) (.rcons (.cell (.var 0) (.var 1) 6) (.rcons (.cell (.var 0) (.var 1) 7) (.rcons (.cell (.var 0) (.var 1) 8) (.rcons (.cell (.var 0) (.var 1) 9) .rnil))))))))))))))) 3) (.rcons (.sel (.app 8 (.rcons (.c 0) (.rcons (.var 4) (.rcons (.var 5) (.rcons (.var 6) (.rcons (.var 7) (.rcons (.cell (.var 0) (.var 1) 1) (.rcons (.cell (.var 0) (.var 1) 2) (.rcons (.cell (.var 0) (.var 1) 3) (.rcons (.cell (.var 0) (.var 1) 4) (.rcons (.cell (.var 0) (.var 1) 5) (.rcons (.cell (.var 0) (.var 1) 6) (.rcons (.cell (.var 0) (.var 1) 7) (.rcons (.cell (.var 0) (.var 1) 8) (.rcons (.cell (.var 0) (.var 1) 9) .rnil))))))))))))))) 4) .rnil))))))))) 1) (
               .leaf (.next 1 [(.var 0), (.arith .add .i64 (.var 1) (.c 1)), (.sel (.app 11 (.rcons (.c 0) (.rcons (.bc true) (.rcons (.var 2) (.rcons (.var 3) (.rcons (.cell (.var 0) (.var 1) 1) (.rcons (.cell (.var 0) (.var 1) 2) (.rcons (.cell (.var 0) (.var 1) 3) (.rcons (.cell (.var 0) (.var 1) 4) (.rcons (.cell (.var 0) (.var 1) 5) (.rcons (.cell (.var 0) (.var 1) 6) (.rcons (.cell (.var 0) (.var 1) 7) (.rcons (.cell (.var 0) (.var 1) 8) (.rcons (.cell (.var 0) (.var 1) 9) .rnil)))))))))))))) 2), (.var 3), (.sel (.app 8 (.rcons (.c 0) (.rcons (.var 4) (.rcons (.var 5) (.rcons (.var 6) (.rcons (.var 7) (.rcons (.cell (.var 0) (.var 1) 1) (.rcons (.cell (.var 0) (.var 1) 2) (.rcons (.cell (.var 0) (.var 1) 3) (.rcons (.cell (.var 0) (.var 1) 4) (.rcons (.cell (.var 0) (.var 1) 5) (.rcons (.cell (.var 0) (.var 1) 6) (.rcons (.cell (.var 0) (.var 1) 7) (.rcons (.cell (.var 0) (.var 1) 8) (.rcons (.cell (.var 0) (.var 1) 9) .rnil))))))))))))))) 1), (.sel (.app 8 (.rcons (.c 0) (.rcons (.var 4) (.rcons (.var 5) (.rcons (.var 6) (.rcons (.var 7) (.rcons (.cell (.var 0) (.var 1) 1) (.rcons (.cell (.var 0) (.var 1) 2) (.rcons (.cell (.var 0) (.var 1) 3) (.rcons (.cell (.var 0) (.var 1) 4) (.rcons (.cell (.var 0) (.var 1) 5) (.rcons (.cell (.var 0) (.var 1) 6) (.rcons (.cell (.var 0) (.var 1) 7) (.rcons (.cell (.var 0) (.var 1) 8) (.rcons (.cell (.var 0) (.var 1) 9) .rnil))))))))))))))) 2), (.sel (.app 8 (.rcons (.c 0) (.rcons (.var 4) (.rcons (.var 5) (.rcons (.var 6) (.rcons (.var 7) (.rcons (.cell (.var 0) (.var 1) 1) (.rcons (.cell (.var 0) (.var 1) 2) (.rcons (.cell (.var 0) (.var 1) 3) (.rcons (.cell (.var 0) (.var 1) 4) (.rcons (.cell (.var 0) (.var 1) 5) (.rcons (.cell (.var 0) (.var 1) 6) (.rcons (.cell (.var 0) (.var 1) 7) (.rcons (.cell (.var 0) (.var 1) 8) (.rcons (.cell (.var 0) (.var 1) 9) .rnil))))))))))))))) 3), (.sel (.app 8 (.rcons (.c 0) (.rcons (.var 4) (.rcons (.var 5) (.rcons (.var 6) (.rcons (.var 7) (.rcons (.cell (.var 0) (.var 1) 1) (.rcons (.cell (.var 0) (.var 1) 2) (.rcons (.cell (.var 0) (.var 1) 3) (.rcons (.cell (.var 0) (.var 1) 4) (.rcons (.cell (.var 0) (.var 1) 5) (.rcons (.cell (.var 0) (.var 1) 6) (.rcons (.cell (.var 0) (.var 1) 7) (.rcons (.cell (.var 0) (.var 1) 8) (.rcons (.cell (.var 0) (.var 1) 9) .rnil))))))))))))))) 4)])) (
               .leaf (.done 0 [(.bc false)]))) (
              .leaf .stuck)) (
             .leaf .stuck)) (
            .leaf (.done 0 [(.bc false)]))) (
           .leaf .stuck)) (
          .split (.eql (.sel (.app 8 (.rcons (.c 0) (.rcons (.var 4) (.rcons (.var 5) (.rcons (.var 6) (.rcons (.var 7) (.rcons (.cell (.var 0) (.var 1) 1) (.rcons (.cell (.var 0) (.var 1) 2) (.rcons (.cell (.var 0) (.var 1) 3) (.rcons (.cell (.var 0) (.var 1) 4) (.rcons (.cell (.var 0) (.var 1) 5) (.rcons (.cell (.var 0) (.var 1) 6) (.rcons (.cell (.var 0) (.var 1) 7) (.rcons (.cell (.var 0) (.var 1) 8) (.rcons (.cell (.var 0) (.var 1) 9) .rnil))))))))))))))) 0) (.c 2)) (
           .split (.eql (.sel (.app 11 (.rcons (.c 0) (.rcons (.bc true) (.rcons (.var 2) (.rcons (.var 3) (.rcons (.cell (.var 0) (.var 1) 1) (.rcons (.cell (.var 0) (.var 1) 2) (.rcons (.cell (.var 0) (.var 1) 3) (.rcons (.cell (.var 0) (.var 1) 4) (.rcons (.cell (.var 0) (.var 1) 5) (.rcons (.cell (.var 0) (.var 1) 6) (.rcons (.cell (.var 0) (.var 1) 7) (.rcons (.cell (.var 0) (.var 1) 8) (.rcons (.cell (.var 0) (.var 1) 9) .rnil)))))))))))))) 0) (.c 1)) (
            .split (.eql (.sel (.app 11 (.rcons (.c 0) (.rcons (.bc true) (.rcons (.var 2) (.rcons (.var 3) (.rcons (.cell (.var 0) (.var 1) 1) (.rcons (.cell (.var 0) (.var 1) 2) (.rcons (.cell (.var 0) (.var 1) 3) (.rcons (.cell (.var 0) (.var 1) 4) (.rcons (.cell (.var 0) (.var 1) 5) (.rcons (.cell (.var 0) (.var 1) 6) (.rcons (.cell (.var 0) (.var 1) 7) (.rcons (.cell (.var 0) (.var 1) 8) (.rcons (.cell (.var 0) (.var 1) 9) .rnil)))))))))))))) 1) (.c 0)) (
             .split (.eql (.lenL (.sel (.app 11 (.rcons (.c 0) (.rcons (.bc true) (.rcons (.var 2) (.rcons (.var 3) (.rcons (.cell (.var 0) (.var 1) 1) (.rcons (.cell (.var 0) (.var 1) 2) (.rcons (.cell (.var 0) (.var 1) 3) (.rcons (.cell (.var 0) (.var 1) 4) (.rcons (.cell (.var 0) (.var 1) 5) (.rcons (.cell (.var 0) (.var 1) 6) (.rcons (.cell (.var 0) (.var 1) 7) (.rcons (.cell (.var 0) (.var 1) 8) (.rcons (.cell (.var 0) (.var 1) 9) .rnil)))))))))))))) 2)) (.lenL (.var 2))) (
              .split (.eql (.sel (.app 15 (.rcons (.c 0) (.rcons (.bc true) (.rcons (.sel (.app 11 (.rcons (.c 0) (.rcons (.bc true) (.rcons (.var 2) (.rcons (.var 3) (.rcons (.cell (.var 0) (.var 1) 1) (.rcons (.cell (.var 0) (.var 1) 2) (.rcons (.cell (.var 0) (.var 1) 3) (.rcons (.cell (.var 0) (.var 1) 4) (.rcons (.cell (.var 0) (.var 1) 5) (.rcons (.cell (.var 0) (.var 1) 6) (.rcons (.cell (.var 0) (.var 1) 7) (.rcons (.cell (.var 0) (.var 1) 8) (.rcons (.cell (.var 0) (.var 1) 9) .rnil)))))))))))))) 2) (.rcons (.var 3) (.rcons (.sel (.app 8 (.rcons (.c 0) (.rcons (.var 4) (.rcons (.var 5) (.rcons (.var 6) (.rcons (.var 7) (.rcons (.cell (.var 0) (.var 1) 1) (.rcons (.cell (.var 0) (.var 1) 2) (.rcons (.cell (.var 0) (.var 1) 3) (.rcons (.cell (.var 0) (.var 1) 4) (.rcons (.cell (.var 0) (.var 1) 5) (.rcons (.cell (.var 0) (.var 1) 6) (.rcons (.cell (.var 0) (.var 1) 7) (.rcons (.cell (.var 0) (.var 1) 8) (.rcons (.cell (.var 0) (.var 1) 9) .rnil))))))))))))))) 1) (.rcons (.sel (.app 8 (.rcons (.c 0) (.rcons (.var 4) (.rcons (.var 5) (.rcons (.var 6) (.rcons (.var 7) (.rcons (.cell (.var 0) (.var 1) 1) (.rcons (.cell (.var 0) (.var 1) 2) (.rcons (.cell (.var 0) (.var 1) 3) (.rcons (.cell (.var 0) (.var 1) 4) (.rcons (.cell (.var 0) (.var 1) 5) (.rcons (.cell (.var 0) (.var 1) 6) (.rcons (.cell (.var 0) (.var 1) 7) (.rcons (.cell (.var 0) (.var 1) 8) (.rcons (.cell (.var 0) (.var 1) 9) .rnil))))))))))))))) 2) (.rcons (.sel (.app 8 (.rcons (.c 0) (.rcons (.var 4) (.rcons (.var 5) (.rcons (.var 6) (.rcons (.var 7) (.rcons (.cell (.var 0) (.var 1) 1) (.rcons (.cell (.var 0) (.var 1) 2) (.rcons (.cell (.var 0) (.var 1) 3) (.rcons (.cell (.var 0) (.var 1) 4) (.rcons (.cell (.var 0) (.var 1) 5) (.rcons (.cell (.var 0) (.var 1) 6) (.rcons (.cell (.var 0) (.var 1) 7) (.rcons (.cell (.var 0) (.var 1) 8) (.rcons (.cell (.var 0) (.var 1) 9) .rnil))))))))))))))) 3) (.rcons (.sel (.app 8 (.rcons (.c 0) (.rcons (.var 4) (.rcons (.var 5) (.rcons (.var 6) (.rcons (.var 7) (.rcons (.cell (.var 0) (.var 1) 1) (.rcons (.cell (.var 0) (.var 1) 2) (.rcons (.cell (.var 0) (.var 1) 3) (.rcons (.cell (.var 0) (.var 1) 4) (.rcons (.cell (.var 0) (.var 1) 5) (.rcons (.cell (.var 0) (.var 1) 6) (.rcons (.cell (.var 0) (.var 1) 7) (.rcons (.cell (.var 0) (.var 1) 8) (.rcons (.cell (.var 0) (.var 1) 9) .rnil))))))))))))))) 4) .rnil))))))))) 0) (.c 1)) (
               .split (.sel (.app 15 (.rcons (.c 0) (.rcons (.bc true) (.rcons (.sel (.app 11 (.rcons (.c 0) (.rcons (.bc true) (.rcons (.var 2) (.rcons (.var 3) (.rcons (.cell (.var 0) (.var 1) 1) (.rcons (.cell (.var 0) (.var 1) 2) (.rcons (.cell (.var 0) (.var 1) 3) (.rcons (.cell (.var 0) (.var 1) 4) (.rcons (.cell (.var 0) (.var 1) 5) (.rcons (.cell (.var 0) (.var 1) 6) (.rcons (.cell (.var 0) (.var 1) 7) (.rcons (.cell (.var 0) (.var 1) 8) (.rcons (.cell (.var 0) (.var 1) 9) .rnil)))))))))))))) 2) (.rcons (.var 3) (.rcons (.sel (.app 8 (.rcons (.c 0) (.rcons (.var 4) (.rcons (.var 5) (.rcons (.var 6) (.rcons (.var 7) (.rcons (.cell (.var 0) (.var 1) 1) (.rcons (.cell (.var 0) (.var 1) 2) (.rcons (.cell (.var 0) (.var 1) 3) (.rcons (.cell (.var 0) (.var 1) 4) (.rcons (.cell (.var 0) (.var 1) 5) (.rcons (.cell (.var 0) (.var 1) 6) (.rcons (.cell (.var 0) (.var 1) 7) (.rcons (.cell (.var 0) (.var 1) 8) (.rcons (.cell (.var 0) (.var 1) 9) .rnil))))))))))))))) 1) (.rcons (.sel (.app 8 (.rcons (.c 0) (.rcons (.var 4) (.rcons (.var 5) (.rcons (.var 6) (.rcons (.var 7) (.rcons (.cell (.var 0) (.var 1) 1) (.rcons (.cell (.var 0) (.var 1) 2) (.rcons (.cell (.var 0) (.var 1) 3) (.rcons (.cell (.var 0) (.var 1) 4) (.rcons (.cell (.var 0) (.var 1) 5) (.rcons (.cell (.var 0) (.var 1) 6) (.rcons (.cell (.var 0) (.var 1) 7) (.rcons (.cell (.var 0) (.var 1) 8) (.rcons (.cell (.var 0) (.var 1) 9) .rnil))))))))))))))) 2) (.rcons (.sel (.app 8 (.rcons (.c 0) (.rcons (.var 4) (.rcons (.var 5) (.rcons (.var 6) (.rcons (.var 7) (.rcons (.cell (.var 0) (.var 1) 1) (.rcons (.cell (.var 0) (.var 1) 2) (.rcons (.cell (.var 0) (.var 1) 3) (.rcons (.cell (.var 0) (.var 1) 4) (.rcons (.cell (.var 0) (.var 1) 5) (.rcons (.cell (.var 0) (.var 1) 6) (.rcons (.cell (.var 0) (.var 1) 7) (.rcons (.cell (.var 0) (.var 1) 8) (.rcons (.cell (.var 0) (.var 1) 9) .rnil))))))))))))))) 3) (.rcons (.sel (.app 8 (.rcons (.c 0) (.rcons (.var 4) (.rcons (.var 5) (.rcons (.var 6) (.rcons (.var 7) (.rcons (.cell (.var 0) (.var 1) 1) (.rcons (.cell (.var 0) (.var 1) 2) (.rcons (.cell (.var 0) (.var 1) 3) (.rcons (.cell (.var 0) (.var 1) 4) (.rcons (.cell (.var 0) (.var 1) 5) (.rcons (.cell (.var 0) (.var 1) 6) (.rcons (.cell (.var 0) (.var 1) 7) (.rcons (.cell (.var 0) (.var 1) 8) (.rcons (.cell (.var 0) (.var 1) 9) .rnil))))))))))))))) 4) .rnil))))))))) 1) (
                .leaf (.next 1 [(.var 0), (.arith .add .i64 (.var 1) (.c 1)), (.sel (.app 11 (.rcons (.c 0) (.rcons (.bc true) (.rcons (.var 2) (.rcons (.var 3) (.rcons (.cell (.var 0) (.var 1) 1) (.rcons (.cell (.var 0) (.var 1) 2) (.rcons (.cell (.var 0) (.var 1) 3) (.rcons (.cell (.var 0) (.var 1) 4) (.rcons (.cell (.var 0) (.var 1) 5) (.rcons (.cell (.var 0) (.var 1) 6) (.rcons (.cell (.var 0) (.var 1) 7) (.rcons (.cell (.var 0) (.var 1) 8) (.rcons (.cell (.var 0) (.var 1) 9) .rnil)))))))))))))) 2), (.var 3), (.sel (.app 8 (.rcons (.c 0) (.rcons (.var 4) (.rcons (.var 5) (.rcons (.var 6) (.rcons (.var 7) (.rcons (.cell (.var 0) (.var 1) 1) (.rcons (.cell (.var 0) (.var 1) 2) (.rcons (.cell (.var 0) (.var 1) 3) (.rcons (.cell (.var 0) (.var 1) 4) (.rcons (.cell (.var 0) (.var 1) 5) (.rcons (.cell (.var 0) (.var 1) 6) (.rcons (.cell (.var 0) (.var 1) 7) (.rcons (.cell (.var 0) (.var 1) 8) (.rcons (.cell (.var 0) (.var 1) 9) .rnil))))))))))))))) 1), (.sel (.app 8 (.rcons (.c 0) (.rcons (.var 4) (.rcons (.var 5) (.rcons (.var 6) (.rcons (.var 7) (.rcons (.cell (.var 0) (.var 1) 1) (.rcons (.cell (.var 0) (.var 1) 2) (.rcons (.cell (.var 0) (.var 1) 3) (.rcons (.cell (.var 0) (.var 1) 4) (.rcons (.cell (.var 0) (.var 1) 5) (.rcons (.cell (.var 0) (.var 1) 6) (.rcons (.cell (.var 0) (.var 1) 7) (.rcons (.cell (.var 0) (.var 1) 8) (.rcons (.cell (.var 0) (.var 1) 9) .rnil))))))))))))))) 2), (.sel (.app 8 (.rcons (.c 0) (.rcons (.var 4) (.rcons (.var 5) (.rcons (.var 6) (.rcons (.var 7) (.rcons (.cell (.var 0) (.var 1) 1) (.rcons (.cell (.var 0) (.var 1) 2) (.rcons (.cell (.var 0) (.var 1) 3) (.rcons (.cell (.var 0) (.var 1) 4) (.rcons (.cell (.var 0) (.var 1) 5) (.rcons (.cell (.var 0) (.var 1) 6) (.rcons (.cell (.var 0) (.var 1) 7) (.rcons (.cell (.var 0) (.var 1) 8) (.rcons (.cell (.var 0) (.var 1) 9) .rnil))))))))))))))) 3), (.sel (.app 8 (.rcons (.c 0) (.rcons (.var 4) (.rcons (.var 5) (.rcons (.var 6) (.rcons (.var 7) (.rcons (.cell (.var 0) (.var 1) 1) (.rcons (.cell (.var 0) (.var 1) 2) (.rcons (.cell (.var 0) (.var 1) 3) (.rcons (.cell (.var 0) (.var 1) 4) (.rcons (.cell (.var 0) (.var 1) 5) (.rcons (.cell (.var 0) (.var 1) 6) (.rcons (.cell (.var 0) (.var 1) 7) (.rcons (.cell (.var 0) (.var 1) 8) (.rcons (.cell (.var 0) (.var 1) 9) .rnil))))))))))))))) 4)])) (
                .leaf (.done 0 [(.bc false)]))) (
               .leaf .stuck)) (
              .leaf .stuck)) (
             .leaf (.done 0 [(.bc false)]))) (
            .leaf .stuck)) (
           .leaf .stuck))) (
         .split (.eql (.cell (.var 0) (.var 1) 0) (.c 3)) (
          .split (.eql (.sel (.app 16 (.rcons (.c 0) (.rcons (.var 4) (.rcons (.var 5) (.rcons (.var 6) (.rcons (.var 7) (.rcons (.cell (.var 0) (.var 1) 10) .rnil))))))) 0) (.c 1)) (
           .split (.eql (.sel (.app 17 (.rcons (.c 0) (.rcons (.bc true) (.rcons (.var 2) (.rcons (.var 3) (.rcons (.cell (.var 0) (.var 1) 10) .rnil)))))) 0) (.c 1)) (
            .split (.eql (.sel (.app 17 (.rcons (.c 0) (.rcons (.bc true) (.rcons (.var 2) (.rcons (.var 3) (.rcons (.cell (.var 0) (.var 1) 10) .rnil)))))) 1) (.sel (.app 16 (.rcons (.c 0) (.rcons (.var 4) (.rcons (.var 5) (.rcons (.var 6) (.rcons (.var 7) (.rcons (.cell (.var 0) (.var 1) 10) .rnil))))))) 5)) (
             .split (.eql (.lenL (.sel (.app 17 (.rcons (.c 0) (.rcons (.bc true) (.rcons (.var 2) (.rcons (.var 3) (.rcons (.cell (.var 0) (.var 1) 10) .rnil)))))) 2)) (.lenL (.var 2))) (
              .split (.eql (.sel (.app 15 (.rcons (.c 0) (.rcons (.bc true) (.rcons (.sel (.app 17 (.rcons (.c 0) (.rcons (.bc true) (.rcons (.var 2) (.rcons (.var 3) (.rcons (.cell (.var 0) (.var 1) 10) .rnil)))))) 2) (.rcons (.var 3) (.rcons (.sel (.app 16 (.rcons (.c 0) (.rcons (.var 4) (.rcons (.var 5) (.rcons (.var 6) (.rcons (.var 7) (.rcons (.cell (.var 0) (.var 1) 10) .rnil))))))) 1) (.rcons (.sel (.app 16 (.rcons (.c 0) (.rcons (.var 4) (.rcons (.var 5) (.rcons (.var 6) (.rcons (.var 7) (.rcons (.cell (.var 0) (.var 1) 10) .rnil))))))) 2) (.rcons (.sel (.app 16 (.rcons (.c 0) (.rcons (.var 4) (.rcons (.var 5) (.rcons (.var 6) (.rcons (.var 7) (.rcons (.cell (.var 0) (.var 1) 10) .rnil))))))) 3) (.rcons (.sel (.app 16 (.rcons (.c 0) (.rcons (.var 4) (.rcons (.var 5) (.rcons (.var 6) (.rcons (.var 7) (.rcons (.cell (.var 0) (.var 1) 10) .rnil))))))) 4) .rnil))))))))) 0) (.c 1)) (
               .split (.sel (.app 15 (.rcons (.c 0) (.rcons (.bc true) (.rcons (.sel (.app 17 (.rcons (.c 0) (.rcons (.bc true) (.rcons (.var 2) (.rcons (.var 3) (.rcons (.cell (.var 0) (.var 1) 10) .rnil)))))) 2) (.rcons (.var 3) (.rcons (.sel (.app 16 (.rcons (.c 0) (.rcons (.var 4) (.rcons (.var 5) (.rcons (.var 6) (.rcons (.var 7) (.rcons (.cell (.var 0) (.var 1) 10) .rnil))))))) 1) (.rcons (.sel (.app 16 (.rcons (.c 0) (.rcons (.var 4) (.rcons (.var 5) (.rcons (.var 6) (.rcons (.var 7) (.rcons (.cell (.var 0) (.var 1) 10) .rnil))))))) 2) (.rcons (.sel (.app 16 (.rcons (.c 0) (.rcons (.var 4) (.rcons (.var 5) (.rcons (.var 6) (.rcons (.var 7) (.rcons (.cell (.var 0) (.var 1) 10) .rnil))))))) 3) (.rcons (.sel (.app 16 (.rcons (.c 0) (.rcons (.var 4) (.rcons (.var 5) (.rcons (.var 6) (.rcons (.var 7) (.rcons (.cell (.var 0) (.var 1) 10) .rnil))))))) 4) .rnil))))))))) 1) (
                .leaf (.next 1 [(.var 0), (.arith .add .i64 (.var 1) (.c 1)), (.sel (.app 17 (.rcons (.c 0) (.rcons (.bc true) (.rcons (.var 2) (.rcons (.var 3) (.rcons (.cell (.var 0) (.var 1) 10) .rnil)))))) 2), (.var 3), (.sel (.app 16 (.rcons (.c 0) (.rcons (.var 4) (.rcons (.var 5) (.rcons (.var 6) (.rcons (.var 7) (.rcons (.cell (.var 0) (.var 1) 10) .rnil))))))) 1), (.sel (.app 16 (.rcons (.c 0) (.rcons (.var 4) (.rcons (.var 5) (.rcons (.var 6) (.rcons (.var 7) (.rcons (.cell (.var 0) (.var 1) 10) .rnil))))))) 2), (.sel (.app 16 (.rcons (.c 0) (.rcons (.var 4) (.rcons (.var 5) (.rcons (.var 6) (.rcons (.var 7) (.rcons (.cell (.var 0) (.var 1) 10) .rnil))))))) 3), (.sel (.app 16 (.rcons (.c 0) (.rcons (.var 4) (.rcons (.var 5) (.rcons (.var 6) (.rcons (.var 7) (.rcons (.cell (.var 0) (.var 1) 10) .rnil))))))) 4)])) (
                .leaf (.done 0 [(.bc false)]))) (
               .leaf .stuck)) (
              .leaf .stuck)) (
             .leaf (.done 0 [(.bc false)]))) (
            .leaf .stuck)) (
           .split (.eql (.sel (.app 16 (.rcons (.c 0) (.rcons (.var 4) (.rcons (.var 5) (.rcons (.var 6) (.rcons (.var 7) (.rcons (.cell (.var 0) (.var 1) 10) .rnil))))))) 0) (.c 2)) (
            .split (.eql (.sel (.app 17 (.rcons (.c 0) (.rcons (.bc true) (.rcons (.var 2) (.rcons (.var 3) (.rcons (.cell (.var 0) (.var 1) 10) .rnil)))))) 0) (.c 1)) (
             .split (.eql (.sel (.app 17 (.rcons (.c 0) (.rcons (.bc true) (.rcons (.var 2) (.rcons (.var 3) (.rcons (.cell (.var 0) (.var 1) 10) .rnil)))))) 1) (.c 0)) (
              .split (.eql (.lenL (.sel (.app 17 (.rcons (.c 0) (.rcons (.bc true) (.rcons (.var 2) (.rcons (.var 3) (.rcons (.cell (.var 0) (.var 1) 10) .rnil)))))) 2)) (.lenL (.var 2))) (
               .split (.eql (.sel (.app 15 (.rcons (.c 0) (.rcons (.bc true) (.rcons (.sel (.app 17 (.rcons (.c 0) (.rcons (.bc true) (.rcons (.var 2) (.rcons (.var 3) (.rcons (.cell (.var 0) (.var 1) 10) .rnil)))))) 2) (.rcons (.var 3) (.rcons (.sel (.app 16 (.rcons (.c 0) (.rcons (.var 4) (.rcons (.var 5) (.rcons (.var 6) (.rcons (.var 7) (.rcons (.cell (.var 0) (.var 1) 10) .rnil))))))) 1) (.rcons (.sel (.app 16 (.rcons (.c 0) (.rcons (.var 4) (.rcons (.var 5) (.rcons (.var 6) (.rcons (.var 7) (.rcons (.cell (.var 0) (.var 1) 10) .rnil))))))) 2) (.rcons (.sel (.app 16 (.rcons (.c 0) (.rcons (.var 4) (.rcons (.var 5) (.rcons (.var 6) (.rcons (.var 7) (.rcons (.cell (.var 0) (.var 1) 10) .rnil))))))) 3) (.rcons (.sel (.app 16 (.rcons (.c 0) (.rcons (.var 4) (.rcons (.var 5) (.rcons (.var 6) (.rcons (.var 7) (.rcons (.cell (.var 0) (.var 1) 10) .rnil))))))) 4) .rnil))))))))) 0) (.c 1)) (
                .split (.sel (.app 15 (.rcons (.c 0) (.rcons (.bc true) (.rcons (.sel (.app 17 (.rcons (.c 0) (.rcons (.bc true) (.rcons (.var 2) (.rcons (.var 3) (.rcons (.cell (.var 0) (.var 1) 10) .rnil)))))) 2) (.rcons (.var 3) (.rcons (.sel (.app 16 (.rcons (.c 0) (.rcons (.var 4) (.rcons (.var 5) (.rcons (.var 6) (.rcons (.var 7) (.rcons (.cell (.var 0) (.var 1) 10) .rnil))))))) 1) (.rcons (.sel (.app 16 (.rcons (.c 0) (.rcons (.var 4) (.rcons (.var 5) (.rcons (.var 6) (.rcons (.var 7) (.rcons (.cell (.var 0) (.var 1) 10) .rnil))))))) 2) (.rcons (.sel (.app 16 (.rcons (.c 0) (.rcons (.var 4) (.rcons (.var 5) (.rcons (.var 6) (.rcons (.var 7) (.rcons (.cell (.var 0) (.var 1) 10) .rnil))))))) 3) (.rcons (.sel (.app 16 (.rcons (.c 0) (.rcons (.var 4) (.rcons (.var 5) (.rcons (.var 6) (.rcons (.var 7) (.rcons (.cell (.var 0) (.var 1) 10) .rnil))))))) 4) .rnil))))))))) 1) (
                 .leaf (.next 1 [(.var 0), (.arith .add .i64 (.var 1) (.c 1)), (.sel (.app 17 (.rcons (.c 0) (.rcons (.bc true) (.rcons (.var 2) (.rcons (.var 3) (.rcons (.cell (.var 0) (.var 1) 10) .rnil)))))) 2), (.var 3), (.sel (.app 16 (.rcons (.c 0) (.rcons (.var 4) (.rcons (.var 5) (.rcons (.var 6) (.rcons (.var 7) (.rcons (.cell (.var 0) (.var 1) 10) .rnil))))))) 1), (.sel (.app 16 (.rcons (.c 0) (.rcons (.var 4) (.rcons (.var 5) (.rcons (.var 6) (.rcons (.var 7) (.rcons (.cell (.var 0) (.var 1) 10) .rnil))))))) 2), (.sel (.app 16 (.rcons (.c 0) (.rcons (.var 4) (.rcons (.var 5) (.rcons (.var 6) (.rcons (.var 7) (.rcons (.cell (.var 0) (.var 1) 10) .rnil))))))) 3), (.sel (.app 16 (.rcons (.c 0) (.rcons (.var 4) (.rcons (.var 5) (.rcons (.var 6) (.rcons (.var 7) (.rcons (.cell (.var 0) (.var 1) 10) .rnil))))))) 4)])) (
                 .leaf (.done 0 [(.bc false)]))) (
                .leaf .stuck)) (
               .leaf .stuck)) (
              .leaf (.done 0 [(.bc false)]))) (
             .leaf .stuck)) (
            .leaf .stuck))) (
          .split (.eql (.cell (.var 0) (.var 1) 0) (.c 4)) (
           .split (.eql (.sel (.app 18 (.rcons (.c 0) (.rcons (.bc true) (.rcons (.var 2) (.rcons (.var 3) .rnil))))) 0) (.c 1)) (
            .split (.eql (.sel (.app 11 (.rcons (.c 0) (.rcons (.bc true) (.rcons (.var 2) (.rcons (.var 3) (.rcons (.cell (.var 0) (.var 1) 1) (.rcons (.cell (.var 0) (.var 1) 2) (.rcons (.cell (.var 0) (.var 1) 3) (.rcons (.cell (.var 0) (.var 1) 4) (.rcons (.cell (.var 0) (.var 1) 5) (.rcons (.cell (.var 0) (.var 1) 6) (.rcons (.cell (.var 0) (.var 1) 7) (.rcons (.cell (.var 0) (.var 1) 8) (.rcons (.cell (.var 0) (.var 1) 9) .rnil)))))))))))))) 0) (.c 1)) (
             .split (.eql (.sel (.app 15 (.rcons (.c 0) (.rcons (.bc true) (.rcons (.sel (.app 18 (.rcons (.c 0) (.rcons (.bc true) (.rcons (.var 2) (.rcons (.var 3) .rnil))))) 1) (.rcons (.sel (.app 18 (.rcons (.c 0) (.rcons (.bc true) (.rcons (.var 2) (.rcons (.var 3) .rnil))))) 2) (.rcons (.var 4) (.rcons (.var 5) (.rcons (.var 6) (.rcons (.var 7) .rnil))))))))) 0) (.c 1)) (
              .split (.sel (.app 15 (.rcons (.c 0) (.rcons (.bc true) (.rcons (.sel (.app 18 (.rcons (.c 0) (.rcons (.bc true) (.rcons (.var 2) (.rcons (.var 3) .rnil))))) 1) (.rcons (.sel (.app 18 (.rcons (.c 0) (.rcons (.bc true) (.rcons (.var 2) (.rcons (.var 3) .rnil))))) 2) (.rcons (.var 4) (.rcons (.var 5) (.rcons (.var 6) (.rcons (.var 7) .rnil))))))))) 1) (
               .leaf (.next 1 [(.var 0), (.arith .add .i64 (.var 1) (.c 1)), (.sel (.app 18 (.rcons (.c 0) (.rcons (.bc true) (.rcons (.var 2) (.rcons (.var 3) .rnil))))) 1), (.sel (.app 18 (.rcons (.c 0) (.rcons (.bc true) (.rcons (.var 2) (.rcons (.var 3) .rnil))))) 2), (.var 4), (.var 5), (.var 6), (.var 7)])) (
               .leaf (.done 0 [(.bc false)]))) (
              .leaf .stuck)) (
             .leaf .stuck)) (
            .split (.eql (.sel (.app 18 (.rcons (.c 0) (.rcons (.bc true) (.rcons (.var 2) (.rcons (.var 3) .rnil))))) 0) (.c 2)) (
             .split (.eql (.sel (.app 11 (.rcons (.c 0) (.rcons (.bc true) (.rcons (.var 2) (.rcons (.var 3) (.rcons (.cell (.var 0) (.var 1) 1) (.rcons (.cell (.var 0) (.var 1) 2) (.rcons (.cell (.var 0) (.var 1) 3) (.rcons (.cell (.var 0) (.var 1) 4) (.rcons (.cell (.var 0) (.var 1) 5) (.rcons (.cell (.var 0) (.var 1) 6) (.rcons (.cell (.var 0) (.var 1) 7) (.rcons (.cell (.var 0) (.var 1) 8) (.rcons (.cell (.var 0) (.var 1) 9) .rnil)))))))))))))) 0) (.c 1)) (
              .leaf (.done 0 [(.bc false)])) (
              .leaf .stuck)) (
             .leaf .stuck))) (
           .split (.eql (.sel (.app 10 (.rcons (.c 0) (.rcons (.bc true) (.rcons (.var 2) (.rcons (.var 3) (.rcons (.cell (.var 0) (.var 1) 1) (.rcons (.cell (.var 0) (.var 1) 2) (.rcons (.cell (.var 0) (.var 1) 3) (.rcons (.cell (.var 0) (.var 1) 4) (.rcons (.cell (.var 0) (.var 1) 5) (.rcons (.cell (.var 0) (.var 1) 6) (.rcons (.cell (.var 0) (.var 1) 7) (.rcons (.cell (.var 0) (.var 1) 8) (.rcons (.cell (.var 0) (.var 1) 9) .rnil)))))))))))))) 0) (.c 1)) (
            .split (.eql (.sel (.app 7 (.rcons (.c 0) (.rcons (.var 4) (.rcons (.var 5) (.rcons (.var 6) (.rcons (.var 7) (.rcons (.cell (.var 0) (.var 1) 1) (.rcons (.cell (.var 0) (.var 1) 2) (.rcons (.cell (.var 0) (.var 1) 3) (.rcons (.cell (.var 0) (.var 1) 4) (.rcons (.cell (.var 0) (.var 1) 5) (.rcons (.cell (.var 0) (.var 1) 6) (.rcons (.cell (.var 0) (.var 1) 7) (.rcons (.cell (.var 0) (.var 1) 8) (.rcons (.cell (.var 0) (.var 1) 9) .rnil))))))))))))))) 0) (.c 1)) (
             .split (.sel (.app 10 (.rcons (.c 0) (.rcons (.bc true) (.rcons (.var 2) (.rcons (.var 3) (.rcons (.cell (.var 0) (.var 1) 1) (.rcons (.cell (.var 0) (.var 1) 2) (.rcons (.cell (.var 0) (.var 1) 3) (.rcons (.cell (.var 0) (.var 1) 4) (.rcons (.cell (.var 0) (.var 1) 5) (.rcons (.cell (.var 0) (.var 1) 6) (.rcons (.cell (.var 0) (.var 1) 7) (.rcons (.cell (.var 0) (.var 1) 8) (.rcons (.cell (.var 0) (.var 1) 9) .rnil)))))))))))))) 1) (
              .split (.sel (.app 7 (.rcons (.c 0) (.rcons (.var 4) (.rcons (.var 5) (.rcons (.var 6) (.rcons (.var 7) (.rcons (.cell (.var 0) (.var 1) 1) (.rcons (.cell (.var 0) (.var 1) 2) (.rcons (.cell (.var 0) (.var 1) 3) (.rcons (.cell (.var 0) (.var 1) 4) (.rcons (.cell (.var 0) (.var 1) 5) (.rcons (.cell (.var 0) (.var 1) 6) (.rcons (.cell (.var 0) (.var 1) 7) (.rcons (.cell (.var 0) (.var 1) 8) (.rcons (.cell (.var 0) (.var 1) 9) .rnil))))))))))))))) 1) (
               .split (.eql (.sel (.app 10 (.rcons (.c 0) (.rcons (.bc true) (.rcons (.var 2) (.rcons (.var 3) (.rcons (.cell (.var 0) (.var 1) 1) (.rcons (.cell (.var 0) (.var 1) 2) (.rcons (.cell (.var 0) (.var 1) 3) (.rcons (.cell (.var 0) (.var 1) 4) (.rcons (.cell (.var 0) (.var 1) 5) (.rcons (.cell (.var 0) (.var 1) 6) (.rcons (.cell (.var 0) (.var 1) 7) (.rcons (.cell (.var 0) (.var 1) 8) (.rcons (.cell (.var 0) (.var 1) 9) .rnil)))))))))))))) 2) (.sel (.app 7 (.rcons (.c 0) (.rcons (.var 4) (.rcons (.var 5) (.rcons (.var 6) (.rcons (.var 7) (.rcons (.cell (.var 0) (.var 1) 1) (.rcons (.cell (.var 0) (.var 1) 2) (.rcons (.cell (.var 0) (.var 1) 3) (.rcons (.cell (.var 0) (.var 1) 4) (.rcons (.cell (.var 0) (.var 1) 5) (.rcons (.cell (.var 0) (.var 1) 6) (.rcons (.cell (.var 0) (.var 1) 7) (.rcons (.cell (.var 0) (.var 1) 8) (.rcons (.cell (.var 0) (.var 1) 9) .rnil))))))))))))))) 2)) (
                .split (.eql (.sel (.app 15 (.rcons (.c 0) (.rcons (.bc true) (.rcons (.var 2) (.rcons (.var 3) (.rcons (.var 4) (.rcons (.var 5) (.rcons (.var 6) (.rcons (.var 7) .rnil))))))))) 0) (.c 1)) (
                 .split (.sel (.app 15 (.rcons (.c 0) (.rcons (.bc true) (.rcons (.var 2) (.rcons (.var 3) (.rcons (.var 4) (.rcons (.var 5) (.rcons (.var 6) (.rcons (.var 7) .rnil))))))))) 1) (
                  .leaf (.next 1 [(.var 0), (.arith .add .i64 (.var 1) (.c 1)), (.var 2), (.var 3), (.var 4), (.var 5), (.var 6), (.var 7)])) (
                  .leaf (.done 0 [(.bc false)]))) (
                 .leaf .stuck)) (
                .leaf (.done 0 [(.bc false)]))) (
               .leaf (.done 0 [(.bc false)]))) (
              .split (.sel (.app 7 (.rcons (.c 0) (.rcons (.var 4) (.rcons (.var 5) (.rcons (.var 6) (.rcons (.var 7) (.rcons (.cell (.var 0) (.var 1) 1) (.rcons (.cell (.var 0) (.var 1) 2) (.rcons (.cell (.var 0) (.var 1) 3) (.rcons (.cell (.var 0) (.var 1) 4) (.rcons (.cell (.var 0) (.var 1) 5) (.rcons (.cell (.var 0) (.var 1) 6) (.rcons (.cell (.var 0) (.var 1) 7) (.rcons (.cell (.var 0) (.var 1) 8) (.rcons (.cell (.var 0) (.var 1) 9) .rnil))))))))))))))) 1) (
               .leaf (.done 0 [(.bc false)])) (
               .split (.eql (.sel (.app 10 (.rcons (.c 0) (.rcons (.bc true) (.rcons (.var 2) (.rcons (.var 3) (.rcons (.cell (.var 0) (.var 1) 1) (.rcons (.cell (.var 0) (.var 1) 2) (.rcons (.cell (.var 0) (.var 1) 3) (.rcons (.cell (.var 0) (.var 1) 4) (.rcons (.cell (.var 0) (.var 1) 5) (.rcons (.cell (.var 0) (.var 1) 6) (.rcons (.cell (.var 0) (.var 1) 7) (.rcons (.cell (.var 0) (.var 1) 8) (.rcons (.cell (.var 0) (.var 1) 9) .rnil)))))))))))))) 2) (.sel (.app 7 (.rcons (.c 0) (.rcons (.var 4) (.rcons (.var 5) (.rcons (.var 6) (.rcons (.var 7) (.rcons (.cell (.var 0) (.var 1) 1) (.rcons (.cell (.var 0) (.var 1) 2) (.rcons (.cell (.var 0) (.var 1) 3) (.rcons (.cell (.var 0) (.var 1) 4) (.rcons (.cell (.var 0) (.var 1) 5) (.rcons (.cell (.var 0) (.var 1) 6) (.rcons (.cell (.var 0) (.var 1) 7) (.rcons (.cell (.var 0) (.var 1) 8) (.rcons (.cell (.var 0) (.var 1) 9) .rnil))))))))))))))) 2)) (
                .split (.eql (.sel (.app 15 (.rcons (.c 0) (.rcons (.bc true) (.rcons (.var 2) (.rcons (.var 3) (.rcons (.var 4) (.rcons (.var 5) (.rcons (.var 6) (.rcons (.var 7) .rnil))))))))) 0) (.c 1)) (
                 .split (.sel (.app 15 (.rcons (.c 0) (.rcons (.bc true) (.rcons (.var 2) (.rcons (.var 3) (.rcons (.var 4) (.rcons (.var 5) (.rcons (.var 6) (.rcons (.var 7) .rnil))))))))) 1) (
                  .leaf (.next 1 [(.var 0), (.arith .add .i64 (.var 1) (.c 1)), (.var 2), (.var 3), (.var 4), (.var 5), (.var 6), (.var 7)])) (
                  .leaf (.done 0 [(.bc false)]))) (
                 .leaf .stuck)) (
                .leaf (.done 0 [(.bc false)]))))) (
             .leaf .stuck)) (
            .leaf .stuck)))))))))) (
   .split (.eql (.sel (.app 1 (.rcons (.c 0) .rnil)) 0) (.c 1)) (
    .leaf (.done 0 [(.bc true)])) (
    .leaf .stuck))
def t19 : List (Tr Plf) := [t19p0, t19p1]
def ts : List (List (Tr Plf)) := [t0, t1, t2, t3, t4, t5, t6, t7, t8, t9, t10, t11, t12, t13, t14, t15, t16, t17, t18, t19]
end Go.CP
