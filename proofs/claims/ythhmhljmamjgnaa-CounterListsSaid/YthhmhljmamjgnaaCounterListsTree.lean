/- What is stated: the trees of tests of the functions that the law CounterLists reaches, as data. Conditions: none. -/
import Derived.Test.YthhmhljmamjgnaaBeF
set_option linter.unusedVariables false
set_option linter.unusedSectionVars false
namespace Go.CL
open Go.AE
def t0p0 : Tr Plf :=
  .leaf (.next 1 [(.var 0), (.c 0)])
def t0p1 : Tr Plf :=
  .split (.lss (.var 1) (.lenL (.var 0))) (
   .split (.lss (.var 1) (.c 7)) (
    .split (.lss (.var 1) (.c 0)) (
     .leaf .stuck) (
     .split (.lss (.c 60) (.lenS (.cell (.var 0) (.var 1) 0))) (
      .leaf (.done 0 [(.bc false)])) (
      .leaf (.next 1 [(.var 0), (.arith .add .i64 (.var 1) (.c 1))])))) (
    .leaf (.done 0 [(.neg (.lss (.c 6) (.lenL (.var 0))))]))) (
   .leaf (.done 0 [(.neg (.lss (.c 6) (.lenL (.var 0))))]))
def t0 : List (Tr Plf) := [t0p0, t0p1]
def t1p0 : Tr Plf :=
  .leaf (.done 0 [])
def t1 : List (Tr Plf) := [t1p0]
def t2p0 : Tr Plf :=
  .leaf (.next 1 [(.var 0), (.var 1), (.c 0), (.var 2)])
def t2p1 : Tr Plf :=
  .split (.lss (.var 2) (.lenL (.var 0))) (
   .split (.lss (.var 2) (.c 0)) (
    .leaf .stuck) (
    .split (.eqSS (.cell (.var 0) (.var 2) 0) (.var 3)) (
     .leaf (.done 0 [(.var 2)])) (
     .leaf (.next 1 [(.var 0), (.var 1), (.arith .add .i64 (.var 2) (.c 1)), (.var 3)])))) (
   .leaf (.done 0 [(.c (-1))]))
def t2 : List (Tr Plf) := [t2p0, t2p1]
def t3p0 : Tr Plf :=
  .split (.lss (.c 4) (.lenL (.var 0))) (
   .leaf (.done 0 [])) (
   .leaf (.next 1 [(.var 0), (.c 0), .nilL, (.bc true)]))
def t3p1 : Tr Plf :=
  .split (.lss (.var 1) (.lenL (.var 0))) (
   .split (.lss (.var 1) (.c 0)) (
    .leaf .stuck) (
    .split (.eqS (.cell (.var 0) (.var 1) 0) 0 0) (
     .leaf (.done 0 [])) (
     .split (.lss (.cell (.var 0) (.var 1) 1) (.c 1)) (
      .leaf (.done 0 [])) (
      .split (.lss (.c 1000) (.cell (.var 0) (.var 1) 1)) (
       .leaf (.done 0 [])) (
       .split (.eql (.sel (.app 2 (.rcons (.c 0) (.rcons (.var 2) (.rcons (.var 3) (.rcons (.cell (.var 0) (.var 1) 0) .rnil))))) 0) (.c 1)) (
        .split (.lss (.sel (.app 2 (.rcons (.c 0) (.rcons (.var 2) (.rcons (.var 3) (.rcons (.cell (.var 0) (.var 1) 0) .rnil))))) 1) (.c 0)) (
         .split (.lss (.lenL (.var 2)) (.c 1048576)) (
          .leaf (.next 1 [(.var 0), (.arith .add .i64 (.var 1) (.c 1)), (.snoc (.var 2) (.rcons (.cell (.var 0) (.var 1) 0) (.rcons (.cell (.var 0) (.var 1) 1) (.rcons (.c 0) .rnil)))), (.bc false)])) (
          .leaf .stuck)) (
         .leaf (.done 0 []))) (
        .leaf .stuck)))))) (
   .leaf (.done 1 [(.var 2), (.var 3)]))
def t3 : List (Tr Plf) := [t3p0, t3p1]
def t4p0 : Tr Plf :=
  .split (.lss (.c 4) (.lenL (.var 0))) (
   .leaf (.done 0 [.nilL, (.bc true), .nilL, (.bc true), (.c 2)])) (
   .leaf (.next 1 [(.var 0), (.c 0), .nilL, (.bc true), .nilL, (.bc true)]))
def t4p1 : Tr Plf :=
  .split (.lss (.var 1) (.lenL (.var 0))) (
   .split (.lss (.var 1) (.c 0)) (
    .leaf .stuck) (
    .split (.eqS (.cell (.var 0) (.var 1) 0) 0 0) (
     .leaf (.done 0 [.nilL, (.bc true), .nilL, (.bc true), (.c 2)])) (
     .split (.lss (.cell (.var 0) (.var 1) 1) (.c 1)) (
      .leaf (.done 0 [.nilL, (.bc true), .nilL, (.bc true), (.c 2)])) (
      .split (.lss (.c 1000) (.cell (.var 0) (.var 1) 1)) (
       .leaf (.done 0 [.nilL, (.bc true), .nilL, (.bc true), (.c 2)])) (
       .leaf (.next 2 [(.var 0), (.var 1), (.c 0), (.var 2), (.var 3), (.var 4), (.var 5)])))))) (
   .leaf (.done 0 [(.var 2), (.var 3), (.var 4), (.var 5), (.c 0)]))
def t4p2 : Tr Plf :=
  .split (.lss (.var 2) (.var 1)) (
   .split (.lss (.var 2) (.c 0)) (
    .leaf .stuck) (
    .split (.lss (.var 2) (.lenL (.var 0))) (
     .split (.lss (.var 1) (.c 0)) (
      .leaf .stuck) (
      .split (.lss (.var 1) (.lenL (.var 0))) (
       .split (.eqSS (.cell (.var 0) (.var 2) 0) (.cell (.var 0) (.var 1) 0)) (
        .leaf (.done 0 [.nilL, (.bc true), .nilL, (.bc true), (.c 2)])) (
        .leaf (.next 2 [(.var 0), (.var 1), (.arith .add .i64 (.var 2) (.c 1)), (.var 3), (.var 4), (.var 5), (.var 6)]))) (
       .leaf .stuck))) (
     .leaf .stuck))) (
   .split (.lss (.var 1) (.c 0)) (
    .leaf .stuck) (
    .split (.lss (.var 1) (.lenL (.var 0))) (
     .split (.lss (.lenL (.var 3)) (.c 1048576)) (
      .split (.lss (.lenL (.var 5)) (.c 1048576)) (
       .leaf (.next 1 [(.var 0), (.arith .add .i64 (.var 1) (.c 1)), (.snoc (.var 3) (.rcons (.cell (.var 0) (.var 1) 0) (.rcons (.cell (.var 0) (.var 1) 1) .rnil))), (.bc false), (.snoc (.var 5) (.rcons (.c 0) .rnil)), (.bc false)])) (
       .leaf .stuck)) (
      .leaf .stuck)) (
     .leaf .stuck)))
def t4 : List (Tr Plf) := [t4p0, t4p1, t4p2]
def t5p0 : Tr Plf :=
  .split (.eql (.lenL (.var 4)) (.lenL (.var 2))) (
   .leaf (.next 1 [(.var 4), (.c 0), (.var 0), (.var 2), (.var 1), (.var 3)])) (
   .leaf (.done 0 [(.var 0), (.var 1), (.var 2), (.var 3), (.c 2)]))
def t5p1 : Tr Plf :=
  .split (.lss (.var 1) (.lenL (.var 0))) (
   .split (.lss (.var 1) (.c 0)) (
    .leaf .stuck) (
    .split (.lss (.cell (.var 0) (.var 1) 0) (.c 0)) (
     .leaf (.done 0 [(.var 2), (.var 4), (.var 3), (.var 5), (.c 3)])) (
     .split (.lss (.var 1) (.lenL (.var 2))) (
      .split (.lss (.cell (.var 2) (.var 1) 1) (.cell (.var 0) (.var 1) 0)) (
       .leaf (.done 0 [(.var 2), (.var 4), (.var 3), (.var 5), (.c 3)])) (
       .leaf (.next 1 [(.var 0), (.arith .add .i64 (.var 1) (.c 1)), (.var 2), (.var 3), (.var 4), (.var 5)]))) (
      .leaf .stuck)))) (
   .split (.lss (.lenL (.var 0)) (.c 1048576)) (
    .leaf (.done 1 [(.var 2), (.var 4), (.cat .emptyL (.var 0)), (.bc false)])) (
    .leaf .stuck))
def t5 : List (Tr Plf) := [t5p0, t5p1]
def t6p0 : Tr Plf :=
  .leaf (.done 0 [])
def t6 : List (Tr Plf) := [t6p0]
def t7p0 : Tr Plf :=
  .leaf (.done 0 [])
def t7 : List (Tr Plf) := [t7p0]
def t8p0 : Tr Plf :=
  .split (.var 0) (
   .split (.eql (.lenL (.var 3)) (.lenL (.var 1))) (
    .leaf (.next 1 [(.var 3), (.c 0), (.var 0), (.var 1), (.var 2)])) (
    .leaf (.done 0 [(.c 2), (.var 1)]))) (
   .leaf (.done 0 [(.c 1), (.var 1)]))
def t8p1 : Tr Plf :=
  .split (.lss (.var 1) (.lenL (.var 0))) (
   .split (.lss (.var 1) (.c 0)) (
    .leaf .stuck) (
    .split (.lss (.cell (.var 0) (.var 1) 0) (.c 0)) (
     .leaf (.done 0 [(.c 3), (.var 3)])) (
     .split (.lss (.var 1) (.lenL (.var 3))) (
      .split (.lss (.cell (.var 3) (.var 1) 1) (.cell (.var 0) (.var 1) 0)) (
       .leaf (.done 0 [(.c 3), (.var 3)])) (
       .leaf (.next 1 [(.var 0), (.arith .add .i64 (.var 1) (.c 1)), (.var 2), (.var 3), (.var 4)]))) (
      .leaf .stuck)))) (
   .leaf (.next 2 [(.var 0), (.lenL (.var 0)), (.c 0), (.var 2), (.var 3), (.var 4)]))
def t8p2 : Tr Plf :=
  .split (.lss (.var 2) (.var 1)) (
   .split (.lss (.var 2) (.c 0)) (
    .leaf .stuck) (
    .split (.lss (.var 2) (.lenL (.var 0))) (
     .split (.lss (.var 2) (.lenL (.var 4))) (
      .leaf (.next 2 [(.var 0), (.var 1), (.arith .add .i64 (.var 2) (.c 1)), (.var 3), (.upd (.var 4) (.var 2) 2 (.cell (.var 0) (.var 2) 0)), (.var 5)])) (
      .leaf .stuck)) (
     .leaf .stuck))) (
   .leaf (.done 0 [(.c 0), (.var 4)]))
def t8 : List (Tr Plf) := [t8p0, t8p1, t8p2]
def t9p0 : Tr Plf :=
  .split (.var 0) (
   .split (.var 2) (
    .leaf (.done 0 [.nilL, (.bc true)])) (
    .split (.lss (.lenL (.var 1)) (.c 1048576)) (
     .leaf (.done 0 [(.cat .emptyL (.var 1)), (.bc false)])) (
     .leaf .stuck))) (
   .leaf (.done 0 [.nilL, (.bc true)]))
def t9 : List (Tr Plf) := [t9p0]
def t10p0 : Tr Plf :=
  .split (.var 0) (
   .split (.eql (.lenL (.var 3)) (.lenL (.var 1))) (
    .leaf (.next 1 [(.var 3), (.var 4), (.c 0), (.var 0), (.var 1), (.var 2)])) (
    .leaf (.done 0 [(.c 2), (.var 1)]))) (
   .leaf (.done 0 [(.c 1), (.var 1)]))
def t10p1 : Tr Plf :=
  .split (.lss (.var 2) (.lenL (.var 0))) (
   .split (.lss (.var 2) (.c 0)) (
    .leaf .stuck) (
    .split (.lss (.cell (.var 0) (.var 2) 0) (.c 0)) (
     .leaf (.done 0 [(.c 3), (.var 4)])) (
     .split (.lss (.var 2) (.lenL (.var 4))) (
      .split (.lss (.cell (.var 4) (.var 2) 1) (.cell (.var 0) (.var 2) 0)) (
       .leaf (.done 0 [(.c 3), (.var 4)])) (
       .leaf (.next 1 [(.var 0), (.var 1), (.arith .add .i64 (.var 2) (.c 1)), (.var 3), (.var 4), (.var 5)]))) (
      .leaf .stuck)))) (
   .leaf (.next 2 [(.var 0), (.var 1), (.lenL (.var 0)), (.c 0), (.var 3), (.var 4), (.var 5)]))
def t10p2 : Tr Plf :=
  .split (.lss (.var 3) (.var 2)) (
   .split (.lss (.var 3) (.c 0)) (
    .leaf .stuck) (
    .split (.lss (.var 3) (.lenL (.var 0))) (
     .split (.lss (.var 3) (.lenL (.var 5))) (
      .leaf (.next 2 [(.var 0), (.var 1), (.var 2), (.arith .add .i64 (.var 3) (.c 1)), (.var 4), (.upd (.var 5) (.var 3) 2 (.cell (.var 0) (.var 3) 0)), (.var 6)])) (
      .leaf .stuck)) (
     .leaf .stuck))) (
   .leaf (.done 0 [(.c 0), (.var 5)]))
def t10 : List (Tr Plf) := [t10p0, t10p1, t10p2]
def t11p0 : Tr Plf :=
  .leaf (.next 1 [(.var 9), (.var 10), (.c 0), (.var 0), (.var 1), (.var 2), (.var 3), (.var 4), (.var 5), (.var 6), (.var 7), (.var 8)])
def t11p1 : Tr Plf :=
  .split (.lss (.var 2) (.lenL (.var 0))) (
   .split (.lss (.var 2) (.c 0)) (
    .leaf .stuck) (
    .split (.lss (.var 11) (.lenL (.var 3))) (
     .split (.lss (.var 11) (.c 0)) (
      .leaf .stuck) (
      .split (.eqSS (.cell (.var 0) (.var 2) 0) (.cell (.var 3) (.var 11) 0)) (
       .split (.lss (.var 11) (.lenL (.var 8))) (
        .split (.eql (.cell (.var 0) (.var 2) 2) (.cell (.var 8) (.var 11) 0)) (
         .split (.eql (.var 10) (.c 0)) (
          .split (.lss (.arith .add .i64 (.var 11) (.c 1)) (.var 4)) (
           .leaf (.next 1 [(.var 0), (.var 1), (.arith .add .i64 (.var 2) (.c 1)), (.var 3), (.var 4), (.var 5), (.var 6), (.var 7), (.var 8), (.var 9), (.var 10), (.arith .add .i64 (.var 11) (.c 1))])) (
           .leaf (.done 0 [(.arith .add .i64 (.var 11) (.c 1))]))) (
          .leaf (.next 1 [(.var 0), (.var 1), (.arith .add .i64 (.var 2) (.c 1)), (.var 3), (.var 4), (.var 5), (.var 6), (.var 7), (.var 8), (.var 9), (.var 10), (.arith .add .i64 (.var 11) (.c 1))]))) (
         .leaf (.done 1 [(.var 11)]))) (
        .leaf .stuck)) (
       .leaf (.done 1 [(.var 11)])))) (
     .leaf (.done 1 [(.var 11)])))) (
   .leaf (.done 2 [(.var 11)]))
def t11 : List (Tr Plf) := [t11p0, t11p1]
def t12p0 : Tr Plf :=
  .split (.eql (.sel (.app 0 (.rcons (.c 0) (.rcons (.var 0) .rnil))) 0) (.c 1)) (
   .split (.sel (.app 0 (.rcons (.c 0) (.rcons (.var 0) .rnil))) 1) (
    .split (.lss (.c 10) (.lenL (.var 1))) (
     .split (.eql (.sel (.app 1 (.rcons (.c 0) .rnil)) 0) (.c 1)) (
      .leaf (.done 0 [(.bc true)])) (
      .leaf .stuck)) (
     .split (.eql (.sel (.app 3 (.rcons (.c 0) (.rcons (.var 0) .rnil))) 0) (.c 1)) (
      .split (.eql (.sel (.app 4 (.rcons (.c 0) (.rcons (.var 0) .rnil))) 0) (.c 1)) (
       .split (.eql (.c 2) (.sel (.app 4 (.rcons (.c 0) (.rcons (.var 0) .rnil))) 5)) (
        .split (.eql (.sel (.app 4 (.rcons (.c 0) (.rcons (.var 0) .rnil))) 5) (.c 0)) (
         .split (.eql (.sel (.app 5 (.rcons (.c 0) (.rcons (.sel (.app 4 (.rcons (.c 0) (.rcons (.var 0) .rnil))) 1) (.rcons (.sel (.app 4 (.rcons (.c 0) (.rcons (.var 0) .rnil))) 2) (.rcons (.sel (.app 4 (.rcons (.c 0) (.rcons (.var 0) .rnil))) 3) (.rcons (.sel (.app 4 (.rcons (.c 0) (.rcons (.var 0) .rnil))) 4) (.rcons (.var 1) .rnil))))))) 0) (.c 1)) (
          .split (.eql (.sel (.app 6 (.rcons (.c 0) (.rcons (.var 1) .rnil))) 0) (.c 1)) (
           .split (.eql (.c 1) (.sel (.app 5 (.rcons (.c 0) (.rcons (.sel (.app 4 (.rcons (.c 0) (.rcons (.var 0) .rnil))) 1) (.rcons (.sel (.app 4 (.rcons (.c 0) (.rcons (.var 0) .rnil))) 2) (.rcons (.sel (.app 4 (.rcons (.c 0) (.rcons (.var 0) .rnil))) 3) (.rcons (.sel (.app 4 (.rcons (.c 0) (.rcons (.var 0) .rnil))) 4) (.rcons (.var 1) .rnil))))))) 5)) (
            .split (.lss (.lenL (.var 0)) (.c 1048577)) (
             .split (.eql (.sel (.app 7 (.rcons (.c 0) (.rcons (.rep (.lenL (.var 0)) (.rcons (.c 0) .rnil)) (.rcons (.bc false) .rnil)))) 0) (.c 1)) (
              .leaf (.next 1 [(.var 0), (.var 2), (.sel (.app 5 (.rcons (.c 0) (.rcons (.sel (.app 4 (.rcons (.c 0) (.rcons (.var 0) .rnil))) 1) (.rcons (.sel (.app 4 (.rcons (.c 0) (.rcons (.var 0) .rnil))) 2) (.rcons (.sel (.app 4 (.rcons (.c 0) (.rcons (.var 0) .rnil))) 3) (.rcons (.sel (.app 4 (.rcons (.c 0) (.rcons (.var 0) .rnil))) 4) (.rcons (.var 1) .rnil))))))) 1), (.sel (.app 5 (.rcons (.c 0) (.rcons (.sel (.app 4 (.rcons (.c 0) (.rcons (.var 0) .rnil))) 1) (.rcons (.sel (.app 4 (.rcons (.c 0) (.rcons (.var 0) .rnil))) 2) (.rcons (.sel (.app 4 (.rcons (.c 0) (.rcons (.var 0) .rnil))) 3) (.rcons (.sel (.app 4 (.rcons (.c 0) (.rcons (.var 0) .rnil))) 4) (.rcons (.var 1) .rnil))))))) 2), (.sel (.app 5 (.rcons (.c 0) (.rcons (.sel (.app 4 (.rcons (.c 0) (.rcons (.var 0) .rnil))) 1) (.rcons (.sel (.app 4 (.rcons (.c 0) (.rcons (.var 0) .rnil))) 2) (.rcons (.sel (.app 4 (.rcons (.c 0) (.rcons (.var 0) .rnil))) 3) (.rcons (.sel (.app 4 (.rcons (.c 0) (.rcons (.var 0) .rnil))) 4) (.rcons (.var 1) .rnil))))))) 3), (.sel (.app 5 (.rcons (.c 0) (.rcons (.sel (.app 4 (.rcons (.c 0) (.rcons (.var 0) .rnil))) 1) (.rcons (.sel (.app 4 (.rcons (.c 0) (.rcons (.var 0) .rnil))) 2) (.rcons (.sel (.app 4 (.rcons (.c 0) (.rcons (.var 0) .rnil))) 3) (.rcons (.sel (.app 4 (.rcons (.c 0) (.rcons (.var 0) .rnil))) 4) (.rcons (.var 1) .rnil))))))) 4), .nilL, (.bc true)])) (
              .leaf .stuck)) (
             .leaf .stuck)) (
            .leaf (.done 0 [(.bc false)]))) (
           .leaf .stuck)) (
          .split (.eql (.sel (.app 5 (.rcons (.c 0) (.rcons (.sel (.app 4 (.rcons (.c 0) (.rcons (.var 0) .rnil))) 1) (.rcons (.sel (.app 4 (.rcons (.c 0) (.rcons (.var 0) .rnil))) 2) (.rcons (.sel (.app 4 (.rcons (.c 0) (.rcons (.var 0) .rnil))) 3) (.rcons (.sel (.app 4 (.rcons (.c 0) (.rcons (.var 0) .rnil))) 4) (.rcons (.var 1) .rnil))))))) 0) (.c 2)) (
           .split (.eql (.sel (.app 6 (.rcons (.c 0) (.rcons (.var 1) .rnil))) 0) (.c 1)) (
            .leaf (.done 0 [(.bc false)])) (
            .leaf .stuck)) (
           .leaf .stuck))) (
         .split (.eql (.sel (.app 1 (.rcons (.c 0) .rnil)) 0) (.c 1)) (
          .leaf (.done 0 [(.bc true)])) (
          .leaf .stuck))) (
        .leaf (.done 0 [(.bc false)]))) (
       .leaf .stuck)) (
      .split (.eql (.sel (.app 3 (.rcons (.c 0) (.rcons (.var 0) .rnil))) 0) (.c 2)) (
       .split (.eql (.sel (.app 4 (.rcons (.c 0) (.rcons (.var 0) .rnil))) 0) (.c 1)) (
        .split (.eql (.c 0) (.sel (.app 4 (.rcons (.c 0) (.rcons (.var 0) .rnil))) 5)) (
         .split (.eql (.sel (.app 4 (.rcons (.c 0) (.rcons (.var 0) .rnil))) 5) (.c 0)) (
          .split (.eql (.sel (.app 5 (.rcons (.c 0) (.rcons (.sel (.app 4 (.rcons (.c 0) (.rcons (.var 0) .rnil))) 1) (.rcons (.sel (.app 4 (.rcons (.c 0) (.rcons (.var 0) .rnil))) 2) (.rcons (.sel (.app 4 (.rcons (.c 0) (.rcons (.var 0) .rnil))) 3) (.rcons (.sel (.app 4 (.rcons (.c 0) (.rcons (.var 0) .rnil))) 4) (.rcons (.var 1) .rnil))))))) 0) (.c 1)) (
           .split (.eql (.sel (.app 8 (.rcons (.c 0) (.rcons (.bc true) (.rcons (.sel (.app 3 (.rcons (.c 0) (.rcons (.var 0) .rnil))) 1) (.rcons (.sel (.app 3 (.rcons (.c 0) (.rcons (.var 0) .rnil))) 2) (.rcons (.var 1) .rnil)))))) 0) (.c 1)) (
            .split (.eql (.sel (.app 8 (.rcons (.c 0) (.rcons (.bc true) (.rcons (.sel (.app 3 (.rcons (.c 0) (.rcons (.var 0) .rnil))) 1) (.rcons (.sel (.app 3 (.rcons (.c 0) (.rcons (.var 0) .rnil))) 2) (.rcons (.var 1) .rnil)))))) 1) (.sel (.app 5 (.rcons (.c 0) (.rcons (.sel (.app 4 (.rcons (.c 0) (.rcons (.var 0) .rnil))) 1) (.rcons (.sel (.app 4 (.rcons (.c 0) (.rcons (.var 0) .rnil))) 2) (.rcons (.sel (.app 4 (.rcons (.c 0) (.rcons (.var 0) .rnil))) 3) (.rcons (.sel (.app 4 (.rcons (.c 0) (.rcons (.var 0) .rnil))) 4) (.rcons (.var 1) .rnil))))))) 5)) (
             .split (.eql (.lenL (.sel (.app 8 (.rcons (.c 0) (.rcons (.bc true) (.rcons (.sel (.app 3 (.rcons (.c 0) (.rcons (.var 0) .rnil))) 1) (.rcons (.sel (.app 3 (.rcons (.c 0) (.rcons (.var 0) .rnil))) 2) (.rcons (.var 1) .rnil)))))) 2)) (.lenL (.sel (.app 3 (.rcons (.c 0) (.rcons (.var 0) .rnil))) 1))) (
              .split (.eql (.sel (.app 9 (.rcons (.c 0) (.rcons (.bc true) (.rcons (.sel (.app 8 (.rcons (.c 0) (.rcons (.bc true) (.rcons (.sel (.app 3 (.rcons (.c 0) (.rcons (.var 0) .rnil))) 1) (.rcons (.sel (.app 3 (.rcons (.c 0) (.rcons (.var 0) .rnil))) 2) (.rcons (.var 1) .rnil)))))) 2) (.rcons (.sel (.app 3 (.rcons (.c 0) (.rcons (.var 0) .rnil))) 2) .rnil))))) 0) (.c 1)) (
               .split (.lss (.lenL (.var 0)) (.c 1048577)) (
                .split (.eql (.sel (.app 10 (.rcons (.c 0) (.rcons (.bc true) (.rcons (.sel (.app 8 (.rcons (.c 0) (.rcons (.bc true) (.rcons (.sel (.app 3 (.rcons (.c 0) (.rcons (.var 0) .rnil))) 1) (.rcons (.sel (.app 3 (.rcons (.c 0) (.rcons (.var 0) .rnil))) 2) (.rcons (.var 1) .rnil)))))) 2) (.rcons (.sel (.app 3 (.rcons (.c 0) (.rcons (.var 0) .rnil))) 2) (.rcons (.rep (.lenL (.var 0)) (.rcons (.c 0) .rnil)) (.rcons (.bc false) .rnil))))))) 0) (.c 1)) (
                 .leaf (.next 1 [(.var 0), (.var 2), (.sel (.app 5 (.rcons (.c 0) (.rcons (.sel (.app 4 (.rcons (.c 0) (.rcons (.var 0) .rnil))) 1) (.rcons (.sel (.app 4 (.rcons (.c 0) (.rcons (.var 0) .rnil))) 2) (.rcons (.sel (.app 4 (.rcons (.c 0) (.rcons (.var 0) .rnil))) 3) (.rcons (.sel (.app 4 (.rcons (.c 0) (.rcons (.var 0) .rnil))) 4) (.rcons (.var 1) .rnil))))))) 1), (.sel (.app 5 (.rcons (.c 0) (.rcons (.sel (.app 4 (.rcons (.c 0) (.rcons (.var 0) .rnil))) 1) (.rcons (.sel (.app 4 (.rcons (.c 0) (.rcons (.var 0) .rnil))) 2) (.rcons (.sel (.app 4 (.rcons (.c 0) (.rcons (.var 0) .rnil))) 3) (.rcons (.sel (.app 4 (.rcons (.c 0) (.rcons (.var 0) .rnil))) 4) (.rcons (.var 1) .rnil))))))) 2), (.sel (.app 5 (.rcons (.c 0) (.rcons (.sel (.app 4 (.rcons (.c 0) (.rcons (.var 0) .rnil))) 1) (.rcons (.sel (.app 4 (.rcons (.c 0) (.rcons (.var 0) .rnil))) 2) (.rcons (.sel (.app 4 (.rcons (.c 0) (.rcons (.var 0) .rnil))) 3) (.rcons (.sel (.app 4 (.rcons (.c 0) (.rcons (.var 0) .rnil))) 4) (.rcons (.var 1) .rnil))))))) 3), (.sel (.app 5 (.rcons (.c 0) (.rcons (.sel (.app 4 (.rcons (.c 0) (.rcons (.var 0) .rnil))) 1) (.rcons (.sel (.app 4 (.rcons (.c 0) (.rcons (.var 0) .rnil))) 2) (.rcons (.sel (.app 4 (.rcons (.c 0) (.rcons (.var 0) .rnil))) 3) (.rcons (.sel (.app 4 (.rcons (.c 0) (.rcons (.var 0) .rnil))) 4) (.rcons (.var 1) .rnil))))))) 4), (.sel (.app 9 (.rcons (.c 0) (.rcons (.bc true) (.rcons (.sel (.app 8 (.rcons (.c 0) (.rcons (.bc true) (.rcons (.sel (.app 3 (.rcons (.c 0) (.rcons (.var 0) .rnil))) 1) (.rcons (.sel (.app 3 (.rcons (.c 0) (.rcons (.var 0) .rnil))) 2) (.rcons (.var 1) .rnil)))))) 2) (.rcons (.sel (.app 3 (.rcons (.c 0) (.rcons (.var 0) .rnil))) 2) .rnil))))) 1), (.sel (.app 9 (.rcons (.c 0) (.rcons (.bc true) (.rcons (.sel (.app 8 (.rcons (.c 0) (.rcons (.bc true) (.rcons (.sel (.app 3 (.rcons (.c 0) (.rcons (.var 0) .rnil))) 1) (.rcons (.sel (.app 3 (.rcons (.c 0) (.rcons (.var 0) .rnil))) 2) (.rcons (.var 1) .rnil)))))) 2) (.rcons (.sel (.app 3 (.rcons (.c 0) (.rcons (.var 0) .rnil))) 2) .rnil))))) 2)])) (
                 .leaf .stuck)) (
                .leaf .stuck)) (
               .leaf .stuck)) (
              .leaf .stuck)) (
             .leaf (.done 0 [(.bc false)]))) (
            .leaf .stuck)) (
           .split (.eql (.sel (.app 5 (.rcons (.c 0) (.rcons (.sel (.app 4 (.rcons (.c 0) (.rcons (.var 0) .rnil))) 1) (.rcons (.sel (.app 4 (.rcons (.c 0) (.rcons (.var 0) .rnil))) 2) (.rcons (.sel (.app 4 (.rcons (.c 0) (.rcons (.var 0) .rnil))) 3) (.rcons (.sel (.app 4 (.rcons (.c 0) (.rcons (.var 0) .rnil))) 4) (.rcons (.var 1) .rnil))))))) 0) (.c 2)) (
            .split (.eql (.sel (.app 8 (.rcons (.c 0) (.rcons (.bc true) (.rcons (.sel (.app 3 (.rcons (.c 0) (.rcons (.var 0) .rnil))) 1) (.rcons (.sel (.app 3 (.rcons (.c 0) (.rcons (.var 0) .rnil))) 2) (.rcons (.var 1) .rnil)))))) 0) (.c 1)) (
             .split (.eql (.sel (.app 8 (.rcons (.c 0) (.rcons (.bc true) (.rcons (.sel (.app 3 (.rcons (.c 0) (.rcons (.var 0) .rnil))) 1) (.rcons (.sel (.app 3 (.rcons (.c 0) (.rcons (.var 0) .rnil))) 2) (.rcons (.var 1) .rnil)))))) 1) (.c 0)) (
              .split (.eql (.lenL (.sel (.app 8 (.rcons (.c 0) (.rcons (.bc true) (.rcons (.sel (.app 3 (.rcons (.c 0) (.rcons (.var 0) .rnil))) 1) (.rcons (.sel (.app 3 (.rcons (.c 0) (.rcons (.var 0) .rnil))) 2) (.rcons (.var 1) .rnil)))))) 2)) (.lenL (.sel (.app 3 (.rcons (.c 0) (.rcons (.var 0) .rnil))) 1))) (
               .split (.eql (.sel (.app 9 (.rcons (.c 0) (.rcons (.bc true) (.rcons (.sel (.app 8 (.rcons (.c 0) (.rcons (.bc true) (.rcons (.sel (.app 3 (.rcons (.c 0) (.rcons (.var 0) .rnil))) 1) (.rcons (.sel (.app 3 (.rcons (.c 0) (.rcons (.var 0) .rnil))) 2) (.rcons (.var 1) .rnil)))))) 2) (.rcons (.sel (.app 3 (.rcons (.c 0) (.rcons (.var 0) .rnil))) 2) .rnil))))) 0) (.c 1)) (
                .split (.lss (.lenL (.var 0)) (.c 1048577)) (
                 .split (.eql (.sel (.app 10 (.rcons (.c 0) (.rcons (.bc true) (.rcons (.sel (.app 8 (.rcons (.c 0) (.rcons (.bc true) (.rcons (.sel (.app 3 (.rcons (.c 0) (.rcons (.var 0) .rnil))) 1) (.rcons (.sel (.app 3 (.rcons (.c 0) (.rcons (.var 0) .rnil))) 2) (.rcons (.var 1) .rnil)))))) 2) (.rcons (.sel (.app 3 (.rcons (.c 0) (.rcons (.var 0) .rnil))) 2) (.rcons (.rep (.lenL (.var 0)) (.rcons (.c 0) .rnil)) (.rcons (.bc false) .rnil))))))) 0) (.c 1)) (
                  .leaf (.next 1 [(.var 0), (.var 2), (.sel (.app 5 (.rcons (.c 0) (.rcons (.sel (.app 4 (.rcons (.c 0) (.rcons (.var 0) .rnil))) 1) (.rcons (.sel (.app 4 (.rcons (.c 0) (.rcons (.var 0) .rnil))) 2) (.rcons (.sel (.app 4 (.rcons (.c 0) (.rcons (.var 0) .rnil))) 3) (.rcons (.sel (.app 4 (.rcons (.c 0) (.rcons (.var 0) .rnil))) 4) (.rcons (.var 1) .rnil))))))) 1), (.sel (.app 5 (.rcons (.c 0) (.rcons (.sel (.app 4 (.rcons (.c 0) (.rcons (.var 0) .rnil))) 1) (.rcons (.sel (.app 4 (.rcons (.c 0) (.rcons (.var 0) .rnil))) 2) (.rcons (.sel (.app 4 (.rcons (.c 0) (.rcons (.var 0) .rnil))) 3) (.rcons (.sel (.app 4 (.rcons (.c 0) (.rcons (.var 0) .rnil))) 4) (.rcons (.var 1) .rnil))))))) 2), (.sel (.app 5 (.rcons (.c 0) (.rcons (.sel (.app 4 (.rcons (.c 0) (.rcons (.var 0) .rnil))) 1) (.rcons (.sel (.app 4 (.rcons (.c 0) (.rcons (.var 0) .rnil))) 2) (.rcons (.sel (.app 4 (.rcons (.c 0) (.rcons (.var 0) .rnil))) 3) (.rcons (.sel (.app 4 (.rcons (.c 0) (.rcons (.var 0) .rnil))) 4) (.rcons (.var 1) .rnil))))))) 3), (.sel (.app 5 (.rcons (.c 0) (.rcons (.sel (.app 4 (.rcons (.c 0) (.rcons (.var 0) .rnil))) 1) (.rcons (.sel (.app 4 (.rcons (.c 0) (.rcons (.var 0) .rnil))) 2) (.rcons (.sel (.app 4 (.rcons (.c 0) (.rcons (.var 0) .rnil))) 3) (.rcons (.sel (.app 4 (.rcons (.c 0) (.rcons (.var 0) .rnil))) 4) (.rcons (.var 1) .rnil))))))) 4), (.sel (.app 9 (.rcons (.c 0) (.rcons (.bc true) (.rcons (.sel (.app 8 (.rcons (.c 0) (.rcons (.bc true) (.rcons (.sel (.app 3 (.rcons (.c 0) (.rcons (.var 0) .rnil))) 1) (.rcons (.sel (.app 3 (.rcons (.c 0) (.rcons (.var 0) .rnil))) 2) (.rcons (.var 1) .rnil)))))) 2) (.rcons (.sel (.app 3 (.rcons (.c 0) (.rcons (.var 0) .rnil))) 2) .rnil))))) 1), (.sel (.app 9 (.rcons (.c 0) (.rcons (.bc true) (.rcons (.sel (.app 8 (.rcons (.c 0) (.rcons (.bc true) (.rcons (.sel (.app 3 (.rcons (.c 0) (.rcons (.var 0) .rnil))) 1) (.rcons (.sel (.app 3 (.rcons (.c 0) (.rcons (.var 0) .rnil))) 2) (.rcons (.var 1) .rnil)))))) 2) (.rcons (.sel (.app 3 (.rcons (.c 0) (.rcons (.var 0) .rnil))) 2) .rnil))))) 2)])) (
                  .leaf .stuck)) (
                 .leaf .stuck)) (
                .leaf .stuck)) (
               .leaf .stuck)) (
              .leaf (.done 0 [(.bc false)]))) (
             .leaf .stuck)) (
            .leaf .stuck))) (
          .split (.eql (.sel (.app 1 (.rcons (.c 0) .rnil)) 0) (.c 1)) (
           .leaf (.done 0 [(.bc true)])) (
           .leaf .stuck))) (
         .leaf (.done 0 [(.bc false)]))) (
        .leaf .stuck)) (
       .leaf .stuck)))) (
    .split (.eql (.sel (.app 1 (.rcons (.c 0) .rnil)) 0) (.c 1)) (
     .leaf (.done 0 [(.bc true)])) (
     .leaf .stuck))) (
   .leaf .stuck)
def t12p1 : Tr Plf :=
  .split (.eql (.sel (.app 11 (.rcons (.c 0) (.rcons (.var 0) (.rcons (.var 1) (.rcons (.bc false) (.rcons (.var 2) (.rcons (.var 3) (.rcons (.var 4) (.rcons (.var 5) (.rcons (.c 0) (.rcons (.c 0) (.rcons (.var 6) (.rcons (.var 7) .rnil))))))))))))) 0) (.c 1)) (
   .split (.lss (.c 1) (.var 1)) (
    .split (.lss (.var 1) (.lenL (.var 0))) (
     .split (.eql (.sel (.app 11 (.rcons (.c 0) (.rcons (.var 0) (.rcons (.var 1) (.rcons (.bc false) (.rcons (.var 2) (.rcons (.var 3) (.rcons (.var 4) (.rcons (.var 5) (.rcons (.c 0) (.rcons (.c 0) (.rcons (.var 6) (.rcons (.var 7) .rnil))))))))))))) 1) (.var 1)) (
      .leaf (.next 2 [(.var 0), (.var 1), (.var 2), (.var 3), (.var 4), (.var 5), (.var 6), (.var 7)])) (
      .leaf (.done 0 [(.bc false)]))) (
     .split (.eql (.sel (.app 11 (.rcons (.c 0) (.rcons (.var 0) (.rcons (.var 1) (.rcons (.bc false) (.rcons (.var 2) (.rcons (.var 3) (.rcons (.var 4) (.rcons (.var 5) (.rcons (.c 0) (.rcons (.c 0) (.rcons (.var 6) (.rcons (.var 7) .rnil))))))))))))) 1) (.lenL (.var 0))) (
      .leaf (.next 2 [(.var 0), (.var 1), (.var 2), (.var 3), (.var 4), (.var 5), (.var 6), (.var 7)])) (
      .leaf (.done 0 [(.bc false)])))) (
    .split (.lss (.c 1) (.lenL (.var 0))) (
     .split (.eql (.sel (.app 11 (.rcons (.c 0) (.rcons (.var 0) (.rcons (.var 1) (.rcons (.bc false) (.rcons (.var 2) (.rcons (.var 3) (.rcons (.var 4) (.rcons (.var 5) (.rcons (.c 0) (.rcons (.c 0) (.rcons (.var 6) (.rcons (.var 7) .rnil))))))))))))) 1) (.c 1)) (
      .leaf (.next 2 [(.var 0), (.var 1), (.var 2), (.var 3), (.var 4), (.var 5), (.var 6), (.var 7)])) (
      .leaf (.done 0 [(.bc false)]))) (
     .split (.eql (.sel (.app 11 (.rcons (.c 0) (.rcons (.var 0) (.rcons (.var 1) (.rcons (.bc false) (.rcons (.var 2) (.rcons (.var 3) (.rcons (.var 4) (.rcons (.var 5) (.rcons (.c 0) (.rcons (.c 0) (.rcons (.var 6) (.rcons (.var 7) .rnil))))))))))))) 1) (.lenL (.var 0))) (
      .leaf (.next 2 [(.var 0), (.var 1), (.var 2), (.var 3), (.var 4), (.var 5), (.var 6), (.var 7)])) (
      .leaf (.done 0 [(.bc false)]))))) (
   .split (.eql (.sel (.app 11 (.rcons (.c 0) (.rcons (.var 0) (.rcons (.var 1) (.rcons (.bc false) (.rcons (.var 2) (.rcons (.var 3) (.rcons (.var 4) (.rcons (.var 5) (.rcons (.c 0) (.rcons (.c 0) (.rcons (.var 6) (.rcons (.var 7) .rnil))))))))))))) 0) (.c 2)) (
    .leaf (.done 0 [(.bc false)])) (
    .split (.eql (.sel (.app 11 (.rcons (.c 0) (.rcons (.var 0) (.rcons (.var 1) (.rcons (.bc false) (.rcons (.var 2) (.rcons (.var 3) (.rcons (.var 4) (.rcons (.var 5) (.rcons (.c 0) (.rcons (.c 0) (.rcons (.var 6) (.rcons (.var 7) .rnil))))))))))))) 0) (.c 3)) (
     .split (.lss (.c 1) (.var 1)) (
      .split (.lss (.var 1) (.lenL (.var 0))) (
       .split (.eql (.sel (.app 11 (.rcons (.c 0) (.rcons (.var 0) (.rcons (.var 1) (.rcons (.bc false) (.rcons (.var 2) (.rcons (.var 3) (.rcons (.var 4) (.rcons (.var 5) (.rcons (.c 0) (.rcons (.c 0) (.rcons (.var 6) (.rcons (.var 7) .rnil))))))))))))) 1) (.var 1)) (
        .leaf (.next 2 [(.var 0), (.var 1), (.var 2), (.var 3), (.var 4), (.var 5), (.var 6), (.var 7)])) (
        .leaf (.done 0 [(.bc false)]))) (
       .split (.eql (.sel (.app 11 (.rcons (.c 0) (.rcons (.var 0) (.rcons (.var 1) (.rcons (.bc false) (.rcons (.var 2) (.rcons (.var 3) (.rcons (.var 4) (.rcons (.var 5) (.rcons (.c 0) (.rcons (.c 0) (.rcons (.var 6) (.rcons (.var 7) .rnil))))))))))))) 1) (.lenL (.var 0))) (
        .leaf (.next 2 [(.var 0), (.var 1), (.var 2), (.var 3), (.var 4), (.var 5), (.var 6), (.var 7)])) (
        .leaf (.done 0 [(.bc false)])))) (
      .split (.lss (.c 1) (.lenL (.var 0))) (
       .split (.eql (.sel (.app 11 (.rcons (.c 0) (.rcons (.var 0) (.rcons (.var 1) (.rcons (.bc false) (.rcons (.var 2) (.rcons (.var 3) (.rcons (.var 4) (.rcons (.var 5) (.rcons (.c 0) (.rcons (.c 0) (.rcons (.var 6) (.rcons (.var 7) .rnil))))))))))))) 1) (.c 1)) (
        .leaf (.next 2 [(.var 0), (.var 1), (.var 2), (.var 3), (.var 4), (.var 5), (.var 6), (.var 7)])) (
        .leaf (.done 0 [(.bc false)]))) (
       .split (.eql (.sel (.app 11 (.rcons (.c 0) (.rcons (.var 0) (.rcons (.var 1) (.rcons (.bc false) (.rcons (.var 2) (.rcons (.var 3) (.rcons (.var 4) (.rcons (.var 5) (.rcons (.c 0) (.rcons (.c 0) (.rcons (.var 6) (.rcons (.var 7) .rnil))))))))))))) 1) (.lenL (.var 0))) (
        .leaf (.next 2 [(.var 0), (.var 1), (.var 2), (.var 3), (.var 4), (.var 5), (.var 6), (.var 7)])) (
        .leaf (.done 0 [(.bc false)]))))) (
     .leaf .stuck)))
def t12p2 : Tr Plf :=
  .split (.eql (.sel (.app 11 (.rcons (.c 0) (.rcons (.var 0) (.rcons (.var 1) (.rcons (.bc false) (.rcons (.var 2) (.rcons (.var 3) (.rcons (.var 4) (.rcons (.var 5) (.rcons (.c 1) (.rcons (.c 0) (.rcons (.var 6) (.rcons (.var 7) .rnil))))))))))))) 0) (.c 1)) (
   .split (.eql (.sel (.app 11 (.rcons (.c 0) (.rcons (.var 0) (.rcons (.var 1) (.rcons (.bc false) (.rcons (.var 2) (.rcons (.var 3) (.rcons (.var 4) (.rcons (.var 5) (.rcons (.c 1) (.rcons (.c 0) (.rcons (.var 6) (.rcons (.var 7) .rnil))))))))))))) 1) (.lenL (.var 0))) (
    .leaf (.next 3 [(.var 0), (.var 1), (.var 2), (.var 3), (.var 4), (.var 5), (.var 6), (.var 7)])) (
    .leaf (.done 0 [(.bc false)]))) (
   .split (.eql (.sel (.app 11 (.rcons (.c 0) (.rcons (.var 0) (.rcons (.var 1) (.rcons (.bc false) (.rcons (.var 2) (.rcons (.var 3) (.rcons (.var 4) (.rcons (.var 5) (.rcons (.c 1) (.rcons (.c 0) (.rcons (.var 6) (.rcons (.var 7) .rnil))))))))))))) 0) (.c 2)) (
    .leaf (.done 0 [(.bc false)])) (
    .split (.eql (.sel (.app 11 (.rcons (.c 0) (.rcons (.var 0) (.rcons (.var 1) (.rcons (.bc false) (.rcons (.var 2) (.rcons (.var 3) (.rcons (.var 4) (.rcons (.var 5) (.rcons (.c 1) (.rcons (.c 0) (.rcons (.var 6) (.rcons (.var 7) .rnil))))))))))))) 0) (.c 3)) (
     .split (.eql (.sel (.app 11 (.rcons (.c 0) (.rcons (.var 0) (.rcons (.var 1) (.rcons (.bc false) (.rcons (.var 2) (.rcons (.var 3) (.rcons (.var 4) (.rcons (.var 5) (.rcons (.c 1) (.rcons (.c 0) (.rcons (.var 6) (.rcons (.var 7) .rnil))))))))))))) 1) (.lenL (.var 0))) (
      .leaf (.next 3 [(.var 0), (.var 1), (.var 2), (.var 3), (.var 4), (.var 5), (.var 6), (.var 7)])) (
      .leaf (.done 0 [(.bc false)]))) (
     .leaf .stuck)))
def t12p3 : Tr Plf :=
  .split (.eql (.sel (.app 1 (.rcons (.c 0) .rnil)) 0) (.c 1)) (
   .leaf (.done 0 [(.bc true)])) (
   .leaf .stuck)
def t12 : List (Tr Plf) := [t12p0, t12p1, t12p2, t12p3]
def ts : List (List (Tr Plf)) := [t0, t1, t2, t3, t4, t5, t6, t7, t8, t9, t10, t11, t12]
end Go.CL
