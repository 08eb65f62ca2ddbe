/-
  The abstract code of the functions, by program (AbPrint): each is what the model's code resolves to.
-/
import Derived.Test.YtoddiifgfjibfaaProg
import Derived.Test.YtoddiifgfjibfaaAb22
import Derived.KernelRfl
namespace Go.Proofs.Ytoddiifgfjibfaa
open Go Go.Ab
/- retrospect/retrospectlaw43.KeepMarks -/
def a3 : AF :=
 ⟨2, 54, [.t 4],
 (.seq
  (.reg [⟨(some 4), none, .mov (.c (.b false))⟩])
  (.seq
   (.reg [⟨(some 10), none, .mov (.t 0)⟩,
     ⟨(some 11), none, .mov (.t 1)⟩,
     ⟨(some 12), none, .call 5 [(.t 10), (.t 11)]⟩,
     ⟨(some 5), none, .mov (.t 12)⟩])
   (.seq
    (.reg [⟨(some 13), none, .mov (.t 0)⟩,
      ⟨(some 14), none, .mov (.t 1)⟩,
      ⟨(some 15), none, .call 6 [(.t 13), (.t 14)]⟩,
      ⟨(some 6), none, .mov (.t 15)⟩])
    (.seq
     (.seq
      (.reg [⟨(some 16), none, .mov (.t 0)⟩,
        ⟨(some 17), none, .mov (.t 1)⟩,
        ⟨(some 18), none, .call 8 [(.t 16), (.t 17)]⟩,
        ⟨(some 19), none, .mov (.t 5)⟩,
        ⟨(some 20), none, .call 7 [(.t 18), (.t 19)]⟩,
        ⟨(some 21), none, .un .not (.t 20)⟩,
        ⟨(some 22), none, .mov (.t 21)⟩,
        ⟨(some 23), (some (22, false)), .mov (.t 6)⟩,
        ⟨(some 24), (some (22, false)), .len (.t 23)⟩,
        ⟨(some 25), (some (22, false)), .mov (.t 5)⟩,
        ⟨(some 26), (some (22, false)), .len (.t 25)⟩,
        ⟨(some 27), (some (22, false)), .bin .neq (.t 24) (.t 26)⟩,
        ⟨(some 28), none, .pick (.t 22) (.c (.b true)) (.t 27)⟩])
      (.cond (.t 28)
       (.seq
        (.reg [⟨(some 4), none, .mov (.c (.b false))⟩])
        .ret)
       .skip))
     (.seq
      (.reg [⟨(some 29), none, .mov (.t 0)⟩,
        ⟨(some 7), none, .mov (.t 29)⟩])
      (.seq
       (.seq
        (.reg [⟨(some 8), none, .mov (.c (.i .i64 0))⟩])
        (.block 0
         (.loop
          (.seq
           (.seq
            (.reg [⟨(some 30), none, .mov (.t 8)⟩,
              ⟨(some 31), none, .mov (.t 6)⟩,
              ⟨(some 32), none, .len (.t 31)⟩,
              ⟨(some 33), none, .bin .lss (.t 30) (.t 32)⟩])
            (.cond (.t 33)
             .skip
             (.exit 0)))
           (.seq
            (.block 1
             (.seq
              (.reg [⟨(some 36), none, .mov (.t 5)⟩,
                ⟨(some 37), none, .mov (.t 5)⟩,
                ⟨(some 38), none, .len (.t 37)⟩,
                ⟨(some 39), none, .bin .sub (.t 38) (.c (.i .i64 1))⟩,
                ⟨(some 40), none, .mov (.t 8)⟩,
                ⟨(some 41), none, .bin .sub (.t 39) (.t 40)⟩,
                ⟨(some 42), none, .iad 1 (.t 36) (.t 41)⟩,
                ⟨(some 43), none, .load none (.t 42)⟩,
                ⟨(some 9), none, .mov (.t 43)⟩])
              (.seq
               (.seq
                (.reg [⟨(some 44), none, .mov (.t 6)⟩,
                  ⟨(some 45), none, .mov (.t 8)⟩,
                  ⟨(some 46), none, .iad 2 (.t 44) (.t 45)⟩,
                  ⟨(some 47), none, .load (some 2) (.t 46)⟩,
                  ⟨(some 48), none, .mov (.t 9)⟩,
                  ⟨(some 49), none, .mov (.t 7)⟩,
                  ⟨(some 50), none, .build [(.i .i64 0), (.i .i64 0)] [(0, 1, (.t 48)), (1, 1, (.t 49))]⟩,
                  ⟨(some 51), none, .eqs true [(0, .int), (1, .int)] (.t 47) (.t 50)⟩])
                (.cond (.t 51)
                 (.seq
                  (.reg [⟨(some 4), none, .mov (.c (.b false))⟩])
                  .ret)
                 .skip))
               (.reg [⟨(some 52), none, .mov (.t 9)⟩,
                 ⟨(some 7), none, .mov (.t 52)⟩]))))
            (.reg [⟨(some 34), none, .mov (.t 8)⟩,
              ⟨(some 35), none, .bin .add (.t 34) (.c (.i .i64 1))⟩,
              ⟨(some 8), none, .mov (.t 35)⟩]))))))
       (.seq
        (.reg [⟨(some 53), none, .call 9 []⟩,
          ⟨(some 4), none, .mov (.t 53)⟩])
        .ret)))))))⟩

/- retrospect/retrospectlaw43.KeepPiles -/
def a4 : AF :=
 ⟨1, 138, [.t 2],
 (.seq
  (.reg [⟨(some 2), none, .mov (.c (.b false))⟩])
  (.seq
   (.seq
    (.reg [⟨(some 8), none, .mov (.t 0)⟩,
      ⟨(some 9), none, .len (.t 8)⟩,
      ⟨(some 10), none, .bin .gtr (.t 9) (.c (.i .i64 60))⟩])
    (.cond (.t 10)
     (.seq
      (.reg [⟨(some 11), none, .call 9 []⟩,
        ⟨(some 2), none, .mov (.t 11)⟩])
      .ret)
     .skip))
   (.seq
    (.reg [⟨(some 3), none, .alloc [(.sl [] .nl)]⟩])
    (.seq
     (.reg [⟨(some 4), none, .mov (.c (.sl [] .nl))⟩])
     (.seq
      (.seq
       (.reg [⟨(some 5), none, .mov (.c (.i .i64 0))⟩])
       (.block 0
        (.loop
         (.seq
          (.seq
           (.reg [⟨(some 12), none, .mov (.t 5)⟩,
             ⟨(some 13), none, .mov (.t 0)⟩,
             ⟨(some 14), none, .len (.t 13)⟩,
             ⟨(some 15), none, .bin .lss (.t 12) (.t 14)⟩])
           (.cond (.t 15)
            .skip
            (.exit 0)))
          (.seq
           (.block 1
            (.seq
             (.seq
              (.reg [⟨(some 18), none, .mov (.t 0)⟩,
                ⟨(some 19), none, .mov (.t 5)⟩,
                ⟨(some 20), none, .iad 2 (.t 18) (.t 19)⟩,
                ⟨(some 21), none, .fad 1 (.t 20)⟩,
                ⟨(some 22), none, .load none (.t 21)⟩,
                ⟨(some 23), none, .len (.t 22)⟩,
                ⟨(some 24), none, .bin .gtr (.t 23) (.c (.i .i64 20))⟩])
              (.cond (.t 24)
               (.seq
                (.reg [⟨(some 25), none, .call 9 []⟩,
                  ⟨(some 2), none, .mov (.t 25)⟩])
                .ret)
               .skip))
             (.seq
              (.reg [⟨(some 6), none, .mov (.c (.i .i64 0))⟩])
              (.seq
               (.reg [⟨(some 7), none, .mov (.c (.b false))⟩])
               (.seq
                (.seq
                 (.reg [⟨(some 26), none, .mov (.t 0)⟩,
                   ⟨(some 27), none, .mov (.t 5)⟩,
                   ⟨(some 28), none, .iad 2 (.t 26) (.t 27)⟩,
                   ⟨(some 29), none, .fad 0 (.t 28)⟩,
                   ⟨(some 30), none, .load none (.t 29)⟩,
                   ⟨(some 31), none, .bin .eql (.t 30) (.c (.i .i64 2))⟩,
                   ⟨(some 32), none, .mov (.t 31)⟩,
                   ⟨(some 33), (some (32, false)), .mov (.t 0)⟩,
                   ⟨(some 34), (some (32, false)), .mov (.t 5)⟩,
                   ⟨(some 35), (some (32, false)), .iad 2 (.t 33) (.t 34)⟩,
                   ⟨(some 36), (some (32, false)), .fad 0 (.t 35)⟩,
                   ⟨(some 37), (some (32, false)), .load none (.t 36)⟩,
                   ⟨(some 38), (some (32, false)), .bin .eql (.t 37) (.c (.i .i64 3))⟩,
                   ⟨(some 39), none, .pick (.t 32) (.c (.b true)) (.t 38)⟩])
                 (.cond (.t 39)
                  (.reg [⟨(some 41), none, .call 10 [(.t 3)]⟩,
                    ⟨(some 40), none, .mov (.t 41)⟩,
                    ⟨(some 42), none, .ext (.t 40) 0⟩,
                    ⟨(some 43), none, .ext (.t 40) 1⟩,
                    ⟨(some 6), none, .mov (.t 42)⟩,
                    ⟨(some 7), none, .mov (.t 43)⟩])
                  (.seq
                   (.reg [⟨(some 44), none, .mov (.t 0)⟩,
                     ⟨(some 45), none, .mov (.t 5)⟩,
                     ⟨(some 46), none, .iad 2 (.t 44) (.t 45)⟩,
                     ⟨(some 47), none, .fad 0 (.t 46)⟩,
                     ⟨(some 48), none, .load none (.t 47)⟩,
                     ⟨(some 49), none, .bin .eql (.t 48) (.c (.i .i64 4))⟩])
                   (.cond (.t 49)
                    (.reg [⟨(some 51), none, .call 11 [(.t 3)]⟩,
                      ⟨(some 50), none, .mov (.t 51)⟩,
                      ⟨(some 52), none, .ext (.t 50) 0⟩,
                      ⟨(some 53), none, .ext (.t 50) 1⟩,
                      ⟨(some 6), none, .mov (.t 52)⟩,
                      ⟨(some 7), none, .mov (.t 53)⟩])
                    (.seq
                     (.reg [⟨(some 54), none, .mov (.t 0)⟩,
                       ⟨(some 55), none, .mov (.t 5)⟩,
                       ⟨(some 56), none, .iad 2 (.t 54) (.t 55)⟩,
                       ⟨(some 57), none, .fad 1 (.t 56)⟩,
                       ⟨(some 58), none, .load none (.t 57)⟩,
                       ⟨(some 59), none, .call 12 [(.t 3), (.t 58)]⟩])
                     (.seq
                      (.draw [⟨⟨(some 60), none, .bsl 1 [(.i .i64 0)] 0 []⟩, 0⟩,
                        ⟨⟨(some 61), none, .mov (.t 4)⟩, 0⟩,
                        ⟨⟨(some 62), none, .app 1 (.t 60) (.t 61)⟩, 0⟩,
                        ⟨⟨(some 63), none, .mov (.t 0)⟩, 0⟩,
                        ⟨⟨(some 64), none, .mov (.t 5)⟩, 0⟩,
                        ⟨⟨(some 65), none, .iad 2 (.t 63) (.t 64)⟩, 0⟩,
                        ⟨⟨(some 66), none, .fad 1 (.t 65)⟩, 0⟩,
                        ⟨⟨(some 67), none, .load none (.t 66)⟩, 0⟩,
                        ⟨⟨(some 68), none, .app 1 (.t 62) (.t 67)⟩, 1⟩,
                        ⟨⟨(some 4), none, .mov (.t 68)⟩, 2⟩])
                      (.seq
                       (.reg [⟨(some 69), none, .mov (.t 4)⟩,
                         ⟨(some 70), none, .len (.t 69)⟩,
                         ⟨(some 71), none, .bin .gtr (.t 70) (.c (.i .i64 0))⟩,
                         ⟨(some 7), none, .mov (.t 71)⟩])
                       (.seq
                        (.reg [⟨(some 72), none, .mov (.t 7)⟩])
                        (.cond (.t 72)
                         (.reg [⟨(some 73), none, .mov (.t 4)⟩,
                           ⟨(some 74), none, .mov (.t 4)⟩,
                           ⟨(some 75), none, .len (.t 74)⟩,
                           ⟨(some 76), none, .bin .sub (.t 75) (.c (.i .i64 1))⟩,
                           ⟨(some 77), none, .iad 1 (.t 73) (.t 76)⟩,
                           ⟨(some 78), none, .load none (.t 77)⟩,
                           ⟨(some 6), none, .mov (.t 78)⟩])
                         .skip)))))))))
                (.seq
                 (.seq
                  (.reg [⟨(some 79), none, .mov (.t 7)⟩,
                    ⟨(some 80), none, .mov (.t 4)⟩,
                    ⟨(some 81), none, .len (.t 80)⟩,
                    ⟨(some 82), none, .bin .gtr (.t 81) (.c (.i .i64 0))⟩,
                    ⟨(some 83), none, .eqb true (.t 79) (.t 82)⟩,
                    ⟨(some 84), none, .mov (.t 83)⟩,
                    ⟨(some 85), (some (84, false)), .mov (.t 7)⟩,
                    ⟨(some 86), (some (84, false)), .mov (.t 85)⟩,
                    ⟨(some 87), (some (86, true)), .mov (.t 6)⟩,
                    ⟨(some 88), (some (86, true)), .mov (.t 4)⟩,
                    ⟨(some 89), (some (86, true)), .mov (.t 4)⟩,
                    ⟨(some 90), (some (86, true)), .len (.t 89)⟩,
                    ⟨(some 91), (some (86, true)), .bin .sub (.t 90) (.c (.i .i64 1))⟩,
                    ⟨(some 92), (some (86, true)), .iad 1 (.t 88) (.t 91)⟩,
                    ⟨(some 93), (some (86, true)), .load none (.t 92)⟩,
                    ⟨(some 94), (some (86, true)), .bin .neq (.t 87) (.t 93)⟩,
                    ⟨(some 95), (some (84, false)), .pick (.t 86) (.t 94) (.c (.b false))⟩,
                    ⟨(some 96), none, .pick (.t 84) (.c (.b true)) (.t 95)⟩,
                    ⟨(some 97), none, .mov (.t 96)⟩,
                    ⟨(some 98), (some (97, false)), .mov (.t 7)⟩,
                    ⟨(some 99), (some (97, false)), .un .not (.t 98)⟩,
                    ⟨(some 100), (some (97, false)), .mov (.t 99)⟩,
                    ⟨(some 101), (some (100, true)), .mov (.t 6)⟩,
                    ⟨(some 102), (some (100, true)), .bin .neq (.t 101) (.c (.i .i64 0))⟩,
                    ⟨(some 103), (some (97, false)), .pick (.t 100) (.t 102) (.c (.b false))⟩,
                    ⟨(some 104), none, .pick (.t 97) (.c (.b true)) (.t 103)⟩])
                  (.cond (.t 104)
                   (.seq
                    (.reg [⟨(some 2), none, .mov (.c (.b false))⟩])
                    .ret)
                   .skip))
                 (.seq
                  (.seq
                   (.reg [⟨(some 105), none, .mov (.t 7)⟩,
                     ⟨(some 106), none, .mov (.t 105)⟩,
                     ⟨(some 107), (some (106, true)), .mov (.t 0)⟩,
                     ⟨(some 108), (some (106, true)), .mov (.t 5)⟩,
                     ⟨(some 109), (some (106, true)), .iad 2 (.t 107) (.t 108)⟩,
                     ⟨(some 110), (some (106, true)), .fad 0 (.t 109)⟩,
                     ⟨(some 111), (some (106, true)), .load none (.t 110)⟩,
                     ⟨(some 112), (some (106, true)), .bin .eql (.t 111) (.c (.i .i64 2))⟩,
                     ⟨(some 113), (some (106, true)), .mov (.t 112)⟩,
                     ⟨(some 114), (some (113, false)), .mov (.t 0)⟩,
                     ⟨(some 115), (some (113, false)), .mov (.t 5)⟩,
                     ⟨(some 116), (some (113, false)), .iad 2 (.t 114) (.t 115)⟩,
                     ⟨(some 117), (some (113, false)), .fad 0 (.t 116)⟩,
                     ⟨(some 118), (some (113, false)), .load none (.t 117)⟩,
                     ⟨(some 119), (some (113, false)), .bin .eql (.t 118) (.c (.i .i64 3))⟩,
                     ⟨(some 120), (some (106, true)), .pick (.t 113) (.c (.b true)) (.t 119)⟩,
                     ⟨(some 121), none, .pick (.t 106) (.t 120) (.c (.b false))⟩])
                   (.cond (.t 121)
                    (.reg [⟨(some 122), none, .mov (.t 4)⟩,
                      ⟨(some 123), none, .mov (.t 4)⟩,
                      ⟨(some 124), none, .len (.t 123)⟩,
                      ⟨(some 125), none, .bin .sub (.t 124) (.c (.i .i64 1))⟩,
                      ⟨(some 126), none, .slc 1 (.t 122) none (some (.t 125)) none⟩,
                      ⟨(some 4), none, .mov (.t 126)⟩])
                    .skip))
                  (.seq
                   (.reg [⟨(some 127), none, .call 13 [(.t 3)]⟩,
                     ⟨(some 128), none, .mov (.t 4)⟩,
                     ⟨(some 129), none, .len (.t 128)⟩,
                     ⟨(some 130), none, .bin .neq (.t 127) (.t 129)⟩,
                     ⟨(some 131), none, .mov (.t 130)⟩,
                     ⟨(some 132), (some (131, false)), .call 14 [(.t 3)]⟩,
                     ⟨(some 133), (some (131, false)), .mov (.t 4)⟩,
                     ⟨(some 134), (some (131, false)), .call 7 [(.t 132), (.t 133)]⟩,
                     ⟨(some 135), (some (131, false)), .un .not (.t 134)⟩,
                     ⟨(some 136), none, .pick (.t 131) (.c (.b true)) (.t 135)⟩])
                   (.cond (.t 136)
                    (.seq
                     (.reg [⟨(some 2), none, .mov (.c (.b false))⟩])
                     .ret)
                    .skip)))))))))
           (.reg [⟨(some 16), none, .mov (.t 5)⟩,
             ⟨(some 17), none, .bin .add (.t 16) (.c (.i .i64 1))⟩,
             ⟨(some 5), none, .mov (.t 17)⟩]))))))
      (.seq
       (.reg [⟨(some 137), none, .call 9 []⟩,
         ⟨(some 2), none, .mov (.t 137)⟩])
       .ret))))))⟩

/- retrospect/retrospectref43.Marks -/
def a5 : AF :=
 ⟨2, 26, [.t 4],
 (.seq
  (.reg [⟨(some 4), none, .mov (.c (.sl [] .nl))⟩])
  (.seq
   (.reg [⟨(some 5), none, .mov (.c (.sl [] .nl))⟩])
   (.seq
    (.seq
     (.reg [⟨(some 6), none, .mov (.c (.i .i64 0))⟩])
     (.block 0
      (.loop
       (.seq
        (.seq
         (.reg [⟨(some 7), none, .mov (.t 6)⟩,
           ⟨(some 8), none, .mov (.t 0)⟩,
           ⟨(some 9), none, .bin .lss (.t 7) (.t 8)⟩,
           ⟨(some 10), none, .mov (.t 9)⟩,
           ⟨(some 11), (some (10, true)), .mov (.t 0)⟩,
           ⟨(some 12), (some (10, true)), .bin .leq (.t 11) (.c (.i .i64 200))⟩,
           ⟨(some 13), none, .pick (.t 10) (.t 12) (.c (.b false))⟩])
         (.cond (.t 13)
          .skip
          (.exit 0)))
        (.seq
         (.block 1
          (.seq
           (.reg [⟨(some 16), none, .mov (.t 6)⟩,
             ⟨(some 17), none, .mov (.t 1)⟩,
             ⟨(some 18), none, .call 15 [(.t 17)]⟩,
             ⟨(some 19), none, .bin .rem (.t 16) (.t 18)⟩,
             ⟨(some 20), none, .bin .eql (.t 19) (.c (.i .i64 0))⟩])
           (.cond (.t 20)
            (.reg [⟨(some 21), none, .mov (.t 5)⟩,
              ⟨(some 22), none, .mov (.t 6)⟩,
              ⟨(some 23), none, .bsl 1 [(.i .i64 0)] 1 [(0, (.t 22))]⟩,
              ⟨(some 24), none, .app 1 (.t 21) (.t 23)⟩,
              ⟨(some 5), none, .mov (.t 24)⟩])
            .skip)))
         (.reg [⟨(some 14), none, .mov (.t 6)⟩,
           ⟨(some 15), none, .bin .add (.t 14) (.c (.i .i64 1))⟩,
           ⟨(some 6), none, .mov (.t 15)⟩]))))))
    (.seq
     (.reg [⟨(some 25), none, .mov (.t 5)⟩,
       ⟨(some 4), none, .mov (.t 25)⟩])
     .ret))))⟩

/- retrospect/keep.Segments -/
def a6 : AF :=
 ⟨2, 45, [.t 4],
 (.seq
  (.reg [⟨(some 4), none, .mov (.c (.sl [] .nl))⟩])
  (.seq
   (.reg [⟨(some 5), none, .alloc [(.sl [] .nl)]⟩])
   (.seq
    (.seq
     (.reg [⟨(some 11), none, .mov (.t 0)⟩,
       ⟨(some 12), none, .mov (.t 1)⟩,
       ⟨(some 13), none, .call 8 [(.t 11), (.t 12)]⟩,
       ⟨(some 14), none, .len (.t 13)⟩,
       ⟨(some 15), none, .mov (.c (.i .i64 0))⟩])
     (.block 0
      (.loop
       (.seq
        (.reg [⟨(some 16), none, .bin .lss (.t 15) (.t 14)⟩])
        (.seq
         (.cond (.t 16)
          .skip
          (.exit 0))
         (.seq
          (.block 1
           (.seq
            (.reg [⟨(some 17), none, .iad 1 (.t 13) (.t 15)⟩,
              ⟨(some 18), none, .load none (.t 17)⟩,
              ⟨(some 7), none, .mov (.t 18)⟩])
            (.reg [⟨(some 19), none, .mov (.t 7)⟩,
              ⟨(some 20), none, .mov (.t 7)⟩,
              ⟨(some 21), none, .mov (.t 1)⟩,
              ⟨(some 22), none, .call 17 [(.t 21)]⟩,
              ⟨(some 23), none, .bin .add (.t 20) (.t 22)⟩,
              ⟨(some 24), none, .mov (.t 0)⟩,
              ⟨(some 25), none, .mm false [(.t 23), (.t 24)]⟩,
              ⟨(some 26), none, .build [(.i .i64 0), (.i .i64 0)] [(0, 1, (.t 19)), (1, 1, (.t 25))]⟩,
              ⟨(some 27), none, .bsl 2 [(.i .i64 0), (.i .i64 0)] 1 [(0, (.t 26))]⟩,
              ⟨(some 28), none, .call 16 [(.t 5), (.t 27)]⟩])))
          (.reg [⟨(some 29), none, .bin .add (.t 15) (.c (.i .i64 1))⟩,
            ⟨(some 15), none, .mov (.t 29)⟩])))))))
    (.seq
     (.reg [⟨(some 8), none, .mov (.c (.sl [] .nl))⟩])
     (.seq
      (.seq
       (.reg [⟨(some 31), none, .call 18 [(.t 5)]⟩,
         ⟨(some 30), none, .mov (.t 31)⟩,
         ⟨(some 32), none, .ext (.t 30) 0⟩,
         ⟨(some 33), none, .ext (.t 30) 1⟩,
         ⟨(some 9), none, .alloc [(.i .i64 0), (.i .i64 0)]⟩,
         ⟨none, none, .store 2 (.t 9) (.t 32)⟩,
         ⟨(some 10), none, .mov (.t 33)⟩])
       (.block 2
        (.loop
         (.seq
          (.seq
           (.reg [⟨(some 34), none, .mov (.t 10)⟩])
           (.cond (.t 34)
            .skip
            (.exit 2)))
          (.seq
           (.block 3
            (.reg [⟨(some 39), none, .mov (.t 8)⟩,
              ⟨(some 40), none, .load (some 2) (.t 9)⟩,
              ⟨(some 41), none, .bsl 2 [(.i .i64 0), (.i .i64 0)] 1 [(0, (.t 40))]⟩,
              ⟨(some 42), none, .app 2 (.t 39) (.t 41)⟩,
              ⟨(some 8), none, .mov (.t 42)⟩]))
           (.seq
            (.seq
             (.reg [⟨(some 43), none, .load (some 2) (.t 9)⟩])
             (.reg [⟨(some 9), none, .alloc [(.i .i64 0), (.i .i64 0)]⟩,
               ⟨none, none, .store 2 (.t 9) (.t 43)⟩]))
            (.reg [⟨(some 36), none, .call 18 [(.t 5)]⟩,
              ⟨(some 35), none, .mov (.t 36)⟩,
              ⟨(some 37), none, .ext (.t 35) 0⟩,
              ⟨(some 38), none, .ext (.t 35) 1⟩,
              ⟨none, none, .store 2 (.t 9) (.t 37)⟩,
              ⟨(some 10), none, .mov (.t 38)⟩])))))))
      (.seq
       (.reg [⟨(some 44), none, .mov (.t 8)⟩,
         ⟨(some 4), none, .mov (.t 44)⟩])
       .ret))))))⟩

/- retrospect/retrospectbook.SameInts -/
def a7 : AF :=
 ⟨2, 37, [.t 4],
 (.seq
  (.reg [⟨(some 4), none, .mov (.c (.b false))⟩])
  (.seq
   (.reg [⟨(some 7), none, .mov (.t 0)⟩,
     ⟨(some 8), none, .len (.t 7)⟩,
     ⟨(some 9), none, .mov (.t 1)⟩,
     ⟨(some 10), none, .len (.t 9)⟩,
     ⟨(some 11), none, .bin .eql (.t 8) (.t 10)⟩,
     ⟨(some 5), none, .mov (.t 11)⟩])
   (.seq
    (.seq
     (.reg [⟨(some 6), none, .mov (.c (.i .i64 0))⟩])
     (.block 0
      (.loop
       (.seq
        (.seq
         (.reg [⟨(some 12), none, .mov (.t 5)⟩,
           ⟨(some 13), none, .mov (.t 12)⟩,
           ⟨(some 14), (some (13, true)), .mov (.t 6)⟩,
           ⟨(some 15), (some (13, true)), .mov (.t 0)⟩,
           ⟨(some 16), (some (13, true)), .len (.t 15)⟩,
           ⟨(some 17), (some (13, true)), .bin .lss (.t 14) (.t 16)⟩,
           ⟨(some 18), none, .pick (.t 13) (.t 17) (.c (.b false))⟩,
           ⟨(some 19), none, .mov (.t 18)⟩,
           ⟨(some 20), (some (19, true)), .mov (.t 6)⟩,
           ⟨(some 21), (some (19, true)), .mov (.t 1)⟩,
           ⟨(some 22), (some (19, true)), .len (.t 21)⟩,
           ⟨(some 23), (some (19, true)), .bin .lss (.t 20) (.t 22)⟩,
           ⟨(some 24), none, .pick (.t 19) (.t 23) (.c (.b false))⟩])
         (.cond (.t 24)
          .skip
          (.exit 0)))
        (.seq
         (.block 1
          (.draw [⟨⟨(some 27), none, .mov (.t 0)⟩, 0⟩,
            ⟨⟨(some 28), none, .mov (.t 6)⟩, 0⟩,
            ⟨⟨(some 29), none, .iad 1 (.t 27) (.t 28)⟩, 0⟩,
            ⟨⟨(some 30), none, .load none (.t 29)⟩, 0⟩,
            ⟨⟨(some 31), none, .mov (.t 1)⟩, 0⟩,
            ⟨⟨(some 32), none, .mov (.t 6)⟩, 0⟩,
            ⟨⟨(some 33), none, .iad 1 (.t 31) (.t 32)⟩, 0⟩,
            ⟨⟨(some 34), none, .load none (.t 33)⟩, 0⟩,
            ⟨⟨(some 35), none, .bin .eql (.t 30) (.t 34)⟩, 0⟩,
            ⟨⟨(some 5), none, .mov (.t 35)⟩, 0⟩]))
         (.reg [⟨(some 25), none, .mov (.t 6)⟩,
           ⟨(some 26), none, .bin .add (.t 25) (.c (.i .i64 1))⟩,
           ⟨(some 6), none, .mov (.t 26)⟩]))))))
    (.seq
     (.reg [⟨(some 36), none, .mov (.t 5)⟩,
       ⟨(some 4), none, .mov (.t 36)⟩])
     .ret))))⟩

/- retrospect/keep.Marks -/
def a8 : AF :=
 ⟨2, 25, [.t 4],
 (.seq
  (.reg [⟨(some 4), none, .mov (.c (.sl [] .nl))⟩])
  (.seq
   (.seq
    (.reg [⟨(some 7), none, .mov (.t 0)⟩,
      ⟨(some 8), none, .bin .lss (.t 7) (.c (.i .i64 1))⟩,
      ⟨(some 9), none, .mov (.t 8)⟩,
      ⟨(some 10), (some (9, false)), .mov (.t 0)⟩,
      ⟨(some 11), (some (9, false)), .bin .gtr (.t 10) (.c (.i .i64 200))⟩,
      ⟨(some 12), none, .pick (.t 9) (.c (.b true)) (.t 11)⟩])
    (.cond (.t 12)
     (.seq
      (.reg [⟨(some 4), none, .mov (.c (.sl [] .nl))⟩])
      .ret)
     .skip))
   (.seq
    (.reg [⟨(some 5), none, .mov (.c (.sl [] .nl))⟩])
    (.seq
     (.seq
      (.reg [⟨(some 6), none, .mov (.c (.i .i64 0))⟩])
      (.block 0
       (.loop
        (.seq
         (.seq
          (.reg [⟨(some 13), none, .mov (.t 6)⟩,
            ⟨(some 14), none, .mov (.t 0)⟩,
            ⟨(some 15), none, .bin .lss (.t 13) (.t 14)⟩])
          (.cond (.t 15)
           .skip
           (.exit 0)))
         (.seq
          (.block 1
           (.reg [⟨(some 20), none, .mov (.t 5)⟩,
             ⟨(some 21), none, .mov (.t 6)⟩,
             ⟨(some 22), none, .bsl 1 [(.i .i64 0)] 1 [(0, (.t 21))]⟩,
             ⟨(some 23), none, .app 1 (.t 20) (.t 22)⟩,
             ⟨(some 5), none, .mov (.t 23)⟩]))
          (.reg [⟨(some 16), none, .mov (.t 6)⟩,
            ⟨(some 17), none, .mov (.t 1)⟩,
            ⟨(some 18), none, .call 17 [(.t 17)]⟩,
            ⟨(some 19), none, .bin .add (.t 16) (.t 18)⟩,
            ⟨(some 6), none, .mov (.t 19)⟩]))))))
     (.seq
      (.reg [⟨(some 24), none, .mov (.t 5)⟩,
        ⟨(some 4), none, .mov (.t 24)⟩])
      .ret)))))⟩

/- retrospect/retrospectlaw43.works -/
def a9 : AF :=
 ⟨0, 33, [.t 0],
 (.seq
  (.reg [⟨(some 0), none, .mov (.c (.b false))⟩])
  (.seq
   (.reg [⟨(some 3), none, .call 6 [(.c (.i .i64 5)), (.c (.i .i64 2))]⟩,
     ⟨(some 1), none, .mov (.t 3)⟩])
   (.seq
    (.reg [⟨(some 4), none, .call 8 [(.c (.i .i64 5)), (.c (.i .i64 2))]⟩,
      ⟨(some 2), none, .mov (.t 4)⟩])
    (.seq
     (.reg [⟨(some 5), none, .mov (.t 1)⟩,
       ⟨(some 6), none, .len (.t 5)⟩,
       ⟨(some 7), none, .bin .eql (.t 6) (.c (.i .i64 3))⟩,
       ⟨(some 8), none, .mov (.t 7)⟩,
       ⟨(some 9), (some (8, true)), .mov (.t 1)⟩,
       ⟨(some 10), (some (8, true)), .iad 2 (.t 9) (.c (.i .i64 0))⟩,
       ⟨(some 11), (some (8, true)), .load (some 2) (.t 10)⟩,
       ⟨(some 12), (some (8, true)), .build [(.i .i64 0), (.i .i64 0)] [(0, 1, (.c (.i .i64 4))), (1, 1, (.c (.i .i64 5)))]⟩,
       ⟨(some 13), (some (8, true)), .eqs false [(0, .int), (1, .int)] (.t 11) (.t 12)⟩,
       ⟨(some 14), none, .pick (.t 8) (.t 13) (.c (.b false))⟩,
       ⟨(some 15), none, .mov (.t 14)⟩,
       ⟨(some 16), (some (15, true)), .mov (.t 1)⟩,
       ⟨(some 17), (some (15, true)), .iad 2 (.t 16) (.c (.i .i64 2))⟩,
       ⟨(some 18), (some (15, true)), .load (some 2) (.t 17)⟩,
       ⟨(some 19), (some (15, true)), .build [(.i .i64 0), (.i .i64 0)] [(1, 1, (.c (.i .i64 2)))]⟩,
       ⟨(some 20), (some (15, true)), .eqs false [(0, .int), (1, .int)] (.t 18) (.t 19)⟩,
       ⟨(some 21), none, .pick (.t 15) (.t 20) (.c (.b false))⟩,
       ⟨(some 22), none, .mov (.t 21)⟩,
       ⟨(some 23), (some (22, true)), .mov (.t 2)⟩,
       ⟨(some 24), (some (22, true)), .len (.t 23)⟩,
       ⟨(some 25), (some (22, true)), .bin .eql (.t 24) (.c (.i .i64 3))⟩,
       ⟨(some 26), none, .pick (.t 22) (.t 25) (.c (.b false))⟩,
       ⟨(some 27), none, .mov (.t 26)⟩,
       ⟨(some 28), (some (27, true)), .mov (.t 2)⟩,
       ⟨(some 29), (some (27, true)), .iad 1 (.t 28) (.c (.i .i64 2))⟩,
       ⟨(some 30), (some (27, true)), .load none (.t 29)⟩,
       ⟨(some 31), (some (27, true)), .bin .eql (.t 30) (.c (.i .i64 4))⟩,
       ⟨(some 32), none, .pick (.t 27) (.t 31) (.c (.b false))⟩,
       ⟨(some 0), none, .mov (.t 32)⟩])
     .ret))))⟩

/- (*retrospect/keep.Pile[int]).Pop -/
def a10 : AF :=
 ⟨1, 41, [.t 2, .t 3],
 (.seq
  (.reg [⟨(some 2), none, .mov (.c (.i .i64 0))⟩,
    ⟨(some 3), none, .mov (.c (.b false))⟩])
  (.seq
   (.reg [⟨(some 8), none, .mov (.t 0)⟩,
     ⟨(some 9), none, .call 11 [(.t 8)]⟩,
     ⟨(some 7), none, .mov (.t 9)⟩,
     ⟨(some 10), none, .ext (.t 7) 0⟩,
     ⟨(some 11), none, .ext (.t 7) 1⟩,
     ⟨(some 4), none, .mov (.t 10)⟩,
     ⟨(some 5), none, .mov (.t 11)⟩])
   (.seq
    (.seq
     (.reg [⟨(some 12), none, .mov (.t 5)⟩])
     (.cond (.t 12)
      (.seq
       (.reg [⟨(some 6), none, .mov (.c (.i .i64 0))⟩])
       (.seq
        (.draw [⟨⟨(some 13), none, .mov (.t 0)⟩, 0⟩,
          ⟨⟨(some 14), none, .nilc (.t 13)⟩, 0⟩,
          ⟨⟨(some 15), none, .fad 0 (.t 14)⟩, 0⟩,
          ⟨⟨(some 16), none, .load none (.t 15)⟩, 0⟩,
          ⟨⟨(some 17), none, .mov (.t 0)⟩, 0⟩,
          ⟨⟨(some 18), none, .nilc (.t 17)⟩, 0⟩,
          ⟨⟨(some 19), none, .fad 0 (.t 18)⟩, 0⟩,
          ⟨⟨(some 20), none, .load none (.t 19)⟩, 0⟩,
          ⟨⟨(some 21), none, .len (.t 20)⟩, 0⟩,
          ⟨⟨(some 22), none, .bin .sub (.t 21) (.c (.i .i64 1))⟩, 0⟩,
          ⟨⟨(some 23), none, .mov (.t 6)⟩, 0⟩,
          ⟨⟨(some 24), none, .iad 1 (.t 16) (.t 22)⟩, 0⟩,
          ⟨⟨none, none, .store 1 (.t 24) (.t 23)⟩, 0⟩])
        (.draw [⟨⟨(some 25), none, .mov (.t 0)⟩, 0⟩,
          ⟨⟨(some 26), none, .mov (.t 0)⟩, 0⟩,
          ⟨⟨(some 27), none, .nilc (.t 26)⟩, 0⟩,
          ⟨⟨(some 28), none, .fad 0 (.t 27)⟩, 0⟩,
          ⟨⟨(some 29), none, .load none (.t 28)⟩, 0⟩,
          ⟨⟨(some 30), none, .mov (.t 0)⟩, 0⟩,
          ⟨⟨(some 31), none, .nilc (.t 30)⟩, 0⟩,
          ⟨⟨(some 32), none, .fad 0 (.t 31)⟩, 0⟩,
          ⟨⟨(some 33), none, .load none (.t 32)⟩, 0⟩,
          ⟨⟨(some 34), none, .len (.t 33)⟩, 0⟩,
          ⟨⟨(some 35), none, .bin .sub (.t 34) (.c (.i .i64 1))⟩, 0⟩,
          ⟨⟨(some 36), none, .slc 1 (.t 29) none (some (.t 35)) none⟩, 0⟩,
          ⟨⟨(some 37), none, .nilc (.t 25)⟩, 0⟩,
          ⟨⟨(some 38), none, .fad 0 (.t 37)⟩, 0⟩,
          ⟨⟨none, none, .store 1 (.t 38) (.t 36)⟩, 0⟩])))
      .skip))
    (.seq
     (.reg [⟨(some 39), none, .mov (.t 4)⟩,
       ⟨(some 40), none, .mov (.t 5)⟩,
       ⟨(some 2), none, .mov (.t 39)⟩,
       ⟨(some 3), none, .mov (.t 40)⟩])
     .ret))))⟩

/- (*retrospect/keep.Pile[int]).Top -/
def a11 : AF :=
 ⟨1, 24, [.t 2, .t 3],
 (.seq
  (.reg [⟨(some 2), none, .mov (.c (.i .i64 0))⟩,
    ⟨(some 3), none, .mov (.c (.b false))⟩])
  (.seq
   (.seq
    (.reg [⟨(some 5), none, .mov (.t 0)⟩,
      ⟨(some 6), none, .nilc (.t 5)⟩,
      ⟨(some 7), none, .fad 0 (.t 6)⟩,
      ⟨(some 8), none, .load none (.t 7)⟩,
      ⟨(some 9), none, .len (.t 8)⟩,
      ⟨(some 10), none, .bin .eql (.t 9) (.c (.i .i64 0))⟩])
    (.cond (.t 10)
     (.seq
      (.reg [⟨(some 4), none, .mov (.c (.i .i64 0))⟩])
      (.seq
       (.reg [⟨(some 11), none, .mov (.t 4)⟩,
         ⟨(some 2), none, .mov (.t 11)⟩,
         ⟨(some 3), none, .mov (.c (.b false))⟩])
       .ret))
     .skip))
   (.seq
    (.draw [⟨⟨(some 12), none, .mov (.t 0)⟩, 0⟩,
      ⟨⟨(some 13), none, .nilc (.t 12)⟩, 0⟩,
      ⟨⟨(some 14), none, .fad 0 (.t 13)⟩, 0⟩,
      ⟨⟨(some 15), none, .load none (.t 14)⟩, 0⟩,
      ⟨⟨(some 16), none, .mov (.t 0)⟩, 0⟩,
      ⟨⟨(some 17), none, .nilc (.t 16)⟩, 0⟩,
      ⟨⟨(some 18), none, .fad 0 (.t 17)⟩, 0⟩,
      ⟨⟨(some 19), none, .load none (.t 18)⟩, 0⟩,
      ⟨⟨(some 20), none, .len (.t 19)⟩, 0⟩,
      ⟨⟨(some 21), none, .bin .sub (.t 20) (.c (.i .i64 1))⟩, 0⟩,
      ⟨⟨(some 22), none, .iad 1 (.t 15) (.t 21)⟩, 0⟩,
      ⟨⟨(some 23), none, .load none (.t 22)⟩, 0⟩,
      ⟨⟨(some 2), none, .mov (.t 23)⟩, 0⟩,
      ⟨⟨(some 3), none, .mov (.c (.b true))⟩, 0⟩])
    .ret)))⟩

/- (*retrospect/keep.Pile[int]).Push -/
def a12 : AF :=
 ⟨2, 13, [],
 (.reg [⟨(some 4), none, .mov (.t 0)⟩,
   ⟨(some 5), none, .mov (.t 0)⟩,
   ⟨(some 6), none, .nilc (.t 5)⟩,
   ⟨(some 7), none, .fad 0 (.t 6)⟩,
   ⟨(some 8), none, .load none (.t 7)⟩,
   ⟨(some 9), none, .mov (.t 1)⟩,
   ⟨(some 10), none, .app 1 (.t 8) (.t 9)⟩,
   ⟨(some 11), none, .nilc (.t 4)⟩,
   ⟨(some 12), none, .fad 0 (.t 11)⟩,
   ⟨none, none, .store 1 (.t 12) (.t 10)⟩])⟩

/- (*retrospect/keep.Pile[int]).Len -/
def a13 : AF :=
 ⟨1, 8, [.t 2],
 (.seq
  (.reg [⟨(some 2), none, .mov (.c (.i .i64 0))⟩])
  (.seq
   (.reg [⟨(some 3), none, .mov (.t 0)⟩,
     ⟨(some 4), none, .nilc (.t 3)⟩,
     ⟨(some 5), none, .fad 0 (.t 4)⟩,
     ⟨(some 6), none, .load none (.t 5)⟩,
     ⟨(some 7), none, .len (.t 6)⟩,
     ⟨(some 2), none, .mov (.t 7)⟩])
   .ret))⟩

/- (*retrospect/keep.Pile[int]).All -/
def a14 : AF :=
 ⟨1, 8, [.t 2],
 (.seq
  (.reg [⟨(some 2), none, .mov (.c (.sl [] .nl))⟩])
  (.seq
   (.reg [⟨(some 3), none, .mov (.t 0)⟩,
     ⟨(some 4), none, .nilc (.t 3)⟩,
     ⟨(some 5), none, .fad 0 (.t 4)⟩,
     ⟨(some 6), none, .load none (.t 5)⟩,
     ⟨(some 7), none, .app 1 (.c (.sl [] .nl)) (.t 6)⟩,
     ⟨(some 2), none, .mov (.t 7)⟩])
   .ret))⟩

/- retrospect/retrospectref43.Cut -/
def a15 : AF :=
 ⟨1, 6, [.t 2],
 (.seq
  (.reg [⟨(some 2), none, .mov (.c (.i .i64 0))⟩])
  (.seq
   (.reg [⟨(some 3), none, .mov (.t 0)⟩,
     ⟨(some 4), none, .mm true [(.t 3), (.c (.i .i64 1))]⟩,
     ⟨(some 5), none, .mm false [(.t 4), (.c (.i .i64 200))]⟩,
     ⟨(some 2), none, .mov (.t 5)⟩])
   .ret))⟩

/- (*retrospect/keep.Pile[retrospect/keep.Segment]).Push -/
def a16 : AF :=
 ⟨2, 13, [],
 (.reg [⟨(some 4), none, .mov (.t 0)⟩,
   ⟨(some 5), none, .mov (.t 0)⟩,
   ⟨(some 6), none, .nilc (.t 5)⟩,
   ⟨(some 7), none, .fad 0 (.t 6)⟩,
   ⟨(some 8), none, .load none (.t 7)⟩,
   ⟨(some 9), none, .mov (.t 1)⟩,
   ⟨(some 10), none, .app 2 (.t 8) (.t 9)⟩,
   ⟨(some 11), none, .nilc (.t 4)⟩,
   ⟨(some 12), none, .fad 0 (.t 11)⟩,
   ⟨none, none, .store 1 (.t 12) (.t 10)⟩])⟩

/- retrospect/keep.cut -/
def a17 : AF :=
 ⟨1, 6, [.t 2],
 (.seq
  (.reg [⟨(some 2), none, .mov (.c (.i .i64 0))⟩])
  (.seq
   (.reg [⟨(some 3), none, .mov (.t 0)⟩,
     ⟨(some 4), none, .mm true [(.t 3), (.c (.i .i64 1))]⟩,
     ⟨(some 5), none, .mm false [(.t 4), (.c (.i .i64 200))]⟩,
     ⟨(some 2), none, .mov (.t 5)⟩])
   .ret))⟩

/- (*retrospect/keep.Pile[retrospect/keep.Segment]).Pop -/
def a18 : AF :=
 ⟨1, 41, [.cell 2 (some 2), .t 3],
 (.seq
  (.reg [⟨(some 2), none, .alloc [(.i .i64 0), (.i .i64 0)]⟩,
    ⟨(some 3), none, .mov (.c (.b false))⟩])
  (.seq
   (.reg [⟨(some 8), none, .mov (.t 0)⟩,
     ⟨(some 9), none, .call 19 [(.t 8)]⟩,
     ⟨(some 7), none, .mov (.t 9)⟩,
     ⟨(some 10), none, .ext (.t 7) 0⟩,
     ⟨(some 11), none, .ext (.t 7) 1⟩,
     ⟨(some 4), none, .alloc [(.i .i64 0), (.i .i64 0)]⟩,
     ⟨none, none, .store 2 (.t 4) (.t 10)⟩,
     ⟨(some 5), none, .mov (.t 11)⟩])
   (.seq
    (.seq
     (.reg [⟨(some 12), none, .mov (.t 5)⟩])
     (.cond (.t 12)
      (.seq
       (.reg [⟨(some 6), none, .alloc [(.i .i64 0), (.i .i64 0)]⟩])
       (.seq
        (.draw [⟨⟨(some 13), none, .mov (.t 0)⟩, 0⟩,
          ⟨⟨(some 14), none, .nilc (.t 13)⟩, 0⟩,
          ⟨⟨(some 15), none, .fad 0 (.t 14)⟩, 0⟩,
          ⟨⟨(some 16), none, .load none (.t 15)⟩, 0⟩,
          ⟨⟨(some 17), none, .mov (.t 0)⟩, 0⟩,
          ⟨⟨(some 18), none, .nilc (.t 17)⟩, 0⟩,
          ⟨⟨(some 19), none, .fad 0 (.t 18)⟩, 0⟩,
          ⟨⟨(some 20), none, .load none (.t 19)⟩, 0⟩,
          ⟨⟨(some 21), none, .len (.t 20)⟩, 0⟩,
          ⟨⟨(some 22), none, .bin .sub (.t 21) (.c (.i .i64 1))⟩, 0⟩,
          ⟨⟨(some 23), none, .load (some 2) (.t 6)⟩, 0⟩,
          ⟨⟨(some 24), none, .iad 2 (.t 16) (.t 22)⟩, 0⟩,
          ⟨⟨none, none, .store 2 (.t 24) (.t 23)⟩, 0⟩])
        (.draw [⟨⟨(some 25), none, .mov (.t 0)⟩, 0⟩,
          ⟨⟨(some 26), none, .mov (.t 0)⟩, 0⟩,
          ⟨⟨(some 27), none, .nilc (.t 26)⟩, 0⟩,
          ⟨⟨(some 28), none, .fad 0 (.t 27)⟩, 0⟩,
          ⟨⟨(some 29), none, .load none (.t 28)⟩, 0⟩,
          ⟨⟨(some 30), none, .mov (.t 0)⟩, 0⟩,
          ⟨⟨(some 31), none, .nilc (.t 30)⟩, 0⟩,
          ⟨⟨(some 32), none, .fad 0 (.t 31)⟩, 0⟩,
          ⟨⟨(some 33), none, .load none (.t 32)⟩, 0⟩,
          ⟨⟨(some 34), none, .len (.t 33)⟩, 0⟩,
          ⟨⟨(some 35), none, .bin .sub (.t 34) (.c (.i .i64 1))⟩, 0⟩,
          ⟨⟨(some 36), none, .slc 2 (.t 29) none (some (.t 35)) none⟩, 0⟩,
          ⟨⟨(some 37), none, .nilc (.t 25)⟩, 0⟩,
          ⟨⟨(some 38), none, .fad 0 (.t 37)⟩, 0⟩,
          ⟨⟨none, none, .store 1 (.t 38) (.t 36)⟩, 0⟩])))
      .skip))
    (.seq
     (.reg [⟨(some 39), none, .load (some 2) (.t 4)⟩,
       ⟨(some 40), none, .mov (.t 5)⟩,
       ⟨none, none, .store 2 (.t 2) (.t 39)⟩,
       ⟨(some 3), none, .mov (.t 40)⟩])
     .ret))))⟩

/- (*retrospect/keep.Pile[retrospect/keep.Segment]).Top -/
def a19 : AF :=
 ⟨1, 24, [.cell 2 (some 2), .t 3],
 (.seq
  (.reg [⟨(some 2), none, .alloc [(.i .i64 0), (.i .i64 0)]⟩,
    ⟨(some 3), none, .mov (.c (.b false))⟩])
  (.seq
   (.seq
    (.reg [⟨(some 5), none, .mov (.t 0)⟩,
      ⟨(some 6), none, .nilc (.t 5)⟩,
      ⟨(some 7), none, .fad 0 (.t 6)⟩,
      ⟨(some 8), none, .load none (.t 7)⟩,
      ⟨(some 9), none, .len (.t 8)⟩,
      ⟨(some 10), none, .bin .eql (.t 9) (.c (.i .i64 0))⟩])
    (.cond (.t 10)
     (.seq
      (.reg [⟨(some 4), none, .alloc [(.i .i64 0), (.i .i64 0)]⟩])
      (.seq
       (.reg [⟨(some 11), none, .load (some 2) (.t 4)⟩,
         ⟨none, none, .store 2 (.t 2) (.t 11)⟩,
         ⟨(some 3), none, .mov (.c (.b false))⟩])
       .ret))
     .skip))
   (.seq
    (.draw [⟨⟨(some 12), none, .mov (.t 0)⟩, 0⟩,
      ⟨⟨(some 13), none, .nilc (.t 12)⟩, 0⟩,
      ⟨⟨(some 14), none, .fad 0 (.t 13)⟩, 0⟩,
      ⟨⟨(some 15), none, .load none (.t 14)⟩, 0⟩,
      ⟨⟨(some 16), none, .mov (.t 0)⟩, 0⟩,
      ⟨⟨(some 17), none, .nilc (.t 16)⟩, 0⟩,
      ⟨⟨(some 18), none, .fad 0 (.t 17)⟩, 0⟩,
      ⟨⟨(some 19), none, .load none (.t 18)⟩, 0⟩,
      ⟨⟨(some 20), none, .len (.t 19)⟩, 0⟩,
      ⟨⟨(some 21), none, .bin .sub (.t 20) (.c (.i .i64 1))⟩, 0⟩,
      ⟨⟨(some 22), none, .iad 2 (.t 15) (.t 21)⟩, 0⟩,
      ⟨⟨(some 23), none, .load (some 2) (.t 22)⟩, 0⟩,
      ⟨⟨none, none, .store 2 (.t 2) (.t 23)⟩, 0⟩,
      ⟨⟨(some 3), none, .mov (.c (.b true))⟩, 1⟩])
    .ret)))⟩

theorem r3 : resFn Try.prog 3 = some a3 := by kernel_rfl
theorem r4 : resFn Try.prog 4 = some a4 := by kernel_rfl
theorem r5 : resFn Try.prog 5 = some a5 := by kernel_rfl
theorem r6 : resFn Try.prog 6 = some a6 := by kernel_rfl
theorem r7 : resFn Try.prog 7 = some a7 := by kernel_rfl
theorem r8 : resFn Try.prog 8 = some a8 := by kernel_rfl
theorem r9 : resFn Try.prog 9 = some a9 := by kernel_rfl
theorem r10 : resFn Try.prog 10 = some a10 := by kernel_rfl
theorem r11 : resFn Try.prog 11 = some a11 := by kernel_rfl
theorem r12 : resFn Try.prog 12 = some a12 := by kernel_rfl
theorem r13 : resFn Try.prog 13 = some a13 := by kernel_rfl
theorem r14 : resFn Try.prog 14 = some a14 := by kernel_rfl
theorem r15 : resFn Try.prog 15 = some a15 := by kernel_rfl
theorem r16 : resFn Try.prog 16 = some a16 := by kernel_rfl
theorem r17 : resFn Try.prog 17 = some a17 := by kernel_rfl
theorem r18 : resFn Try.prog 18 = some a18 := by kernel_rfl
theorem r19 : resFn Try.prog 19 = some a19 := by kernel_rfl
theorem mixed : Try.prog.follows .mixedOrders = true := by kernel_rfl
end Go.Proofs.Ytoddiifgfjibfaa
