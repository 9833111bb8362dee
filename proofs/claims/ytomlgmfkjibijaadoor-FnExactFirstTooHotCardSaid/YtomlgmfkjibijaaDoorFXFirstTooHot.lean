/- The functions that the law reaches, in the small language, printed by program. No conditions. -/
import Derived.Test.YtomlgmfkjibijaaDoorDXFirstTooHot
import Derived.Test.YtomlgmfkjibijaaDoorV4
set_option maxRecDepth 100000
open Go Go.Vs
namespace Go.Vs.G
def F18 : PFunc :=
 ⟨[false, false, false], [.tmp 6],
  (.seq
   (.region [] [] [1, 2, 3] false [
     (none, .box 3 (.v 0) .copy),
     (none, .asg 6 (.c (.int .i64 0)) .copy)])
   (.seq
    (.seq
     (.region [] [] [1, 3, 7] false [
       (none, .mv 7 (.v 2))])
     (.cond (.v 7)
      (.seq
       (.region [(9, 3, false)] [] [6] false [
         (none, .mv 8 (.v 1)),
         (none, .fadr 9 0 1 (.v 3)),
         (none, .load 10 false 1 (.v 9) none),
         (none, .bin 11 .add (.v 8) (.v 10)),
         (none, .asg 6 (.v 11) .copy)])
       (.ret [6]))
      (.skip [1, 3])))
    (.seq
     (.region [(13, 3, false)] [] [6] false [
       (none, .mv 12 (.v 1)),
       (none, .fadr 13 1 1 (.v 3)),
       (none, .load 14 false 1 (.v 13) none),
       (none, .bin 15 .sub (.v 12) (.v 14)),
       (none, .mm 16 true (.v 15) [(.c (.int .i64 0))]),
       (none, .asg 6 (.v 16) .copy)])
     (.ret [6]))))⟩
def F207 : PFunc :=
 ⟨[false], [.tmp 2],
  (.seq
   (.region [] [] [0] false [
     (none, .asg 2 (.c (.bool false)) .copy)])
   (.seq
    (.region [] [] [2] false [
      (none, .mv 3 (.v 0)),
      (none, .len 4 true (.v 3)),
      (none, .bin 5 .leq (.v 4) (.c (.int .i64 60))),
      (none, .mv 6 (.v 5)),
      (some (6, true), .mv 7 (.v 0)),
      (some (6, true), .call (some 8) 876 false [((.v 7), false), ((.c (.str [48, 49])), false)]),
      (some (6, true), .bin 9 .eql (.v 8) (.c (.str []))),
      (none, .pick 10 (.v 6) (.v 9) (.c (.bool false))),
      (none, .asg 2 (.v 10) .copy)])
    (.ret [2])))⟩
def F326 : PFunc :=
 ⟨[false, false, false], [.tmp 6],
  (.seq
   (.region [] [] [0, 1, 2] false [
     (none, .asg 6 (.c (.bool false)) .copy)])
   (.seq
    (.region [] [] [6] false [
      (none, .mv 7 (.v 0)),
      (none, .mv 8 (.v 1)),
      (none, .bin 9 .geq (.v 7) (.v 8)),
      (none, .mv 10 (.v 9)),
      (some (10, true), .mv 11 (.v 0)),
      (some (10, true), .mv 12 (.v 2)),
      (some (10, true), .bin 13 .leq (.v 11) (.v 12)),
      (none, .pick 14 (.v 10) (.v 13) (.c (.bool false))),
      (none, .asg 6 (.v 14) .copy)])
    (.ret [6])))⟩
def F217 : PFunc :=
 ⟨[false], [.tmp 2],
  (.seq
   (.region [] [] [1] false [
     (none, .box 1 (.v 0) .copy),
     (none, .asg 2 (.c (.bool false)) .copy)])
   (.seq
    (.region [(12, 1, false), (7, 1, false), (3, 1, false)] [] [2] false [
      (none, .fadr 3 0 1 (.v 1)),
      (none, .load 4 false 1 (.v 3) none),
      (none, .call (some 5) 326 false [((.v 4), false), ((.c (.int .i64 1)), false), ((.c (.int .i64 20)), false)]),
      (none, .mv 6 (.v 5)),
      (some (6, true), .fadr 7 1 1 (.v 1)),
      (some (6, true), .load 8 false 1 (.v 7) none),
      (some (6, true), .call (some 9) 326 false [((.v 8), false), ((.c (.int .i64 1)), false), ((.c (.int .i64 20)), false)]),
      (none, .pick 10 (.v 6) (.v 9) (.c (.bool false))),
      (none, .mv 11 (.v 10)),
      (some (11, true), .fadr 12 2 1 (.v 1)),
      (some (11, true), .load 13 false 1 (.v 12) none),
      (some (11, true), .call (some 14) 326 false [((.v 13), false), ((.c (.int .i64 1)), false), ((.c (.int .i64 100)), false)]),
      (none, .pick 15 (.v 11) (.v 14) (.c (.bool false))),
      (none, .asg 2 (.v 15) .copy)])
    (.ret [2])))⟩
def F114 : PFunc :=
 ⟨[false, false], [.tmp 4, .tmp 5],
  (.seq
   (.region [] [] [1, 2] false [
     (none, .box 2 (.v 0) .copy),
     (none, .asg 4 (.c (.sl true 1 [])) .copy),
     (none, .asg 5 (.c (.int .i64 0)) .copy)])
   (.seq
    (.seq
     (.region [] [] [1, 2, 16] false [
       (none, .load 9 true 3 (.v 2) none),
       (none, .call (some 10) 217 false [((.v 9), false)]),
       (none, .un 11 .not (.v 10)),
       (none, .mv 12 (.v 11)),
       (some (12, false), .mv 13 (.v 1)),
       (some (12, false), .call (some 14) 207 false [((.v 13), false)]),
       (some (12, false), .un 15 .not (.v 14)),
       (none, .pick 16 (.v 12) (.c (.bool true)) (.v 15))])
     (.cond (.v 16)
      (.seq
       (.region [] [] [4, 5] false [
         (none, .asg 4 (.c (.sl true 1 [])) .copy),
         (none, .asg 5 (.c (.int .i64 1)) .copy)])
       (.ret [4, 5]))
      (.skip [1, 2])))
    (.seq
     (.region [] [] [1, 2, 6, 7] false [
       (none, .mksl 17 1 (.int .i64 0) 0 []),
       (none, .asg 6 (.v 17) .move),
       (none, .asg 7 (.c (.int .i64 0)) .copy)])
     (.seq
      (.seq
       (.region [] [] [1, 2, 6, 7, 19, 20] false [
         (none, .mv 18 (.v 1)),
         (none, .len 19 true (.v 18)),
         (none, .mv 20 (.c (.int .i64 0)))])
       (.block 0
        (.loop
         (.seq
          (.region [] [] [1, 2, 6, 7, 19, 20, 21] false [
            (none, .bin 21 .lss (.v 20) (.v 19))])
          (.seq
           (.cond (.v 21)
            (.skip [1, 2, 6, 7, 19, 20])
            (.exit 0 [6]))
           (.seq
            (.block 1
             (.seq
              (.region [] [] [1, 2, 6, 7, 8, 19, 20] false [
                (none, .mv 22 (.v 20)),
                (none, .asg 8 (.v 22) .copy)])
              (.seq
               (.region [] [] [1, 2, 6, 7, 19, 20] true [
                 (none, .load 23 true 3 (.v 2) none),
                 (none, .mv 24 (.v 7)),
                 (none, .mv 25 (.v 1)),
                 (none, .mv 26 (.v 8)),
                 (none, .idx 27 (.v 25) (.v 26)),
                 (none, .bin 28 .eql (.v 27) (.c (.int .u8 49))),
                 (none, .call (some 29) 18 false [((.v 23), false), ((.v 24), false), ((.v 28), false)]),
                 (none, .asg 7 (.v 29) .copy)])
               (.region [(30, 6, false)] [] [1, 2, 6, 7, 19, 20] false [
                 (none, .mv 30 (.v 6)),
                 (none, .mv 31 (.v 7)),
                 (none, .mksl 32 1 (.int .i64 0) 1 [(0, (.v 31), .copy)]),
                 (none, .app 33 1 (.v 30) (.v 32) .move),
                 (none, .asg 6 (.v 33) .move)]))))
            (.region [] [] [1, 2, 6, 7, 19, 20] false [
              (none, .bin 34 .add (.v 20) (.c (.int .i64 1))),
              (none, .mv 20 (.v 34))])))))))
      (.seq
       (.region [(35, 6, false)] [] [4, 5] false [
         (none, .mv 35 (.v 6)),
         (none, .asg 4 (.v 35) .move),
         (none, .asg 5 (.c (.int .i64 0)) .copy)])
       (.ret [4, 5]))))))⟩
def F95 : PFunc :=
 ⟨[false, false], [.tmp 4, .tmp 5],
  (.seq
   (.region [] [] [1, 2] false [
     (none, .box 2 (.v 0) .copy),
     (none, .asg 4 (.c (.int .i64 0)) .copy),
     (none, .asg 5 (.c (.int .i64 0)) .copy)])
   (.seq
    (.region [] [] [2, 6, 7] false [
      (none, .load 11 true 3 (.v 2) none),
      (none, .mv 12 (.v 1)),
      (none, .call (some 13) 114 false [((.v 11), false), ((.v 12), false)]),
      (none, .asg 10 (.v 13) .move),
      (none, .ext 14 (.v 10) 0),
      (none, .extp 15 (.v 10) 1),
      (none, .asg 6 (.v 14) .move),
      (none, .asg 7 (.v 15) .copy)])
    (.seq
     (.seq
      (.region [] [] [2, 6, 7, 17] false [
        (none, .mv 16 (.v 7)),
        (none, .bin 17 .neq (.v 16) (.c (.int .i64 0)))])
      (.cond (.v 17)
       (.seq
        (.region [] [] [4, 5] false [
          (none, .mv 18 (.v 7)),
          (none, .asg 4 (.c (.int .i64 0)) .copy),
          (none, .asg 5 (.v 18) .copy)])
        (.ret [4, 5]))
       (.skip [2, 6])))
     (.seq
      (.seq
       (.region [(19, 6, false)] [] [2, 6, 19, 20, 21] false [
         (none, .mv 19 (.v 6)),
         (none, .len 20 false (.v 19)),
         (none, .mv 21 (.c (.int .i64 0)))])
       (.block 0
        (.loop
         (.seq
          (.region [(19, 6, false)] [] [2, 6, 19, 20, 21, 22] false [
            (none, .bin 22 .lss (.v 21) (.v 20))])
          (.seq
           (.cond (.v 22)
            (.skip [2, 6, 19, 20, 21])
            (.exit 0 []))
           (.seq
            (.block 1
             (.seq
              (.region [(24, 6, false), (19, 6, false)] [] [2, 6, 8, 9, 19, 20, 21] false [
                (none, .mv 23 (.v 21)),
                (none, .iadr 24 1 (.v 19) (.v 21)),
                (none, .load 25 false 1 (.v 24) none),
                (none, .asg 8 (.v 23) .copy),
                (none, .asg 9 (.v 25) .copy)])
              (.seq
               (.region [(27, 2, false), (19, 6, false)] [] [2, 6, 8, 19, 20, 21, 29] false [
                 (none, .mv 26 (.v 9)),
                 (none, .fadr 27 2 1 (.v 2)),
                 (none, .load 28 false 1 (.v 27) none),
                 (none, .bin 29 .gtr (.v 26) (.v 28))])
               (.cond (.v 29)
                (.seq
                 (.region [] [] [4, 5] false [
                   (none, .mv 30 (.v 8)),
                   (none, .asg 4 (.v 30) .copy),
                   (none, .asg 5 (.c (.int .i64 0)) .copy)])
                 (.ret [4, 5]))
                (.skip [2, 6, 19, 20, 21])))))
            (.region [(19, 6, false)] [] [2, 6, 19, 20, 21] false [
              (none, .bin 31 .add (.v 21) (.c (.int .i64 1))),
              (none, .mv 21 (.v 31))])))))))
      (.seq
       (.region [] [] [4, 5] false [
         (none, .asg 4 (.c (.int .i64 0)) .copy),
         (none, .asg 5 (.c (.int .i64 3)) .copy)])
       (.ret [4, 5]))))))⟩
def F420 : PFunc :=
 ⟨[false], [.cell 2 true 3],
  (.seq
   (.region [] [] [1, 2] false [
     (none, .box 1 (.v 0) .copy),
     (none, .new 2 (.agg [(.int .i64 0), (.int .i64 0), (.int .i64 0)]))])
   (.seq
    (.region [] [] [1, 2, 3] false [
      (none, .new 3 (.agg [(.int .i64 0), (.int .i64 0), (.int .i64 0)]))])
    (.seq
     (.region [(6, 3, false), (4, 1, false)] [] [1, 2, 3] false [
       (none, .fadr 4 0 1 (.v 1)),
       (none, .load 5 false 1 (.v 4) none),
       (none, .fadr 6 0 1 (.v 3)),
       (none, .store 1 (.v 6) (.v 5) .copy)])
     (.seq
      (.region [(9, 3, false), (7, 1, false)] [] [1, 2, 3] false [
        (none, .fadr 7 1 1 (.v 1)),
        (none, .load 8 false 1 (.v 7) none),
        (none, .fadr 9 1 1 (.v 3)),
        (none, .store 1 (.v 9) (.v 8) .copy)])
      (.seq
       (.region [(12, 3, false), (10, 1, false)] [] [2, 3] false [
         (none, .fadr 10 2 1 (.v 1)),
         (none, .load 11 false 1 (.v 10) none),
         (none, .fadr 12 2 1 (.v 3)),
         (none, .store 1 (.v 12) (.v 11) .copy)])
       (.seq
        (.region [] [] [2] false [
          (none, .load 13 true 3 (.v 3) none),
          (none, .store 3 (.v 2) (.v 13) .copy)])
        (.ret [2])))))))⟩
def F757 : PFunc :=
 ⟨[false], [.tmp 2],
  (.seq
   (.region [] [] [0] false [
     (none, .asg 2 (.c (.bool false)) .copy)])
   (.seq
    (.seq
     (.region [] [] [0, 3] false [
       (none, .asg 3 (.c (.int .i64 0)) .copy)])
     (.block 0
      (.loop
       (.seq
        (.seq
         (.region [] [] [0, 3, 7] false [
           (none, .mv 4 (.v 3)),
           (none, .mv 5 (.v 0)),
           (none, .len 6 true (.v 5)),
           (none, .bin 7 .lss (.v 4) (.v 6))])
         (.cond (.v 7)
          (.skip [0, 3])
          (.exit 0 [0])))
        (.seq
         (.block 1
          (.seq
           (.region [] [] [0, 3, 19] false [
             (none, .mv 10 (.v 0)),
             (none, .mv 11 (.v 3)),
             (none, .idx 12 (.v 10) (.v 11)),
             (none, .bin 13 .neq (.v 12) (.c (.int .u8 48))),
             (none, .mv 14 (.v 13)),
             (some (14, true), .mv 15 (.v 0)),
             (some (14, true), .mv 16 (.v 3)),
             (some (14, true), .idx 17 (.v 15) (.v 16)),
             (some (14, true), .bin 18 .neq (.v 17) (.c (.int .u8 49))),
             (none, .pick 19 (.v 14) (.v 18) (.c (.bool false)))])
           (.cond (.v 19)
            (.seq
             (.region [] [] [2] false [
               (none, .asg 2 (.c (.bool false)) .copy)])
             (.ret [2]))
            (.skip [0, 3]))))
         (.region [] [] [0, 3] false [
           (none, .mv 8 (.v 3)),
           (none, .bin 9 .add (.v 8) (.c (.int .i64 1))),
           (none, .asg 3 (.v 9) .copy)]))))))
    (.seq
     (.region [] [] [2] false [
       (none, .mv 20 (.v 0)),
       (none, .len 21 true (.v 20)),
       (none, .bin 22 .leq (.v 21) (.c (.int .i64 60))),
       (none, .asg 2 (.v 22) .copy)])
     (.ret [2]))))⟩
def F605 : PFunc :=
 ⟨[false, false, false], [.tmp 6],
  (.seq
   (.region [] [] [0, 1, 2] false [
     (none, .asg 6 (.c (.bool false)) .copy)])
   (.seq
    (.region [] [] [6] false [
      (none, .mv 7 (.v 0)),
      (none, .mv 8 (.v 1)),
      (none, .bin 9 .geq (.v 7) (.v 8)),
      (none, .mv 10 (.v 9)),
      (some (10, true), .mv 11 (.v 0)),
      (some (10, true), .mv 12 (.v 2)),
      (some (10, true), .bin 13 .leq (.v 11) (.v 12)),
      (none, .pick 14 (.v 10) (.v 13) (.c (.bool false))),
      (none, .asg 6 (.v 14) .copy)])
    (.ret [6])))⟩
def F763 : PFunc :=
 ⟨[false], [.tmp 2],
  (.seq
   (.region [] [] [1] false [
     (none, .box 1 (.v 0) .copy),
     (none, .asg 2 (.c (.bool false)) .copy)])
   (.seq
    (.region [(12, 1, false), (7, 1, false), (3, 1, false)] [] [2] false [
      (none, .fadr 3 0 1 (.v 1)),
      (none, .load 4 false 1 (.v 3) none),
      (none, .call (some 5) 605 false [((.v 4), false), ((.c (.int .i64 1)), false), ((.c (.int .i64 20)), false)]),
      (none, .mv 6 (.v 5)),
      (some (6, true), .fadr 7 1 1 (.v 1)),
      (some (6, true), .load 8 false 1 (.v 7) none),
      (some (6, true), .call (some 9) 605 false [((.v 8), false), ((.c (.int .i64 1)), false), ((.c (.int .i64 20)), false)]),
      (none, .pick 10 (.v 6) (.v 9) (.c (.bool false))),
      (none, .mv 11 (.v 10)),
      (some (11, true), .fadr 12 2 1 (.v 1)),
      (some (11, true), .load 13 false 1 (.v 12) none),
      (some (11, true), .call (some 14) 605 false [((.v 13), false), ((.c (.int .i64 1)), false), ((.c (.int .i64 100)), false)]),
      (none, .pick 15 (.v 11) (.v 14) (.c (.bool false))),
      (none, .asg 2 (.v 15) .copy)])
    (.ret [2])))⟩
def F759 : PFunc :=
 ⟨[false, false], [.tmp 4],
  (.seq
   (.region [] [] [1, 2] false [
     (none, .box 2 (.v 0) .copy),
     (none, .asg 4 (.c (.int .i64 0)) .copy)])
   (.seq
    (.seq
     (.region [] [] [12] false [
       (none, .load 5 true 3 (.v 2) none),
       (none, .call (some 6) 763 false [((.v 5), false)]),
       (none, .un 7 .not (.v 6)),
       (none, .mv 8 (.v 7)),
       (some (8, false), .mv 9 (.v 1)),
       (some (8, false), .call (some 10) 757 false [((.v 9), false)]),
       (some (8, false), .un 11 .not (.v 10)),
       (none, .pick 12 (.v 8) (.c (.bool true)) (.v 11))])
     (.cond (.v 12)
      (.seq
       (.region [] [] [4] false [
         (none, .asg 4 (.c (.int .i64 1)) .copy)])
       (.ret [4]))
      (.skip [])))
    (.seq
     (.region [] [] [4] false [
       (none, .asg 4 (.c (.int .i64 0)) .copy)])
     (.ret [4]))))⟩
def F606 : PFunc :=
 ⟨[false, false], [.tmp 4],
  (.seq
   (.region [] [] [0, 1] false [
     (none, .asg 4 (.c (.int .i64 0)) .copy)])
   (.seq
    (.seq
     (.region [] [] [0, 1, 7] false [
       (none, .mv 5 (.v 0)),
       (none, .mv 6 (.v 1)),
       (none, .bin 7 .gtr (.v 5) (.v 6))])
     (.cond (.v 7)
      (.seq
       (.region [] [] [4] false [
         (none, .mv 8 (.v 0)),
         (none, .asg 4 (.v 8) .copy)])
       (.ret [4]))
      (.skip [1])))
    (.seq
     (.region [] [] [4] false [
       (none, .mv 9 (.v 1)),
       (none, .asg 4 (.v 9) .copy)])
     (.ret [4]))))⟩
def F762 : PFunc :=
 ⟨[false, false, false], [.tmp 6],
  (.seq
   (.region [] [] [1, 2, 3] false [
     (none, .box 3 (.v 0) .copy),
     (none, .asg 6 (.c (.int .i64 0)) .copy)])
   (.seq
    (.seq
     (.region [] [] [1, 3, 7] false [
       (none, .mv 7 (.v 2))])
     (.cond (.v 7)
      (.seq
       (.region [(9, 3, false)] [] [6] false [
         (none, .mv 8 (.v 1)),
         (none, .fadr 9 0 1 (.v 3)),
         (none, .load 10 false 1 (.v 9) none),
         (none, .bin 11 .add (.v 8) (.v 10)),
         (none, .asg 6 (.v 11) .copy)])
       (.ret [6]))
      (.skip [1, 3])))
    (.seq
     (.region [(13, 3, false)] [] [6] false [
       (none, .mv 12 (.v 1)),
       (none, .fadr 13 1 1 (.v 3)),
       (none, .load 14 false 1 (.v 13) none),
       (none, .bin 15 .sub (.v 12) (.v 14)),
       (none, .call (some 16) 606 false [((.c (.int .i64 0)), false), ((.v 15), false)]),
       (none, .asg 6 (.v 16) .copy)])
     (.ret [6]))))⟩
def F761 : PFunc :=
 ⟨[false, false], [.tmp 4],
  (.seq
   (.region [] [] [1, 2] false [
     (none, .box 2 (.v 0) .copy),
     (none, .asg 4 (.c (.sl true 1 [])) .copy)])
   (.seq
    (.region [] [] [1, 2, 5] false [
      (none, .mksl 8 1 (.int .i64 0) 0 []),
      (none, .asg 5 (.v 8) .move)])
    (.seq
     (.region [] [] [1, 2, 5, 6] false [
       (none, .asg 6 (.c (.int .i64 0)) .copy)])
     (.seq
      (.seq
       (.region [] [] [1, 2, 5, 6, 7] false [
         (none, .asg 7 (.c (.int .i64 0)) .copy)])
       (.block 0
        (.loop
         (.seq
          (.seq
           (.region [] [] [1, 2, 5, 6, 7, 12] false [
             (none, .mv 9 (.v 7)),
             (none, .mv 10 (.v 1)),
             (none, .len 11 true (.v 10)),
             (none, .bin 12 .lss (.v 9) (.v 11))])
           (.cond (.v 12)
            (.skip [1, 2, 5, 6, 7])
            (.exit 0 [5])))
          (.seq
           (.block 1
            (.seq
             (.region [] [] [1, 2, 5, 6, 7] true [
               (none, .load 15 true 3 (.v 2) none),
               (none, .mv 16 (.v 6)),
               (none, .mv 17 (.v 1)),
               (none, .mv 18 (.v 7)),
               (none, .idx 19 (.v 17) (.v 18)),
               (none, .bin 20 .eql (.v 19) (.c (.int .u8 49))),
               (none, .call (some 21) 762 false [((.v 15), false), ((.v 16), false), ((.v 20), false)]),
               (none, .asg 6 (.v 21) .copy)])
             (.region [(22, 5, false)] [] [1, 2, 5, 6, 7] false [
               (none, .mv 22 (.v 5)),
               (none, .mv 23 (.v 6)),
               (none, .mksl 24 1 (.int .i64 0) 1 [(0, (.v 23), .copy)]),
               (none, .app 25 1 (.v 22) (.v 24) .move),
               (none, .asg 5 (.v 25) .move)])))
           (.region [] [] [1, 2, 5, 6, 7] false [
             (none, .mv 13 (.v 7)),
             (none, .bin 14 .add (.v 13) (.c (.int .i64 1))),
             (none, .asg 7 (.v 14) .copy)]))))))
      (.seq
       (.region [(26, 5, false)] [] [4] false [
         (none, .mv 26 (.v 5)),
         (none, .asg 4 (.v 26) .move)])
       (.ret [4]))))))⟩
def F521 : PFunc :=
 ⟨[false, false], [.tmp 4, .tmp 5],
  (.seq
   (.region [] [] [1, 2] false [
     (none, .box 2 (.v 0) .copy),
     (none, .asg 4 (.c (.int .i64 0)) .copy),
     (none, .asg 5 (.c (.int .i64 0)) .copy)])
   (.seq
    (.region [] [] [1, 2, 6] false [
      (none, .load 9 true 3 (.v 2) none),
      (none, .mv 10 (.v 1)),
      (none, .call (some 11) 759 false [((.v 9), false), ((.v 10), false)]),
      (none, .asg 6 (.v 11) .copy)])
    (.seq
     (.seq
      (.region [] [] [1, 2, 6, 13] false [
        (none, .mv 12 (.v 6)),
        (none, .bin 13 .neq (.v 12) (.c (.int .i64 0)))])
      (.cond (.v 13)
       (.seq
        (.region [] [] [4, 5] false [
          (none, .mv 14 (.v 6)),
          (none, .asg 4 (.c (.int .i64 0)) .copy),
          (none, .asg 5 (.v 14) .copy)])
        (.ret [4, 5]))
       (.skip [1, 2])))
     (.seq
      (.region [] [] [2, 7] false [
        (none, .load 15 true 3 (.v 2) none),
        (none, .mv 16 (.v 1)),
        (none, .call (some 17) 761 false [((.v 15), false), ((.v 16), false)]),
        (none, .asg 7 (.v 17) .move)])
      (.seq
       (.seq
        (.region [] [] [2, 7, 8] false [
          (none, .asg 8 (.c (.int .i64 0)) .copy)])
        (.block 0
         (.loop
          (.seq
           (.seq
            (.region [(19, 7, false)] [] [2, 7, 8, 21] false [
              (none, .mv 18 (.v 8)),
              (none, .mv 19 (.v 7)),
              (none, .len 20 false (.v 19)),
              (none, .bin 21 .lss (.v 18) (.v 20))])
            (.cond (.v 21)
             (.skip [2, 7, 8])
             (.exit 0 [])))
           (.seq
            (.block 1
             (.seq
              (.region [(28, 2, false), (26, 7, false), (24, 7, false)] [] [2, 7, 8, 30] true [
                (none, .mv 24 (.v 7)),
                (none, .mv 25 (.v 8)),
                (none, .iadr 26 1 (.v 24) (.v 25)),
                (none, .load 27 false 1 (.v 26) none),
                (none, .fadr 28 2 1 (.v 2)),
                (none, .load 29 false 1 (.v 28) none),
                (none, .bin 30 .gtr (.v 27) (.v 29))])
              (.cond (.v 30)
               (.seq
                (.region [] [] [4, 5] false [
                  (none, .mv 31 (.v 8)),
                  (none, .asg 4 (.v 31) .copy),
                  (none, .asg 5 (.c (.int .i64 0)) .copy)])
                (.ret [4, 5]))
               (.skip [2, 7, 8]))))
            (.region [] [] [2, 7, 8] false [
              (none, .mv 22 (.v 8)),
              (none, .bin 23 .add (.v 22) (.c (.int .i64 1))),
              (none, .asg 8 (.v 23) .copy)]))))))
       (.seq
        (.region [] [] [4, 5] false [
          (none, .asg 4 (.c (.int .i64 0)) .copy),
          (none, .asg 5 (.c (.int .i64 3)) .copy)])
        (.ret [4, 5])))))))⟩
def F341 : PFunc :=
 ⟨[false, false], [.tmp 4],
  (.seq
   (.region [] [] [1, 2] false [
     (none, .box 2 (.v 0) .copy),
     (none, .asg 4 (.c (.bool false)) .copy)])
   (.seq
    (.seq
     (.region [] [] [1, 2, 11] false [
       (none, .mv 9 (.v 1)),
       (none, .len 10 true (.v 9)),
       (none, .bin 11 .gtr (.v 10) (.c (.int .i64 1048576)))])
     (.cond (.v 11)
      (.seq
       (.region [] [] [4] false [
         (none, .asg 4 (.c (.bool true)) .copy)])
       (.ret [4]))
      (.skip [1, 2])))
    (.seq
     (.region [] [] [1, 2, 5, 6] false [
       (none, .load 13 true 3 (.v 2) none),
       (none, .call (some 14) 420 false [((.v 13), false)]),
       (none, .mv 15 (.v 1)),
       (none, .call (some 16) 521 false [((.v 14), false), ((.v 15), false)]),
       (none, .asg 12 (.v 16) .copy),
       (none, .extp 17 (.v 12) 0),
       (none, .extp 18 (.v 12) 1),
       (none, .asg 5 (.v 17) .copy),
       (none, .asg 6 (.v 18) .copy)])
     (.seq
      (.region [] [] [5, 6, 7, 8] false [
        (none, .load 20 true 3 (.v 2) none),
        (none, .call (some 21) 420 false [((.v 20), false)]),
        (none, .mv 22 (.v 1)),
        (none, .call (some 23) 95 false [((.v 21), false), ((.v 22), false)]),
        (none, .asg 19 (.v 23) .copy),
        (none, .extp 24 (.v 19) 0),
        (none, .extp 25 (.v 19) 1),
        (none, .asg 7 (.v 24) .copy),
        (none, .asg 8 (.v 25) .copy)])
      (.seq
       (.seq
        (.region [] [] [33] false [
          (none, .mv 26 (.v 7)),
          (none, .mv 27 (.v 5)),
          (none, .bin 28 .neq (.v 26) (.v 27)),
          (none, .mv 29 (.v 28)),
          (some (29, false), .mv 30 (.v 8)),
          (some (29, false), .mv 31 (.v 6)),
          (some (29, false), .bin 32 .neq (.v 30) (.v 31)),
          (none, .pick 33 (.v 29) (.c (.bool true)) (.v 32))])
        (.cond (.v 33)
         (.seq
          (.region [] [] [4] false [
            (none, .asg 4 (.c (.bool false)) .copy)])
          (.ret [4]))
         (.skip [])))
       (.seq
        (.region [] [] [4] false [
          (none, .asg 4 (.c (.bool true)) .copy)])
        (.ret [4])))))))⟩
def tabl : List (Nat × PFunc) := [(18, F18), (207, F207), (326, F326), (217, F217), (114, F114), (95, F95), (420, F420), (757, F757), (605, F605), (763, F763), (759, F759), (606, F606), (762, F762), (761, F761), (521, F521), (341, F341)]
def T : Nat → Option PFunc := tabOf tabl
end Go.Vs.G
