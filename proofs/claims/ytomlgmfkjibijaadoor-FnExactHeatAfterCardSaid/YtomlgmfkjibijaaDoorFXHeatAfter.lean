/- The functions that the law reaches, in the small language, printed by program. No conditions. -/
import Derived.Test.YtomlgmfkjibijaaDoorDXHeatAfter
import Derived.Test.YtomlgmfkjibijaaDoorV4
set_option maxRecDepth 100000
open Go Go.Vs
namespace Go.Vs.G
def F18 : PFunc :=
 ⟨[false, false, false], [.tmp 6],
  (.seq
   (.region [] [] [1, 2, 3] false [
     (none, .box 3 (.v 0) .copy),
     (none, .asg 6 (.c (.int .i64 0)) .copy)])
   (.seq
    (.seq
     (.region [] [] [1, 3, 7] false [
       (none, .mv 7 (.v 2))])
     (.cond (.v 7)
      (.seq
       (.region [(9, 3, false)] [] [6] false [
         (none, .mv 8 (.v 1)),
         (none, .fadr 9 0 1 (.v 3)),
         (none, .load 10 false 1 (.v 9) none),
         (none, .bin 11 .add (.v 8) (.v 10)),
         (none, .asg 6 (.v 11) .copy)])
       (.ret [6]))
      (.skip [1, 3])))
    (.seq
     (.region [(13, 3, false)] [] [6] false [
       (none, .mv 12 (.v 1)),
       (none, .fadr 13 1 1 (.v 3)),
       (none, .load 14 false 1 (.v 13) none),
       (none, .bin 15 .sub (.v 12) (.v 14)),
       (none, .mm 16 true (.v 15) [(.c (.int .i64 0))]),
       (none, .asg 6 (.v 16) .copy)])
     (.ret [6]))))⟩
def F207 : PFunc :=
 ⟨[false], [.tmp 2],
  (.seq
   (.region [] [] [0] false [
     (none, .asg 2 (.c (.bool false)) .copy)])
   (.seq
    (.region [] [] [2] false [
      (none, .mv 3 (.v 0)),
      (none, .len 4 true (.v 3)),
      (none, .bin 5 .leq (.v 4) (.c (.int .i64 60))),
      (none, .mv 6 (.v 5)),
      (some (6, true), .mv 7 (.v 0)),
      (some (6, true), .call (some 8) 876 false [((.v 7), false), ((.c (.str [48, 49])), false)]),
      (some (6, true), .bin 9 .eql (.v 8) (.c (.str []))),
      (none, .pick 10 (.v 6) (.v 9) (.c (.bool false))),
      (none, .asg 2 (.v 10) .copy)])
    (.ret [2])))⟩
def F326 : PFunc :=
 ⟨[false, false, false], [.tmp 6],
  (.seq
   (.region [] [] [0, 1, 2] false [
     (none, .asg 6 (.c (.bool false)) .copy)])
   (.seq
    (.region [] [] [6] false [
      (none, .mv 7 (.v 0)),
      (none, .mv 8 (.v 1)),
      (none, .bin 9 .geq (.v 7) (.v 8)),
      (none, .mv 10 (.v 9)),
      (some (10, true), .mv 11 (.v 0)),
      (some (10, true), .mv 12 (.v 2)),
      (some (10, true), .bin 13 .leq (.v 11) (.v 12)),
      (none, .pick 14 (.v 10) (.v 13) (.c (.bool false))),
      (none, .asg 6 (.v 14) .copy)])
    (.ret [6])))⟩
def F217 : PFunc :=
 ⟨[false], [.tmp 2],
  (.seq
   (.region [] [] [1] false [
     (none, .box 1 (.v 0) .copy),
     (none, .asg 2 (.c (.bool false)) .copy)])
   (.seq
    (.region [(12, 1, false), (7, 1, false), (3, 1, false)] [] [2] false [
      (none, .fadr 3 0 1 (.v 1)),
      (none, .load 4 false 1 (.v 3) none),
      (none, .call (some 5) 326 false [((.v 4), false), ((.c (.int .i64 1)), false), ((.c (.int .i64 20)), false)]),
      (none, .mv 6 (.v 5)),
      (some (6, true), .fadr 7 1 1 (.v 1)),
      (some (6, true), .load 8 false 1 (.v 7) none),
      (some (6, true), .call (some 9) 326 false [((.v 8), false), ((.c (.int .i64 1)), false), ((.c (.int .i64 20)), false)]),
      (none, .pick 10 (.v 6) (.v 9) (.c (.bool false))),
      (none, .mv 11 (.v 10)),
      (some (11, true), .fadr 12 2 1 (.v 1)),
      (some (11, true), .load 13 false 1 (.v 12) none),
      (some (11, true), .call (some 14) 326 false [((.v 13), false), ((.c (.int .i64 1)), false), ((.c (.int .i64 100)), false)]),
      (none, .pick 15 (.v 11) (.v 14) (.c (.bool false))),
      (none, .asg 2 (.v 15) .copy)])
    (.ret [2])))⟩
def F114 : PFunc :=
 ⟨[false, false], [.tmp 4, .tmp 5],
  (.seq
   (.region [] [] [1, 2] false [
     (none, .box 2 (.v 0) .copy),
     (none, .asg 4 (.c (.sl true 1 [])) .copy),
     (none, .asg 5 (.c (.int .i64 0)) .copy)])
   (.seq
    (.seq
     (.region [] [] [1, 2, 16] false [
       (none, .load 9 true 3 (.v 2) none),
       (none, .call (some 10) 217 false [((.v 9), false)]),
       (none, .un 11 .not (.v 10)),
       (none, .mv 12 (.v 11)),
       (some (12, false), .mv 13 (.v 1)),
       (some (12, false), .call (some 14) 207 false [((.v 13), false)]),
       (some (12, false), .un 15 .not (.v 14)),
       (none, .pick 16 (.v 12) (.c (.bool true)) (.v 15))])
     (.cond (.v 16)
      (.seq
       (.region [] [] [4, 5] false [
         (none, .asg 4 (.c (.sl true 1 [])) .copy),
         (none, .asg 5 (.c (.int .i64 1)) .copy)])
       (.ret [4, 5]))
      (.skip [1, 2])))
    (.seq
     (.region [] [] [1, 2, 6, 7] false [
       (none, .mksl 17 1 (.int .i64 0) 0 []),
       (none, .asg 6 (.v 17) .move),
       (none, .asg 7 (.c (.int .i64 0)) .copy)])
     (.seq
      (.seq
       (.region [] [] [1, 2, 6, 7, 19, 20] false [
         (none, .mv 18 (.v 1)),
         (none, .len 19 true (.v 18)),
         (none, .mv 20 (.c (.int .i64 0)))])
       (.block 0
        (.loop
         (.seq
          (.region [] [] [1, 2, 6, 7, 19, 20, 21] false [
            (none, .bin 21 .lss (.v 20) (.v 19))])
          (.seq
           (.cond (.v 21)
            (.skip [1, 2, 6, 7, 19, 20])
            (.exit 0 [6]))
           (.seq
            (.block 1
             (.seq
              (.region [] [] [1, 2, 6, 7, 8, 19, 20] false [
                (none, .mv 22 (.v 20)),
                (none, .asg 8 (.v 22) .copy)])
              (.seq
               (.region [] [] [1, 2, 6, 7, 19, 20] true [
                 (none, .load 23 true 3 (.v 2) none),
                 (none, .mv 24 (.v 7)),
                 (none, .mv 25 (.v 1)),
                 (none, .mv 26 (.v 8)),
                 (none, .idx 27 (.v 25) (.v 26)),
                 (none, .bin 28 .eql (.v 27) (.c (.int .u8 49))),
                 (none, .call (some 29) 18 false [((.v 23), false), ((.v 24), false), ((.v 28), false)]),
                 (none, .asg 7 (.v 29) .copy)])
               (.region [(30, 6, false)] [] [1, 2, 6, 7, 19, 20] false [
                 (none, .mv 30 (.v 6)),
                 (none, .mv 31 (.v 7)),
                 (none, .mksl 32 1 (.int .i64 0) 1 [(0, (.v 31), .copy)]),
                 (none, .app 33 1 (.v 30) (.v 32) .move),
                 (none, .asg 6 (.v 33) .move)]))))
            (.region [] [] [1, 2, 6, 7, 19, 20] false [
              (none, .bin 34 .add (.v 20) (.c (.int .i64 1))),
              (none, .mv 20 (.v 34))])))))))
      (.seq
       (.region [(35, 6, false)] [] [4, 5] false [
         (none, .mv 35 (.v 6)),
         (none, .asg 4 (.v 35) .move),
         (none, .asg 5 (.c (.int .i64 0)) .copy)])
       (.ret [4, 5]))))))⟩
def F393 : PFunc :=
 ⟨[false, false], [.tmp 4],
  (.seq
   (.region [] [] [0, 1] false [
     (none, .asg 4 (.c (.bool false)) .copy)])
   (.seq
    (.seq
     (.region [(8, 1, false), (6, 0, false)] [] [0, 1, 10] false [
       (none, .mv 6 (.v 0)),
       (none, .len 7 false (.v 6)),
       (none, .mv 8 (.v 1)),
       (none, .len 9 false (.v 8)),
       (none, .bin 10 .neq (.v 7) (.v 9))])
     (.cond (.v 10)
      (.seq
       (.region [] [] [4] false [
         (none, .asg 4 (.c (.bool false)) .copy)])
       (.ret [4]))
      (.skip [0, 1])))
    (.seq
     (.seq
      (.region [] [] [0, 1, 5] false [
        (none, .asg 5 (.c (.int .i64 0)) .copy)])
      (.block 0
       (.loop
        (.seq
         (.seq
          (.region [(12, 0, false)] [] [0, 1, 5, 14] false [
            (none, .mv 11 (.v 5)),
            (none, .mv 12 (.v 0)),
            (none, .len 13 false (.v 12)),
            (none, .bin 14 .lss (.v 11) (.v 13))])
          (.cond (.v 14)
           (.skip [0, 1, 5])
           (.exit 0 [])))
         (.seq
          (.block 1
           (.seq
            (.region [(23, 1, false), (21, 1, false), (19, 0, false), (17, 0, false)] [] [0, 1, 5, 25] true [
              (none, .mv 17 (.v 0)),
              (none, .mv 18 (.v 5)),
              (none, .iadr 19 1 (.v 17) (.v 18)),
              (none, .load 20 false 1 (.v 19) none),
              (none, .mv 21 (.v 1)),
              (none, .mv 22 (.v 5)),
              (none, .iadr 23 1 (.v 21) (.v 22)),
              (none, .load 24 false 1 (.v 23) none),
              (none, .bin 25 .neq (.v 20) (.v 24))])
            (.cond (.v 25)
             (.seq
              (.region [] [] [4] false [
                (none, .asg 4 (.c (.bool false)) .copy)])
              (.ret [4]))
             (.skip [0, 1, 5]))))
          (.region [] [] [0, 1, 5] false [
            (none, .mv 15 (.v 5)),
            (none, .bin 16 .add (.v 15) (.c (.int .i64 1))),
            (none, .asg 5 (.v 16) .copy)]))))))
     (.seq
      (.region [] [] [4] false [
        (none, .asg 4 (.c (.bool true)) .copy)])
      (.ret [4])))))⟩
def F405 : PFunc :=
 ⟨[false, false], [.tmp 4],
  (.seq
   (.region [] [] [0, 1] false [
     (none, .asg 4 (.c (.int .i64 0)) .copy)])
   (.seq
    (.seq
     (.region [] [] [0, 1, 5] false [
       (none, .asg 5 (.c (.int .i64 0)) .copy)])
     (.block 0
      (.loop
       (.seq
        (.seq
         (.region [(7, 0, false)] [] [0, 1, 5, 9] false [
           (none, .mv 6 (.v 5)),
           (none, .mv 7 (.v 0)),
           (none, .len 8 false (.v 7)),
           (none, .bin 9 .lss (.v 6) (.v 8))])
         (.cond (.v 9)
          (.skip [0, 1, 5])
          (.exit 0 [1])))
        (.seq
         (.block 1
          (.seq
           (.seq
            (.region [(14, 0, false), (12, 0, false)] [] [0, 1, 5, 17] false [
              (none, .mv 12 (.v 0)),
              (none, .mv 13 (.v 5)),
              (none, .iadr 14 1 (.v 12) (.v 13)),
              (none, .load 15 false 1 (.v 14) none),
              (none, .mv 16 (.v 1)),
              (none, .bin 17 .neq (.v 15) (.v 16))])
            (.cond (.v 17)
             (.seq
              (.region [] [] [4] false [
                (none, .asg 4 (.c (.int .i64 (-1))) .copy)])
              (.ret [4]))
             (.skip [0, 1, 5])))
           (.region [] [] [0, 1, 5] false [
             (none, .mv 18 (.v 1)),
             (none, .bin 19 .add (.v 18) (.c (.int .i64 1))),
             (none, .asg 1 (.v 19) .copy)])))
         (.region [] [] [0, 1, 5] false [
           (none, .mv 10 (.v 5)),
           (none, .bin 11 .add (.v 10) (.c (.int .i64 1))),
           (none, .asg 5 (.v 11) .copy)]))))))
    (.seq
     (.region [] [] [4] false [
       (none, .mv 20 (.v 1)),
       (none, .asg 4 (.v 20) .copy)])
     (.ret [4]))))⟩
def F408 : PFunc :=
 ⟨[true, false], [.tmp 4],
  (.seq
   (.region [] [] [0, 1] false [
     (none, .asg 4 (.c (.int .i64 0)) .copy)])
   (.seq
    (.seq
     (.region [] [] [0, 1, 5] false [
       (none, .asg 5 (.c (.int .i64 0)) .copy)])
     (.block 0
      (.loop
       (.seq
        (.seq
         (.region [(7, 0, false)] [] [0, 1, 5, 9] false [
           (none, .mv 6 (.v 5)),
           (none, .mv 7 (.v 0)),
           (none, .len 8 false (.v 7)),
           (none, .bin 9 .lss (.v 6) (.v 8))])
         (.cond (.v 9)
          (.skip [0, 1, 5])
          (.exit 0 [0, 1])))
        (.seq
         (.block 1
          (.seq
           (.region [(15, 0, false), (12, 0, false)] [] [0, 1, 5] false [
             (none, .mv 12 (.v 0)),
             (none, .mv 13 (.v 5)),
             (none, .mv 14 (.v 1)),
             (none, .iadr 15 1 (.v 12) (.v 13)),
             (none, .store 1 (.v 15) (.v 14) .copy)])
           (.region [] [] [0, 1, 5] false [
             (none, .mv 16 (.v 1)),
             (none, .bin 17 .add (.v 16) (.c (.int .i64 1))),
             (none, .asg 1 (.v 17) .copy)])))
         (.region [] [] [0, 1, 5] false [
           (none, .mv 10 (.v 5)),
           (none, .bin 11 .add (.v 10) (.c (.int .i64 1))),
           (none, .asg 5 (.v 11) .copy)]))))))
    (.seq
     (.region [] [] [0, 4] false [
       (none, .mv 18 (.v 1)),
       (none, .asg 4 (.v 18) .copy)])
     (.ret [0, 4]))))⟩
def F420 : PFunc :=
 ⟨[false], [.cell 2 true 3],
  (.seq
   (.region [] [] [1, 2] false [
     (none, .box 1 (.v 0) .copy),
     (none, .new 2 (.agg [(.int .i64 0), (.int .i64 0), (.int .i64 0)]))])
   (.seq
    (.region [] [] [1, 2, 3] false [
      (none, .new 3 (.agg [(.int .i64 0), (.int .i64 0), (.int .i64 0)]))])
    (.seq
     (.region [(6, 3, false), (4, 1, false)] [] [1, 2, 3] false [
       (none, .fadr 4 0 1 (.v 1)),
       (none, .load 5 false 1 (.v 4) none),
       (none, .fadr 6 0 1 (.v 3)),
       (none, .store 1 (.v 6) (.v 5) .copy)])
     (.seq
      (.region [(9, 3, false), (7, 1, false)] [] [1, 2, 3] false [
        (none, .fadr 7 1 1 (.v 1)),
        (none, .load 8 false 1 (.v 7) none),
        (none, .fadr 9 1 1 (.v 3)),
        (none, .store 1 (.v 9) (.v 8) .copy)])
      (.seq
       (.region [(12, 3, false), (10, 1, false)] [] [2, 3] false [
         (none, .fadr 10 2 1 (.v 1)),
         (none, .load 11 false 1 (.v 10) none),
         (none, .fadr 12 2 1 (.v 3)),
         (none, .store 1 (.v 12) (.v 11) .copy)])
       (.seq
        (.region [] [] [2] false [
          (none, .load 13 true 3 (.v 3) none),
          (none, .store 3 (.v 2) (.v 13) .copy)])
        (.ret [2])))))))⟩
def F757 : PFunc :=
 ⟨[false], [.tmp 2],
  (.seq
   (.region [] [] [0] false [
     (none, .asg 2 (.c (.bool false)) .copy)])
   (.seq
    (.seq
     (.region [] [] [0, 3] false [
       (none, .asg 3 (.c (.int .i64 0)) .copy)])
     (.block 0
      (.loop
       (.seq
        (.seq
         (.region [] [] [0, 3, 7] false [
           (none, .mv 4 (.v 3)),
           (none, .mv 5 (.v 0)),
           (none, .len 6 true (.v 5)),
           (none, .bin 7 .lss (.v 4) (.v 6))])
         (.cond (.v 7)
          (.skip [0, 3])
          (.exit 0 [0])))
        (.seq
         (.block 1
          (.seq
           (.region [] [] [0, 3, 19] false [
             (none, .mv 10 (.v 0)),
             (none, .mv 11 (.v 3)),
             (none, .idx 12 (.v 10) (.v 11)),
             (none, .bin 13 .neq (.v 12) (.c (.int .u8 48))),
             (none, .mv 14 (.v 13)),
             (some (14, true), .mv 15 (.v 0)),
             (some (14, true), .mv 16 (.v 3)),
             (some (14, true), .idx 17 (.v 15) (.v 16)),
             (some (14, true), .bin 18 .neq (.v 17) (.c (.int .u8 49))),
             (none, .pick 19 (.v 14) (.v 18) (.c (.bool false)))])
           (.cond (.v 19)
            (.seq
             (.region [] [] [2] false [
               (none, .asg 2 (.c (.bool false)) .copy)])
             (.ret [2]))
            (.skip [0, 3]))))
         (.region [] [] [0, 3] false [
           (none, .mv 8 (.v 3)),
           (none, .bin 9 .add (.v 8) (.c (.int .i64 1))),
           (none, .asg 3 (.v 9) .copy)]))))))
    (.seq
     (.region [] [] [2] false [
       (none, .mv 20 (.v 0)),
       (none, .len 21 true (.v 20)),
       (none, .bin 22 .leq (.v 21) (.c (.int .i64 60))),
       (none, .asg 2 (.v 22) .copy)])
     (.ret [2]))))⟩
def F605 : PFunc :=
 ⟨[false, false, false], [.tmp 6],
  (.seq
   (.region [] [] [0, 1, 2] false [
     (none, .asg 6 (.c (.bool false)) .copy)])
   (.seq
    (.region [] [] [6] false [
      (none, .mv 7 (.v 0)),
      (none, .mv 8 (.v 1)),
      (none, .bin 9 .geq (.v 7) (.v 8)),
      (none, .mv 10 (.v 9)),
      (some (10, true), .mv 11 (.v 0)),
      (some (10, true), .mv 12 (.v 2)),
      (some (10, true), .bin 13 .leq (.v 11) (.v 12)),
      (none, .pick 14 (.v 10) (.v 13) (.c (.bool false))),
      (none, .asg 6 (.v 14) .copy)])
    (.ret [6])))⟩
def F763 : PFunc :=
 ⟨[false], [.tmp 2],
  (.seq
   (.region [] [] [1] false [
     (none, .box 1 (.v 0) .copy),
     (none, .asg 2 (.c (.bool false)) .copy)])
   (.seq
    (.region [(12, 1, false), (7, 1, false), (3, 1, false)] [] [2] false [
      (none, .fadr 3 0 1 (.v 1)),
      (none, .load 4 false 1 (.v 3) none),
      (none, .call (some 5) 605 false [((.v 4), false), ((.c (.int .i64 1)), false), ((.c (.int .i64 20)), false)]),
      (none, .mv 6 (.v 5)),
      (some (6, true), .fadr 7 1 1 (.v 1)),
      (some (6, true), .load 8 false 1 (.v 7) none),
      (some (6, true), .call (some 9) 605 false [((.v 8), false), ((.c (.int .i64 1)), false), ((.c (.int .i64 20)), false)]),
      (none, .pick 10 (.v 6) (.v 9) (.c (.bool false))),
      (none, .mv 11 (.v 10)),
      (some (11, true), .fadr 12 2 1 (.v 1)),
      (some (11, true), .load 13 false 1 (.v 12) none),
      (some (11, true), .call (some 14) 605 false [((.v 13), false), ((.c (.int .i64 1)), false), ((.c (.int .i64 100)), false)]),
      (none, .pick 15 (.v 11) (.v 14) (.c (.bool false))),
      (none, .asg 2 (.v 15) .copy)])
    (.ret [2])))⟩
def F759 : PFunc :=
 ⟨[false, false], [.tmp 4],
  (.seq
   (.region [] [] [1, 2] false [
     (none, .box 2 (.v 0) .copy),
     (none, .asg 4 (.c (.int .i64 0)) .copy)])
   (.seq
    (.seq
     (.region [] [] [12] false [
       (none, .load 5 true 3 (.v 2) none),
       (none, .call (some 6) 763 false [((.v 5), false)]),
       (none, .un 7 .not (.v 6)),
       (none, .mv 8 (.v 7)),
       (some (8, false), .mv 9 (.v 1)),
       (some (8, false), .call (some 10) 757 false [((.v 9), false)]),
       (some (8, false), .un 11 .not (.v 10)),
       (none, .pick 12 (.v 8) (.c (.bool true)) (.v 11))])
     (.cond (.v 12)
      (.seq
       (.region [] [] [4] false [
         (none, .asg 4 (.c (.int .i64 1)) .copy)])
       (.ret [4]))
      (.skip [])))
    (.seq
     (.region [] [] [4] false [
       (none, .asg 4 (.c (.int .i64 0)) .copy)])
     (.ret [4]))))⟩
def F606 : PFunc :=
 ⟨[false, false], [.tmp 4],
  (.seq
   (.region [] [] [0, 1] false [
     (none, .asg 4 (.c (.int .i64 0)) .copy)])
   (.seq
    (.seq
     (.region [] [] [0, 1, 7] false [
       (none, .mv 5 (.v 0)),
       (none, .mv 6 (.v 1)),
       (none, .bin 7 .gtr (.v 5) (.v 6))])
     (.cond (.v 7)
      (.seq
       (.region [] [] [4] false [
         (none, .mv 8 (.v 0)),
         (none, .asg 4 (.v 8) .copy)])
       (.ret [4]))
      (.skip [1])))
    (.seq
     (.region [] [] [4] false [
       (none, .mv 9 (.v 1)),
       (none, .asg 4 (.v 9) .copy)])
     (.ret [4]))))⟩
def F762 : PFunc :=
 ⟨[false, false, false], [.tmp 6],
  (.seq
   (.region [] [] [1, 2, 3] false [
     (none, .box 3 (.v 0) .copy),
     (none, .asg 6 (.c (.int .i64 0)) .copy)])
   (.seq
    (.seq
     (.region [] [] [1, 3, 7] false [
       (none, .mv 7 (.v 2))])
     (.cond (.v 7)
      (.seq
       (.region [(9, 3, false)] [] [6] false [
         (none, .mv 8 (.v 1)),
         (none, .fadr 9 0 1 (.v 3)),
         (none, .load 10 false 1 (.v 9) none),
         (none, .bin 11 .add (.v 8) (.v 10)),
         (none, .asg 6 (.v 11) .copy)])
       (.ret [6]))
      (.skip [1, 3])))
    (.seq
     (.region [(13, 3, false)] [] [6] false [
       (none, .mv 12 (.v 1)),
       (none, .fadr 13 1 1 (.v 3)),
       (none, .load 14 false 1 (.v 13) none),
       (none, .bin 15 .sub (.v 12) (.v 14)),
       (none, .call (some 16) 606 false [((.c (.int .i64 0)), false), ((.v 15), false)]),
       (none, .asg 6 (.v 16) .copy)])
     (.ret [6]))))⟩
def F761 : PFunc :=
 ⟨[false, false], [.tmp 4],
  (.seq
   (.region [] [] [1, 2] false [
     (none, .box 2 (.v 0) .copy),
     (none, .asg 4 (.c (.sl true 1 [])) .copy)])
   (.seq
    (.region [] [] [1, 2, 5] false [
      (none, .mksl 8 1 (.int .i64 0) 0 []),
      (none, .asg 5 (.v 8) .move)])
    (.seq
     (.region [] [] [1, 2, 5, 6] false [
       (none, .asg 6 (.c (.int .i64 0)) .copy)])
     (.seq
      (.seq
       (.region [] [] [1, 2, 5, 6, 7] false [
         (none, .asg 7 (.c (.int .i64 0)) .copy)])
       (.block 0
        (.loop
         (.seq
          (.seq
           (.region [] [] [1, 2, 5, 6, 7, 12] false [
             (none, .mv 9 (.v 7)),
             (none, .mv 10 (.v 1)),
             (none, .len 11 true (.v 10)),
             (none, .bin 12 .lss (.v 9) (.v 11))])
           (.cond (.v 12)
            (.skip [1, 2, 5, 6, 7])
            (.exit 0 [5])))
          (.seq
           (.block 1
            (.seq
             (.region [] [] [1, 2, 5, 6, 7] true [
               (none, .load 15 true 3 (.v 2) none),
               (none, .mv 16 (.v 6)),
               (none, .mv 17 (.v 1)),
               (none, .mv 18 (.v 7)),
               (none, .idx 19 (.v 17) (.v 18)),
               (none, .bin 20 .eql (.v 19) (.c (.int .u8 49))),
               (none, .call (some 21) 762 false [((.v 15), false), ((.v 16), false), ((.v 20), false)]),
               (none, .asg 6 (.v 21) .copy)])
             (.region [(22, 5, false)] [] [1, 2, 5, 6, 7] false [
               (none, .mv 22 (.v 5)),
               (none, .mv 23 (.v 6)),
               (none, .mksl 24 1 (.int .i64 0) 1 [(0, (.v 23), .copy)]),
               (none, .app 25 1 (.v 22) (.v 24) .move),
               (none, .asg 5 (.v 25) .move)])))
           (.region [] [] [1, 2, 5, 6, 7] false [
             (none, .mv 13 (.v 7)),
             (none, .bin 14 .add (.v 13) (.c (.int .i64 1))),
             (none, .asg 7 (.v 14) .copy)]))))))
      (.seq
       (.region [(26, 5, false)] [] [4] false [
         (none, .mv 26 (.v 5)),
         (none, .asg 4 (.v 26) .move)])
       (.ret [4]))))))⟩
def F532 : PFunc :=
 ⟨[false, false], [.tmp 4, .tmp 5],
  (.seq
   (.region [] [] [1, 2] false [
     (none, .box 2 (.v 0) .copy),
     (none, .asg 4 (.c (.sl true 1 [])) .copy),
     (none, .asg 5 (.c (.int .i64 0)) .copy)])
   (.seq
    (.region [] [] [1, 2, 6] false [
      (none, .load 7 true 3 (.v 2) none),
      (none, .mv 8 (.v 1)),
      (none, .call (some 9) 759 false [((.v 7), false), ((.v 8), false)]),
      (none, .asg 6 (.v 9) .copy)])
    (.seq
     (.seq
      (.region [] [] [1, 2, 6, 11] false [
        (none, .mv 10 (.v 6)),
        (none, .bin 11 .neq (.v 10) (.c (.int .i64 0)))])
      (.cond (.v 11)
       (.seq
        (.region [] [] [4, 5] false [
          (none, .mv 12 (.v 6)),
          (none, .asg 4 (.c (.sl true 1 [])) .copy),
          (none, .asg 5 (.v 12) .copy)])
        (.ret [4, 5]))
       (.skip [1, 2])))
     (.seq
      (.region [] [] [4, 5] false [
        (none, .load 13 true 3 (.v 2) none),
        (none, .mv 14 (.v 1)),
        (none, .call (some 15) 761 false [((.v 13), false), ((.v 14), false)]),
        (none, .asg 4 (.v 15) .move),
        (none, .asg 5 (.c (.int .i64 0)) .copy)])
      (.ret [4, 5])))))⟩
def F344 : PFunc :=
 ⟨[false, false], [.tmp 4],
  (.seq
   (.region [] [] [1, 2] false [
     (none, .box 2 (.v 0) .copy),
     (none, .asg 4 (.c (.bool false)) .copy)])
   (.seq
    (.seq
     (.region [] [] [1, 2, 15] false [
       (none, .mv 13 (.v 1)),
       (none, .len 14 true (.v 13)),
       (none, .bin 15 .gtr (.v 14) (.c (.int .i64 1048576)))])
     (.cond (.v 15)
      (.seq
       (.region [] [] [4] false [
         (none, .asg 4 (.c (.bool true)) .copy)])
       (.ret [4]))
      (.skip [1, 2])))
    (.seq
     (.region [] [] [1, 2, 5, 6] false [
       (none, .load 17 true 3 (.v 2) none),
       (none, .call (some 18) 420 false [((.v 17), false)]),
       (none, .mv 19 (.v 1)),
       (none, .call (some 20) 532 false [((.v 18), false), ((.v 19), false)]),
       (none, .asg 16 (.v 20) .move),
       (none, .ext 21 (.v 16) 0),
       (none, .extp 22 (.v 16) 1),
       (none, .asg 5 (.v 21) .move),
       (none, .asg 6 (.v 22) .copy)])
     (.seq
      (.region [] [] [1, 2, 5, 6, 7, 8] false [
        (none, .load 24 true 3 (.v 2) none),
        (none, .call (some 25) 420 false [((.v 24), false)]),
        (none, .mv 26 (.v 1)),
        (none, .call (some 27) 114 false [((.v 25), false), ((.v 26), false)]),
        (none, .asg 23 (.v 27) .move),
        (none, .ext 28 (.v 23) 0),
        (none, .extp 29 (.v 23) 1),
        (none, .asg 7 (.v 28) .move),
        (none, .asg 8 (.v 29) .copy)])
      (.seq
       (.seq
        (.region [(31, 5, false), (30, 7, false)] [] [1, 2, 5, 6, 7, 38] false [
          (none, .mv 30 (.v 7)),
          (none, .mv 31 (.v 5)),
          (none, .call (some 32) 393 false [((.v 30), false), ((.v 31), false)]),
          (none, .un 33 .not (.v 32)),
          (none, .mv 34 (.v 33)),
          (some (34, false), .mv 35 (.v 8)),
          (some (34, false), .mv 36 (.v 6)),
          (some (34, false), .bin 37 .neq (.v 35) (.v 36)),
          (none, .pick 38 (.v 34) (.c (.bool true)) (.v 37))])
        (.cond (.v 38)
         (.seq
          (.region [] [] [4] false [
            (none, .asg 4 (.c (.bool false)) .copy)])
          (.ret [4]))
         (.skip [1, 2, 5, 6, 7])))
       (.seq
        (.region [] [] [1, 2, 5, 6, 7, 9] false [
          (none, .asg 9 (.c (.int .i64 1)) .copy)])
        (.seq
         (.region [(39, 7, false)] [] [1, 2, 5, 6, 7, 9] false [
           (none, .mv 39 (.v 7)),
           (none, .mv 40 (.v 9)),
           (none, .call (some 41) 408 false [((.v 39), true), ((.v 40), false)]),
           (none, .asg 9 (.v 41) .copy)])
         (.seq
          (.region [] [] [1, 2, 5, 6, 7, 9, 10] false [
            (none, .asg 10 (.c (.int .i64 1)) .copy)])
          (.seq
           (.region [(42, 7, false)] [] [1, 2, 5, 6, 7, 9, 10] false [
             (none, .mv 42 (.v 7)),
             (none, .mv 43 (.v 10)),
             (none, .call (some 44) 405 false [((.v 42), false), ((.v 43), false)]),
             (none, .asg 10 (.v 44) .copy)])
           (.seq
            (.seq
             (.region [] [] [1, 2, 5, 6, 7, 9, 10, 46] false [
               (none, .mv 45 (.v 10)),
               (none, .bin 46 .lss (.v 45) (.c (.int .i64 0)))])
             (.cond (.v 46)
              (.seq
               (.region [] [] [4] false [
                 (none, .asg 4 (.c (.bool false)) .copy)])
               (.ret [4]))
              (.skip [1, 2, 5, 6, 7, 9, 10])))
            (.seq
             (.seq
              (.region [] [] [1, 2, 5, 6, 7, 9, 49] false [
                (none, .mv 47 (.v 10)),
                (none, .mv 48 (.v 9)),
                (none, .bin 49 .neq (.v 47) (.v 48))])
              (.cond (.v 49)
               (.seq
                (.region [] [] [4] false [
                  (none, .asg 4 (.c (.bool false)) .copy)])
                (.ret [4]))
               (.skip [1, 2, 5, 6, 7, 9])))
             (.seq
              (.region [] [] [5, 6, 7, 9, 11, 12] false [
                (none, .load 51 true 3 (.v 2) none),
                (none, .call (some 52) 420 false [((.v 51), false)]),
                (none, .mv 53 (.v 1)),
                (none, .call (some 54) 114 false [((.v 52), false), ((.v 53), false)]),
                (none, .asg 50 (.v 54) .move),
                (none, .ext 55 (.v 50) 0),
                (none, .extp 56 (.v 50) 1),
                (none, .asg 11 (.v 55) .move),
                (none, .asg 12 (.v 56) .copy)])
              (.seq
               (.seq
                (.region [(58, 5, false), (57, 11, false)] [] [7, 9, 65] false [
                  (none, .mv 57 (.v 11)),
                  (none, .mv 58 (.v 5)),
                  (none, .call (some 59) 393 false [((.v 57), false), ((.v 58), false)]),
                  (none, .un 60 .not (.v 59)),
                  (none, .mv 61 (.v 60)),
                  (some (61, false), .mv 62 (.v 12)),
                  (some (61, false), .mv 63 (.v 6)),
                  (some (61, false), .bin 64 .neq (.v 62) (.v 63)),
                  (none, .pick 65 (.v 61) (.c (.bool true)) (.v 64))])
                (.cond (.v 65)
                 (.seq
                  (.region [] [] [4] false [
                    (none, .asg 4 (.c (.bool false)) .copy)])
                  (.ret [4]))
                 (.skip [7, 9])))
               (.seq
                (.region [] [] [7, 9, 10] false [
                  (none, .asg 10 (.c (.int .i64 1)) .copy)])
                (.seq
                 (.region [(66, 7, false)] [] [9, 10] false [
                   (none, .mv 66 (.v 7)),
                   (none, .mv 67 (.v 10)),
                   (none, .call (some 68) 405 false [((.v 66), false), ((.v 67), false)]),
                   (none, .asg 10 (.v 68) .copy)])
                 (.seq
                  (.seq
                   (.region [] [] [9, 10, 70] false [
                     (none, .mv 69 (.v 10)),
                     (none, .bin 70 .lss (.v 69) (.c (.int .i64 0)))])
                   (.cond (.v 70)
                    (.seq
                     (.region [] [] [4] false [
                       (none, .asg 4 (.c (.bool false)) .copy)])
                     (.ret [4]))
                    (.skip [9, 10])))
                  (.seq
                   (.seq
                    (.region [] [] [73] false [
                      (none, .mv 71 (.v 10)),
                      (none, .mv 72 (.v 9)),
                      (none, .bin 73 .neq (.v 71) (.v 72))])
                    (.cond (.v 73)
                     (.seq
                      (.region [] [] [4] false [
                        (none, .asg 4 (.c (.bool false)) .copy)])
                      (.ret [4]))
                     (.skip [])))
                   (.seq
                    (.region [] [] [4] false [
                      (none, .asg 4 (.c (.bool true)) .copy)])
                    (.ret [4])))))))))))))))))))⟩
def tabl : List (Nat × PFunc) := [(18, F18), (207, F207), (326, F326), (217, F217), (114, F114), (393, F393), (405, F405), (408, F408), (420, F420), (757, F757), (605, F605), (763, F763), (759, F759), (606, F606), (762, F762), (761, F761), (532, F532), (344, F344)]
def T : Nat → Option PFunc := tabOf tabl
end Go.Vs.G
