/- The functions that the law reaches, in the small language, printed by program. No conditions. -/
import Derived.Test.YtklbdahpecflmaaDXBestBurning
import Derived.Test.YtklbdahpecflmaaV4
set_option maxRecDepth 100000
open Go Go.Vs
namespace Go.Vs.G
def F18 : PFunc :=
 ⟨[false, false, false], [.tmp 6],
  (.seq
   (.region [] [] [1, 2, 3] false [
     (none, .box 3 (.v 0) .copy),
     (none, .asg 6 (.c (.int .i64 0)) .copy)])
   (.seq
    (.seq
     (.region [] [] [1, 3, 7] false [
       (none, .mv 7 (.v 2))])
     (.cond (.v 7)
      (.seq
       (.region [(9, 3, false)] [] [6] false [
         (none, .mv 8 (.v 1)),
         (none, .fadr 9 0 1 (.v 3)),
         (none, .load 10 false 1 (.v 9) none),
         (none, .bin 11 .add (.v 8) (.v 10)),
         (none, .asg 6 (.v 11) .copy)])
       (.ret [6]))
      (.skip [1, 3])))
    (.seq
     (.region [(13, 3, false)] [] [6] false [
       (none, .mv 12 (.v 1)),
       (none, .fadr 13 1 1 (.v 3)),
       (none, .load 14 false 1 (.v 13) none),
       (none, .bin 15 .sub (.v 12) (.v 14)),
       (none, .mm 16 true (.v 15) [(.c (.int .i64 0))]),
       (none, .asg 6 (.v 16) .copy)])
     (.ret [6]))))⟩
def F249 : PFunc :=
 ⟨[false, false], [.tmp 4, .tmp 5],
  (.seq
   (.region [] [] [1, 2] false [
     (none, .box 2 (.v 0) .copy),
     (none, .asg 4 (.c (.str [])) .copy),
     (none, .asg 5 (.c (.int .i64 0)) .copy)])
   (.seq
    (.region [] [] [1, 2, 6] false [
      (none, .mv 15 (.v 1)),
      (none, .bin 16 .add (.v 15) (.c (.int .i64 1))),
      (none, .make 17 1 (.sl true 1 []) (.v 16)),
      (none, .asg 6 (.v 17) .move)])
    (.seq
     (.region [(23, 6, false), (19, 2, false), (18, 6, false)] [] [1, 2, 6] false [
       (none, .mv 18 (.v 6)),
       (none, .fadr 19 2 1 (.v 2)),
       (none, .load 20 false 1 (.v 19) none),
       (none, .bin 21 .add (.v 20) (.c (.int .i64 1))),
       (none, .make 22 1 (.int .i64 0) (.v 21)),
       (none, .iadr 23 1 (.v 18) (.c (.int .i64 0))),
       (none, .store 1 (.v 23) (.v 22) .move)])
     (.seq
      (.seq
       (.region [] [] [1, 2, 6, 7] false [
         (none, .asg 7 (.c (.int .i64 1)) .copy)])
       (.block 0
        (.loop
         (.seq
          (.seq
           (.region [] [] [1, 2, 6, 7, 26] false [
             (none, .mv 24 (.v 7)),
             (none, .mv 25 (.v 1)),
             (none, .bin 26 .leq (.v 24) (.v 25))])
           (.cond (.v 26)
            (.skip [1, 2, 6, 7])
            (.exit 0 [1, 2, 6])))
          (.seq
           (.block 1
            (.seq
             (.region [] [] [1, 2, 6, 7, 8] false [
               (none, .asg 8 (.c (.int .i64 0)) .copy)])
             (.block 2
              (.loop
               (.seq
                (.seq
                 (.region [(30, 2, false)] [] [1, 2, 6, 7, 8, 32] false [
                   (none, .mv 29 (.v 8)),
                   (none, .fadr 30 2 1 (.v 2)),
                   (none, .load 31 false 1 (.v 30) none),
                   (none, .bin 32 .leq (.v 29) (.v 31))])
                 (.cond (.v 32)
                  (.skip [1, 2, 6, 7, 8])
                  (.exit 2 [1, 2, 6, 7])))
                (.seq
                 (.block 3
                  (.seq
                   (.region [(43, 6, true), (39, 6, true), (38, 6, false), (35, 6, false)] [] [1, 2, 6, 7, 8, 9] true [
                     (none, .mv 35 (.v 6)),
                     (none, .mv 36 (.v 7)),
                     (none, .bin 37 .sub (.v 36) (.c (.int .i64 1))),
                     (none, .iadr 38 1 (.v 35) (.v 37)),
                     (none, .load 39 false 1 (.v 38) none),
                     (none, .load 40 true 3 (.v 2) none),
                     (none, .mv 41 (.v 8)),
                     (none, .call (some 42) 18 false [((.v 40), false), ((.v 41), false), ((.c (.bool false)), false)]),
                     (none, .iadr 43 1 (.v 39) (.v 42)),
                     (none, .load 44 false 1 (.v 43) none),
                     (none, .asg 9 (.v 44) .copy)])
                   (.seq
                    (.seq
                     (.region [] [] [1, 2, 6, 7, 8, 9, 10] false [
                       (none, .load 45 true 3 (.v 2) none),
                       (none, .mv 46 (.v 8)),
                       (none, .call (some 47) 18 false [((.v 45), false), ((.v 46), false), ((.c (.bool true)), false)]),
                       (none, .asg 10 (.v 47) .copy)])
                     (.seq
                      (.region [(49, 2, false)] [] [1, 2, 6, 7, 8, 9, 10, 51] false [
                        (none, .mv 48 (.v 10)),
                        (none, .fadr 49 2 1 (.v 2)),
                        (none, .load 50 false 1 (.v 49) none),
                        (none, .bin 51 .leq (.v 48) (.v 50))])
                      (.cond (.v 51)
                       (.region [(59, 6, true), (57, 6, true), (56, 6, false), (53, 6, false)] [] [1, 2, 6, 7, 8, 9] false [
                         (none, .mv 52 (.v 9)),
                         (none, .mv 53 (.v 6)),
                         (none, .mv 54 (.v 7)),
                         (none, .bin 55 .sub (.v 54) (.c (.int .i64 1))),
                         (none, .iadr 56 1 (.v 53) (.v 55)),
                         (none, .load 57 false 1 (.v 56) none),
                         (none, .mv 58 (.v 10)),
                         (none, .iadr 59 1 (.v 57) (.v 58)),
                         (none, .load 60 false 1 (.v 59) none),
                         (none, .bin 61 .add (.v 60) (.c (.int .i64 1))),
                         (none, .mm 62 true (.v 52) [(.v 61)]),
                         (none, .asg 9 (.v 62) .copy)])
                       (.skip [1, 2, 6, 7, 8, 9]))))
                    (.region [(72, 6, false), (68, 6, true), (67, 6, false), (65, 6, false), (63, 6, false)] [] [1, 2, 6, 7, 8] false [
                      (none, .mv 63 (.v 6)),
                      (none, .mv 64 (.v 7)),
                      (none, .mv 65 (.v 6)),
                      (none, .mv 66 (.v 7)),
                      (none, .iadr 67 1 (.v 65) (.v 66)),
                      (none, .load 68 false 1 (.v 67) none),
                      (none, .mv 69 (.v 9)),
                      (none, .mksl 70 1 (.int .i64 0) 1 [(0, (.v 69), .copy)]),
                      (none, .app 71 1 (.v 68) (.v 70) .move),
                      (none, .iadr 72 1 (.v 63) (.v 64)),
                      (none, .store 1 (.v 72) (.v 71) .move)]))))
                 (.region [] [] [1, 2, 6, 7, 8] false [
                   (none, .mv 33 (.v 8)),
                   (none, .bin 34 .add (.v 33) (.c (.int .i64 1))),
                   (none, .asg 8 (.v 34) .copy)])))))))
           (.region [] [] [1, 2, 6, 7] false [
             (none, .mv 27 (.v 7)),
             (none, .bin 28 .add (.v 27) (.c (.int .i64 1))),
             (none, .asg 7 (.v 28) .copy)]))))))
      (.seq
       (.region [] [] [1, 2, 6, 11, 12] false [
         (none, .mksl 73 1 (.int .u8 0) 0 []),
         (none, .asg 11 (.v 73) .move),
         (none, .asg 12 (.c (.int .i64 0)) .copy)])
       (.seq
        (.seq
         (.region [] [] [1, 2, 6, 11, 12, 13] false [
           (none, .mv 74 (.v 1)),
           (none, .asg 13 (.v 74) .copy)])
         (.block 4
          (.loop
           (.seq
            (.seq
             (.region [] [] [1, 2, 6, 11, 12, 13, 76] false [
               (none, .mv 75 (.v 13)),
               (none, .bin 76 .gtr (.v 75) (.c (.int .i64 0)))])
             (.cond (.v 76)
              (.skip [1, 2, 6, 11, 12, 13])
              (.exit 4 [1, 6, 11])))
            (.seq
             (.block 5
              (.seq
               (.region [] [] [1, 2, 6, 11, 12, 13, 14] false [
                 (none, .load 79 true 3 (.v 2) none),
                 (none, .mv 80 (.v 12)),
                 (none, .call (some 81) 18 false [((.v 79), false), ((.v 80), false), ((.c (.bool true)), false)]),
                 (none, .asg 14 (.v 81) .copy)])
               (.seq
                (.region [(101, 6, true), (99, 6, true), (98, 6, false), (96, 6, false), (93, 6, true), (91, 6, true), (90, 6, false), (87, 6, false), (83, 2, false)] [] [1, 2, 6, 11, 12, 13, 14, 104] true [
                  (none, .mv 82 (.v 14)),
                  (none, .fadr 83 2 1 (.v 2)),
                  (none, .load 84 false 1 (.v 83) none),
                  (none, .bin 85 .leq (.v 82) (.v 84)),
                  (none, .mv 86 (.v 85)),
                  (some (86, true), .mv 87 (.v 6)),
                  (some (86, true), .mv 88 (.v 13)),
                  (some (86, true), .bin 89 .sub (.v 88) (.c (.int .i64 1))),
                  (some (86, true), .iadr 90 1 (.v 87) (.v 89)),
                  (some (86, true), .load 91 false 1 (.v 90) none),
                  (some (86, true), .mv 92 (.v 14)),
                  (some (86, true), .iadr 93 1 (.v 91) (.v 92)),
                  (some (86, true), .load 94 false 1 (.v 93) none),
                  (some (86, true), .bin 95 .add (.v 94) (.c (.int .i64 1))),
                  (some (86, true), .mv 96 (.v 6)),
                  (some (86, true), .mv 97 (.v 13)),
                  (some (86, true), .iadr 98 1 (.v 96) (.v 97)),
                  (some (86, true), .load 99 false 1 (.v 98) none),
                  (some (86, true), .mv 100 (.v 12)),
                  (some (86, true), .iadr 101 1 (.v 99) (.v 100)),
                  (some (86, true), .load 102 false 1 (.v 101) none),
                  (some (86, true), .bin 103 .eql (.v 95) (.v 102)),
                  (none, .pick 104 (.v 86) (.v 103) (.c (.bool false)))])
                (.cond (.v 104)
                 (.region [(105, 11, false)] [] [1, 2, 6, 11, 12, 13] false [
                   (none, .mv 105 (.v 11)),
                   (none, .mksl 106 1 (.int .u8 0) 1 [(0, (.c (.int .u8 49)), .copy)]),
                   (none, .app 107 1 (.v 105) (.v 106) .move),
                   (none, .mv 108 (.v 14)),
                   (none, .asg 11 (.v 107) .move),
                   (none, .asg 12 (.v 108) .copy)])
                 (.region [(109, 11, false)] [] [1, 2, 6, 11, 12, 13] true [
                   (none, .mv 109 (.v 11)),
                   (none, .mksl 110 1 (.int .u8 0) 1 [(0, (.c (.int .u8 48)), .copy)]),
                   (none, .app 111 1 (.v 109) (.v 110) .move),
                   (none, .load 112 true 3 (.v 2) none),
                   (none, .mv 113 (.v 12)),
                   (none, .call (some 114) 18 false [((.v 112), false), ((.v 113), false), ((.c (.bool false)), false)]),
                   (none, .asg 11 (.v 111) .move),
                   (none, .asg 12 (.v 114) .copy)])))))
             (.region [] [] [1, 2, 6, 11, 12, 13] false [
               (none, .mv 77 (.v 13)),
               (none, .bin 78 .sub (.v 77) (.c (.int .i64 1))),
               (none, .asg 13 (.v 78) .copy)]))))))
        (.seq
         (.region [(121, 6, true), (120, 6, true), (119, 6, false), (117, 6, false), (115, 11, false)] [] [4, 5] true [
           (none, .mv 115 (.v 11)),
           (none, .b2s 116 (.v 115)),
           (none, .mv 117 (.v 6)),
           (none, .mv 118 (.v 1)),
           (none, .iadr 119 1 (.v 117) (.v 118)),
           (none, .load 120 false 1 (.v 119) none),
           (none, .iadr 121 1 (.v 120) (.c (.int .i64 0))),
           (none, .load 122 false 1 (.v 121) none),
           (none, .asg 4 (.v 116) .copy),
           (none, .asg 5 (.v 122) .copy)])
         (.ret [4, 5]))))))))⟩
def F326 : PFunc :=
 ⟨[false, false, false], [.tmp 6],
  (.seq
   (.region [] [] [0, 1, 2] false [
     (none, .asg 6 (.c (.bool false)) .copy)])
   (.seq
    (.region [] [] [6] false [
      (none, .mv 7 (.v 0)),
      (none, .mv 8 (.v 1)),
      (none, .bin 9 .geq (.v 7) (.v 8)),
      (none, .mv 10 (.v 9)),
      (some (10, true), .mv 11 (.v 0)),
      (some (10, true), .mv 12 (.v 2)),
      (some (10, true), .bin 13 .leq (.v 11) (.v 12)),
      (none, .pick 14 (.v 10) (.v 13) (.c (.bool false))),
      (none, .asg 6 (.v 14) .copy)])
    (.ret [6])))⟩
def F217 : PFunc :=
 ⟨[false], [.tmp 2],
  (.seq
   (.region [] [] [1] false [
     (none, .box 1 (.v 0) .copy),
     (none, .asg 2 (.c (.bool false)) .copy)])
   (.seq
    (.region [(12, 1, false), (7, 1, false), (3, 1, false)] [] [2] false [
      (none, .fadr 3 0 1 (.v 1)),
      (none, .load 4 false 1 (.v 3) none),
      (none, .call (some 5) 326 false [((.v 4), false), ((.c (.int .i64 1)), false), ((.c (.int .i64 20)), false)]),
      (none, .mv 6 (.v 5)),
      (some (6, true), .fadr 7 1 1 (.v 1)),
      (some (6, true), .load 8 false 1 (.v 7) none),
      (some (6, true), .call (some 9) 326 false [((.v 8), false), ((.c (.int .i64 1)), false), ((.c (.int .i64 20)), false)]),
      (none, .pick 10 (.v 6) (.v 9) (.c (.bool false))),
      (none, .mv 11 (.v 10)),
      (some (11, true), .fadr 12 2 1 (.v 1)),
      (some (11, true), .load 13 false 1 (.v 12) none),
      (some (11, true), .call (some 14) 326 false [((.v 13), false), ((.c (.int .i64 1)), false), ((.c (.int .i64 100)), false)]),
      (none, .pick 15 (.v 11) (.v 14) (.c (.bool false))),
      (none, .asg 2 (.v 15) .copy)])
    (.ret [2])))⟩
def F284 : PFunc :=
 ⟨[false, false], [.tmp 4],
  (.seq
   (.region [] [] [1, 2] false [
     (none, .box 2 (.v 0) .copy),
     (none, .asg 4 (.c (.int .i64 0)) .copy)])
   (.seq
    (.block 0
     (.seq
      (.region [] [] [1, 5] false [
        (none, .load 6 true 3 (.v 2) none),
        (none, .call (some 7) 217 false [((.v 6), false)]),
        (none, .un 8 .not (.v 7)),
        (none, .asg 5 (.v 8) .copy)])
      (.cond (.v 5)
       (.seq
        (.region [] [] [4] false [
          (none, .asg 4 (.c (.int .i64 1)) .copy)])
        (.ret [4]))
       (.seq
        (.region [] [] [9] false [
          (none, .mv 10 (.v 1)),
          (none, .call (some 11) 326 false [((.v 10), false), ((.c (.int .i64 0)), false), ((.c (.int .i64 60)), false)]),
          (none, .un 12 .not (.v 11)),
          (none, .asg 9 (.v 12) .copy)])
        (.cond (.v 9)
         (.seq
          (.region [] [] [4] false [
            (none, .asg 4 (.c (.int .i64 2)) .copy)])
          (.ret [4]))
         (.skip []))))))
    (.seq
     (.region [] [] [4] false [
       (none, .asg 4 (.c (.int .i64 0)) .copy)])
     (.ret [4]))))⟩
def F49 : PFunc :=
 ⟨[false, false], [.tmp 4, .tmp 5],
  (.seq
   (.region [] [] [1, 2] false [
     (none, .box 2 (.v 0) .copy),
     (none, .asg 4 (.c (.str [])) .copy),
     (none, .asg 5 (.c (.int .i64 0)) .copy)])
   (.seq
    (.seq
     (.region [] [] [1, 2, 6] false [
       (none, .load 9 true 3 (.v 2) none),
       (none, .mv 10 (.v 1)),
       (none, .call (some 11) 284 false [((.v 9), false), ((.v 10), false)]),
       (none, .asg 6 (.v 11) .copy)])
     (.seq
      (.region [] [] [1, 2, 6, 13] false [
        (none, .mv 12 (.v 6)),
        (none, .bin 13 .neq (.v 12) (.c (.int .i64 0)))])
      (.cond (.v 13)
       (.seq
        (.region [] [] [4, 5] false [
          (none, .mv 14 (.v 6)),
          (none, .asg 4 (.c (.str [])) .copy),
          (none, .asg 5 (.v 14) .copy)])
        (.ret [4, 5]))
       (.skip [1, 2]))))
    (.seq
     (.region [] [] [7] false [
       (none, .load 16 true 3 (.v 2) none),
       (none, .mv 17 (.v 1)),
       (none, .call (some 18) 249 false [((.v 16), false), ((.v 17), false)]),
       (none, .asg 15 (.v 18) .copy),
       (none, .ext 19 (.v 15) 0),
       (none, .ext 20 (.v 15) 1),
       (none, .asg 7 (.v 19) .copy),
       (none, .asg 8 (.v 20) .copy)])
     (.seq
      (.region [] [] [4, 5] false [
        (none, .mv 21 (.v 7)),
        (none, .asg 4 (.v 21) .copy),
        (none, .asg 5 (.c (.int .i64 0)) .copy)])
      (.ret [4, 5])))))⟩
def F420 : PFunc :=
 ⟨[false], [.cell 2 true 3],
  (.seq
   (.region [] [] [1, 2] false [
     (none, .box 1 (.v 0) .copy),
     (none, .new 2 (.agg [(.int .i64 0), (.int .i64 0), (.int .i64 0)]))])
   (.seq
    (.region [] [] [1, 2, 3] false [
      (none, .new 3 (.agg [(.int .i64 0), (.int .i64 0), (.int .i64 0)]))])
    (.seq
     (.region [(6, 3, false), (4, 1, false)] [] [1, 2, 3] false [
       (none, .fadr 4 0 1 (.v 1)),
       (none, .load 5 false 1 (.v 4) none),
       (none, .fadr 6 0 1 (.v 3)),
       (none, .store 1 (.v 6) (.v 5) .copy)])
     (.seq
      (.region [(9, 3, false), (7, 1, false)] [] [1, 2, 3] false [
        (none, .fadr 7 1 1 (.v 1)),
        (none, .load 8 false 1 (.v 7) none),
        (none, .fadr 9 1 1 (.v 3)),
        (none, .store 1 (.v 9) (.v 8) .copy)])
      (.seq
       (.region [(12, 3, false), (10, 1, false)] [] [2, 3] false [
         (none, .fadr 10 2 1 (.v 1)),
         (none, .load 11 false 1 (.v 10) none),
         (none, .fadr 12 2 1 (.v 3)),
         (none, .store 1 (.v 12) (.v 11) .copy)])
       (.seq
        (.region [] [] [2] false [
          (none, .load 13 true 3 (.v 3) none),
          (none, .store 3 (.v 2) (.v 13) .copy)])
        (.ret [2])))))))⟩
def F606 : PFunc :=
 ⟨[false, false], [.tmp 4],
  (.seq
   (.region [] [] [0, 1] false [
     (none, .asg 4 (.c (.int .i64 0)) .copy)])
   (.seq
    (.seq
     (.region [] [] [0, 1, 7] false [
       (none, .mv 5 (.v 0)),
       (none, .mv 6 (.v 1)),
       (none, .bin 7 .gtr (.v 5) (.v 6))])
     (.cond (.v 7)
      (.seq
       (.region [] [] [4] false [
         (none, .mv 8 (.v 0)),
         (none, .asg 4 (.v 8) .copy)])
       (.ret [4]))
      (.skip [1])))
    (.seq
     (.region [] [] [4] false [
       (none, .mv 9 (.v 1)),
       (none, .asg 4 (.v 9) .copy)])
     (.ret [4]))))⟩
def F762 : PFunc :=
 ⟨[false, false, false], [.tmp 6],
  (.seq
   (.region [] [] [1, 2, 3] false [
     (none, .box 3 (.v 0) .copy),
     (none, .asg 6 (.c (.int .i64 0)) .copy)])
   (.seq
    (.seq
     (.region [] [] [1, 3, 7] false [
       (none, .mv 7 (.v 2))])
     (.cond (.v 7)
      (.seq
       (.region [(9, 3, false)] [] [6] false [
         (none, .mv 8 (.v 1)),
         (none, .fadr 9 0 1 (.v 3)),
         (none, .load 10 false 1 (.v 9) none),
         (none, .bin 11 .add (.v 8) (.v 10)),
         (none, .asg 6 (.v 11) .copy)])
       (.ret [6]))
      (.skip [1, 3])))
    (.seq
     (.region [(13, 3, false)] [] [6] false [
       (none, .mv 12 (.v 1)),
       (none, .fadr 13 1 1 (.v 3)),
       (none, .load 14 false 1 (.v 13) none),
       (none, .bin 15 .sub (.v 12) (.v 14)),
       (none, .call (some 16) 606 false [((.c (.int .i64 0)), false), ((.v 15), false)]),
       (none, .asg 6 (.v 16) .copy)])
     (.ret [6]))))⟩
def F894 : PFunc :=
 ⟨[false, false], [.tmp 4],
  (.seq
   (.region [] [] [1, 2] false [
     (none, .box 2 (.v 0) .copy),
     (none, .asg 4 (.c (.sl true 1 [])) .copy)])
   (.seq
    (.region [(10, 2, false)] [] [1, 2, 5] false [
      (none, .fadr 10 2 1 (.v 2)),
      (none, .load 11 false 1 (.v 10) none),
      (none, .bin 12 .add (.v 11) (.c (.int .i64 1))),
      (none, .make 13 1 (.int .i64 0) (.v 12)),
      (none, .mksl 14 1 (.sl true 1 []) 1 [(0, (.v 13), .move)]),
      (none, .asg 5 (.v 14) .move)])
    (.seq
     (.seq
      (.region [] [] [1, 2, 5, 6] false [
        (none, .asg 6 (.c (.int .i64 1)) .copy)])
      (.block 0
       (.loop
        (.seq
         (.seq
          (.region [] [] [1, 2, 5, 6, 17] false [
            (none, .mv 15 (.v 6)),
            (none, .mv 16 (.v 1)),
            (none, .bin 17 .leq (.v 15) (.v 16))])
          (.cond (.v 17)
           (.skip [1, 2, 5, 6])
           (.exit 0 [5])))
         (.seq
          (.block 1
           (.seq
            (.region [] [] [1, 2, 5, 6, 7] false [
              (none, .mksl 20 1 (.int .i64 0) 0 []),
              (none, .asg 7 (.v 20) .move)])
            (.seq
             (.seq
              (.region [] [] [1, 2, 5, 6, 7, 8] false [
                (none, .asg 8 (.c (.int .i64 0)) .copy)])
              (.block 2
               (.loop
                (.seq
                 (.seq
                  (.region [(22, 2, false)] [] [1, 2, 5, 6, 7, 8, 24] false [
                    (none, .mv 21 (.v 8)),
                    (none, .fadr 22 2 1 (.v 2)),
                    (none, .load 23 false 1 (.v 22) none),
                    (none, .bin 24 .leq (.v 21) (.v 23))])
                  (.cond (.v 24)
                   (.skip [1, 2, 5, 6, 7, 8])
                   (.exit 2 [1, 2, 5, 6, 7])))
                 (.seq
                  (.block 3
                   (.seq
                    (.region [(35, 5, true), (31, 5, true), (30, 5, false), (27, 5, false)] [] [1, 2, 5, 6, 7, 8, 9] true [
                      (none, .mv 27 (.v 5)),
                      (none, .mv 28 (.v 6)),
                      (none, .bin 29 .sub (.v 28) (.c (.int .i64 1))),
                      (none, .iadr 30 1 (.v 27) (.v 29)),
                      (none, .load 31 false 1 (.v 30) none),
                      (none, .load 32 true 3 (.v 2) none),
                      (none, .mv 33 (.v 8)),
                      (none, .call (some 34) 762 false [((.v 32), false), ((.v 33), false), ((.c (.bool false)), false)]),
                      (none, .iadr 35 1 (.v 31) (.v 34)),
                      (none, .load 36 false 1 (.v 35) none),
                      (none, .asg 9 (.v 36) .copy)])
                    (.seq
                     (.seq
                      (.region [(41, 2, false), (38, 2, false)] [] [1, 2, 5, 6, 7, 8, 9, 43] false [
                        (none, .mv 37 (.v 8)),
                        (none, .fadr 38 0 1 (.v 2)),
                        (none, .load 39 false 1 (.v 38) none),
                        (none, .bin 40 .add (.v 37) (.v 39)),
                        (none, .fadr 41 2 1 (.v 2)),
                        (none, .load 42 false 1 (.v 41) none),
                        (none, .bin 43 .leq (.v 40) (.v 42))])
                      (.cond (.v 43)
                       (.region [(54, 5, true), (51, 2, false), (49, 5, true), (48, 5, false), (45, 5, false)] [] [1, 2, 5, 6, 7, 8, 9] true [
                         (none, .mv 44 (.v 9)),
                         (none, .mv 45 (.v 5)),
                         (none, .mv 46 (.v 6)),
                         (none, .bin 47 .sub (.v 46) (.c (.int .i64 1))),
                         (none, .iadr 48 1 (.v 45) (.v 47)),
                         (none, .load 49 false 1 (.v 48) none),
                         (none, .mv 50 (.v 8)),
                         (none, .fadr 51 0 1 (.v 2)),
                         (none, .load 52 false 1 (.v 51) none),
                         (none, .bin 53 .add (.v 50) (.v 52)),
                         (none, .iadr 54 1 (.v 49) (.v 53)),
                         (none, .load 55 false 1 (.v 54) none),
                         (none, .bin 56 .add (.c (.int .i64 1)) (.v 55)),
                         (none, .call (some 57) 606 false [((.v 44), false), ((.v 56), false)]),
                         (none, .asg 9 (.v 57) .copy)])
                       (.skip [1, 2, 5, 6, 7, 8, 9])))
                     (.region [(58, 7, false)] [] [1, 2, 5, 6, 7, 8] false [
                       (none, .mv 58 (.v 7)),
                       (none, .mv 59 (.v 9)),
                       (none, .mksl 60 1 (.int .i64 0) 1 [(0, (.v 59), .copy)]),
                       (none, .app 61 1 (.v 58) (.v 60) .move),
                       (none, .asg 7 (.v 61) .move)]))))
                  (.region [] [] [1, 2, 5, 6, 7, 8] false [
                    (none, .mv 25 (.v 8)),
                    (none, .bin 26 .add (.v 25) (.c (.int .i64 1))),
                    (none, .asg 8 (.v 26) .copy)]))))))
             (.region [(63, 7, false), (62, 5, false)] [] [1, 2, 5, 6] false [
               (none, .mv 62 (.v 5)),
               (none, .mv 63 (.v 7)),
               (none, .mksl 64 1 (.sl true 1 []) 1 [(0, (.v 63), .move)]),
               (none, .app 65 1 (.v 62) (.v 64) .move),
               (none, .asg 5 (.v 65) .move)]))))
          (.region [] [] [1, 2, 5, 6] false [
            (none, .mv 18 (.v 6)),
            (none, .bin 19 .add (.v 18) (.c (.int .i64 1))),
            (none, .asg 6 (.v 19) .copy)]))))))
     (.seq
      (.region [(66, 5, false)] [] [4] false [
        (none, .mv 66 (.v 5)),
        (none, .asg 4 (.v 66) .move)])
      (.ret [4])))))⟩
def F605 : PFunc :=
 ⟨[false, false, false], [.tmp 6],
  (.seq
   (.region [] [] [0, 1, 2] false [
     (none, .asg 6 (.c (.bool false)) .copy)])
   (.seq
    (.region [] [] [6] false [
      (none, .mv 7 (.v 0)),
      (none, .mv 8 (.v 1)),
      (none, .bin 9 .geq (.v 7) (.v 8)),
      (none, .mv 10 (.v 9)),
      (some (10, true), .mv 11 (.v 0)),
      (some (10, true), .mv 12 (.v 2)),
      (some (10, true), .bin 13 .leq (.v 11) (.v 12)),
      (none, .pick 14 (.v 10) (.v 13) (.c (.bool false))),
      (none, .asg 6 (.v 14) .copy)])
    (.ret [6])))⟩
def F763 : PFunc :=
 ⟨[false], [.tmp 2],
  (.seq
   (.region [] [] [1] false [
     (none, .box 1 (.v 0) .copy),
     (none, .asg 2 (.c (.bool false)) .copy)])
   (.seq
    (.region [(12, 1, false), (7, 1, false), (3, 1, false)] [] [2] false [
      (none, .fadr 3 0 1 (.v 1)),
      (none, .load 4 false 1 (.v 3) none),
      (none, .call (some 5) 605 false [((.v 4), false), ((.c (.int .i64 1)), false), ((.c (.int .i64 20)), false)]),
      (none, .mv 6 (.v 5)),
      (some (6, true), .fadr 7 1 1 (.v 1)),
      (some (6, true), .load 8 false 1 (.v 7) none),
      (some (6, true), .call (some 9) 605 false [((.v 8), false), ((.c (.int .i64 1)), false), ((.c (.int .i64 20)), false)]),
      (none, .pick 10 (.v 6) (.v 9) (.c (.bool false))),
      (none, .mv 11 (.v 10)),
      (some (11, true), .fadr 12 2 1 (.v 1)),
      (some (11, true), .load 13 false 1 (.v 12) none),
      (some (11, true), .call (some 14) 605 false [((.v 13), false), ((.c (.int .i64 1)), false), ((.c (.int .i64 100)), false)]),
      (none, .pick 15 (.v 11) (.v 14) (.c (.bool false))),
      (none, .asg 2 (.v 15) .copy)])
    (.ret [2])))⟩
def F895 : PFunc :=
 ⟨[false, false], [.tmp 4],
  (.seq
   (.region [] [] [1, 2] false [
     (none, .box 2 (.v 0) .copy),
     (none, .asg 4 (.c (.int .i64 0)) .copy)])
   (.seq
    (.seq
     (.region [] [] [1, 7] false [
       (none, .load 5 true 3 (.v 2) none),
       (none, .call (some 6) 763 false [((.v 5), false)]),
       (none, .un 7 .not (.v 6))])
     (.cond (.v 7)
      (.seq
       (.region [] [] [4] false [
         (none, .asg 4 (.c (.int .i64 1)) .copy)])
       (.ret [4]))
      (.skip [1])))
    (.seq
     (.seq
      (.region [] [] [10] false [
        (none, .mv 8 (.v 1)),
        (none, .call (some 9) 605 false [((.v 8), false), ((.c (.int .i64 0)), false), ((.c (.int .i64 60)), false)]),
        (none, .un 10 .not (.v 9))])
      (.cond (.v 10)
       (.seq
        (.region [] [] [4] false [
          (none, .asg 4 (.c (.int .i64 2)) .copy)])
        (.ret [4]))
       (.skip [])))
     (.seq
      (.region [] [] [4] false [
        (none, .asg 4 (.c (.int .i64 0)) .copy)])
      (.ret [4])))))⟩
def F892 : PFunc :=
 ⟨[false, false], [.tmp 4, .tmp 5],
  (.seq
   (.region [] [] [1, 2] false [
     (none, .box 2 (.v 0) .copy),
     (none, .asg 4 (.c (.str [])) .copy),
     (none, .asg 5 (.c (.int .i64 0)) .copy)])
   (.seq
    (.region [] [] [1, 2, 6] false [
      (none, .load 11 true 3 (.v 2) none),
      (none, .mv 12 (.v 1)),
      (none, .call (some 13) 895 false [((.v 11), false), ((.v 12), false)]),
      (none, .asg 6 (.v 13) .copy)])
    (.seq
     (.seq
      (.region [] [] [1, 2, 6, 15] false [
        (none, .mv 14 (.v 6)),
        (none, .bin 15 .neq (.v 14) (.c (.int .i64 0)))])
      (.cond (.v 15)
       (.seq
        (.region [] [] [4, 5] false [
          (none, .mv 16 (.v 6)),
          (none, .asg 4 (.c (.str [])) .copy),
          (none, .asg 5 (.v 16) .copy)])
        (.ret [4, 5]))
       (.skip [1, 2])))
     (.seq
      (.region [] [] [1, 2, 7] false [
        (none, .load 17 true 3 (.v 2) none),
        (none, .mv 18 (.v 1)),
        (none, .call (some 19) 894 false [((.v 17), false), ((.v 18), false)]),
        (none, .asg 7 (.v 19) .move)])
      (.seq
       (.region [] [] [1, 2, 7, 8] false [
         (none, .mksl 20 1 (.int .u8 0) 0 []),
         (none, .asg 8 (.v 20) .move)])
       (.seq
        (.region [] [] [1, 2, 7, 8, 9] false [
          (none, .asg 9 (.c (.int .i64 0)) .copy)])
        (.seq
         (.seq
          (.region [] [] [2, 7, 8, 9, 10] false [
            (none, .mv 21 (.v 1)),
            (none, .asg 10 (.v 21) .copy)])
          (.block 0
           (.loop
            (.seq
             (.seq
              (.region [] [] [2, 7, 8, 9, 10, 23] false [
                (none, .mv 22 (.v 10)),
                (none, .bin 23 .gtr (.v 22) (.c (.int .i64 0)))])
              (.cond (.v 23)
               (.skip [2, 7, 8, 9, 10])
               (.exit 0 [8])))
             (.seq
              (.block 1
               (.seq
                (.region [(51, 7, true), (49, 7, true), (48, 7, false), (46, 7, false), (43, 7, true), (40, 2, false), (38, 7, true), (37, 7, false), (34, 7, false), (30, 2, false), (27, 2, false)] [] [2, 7, 8, 9, 10, 54] true [
                  (none, .mv 26 (.v 9)),
                  (none, .fadr 27 0 1 (.v 2)),
                  (none, .load 28 false 1 (.v 27) none),
                  (none, .bin 29 .add (.v 26) (.v 28)),
                  (none, .fadr 30 2 1 (.v 2)),
                  (none, .load 31 false 1 (.v 30) none),
                  (none, .bin 32 .leq (.v 29) (.v 31)),
                  (none, .mv 33 (.v 32)),
                  (some (33, true), .mv 34 (.v 7)),
                  (some (33, true), .mv 35 (.v 10)),
                  (some (33, true), .bin 36 .sub (.v 35) (.c (.int .i64 1))),
                  (some (33, true), .iadr 37 1 (.v 34) (.v 36)),
                  (some (33, true), .load 38 false 1 (.v 37) none),
                  (some (33, true), .mv 39 (.v 9)),
                  (some (33, true), .fadr 40 0 1 (.v 2)),
                  (some (33, true), .load 41 false 1 (.v 40) none),
                  (some (33, true), .bin 42 .add (.v 39) (.v 41)),
                  (some (33, true), .iadr 43 1 (.v 38) (.v 42)),
                  (some (33, true), .load 44 false 1 (.v 43) none),
                  (some (33, true), .bin 45 .add (.c (.int .i64 1)) (.v 44)),
                  (some (33, true), .mv 46 (.v 7)),
                  (some (33, true), .mv 47 (.v 10)),
                  (some (33, true), .iadr 48 1 (.v 46) (.v 47)),
                  (some (33, true), .load 49 false 1 (.v 48) none),
                  (some (33, true), .mv 50 (.v 9)),
                  (some (33, true), .iadr 51 1 (.v 49) (.v 50)),
                  (some (33, true), .load 52 false 1 (.v 51) none),
                  (some (33, true), .bin 53 .eql (.v 45) (.v 52)),
                  (none, .pick 54 (.v 33) (.v 53) (.c (.bool false)))])
                (.cond (.v 54)
                 (.seq
                  (.region [(55, 8, false)] [] [2, 7, 8, 9, 10] false [
                    (none, .mv 55 (.v 8)),
                    (none, .mksl 56 1 (.int .u8 0) 1 [(0, (.c (.int .u8 49)), .copy)]),
                    (none, .app 57 1 (.v 55) (.v 56) .move),
                    (none, .asg 8 (.v 57) .move)])
                  (.region [(59, 2, false)] [] [2, 7, 8, 9, 10] false [
                    (none, .mv 58 (.v 9)),
                    (none, .fadr 59 0 1 (.v 2)),
                    (none, .load 60 false 1 (.v 59) none),
                    (none, .bin 61 .add (.v 58) (.v 60)),
                    (none, .asg 9 (.v 61) .copy)]))
                 (.seq
                  (.region [(62, 8, false)] [] [2, 7, 8, 9, 10] false [
                    (none, .mv 62 (.v 8)),
                    (none, .mksl 63 1 (.int .u8 0) 1 [(0, (.c (.int .u8 48)), .copy)]),
                    (none, .app 64 1 (.v 62) (.v 63) .move),
                    (none, .asg 8 (.v 64) .move)])
                  (.region [] [] [2, 7, 8, 9, 10] false [
                    (none, .load 65 true 3 (.v 2) none),
                    (none, .mv 66 (.v 9)),
                    (none, .call (some 67) 762 false [((.v 65), false), ((.v 66), false), ((.c (.bool false)), false)]),
                    (none, .asg 9 (.v 67) .copy)])))))
              (.region [] [] [2, 7, 8, 9, 10] false [
                (none, .mv 24 (.v 10)),
                (none, .bin 25 .sub (.v 24) (.c (.int .i64 1))),
                (none, .asg 10 (.v 25) .copy)]))))))
         (.seq
          (.region [(68, 8, false)] [] [4, 5] false [
            (none, .mv 68 (.v 8)),
            (none, .b2s 69 (.v 68)),
            (none, .asg 4 (.v 69) .copy),
            (none, .asg 5 (.c (.int .i64 0)) .copy)])
          (.ret [4, 5])))))))))⟩
def F890 : PFunc :=
 ⟨[false, false], [.tmp 4],
  (.seq
   (.region [] [] [1, 2] false [
     (none, .box 2 (.v 0) .copy),
     (none, .asg 4 (.c (.bool false)) .copy)])
   (.seq
    (.region [] [] [1, 2, 5, 6] false [
      (none, .load 10 true 3 (.v 2) none),
      (none, .call (some 11) 420 false [((.v 10), false)]),
      (none, .mv 12 (.v 1)),
      (none, .call (some 13) 892 false [((.v 11), false), ((.v 12), false)]),
      (none, .asg 9 (.v 13) .copy),
      (none, .ext 14 (.v 9) 0),
      (none, .ext 15 (.v 9) 1),
      (none, .asg 5 (.v 14) .copy),
      (none, .asg 6 (.v 15) .copy)])
    (.seq
     (.region [] [] [5, 6, 7, 8] false [
       (none, .load 17 true 3 (.v 2) none),
       (none, .call (some 18) 420 false [((.v 17), false)]),
       (none, .mv 19 (.v 1)),
       (none, .call (some 20) 49 false [((.v 18), false), ((.v 19), false)]),
       (none, .asg 16 (.v 20) .copy),
       (none, .ext 21 (.v 16) 0),
       (none, .ext 22 (.v 16) 1),
       (none, .asg 7 (.v 21) .copy),
       (none, .asg 8 (.v 22) .copy)])
     (.seq
      (.seq
       (.region [] [] [30] false [
         (none, .mv 23 (.v 7)),
         (none, .mv 24 (.v 5)),
         (none, .bin 25 .neq (.v 23) (.v 24)),
         (none, .mv 26 (.v 25)),
         (some (26, false), .mv 27 (.v 8)),
         (some (26, false), .mv 28 (.v 6)),
         (some (26, false), .bin 29 .neq (.v 27) (.v 28)),
         (none, .pick 30 (.v 26) (.c (.bool true)) (.v 29))])
       (.cond (.v 30)
        (.seq
         (.region [] [] [4] false [
           (none, .asg 4 (.c (.bool false)) .copy)])
         (.ret [4]))
        (.skip [])))
      (.seq
       (.region [] [] [4] false [
         (none, .asg 4 (.c (.bool true)) .copy)])
       (.ret [4]))))))⟩
def tabl : List (Nat × PFunc) := [(18, F18), (249, F249), (326, F326), (217, F217), (284, F284), (49, F49), (420, F420), (606, F606), (762, F762), (894, F894), (605, F605), (763, F763), (895, F895), (892, F892), (890, F890)]
def T : Nat → Option PFunc := tabOf tabl
end Go.Vs.G
