/- The functions that the law reaches, in the small language, printed by program. No conditions. -/
import Derived.Test.YtomlgmfkjibijaaDoorDLBurning
import Derived.Test.YtomlgmfkjibijaaDoorV4
set_option maxRecDepth 100000
open Go Go.Vs
namespace Go.Vs.G
def F18 : PFunc :=
 ⟨[false, false, false], [.tmp 6],
  (.seq
   (.region [] [] [1, 2, 3] false [
     (none, .box 3 (.v 0) .copy),
     (none, .asg 6 (.c (.int .i64 0)) .copy)])
   (.seq
    (.seq
     (.region [] [] [1, 3, 7] false [
       (none, .mv 7 (.v 2))])
     (.cond (.v 7)
      (.seq
       (.region [(9, 3, false)] [] [6] false [
         (none, .mv 8 (.v 1)),
         (none, .fadr 9 0 1 (.v 3)),
         (none, .load 10 false 1 (.v 9) none),
         (none, .bin 11 .add (.v 8) (.v 10)),
         (none, .asg 6 (.v 11) .copy)])
       (.ret [6]))
      (.skip [1, 3])))
    (.seq
     (.region [(13, 3, false)] [] [6] false [
       (none, .mv 12 (.v 1)),
       (none, .fadr 13 1 1 (.v 3)),
       (none, .load 14 false 1 (.v 13) none),
       (none, .bin 15 .sub (.v 12) (.v 14)),
       (none, .mm 16 true (.v 15) [(.c (.int .i64 0))]),
       (none, .asg 6 (.v 16) .copy)])
     (.ret [6]))))⟩
def F249 : PFunc :=
 ⟨[false, false], [.tmp 4, .tmp 5],
  (.seq
   (.region [] [] [1, 2] false [
     (none, .box 2 (.v 0) .copy),
     (none, .asg 4 (.c (.str [])) .copy),
     (none, .asg 5 (.c (.int .i64 0)) .copy)])
   (.seq
    (.region [] [] [1, 2, 6] false [
      (none, .mv 15 (.v 1)),
      (none, .bin 16 .add (.v 15) (.c (.int .i64 1))),
      (none, .make 17 1 (.sl true 1 []) (.v 16)),
      (none, .asg 6 (.v 17) .move)])
    (.seq
     (.region [(23, 6, false), (19, 2, false), (18, 6, false)] [] [1, 2, 6] false [
       (none, .mv 18 (.v 6)),
       (none, .fadr 19 2 1 (.v 2)),
       (none, .load 20 false 1 (.v 19) none),
       (none, .bin 21 .add (.v 20) (.c (.int .i64 1))),
       (none, .make 22 1 (.int .i64 0) (.v 21)),
       (none, .iadr 23 1 (.v 18) (.c (.int .i64 0))),
       (none, .store 1 (.v 23) (.v 22) .move)])
     (.seq
      (.seq
       (.region [] [] [1, 2, 6, 7] false [
         (none, .asg 7 (.c (.int .i64 1)) .copy)])
       (.block 0
        (.loop
         (.seq
          (.seq
           (.region [] [] [1, 2, 6, 7, 26] false [
             (none, .mv 24 (.v 7)),
             (none, .mv 25 (.v 1)),
             (none, .bin 26 .leq (.v 24) (.v 25))])
           (.cond (.v 26)
            (.skip [1, 2, 6, 7])
            (.exit 0 [1, 2, 6])))
          (.seq
           (.block 1
            (.seq
             (.region [] [] [1, 2, 6, 7, 8] false [
               (none, .asg 8 (.c (.int .i64 0)) .copy)])
             (.block 2
              (.loop
               (.seq
                (.seq
                 (.region [(30, 2, false)] [] [1, 2, 6, 7, 8, 32] false [
                   (none, .mv 29 (.v 8)),
                   (none, .fadr 30 2 1 (.v 2)),
                   (none, .load 31 false 1 (.v 30) none),
                   (none, .bin 32 .leq (.v 29) (.v 31))])
                 (.cond (.v 32)
                  (.skip [1, 2, 6, 7, 8])
                  (.exit 2 [1, 2, 6, 7])))
                (.seq
                 (.block 3
                  (.seq
                   (.region [(43, 6, true), (39, 6, true), (38, 6, false), (35, 6, false)] [] [1, 2, 6, 7, 8, 9] true [
                     (none, .mv 35 (.v 6)),
                     (none, .mv 36 (.v 7)),
                     (none, .bin 37 .sub (.v 36) (.c (.int .i64 1))),
                     (none, .iadr 38 1 (.v 35) (.v 37)),
                     (none, .load 39 false 1 (.v 38) none),
                     (none, .load 40 true 3 (.v 2) none),
                     (none, .mv 41 (.v 8)),
                     (none, .call (some 42) 18 false [((.v 40), false), ((.v 41), false), ((.c (.bool false)), false)]),
                     (none, .iadr 43 1 (.v 39) (.v 42)),
                     (none, .load 44 false 1 (.v 43) none),
                     (none, .asg 9 (.v 44) .copy)])
                   (.seq
                    (.seq
                     (.region [] [] [1, 2, 6, 7, 8, 9, 10] false [
                       (none, .load 45 true 3 (.v 2) none),
                       (none, .mv 46 (.v 8)),
                       (none, .call (some 47) 18 false [((.v 45), false), ((.v 46), false), ((.c (.bool true)), false)]),
                       (none, .asg 10 (.v 47) .copy)])
                     (.seq
                      (.region [(49, 2, false)] [] [1, 2, 6, 7, 8, 9, 10, 51] false [
                        (none, .mv 48 (.v 10)),
                        (none, .fadr 49 2 1 (.v 2)),
                        (none, .load 50 false 1 (.v 49) none),
                        (none, .bin 51 .leq (.v 48) (.v 50))])
                      (.cond (.v 51)
                       (.region [(59, 6, true), (57, 6, true), (56, 6, false), (53, 6, false)] [] [1, 2, 6, 7, 8, 9] false [
                         (none, .mv 52 (.v 9)),
                         (none, .mv 53 (.v 6)),
                         (none, .mv 54 (.v 7)),
                         (none, .bin 55 .sub (.v 54) (.c (.int .i64 1))),
                         (none, .iadr 56 1 (.v 53) (.v 55)),
                         (none, .load 57 false 1 (.v 56) none),
                         (none, .mv 58 (.v 10)),
                         (none, .iadr 59 1 (.v 57) (.v 58)),
                         (none, .load 60 false 1 (.v 59) none),
                         (none, .bin 61 .add (.v 60) (.c (.int .i64 1))),
                         (none, .mm 62 true (.v 52) [(.v 61)]),
                         (none, .asg 9 (.v 62) .copy)])
                       (.skip [1, 2, 6, 7, 8, 9]))))
                    (.region [(72, 6, false), (68, 6, true), (67, 6, false), (65, 6, false), (63, 6, false)] [] [1, 2, 6, 7, 8] false [
                      (none, .mv 63 (.v 6)),
                      (none, .mv 64 (.v 7)),
                      (none, .mv 65 (.v 6)),
                      (none, .mv 66 (.v 7)),
                      (none, .iadr 67 1 (.v 65) (.v 66)),
                      (none, .load 68 false 1 (.v 67) none),
                      (none, .mv 69 (.v 9)),
                      (none, .mksl 70 1 (.int .i64 0) 1 [(0, (.v 69), .copy)]),
                      (none, .app 71 1 (.v 68) (.v 70) .move),
                      (none, .iadr 72 1 (.v 63) (.v 64)),
                      (none, .store 1 (.v 72) (.v 71) .move)]))))
                 (.region [] [] [1, 2, 6, 7, 8] false [
                   (none, .mv 33 (.v 8)),
                   (none, .bin 34 .add (.v 33) (.c (.int .i64 1))),
                   (none, .asg 8 (.v 34) .copy)])))))))
           (.region [] [] [1, 2, 6, 7] false [
             (none, .mv 27 (.v 7)),
             (none, .bin 28 .add (.v 27) (.c (.int .i64 1))),
             (none, .asg 7 (.v 28) .copy)]))))))
      (.seq
       (.region [] [] [1, 2, 6, 11, 12] false [
         (none, .mksl 73 1 (.int .u8 0) 0 []),
         (none, .asg 11 (.v 73) .move),
         (none, .asg 12 (.c (.int .i64 0)) .copy)])
       (.seq
        (.seq
         (.region [] [] [1, 2, 6, 11, 12, 13] false [
           (none, .mv 74 (.v 1)),
           (none, .asg 13 (.v 74) .copy)])
         (.block 4
          (.loop
           (.seq
            (.seq
             (.region [] [] [1, 2, 6, 11, 12, 13, 76] false [
               (none, .mv 75 (.v 13)),
               (none, .bin 76 .gtr (.v 75) (.c (.int .i64 0)))])
             (.cond (.v 76)
              (.skip [1, 2, 6, 11, 12, 13])
              (.exit 4 [1, 6, 11])))
            (.seq
             (.block 5
              (.seq
               (.region [] [] [1, 2, 6, 11, 12, 13, 14] false [
                 (none, .load 79 true 3 (.v 2) none),
                 (none, .mv 80 (.v 12)),
                 (none, .call (some 81) 18 false [((.v 79), false), ((.v 80), false), ((.c (.bool true)), false)]),
                 (none, .asg 14 (.v 81) .copy)])
               (.seq
                (.region [(101, 6, true), (99, 6, true), (98, 6, false), (96, 6, false), (93, 6, true), (91, 6, true), (90, 6, false), (87, 6, false), (83, 2, false)] [] [1, 2, 6, 11, 12, 13, 14, 104] true [
                  (none, .mv 82 (.v 14)),
                  (none, .fadr 83 2 1 (.v 2)),
                  (none, .load 84 false 1 (.v 83) none),
                  (none, .bin 85 .leq (.v 82) (.v 84)),
                  (none, .mv 86 (.v 85)),
                  (some (86, true), .mv 87 (.v 6)),
                  (some (86, true), .mv 88 (.v 13)),
                  (some (86, true), .bin 89 .sub (.v 88) (.c (.int .i64 1))),
                  (some (86, true), .iadr 90 1 (.v 87) (.v 89)),
                  (some (86, true), .load 91 false 1 (.v 90) none),
                  (some (86, true), .mv 92 (.v 14)),
                  (some (86, true), .iadr 93 1 (.v 91) (.v 92)),
                  (some (86, true), .load 94 false 1 (.v 93) none),
                  (some (86, true), .bin 95 .add (.v 94) (.c (.int .i64 1))),
                  (some (86, true), .mv 96 (.v 6)),
                  (some (86, true), .mv 97 (.v 13)),
                  (some (86, true), .iadr 98 1 (.v 96) (.v 97)),
                  (some (86, true), .load 99 false 1 (.v 98) none),
                  (some (86, true), .mv 100 (.v 12)),
                  (some (86, true), .iadr 101 1 (.v 99) (.v 100)),
                  (some (86, true), .load 102 false 1 (.v 101) none),
                  (some (86, true), .bin 103 .eql (.v 95) (.v 102)),
                  (none, .pick 104 (.v 86) (.v 103) (.c (.bool false)))])
                (.cond (.v 104)
                 (.region [(105, 11, false)] [] [1, 2, 6, 11, 12, 13] false [
                   (none, .mv 105 (.v 11)),
                   (none, .mksl 106 1 (.int .u8 0) 1 [(0, (.c (.int .u8 49)), .copy)]),
                   (none, .app 107 1 (.v 105) (.v 106) .move),
                   (none, .mv 108 (.v 14)),
                   (none, .asg 11 (.v 107) .move),
                   (none, .asg 12 (.v 108) .copy)])
                 (.region [(109, 11, false)] [] [1, 2, 6, 11, 12, 13] true [
                   (none, .mv 109 (.v 11)),
                   (none, .mksl 110 1 (.int .u8 0) 1 [(0, (.c (.int .u8 48)), .copy)]),
                   (none, .app 111 1 (.v 109) (.v 110) .move),
                   (none, .load 112 true 3 (.v 2) none),
                   (none, .mv 113 (.v 12)),
                   (none, .call (some 114) 18 false [((.v 112), false), ((.v 113), false), ((.c (.bool false)), false)]),
                   (none, .asg 11 (.v 111) .move),
                   (none, .asg 12 (.v 114) .copy)])))))
             (.region [] [] [1, 2, 6, 11, 12, 13] false [
               (none, .mv 77 (.v 13)),
               (none, .bin 78 .sub (.v 77) (.c (.int .i64 1))),
               (none, .asg 13 (.v 78) .copy)]))))))
        (.seq
         (.region [(121, 6, true), (120, 6, true), (119, 6, false), (117, 6, false), (115, 11, false)] [] [4, 5] true [
           (none, .mv 115 (.v 11)),
           (none, .b2s 116 (.v 115)),
           (none, .mv 117 (.v 6)),
           (none, .mv 118 (.v 1)),
           (none, .iadr 119 1 (.v 117) (.v 118)),
           (none, .load 120 false 1 (.v 119) none),
           (none, .iadr 121 1 (.v 120) (.c (.int .i64 0))),
           (none, .load 122 false 1 (.v 121) none),
           (none, .asg 4 (.v 116) .copy),
           (none, .asg 5 (.v 122) .copy)])
         (.ret [4, 5]))))))))⟩
def F326 : PFunc :=
 ⟨[false, false, false], [.tmp 6],
  (.seq
   (.region [] [] [0, 1, 2] false [
     (none, .asg 6 (.c (.bool false)) .copy)])
   (.seq
    (.region [] [] [6] false [
      (none, .mv 7 (.v 0)),
      (none, .mv 8 (.v 1)),
      (none, .bin 9 .geq (.v 7) (.v 8)),
      (none, .mv 10 (.v 9)),
      (some (10, true), .mv 11 (.v 0)),
      (some (10, true), .mv 12 (.v 2)),
      (some (10, true), .bin 13 .leq (.v 11) (.v 12)),
      (none, .pick 14 (.v 10) (.v 13) (.c (.bool false))),
      (none, .asg 6 (.v 14) .copy)])
    (.ret [6])))⟩
def F217 : PFunc :=
 ⟨[false], [.tmp 2],
  (.seq
   (.region [] [] [1] false [
     (none, .box 1 (.v 0) .copy),
     (none, .asg 2 (.c (.bool false)) .copy)])
   (.seq
    (.region [(12, 1, false), (7, 1, false), (3, 1, false)] [] [2] false [
      (none, .fadr 3 0 1 (.v 1)),
      (none, .load 4 false 1 (.v 3) none),
      (none, .call (some 5) 326 false [((.v 4), false), ((.c (.int .i64 1)), false), ((.c (.int .i64 20)), false)]),
      (none, .mv 6 (.v 5)),
      (some (6, true), .fadr 7 1 1 (.v 1)),
      (some (6, true), .load 8 false 1 (.v 7) none),
      (some (6, true), .call (some 9) 326 false [((.v 8), false), ((.c (.int .i64 1)), false), ((.c (.int .i64 20)), false)]),
      (none, .pick 10 (.v 6) (.v 9) (.c (.bool false))),
      (none, .mv 11 (.v 10)),
      (some (11, true), .fadr 12 2 1 (.v 1)),
      (some (11, true), .load 13 false 1 (.v 12) none),
      (some (11, true), .call (some 14) 326 false [((.v 13), false), ((.c (.int .i64 1)), false), ((.c (.int .i64 100)), false)]),
      (none, .pick 15 (.v 11) (.v 14) (.c (.bool false))),
      (none, .asg 2 (.v 15) .copy)])
    (.ret [2])))⟩
def F284 : PFunc :=
 ⟨[false, false], [.tmp 4],
  (.seq
   (.region [] [] [1, 2] false [
     (none, .box 2 (.v 0) .copy),
     (none, .asg 4 (.c (.int .i64 0)) .copy)])
   (.seq
    (.block 0
     (.seq
      (.region [] [] [1, 5] false [
        (none, .load 6 true 3 (.v 2) none),
        (none, .call (some 7) 217 false [((.v 6), false)]),
        (none, .un 8 .not (.v 7)),
        (none, .asg 5 (.v 8) .copy)])
      (.cond (.v 5)
       (.seq
        (.region [] [] [4] false [
          (none, .asg 4 (.c (.int .i64 1)) .copy)])
        (.ret [4]))
       (.seq
        (.region [] [] [9] false [
          (none, .mv 10 (.v 1)),
          (none, .call (some 11) 326 false [((.v 10), false), ((.c (.int .i64 0)), false), ((.c (.int .i64 60)), false)]),
          (none, .un 12 .not (.v 11)),
          (none, .asg 9 (.v 12) .copy)])
        (.cond (.v 9)
         (.seq
          (.region [] [] [4] false [
            (none, .asg 4 (.c (.int .i64 2)) .copy)])
          (.ret [4]))
         (.skip []))))))
    (.seq
     (.region [] [] [4] false [
       (none, .asg 4 (.c (.int .i64 0)) .copy)])
     (.ret [4]))))⟩
def F49 : PFunc :=
 ⟨[false, false], [.tmp 4, .tmp 5],
  (.seq
   (.region [] [] [1, 2] false [
     (none, .box 2 (.v 0) .copy),
     (none, .asg 4 (.c (.str [])) .copy),
     (none, .asg 5 (.c (.int .i64 0)) .copy)])
   (.seq
    (.seq
     (.region [] [] [1, 2, 6] false [
       (none, .load 9 true 3 (.v 2) none),
       (none, .mv 10 (.v 1)),
       (none, .call (some 11) 284 false [((.v 9), false), ((.v 10), false)]),
       (none, .asg 6 (.v 11) .copy)])
     (.seq
      (.region [] [] [1, 2, 6, 13] false [
        (none, .mv 12 (.v 6)),
        (none, .bin 13 .neq (.v 12) (.c (.int .i64 0)))])
      (.cond (.v 13)
       (.seq
        (.region [] [] [4, 5] false [
          (none, .mv 14 (.v 6)),
          (none, .asg 4 (.c (.str [])) .copy),
          (none, .asg 5 (.v 14) .copy)])
        (.ret [4, 5]))
       (.skip [1, 2]))))
    (.seq
     (.region [] [] [7] false [
       (none, .load 16 true 3 (.v 2) none),
       (none, .mv 17 (.v 1)),
       (none, .call (some 18) 249 false [((.v 16), false), ((.v 17), false)]),
       (none, .asg 15 (.v 18) .copy),
       (none, .extp 19 (.v 15) 0),
       (none, .extp 20 (.v 15) 1),
       (none, .asg 7 (.v 19) .copy),
       (none, .asg 8 (.v 20) .copy)])
     (.seq
      (.region [] [] [4, 5] false [
        (none, .mv 21 (.v 7)),
        (none, .asg 4 (.v 21) .copy),
        (none, .asg 5 (.c (.int .i64 0)) .copy)])
      (.ret [4, 5])))))⟩
def F207 : PFunc :=
 ⟨[false], [.tmp 2],
  (.seq
   (.region [] [] [0] false [
     (none, .asg 2 (.c (.bool false)) .copy)])
   (.seq
    (.region [] [] [2] false [
      (none, .mv 3 (.v 0)),
      (none, .len 4 true (.v 3)),
      (none, .bin 5 .leq (.v 4) (.c (.int .i64 60))),
      (none, .mv 6 (.v 5)),
      (some (6, true), .mv 7 (.v 0)),
      (some (6, true), .call (some 8) 876 false [((.v 7), false), ((.c (.str [48, 49])), false)]),
      (some (6, true), .bin 9 .eql (.v 8) (.c (.str []))),
      (none, .pick 10 (.v 6) (.v 9) (.c (.bool false))),
      (none, .asg 2 (.v 10) .copy)])
    (.ret [2])))⟩
def F114 : PFunc :=
 ⟨[false, false], [.tmp 4, .tmp 5],
  (.seq
   (.region [] [] [1, 2] false [
     (none, .box 2 (.v 0) .copy),
     (none, .asg 4 (.c (.sl true 1 [])) .copy),
     (none, .asg 5 (.c (.int .i64 0)) .copy)])
   (.seq
    (.seq
     (.region [] [] [1, 2, 16] false [
       (none, .load 9 true 3 (.v 2) none),
       (none, .call (some 10) 217 false [((.v 9), false)]),
       (none, .un 11 .not (.v 10)),
       (none, .mv 12 (.v 11)),
       (some (12, false), .mv 13 (.v 1)),
       (some (12, false), .call (some 14) 207 false [((.v 13), false)]),
       (some (12, false), .un 15 .not (.v 14)),
       (none, .pick 16 (.v 12) (.c (.bool true)) (.v 15))])
     (.cond (.v 16)
      (.seq
       (.region [] [] [4, 5] false [
         (none, .asg 4 (.c (.sl true 1 [])) .copy),
         (none, .asg 5 (.c (.int .i64 1)) .copy)])
       (.ret [4, 5]))
      (.skip [1, 2])))
    (.seq
     (.region [] [] [1, 2, 6, 7] false [
       (none, .mksl 17 1 (.int .i64 0) 0 []),
       (none, .asg 6 (.v 17) .move),
       (none, .asg 7 (.c (.int .i64 0)) .copy)])
     (.seq
      (.seq
       (.region [] [] [1, 2, 6, 7, 19, 20] false [
         (none, .mv 18 (.v 1)),
         (none, .len 19 true (.v 18)),
         (none, .mv 20 (.c (.int .i64 0)))])
       (.block 0
        (.loop
         (.seq
          (.region [] [] [1, 2, 6, 7, 19, 20, 21] false [
            (none, .bin 21 .lss (.v 20) (.v 19))])
          (.seq
           (.cond (.v 21)
            (.skip [1, 2, 6, 7, 19, 20])
            (.exit 0 [6]))
           (.seq
            (.block 1
             (.seq
              (.region [] [] [1, 2, 6, 7, 8, 19, 20] false [
                (none, .mv 22 (.v 20)),
                (none, .asg 8 (.v 22) .copy)])
              (.seq
               (.region [] [] [1, 2, 6, 7, 19, 20] true [
                 (none, .load 23 true 3 (.v 2) none),
                 (none, .mv 24 (.v 7)),
                 (none, .mv 25 (.v 1)),
                 (none, .mv 26 (.v 8)),
                 (none, .idx 27 (.v 25) (.v 26)),
                 (none, .bin 28 .eql (.v 27) (.c (.int .u8 49))),
                 (none, .call (some 29) 18 false [((.v 23), false), ((.v 24), false), ((.v 28), false)]),
                 (none, .asg 7 (.v 29) .copy)])
               (.region [(30, 6, false)] [] [1, 2, 6, 7, 19, 20] false [
                 (none, .mv 30 (.v 6)),
                 (none, .mv 31 (.v 7)),
                 (none, .mksl 32 1 (.int .i64 0) 1 [(0, (.v 31), .copy)]),
                 (none, .app 33 1 (.v 30) (.v 32) .move),
                 (none, .asg 6 (.v 33) .move)]))))
            (.region [] [] [1, 2, 6, 7, 19, 20] false [
              (none, .bin 34 .add (.v 20) (.c (.int .i64 1))),
              (none, .mv 20 (.v 34))])))))))
      (.seq
       (.region [(35, 6, false)] [] [4, 5] false [
         (none, .mv 35 (.v 6)),
         (none, .asg 4 (.v 35) .move),
         (none, .asg 5 (.c (.int .i64 0)) .copy)])
       (.ret [4, 5]))))))⟩
def F95 : PFunc :=
 ⟨[false, false], [.tmp 4, .tmp 5],
  (.seq
   (.region [] [] [1, 2] false [
     (none, .box 2 (.v 0) .copy),
     (none, .asg 4 (.c (.int .i64 0)) .copy),
     (none, .asg 5 (.c (.int .i64 0)) .copy)])
   (.seq
    (.region [] [] [2, 6, 7] false [
      (none, .load 11 true 3 (.v 2) none),
      (none, .mv 12 (.v 1)),
      (none, .call (some 13) 114 false [((.v 11), false), ((.v 12), false)]),
      (none, .asg 10 (.v 13) .move),
      (none, .ext 14 (.v 10) 0),
      (none, .extp 15 (.v 10) 1),
      (none, .asg 6 (.v 14) .move),
      (none, .asg 7 (.v 15) .copy)])
    (.seq
     (.seq
      (.region [] [] [2, 6, 7, 17] false [
        (none, .mv 16 (.v 7)),
        (none, .bin 17 .neq (.v 16) (.c (.int .i64 0)))])
      (.cond (.v 17)
       (.seq
        (.region [] [] [4, 5] false [
          (none, .mv 18 (.v 7)),
          (none, .asg 4 (.c (.int .i64 0)) .copy),
          (none, .asg 5 (.v 18) .copy)])
        (.ret [4, 5]))
       (.skip [2, 6])))
     (.seq
      (.seq
       (.region [(19, 6, false)] [] [2, 6, 19, 20, 21] false [
         (none, .mv 19 (.v 6)),
         (none, .len 20 false (.v 19)),
         (none, .mv 21 (.c (.int .i64 0)))])
       (.block 0
        (.loop
         (.seq
          (.region [(19, 6, false)] [] [2, 6, 19, 20, 21, 22] false [
            (none, .bin 22 .lss (.v 21) (.v 20))])
          (.seq
           (.cond (.v 22)
            (.skip [2, 6, 19, 20, 21])
            (.exit 0 []))
           (.seq
            (.block 1
             (.seq
              (.region [(24, 6, false), (19, 6, false)] [] [2, 6, 8, 9, 19, 20, 21] false [
                (none, .mv 23 (.v 21)),
                (none, .iadr 24 1 (.v 19) (.v 21)),
                (none, .load 25 false 1 (.v 24) none),
                (none, .asg 8 (.v 23) .copy),
                (none, .asg 9 (.v 25) .copy)])
              (.seq
               (.region [(27, 2, false), (19, 6, false)] [] [2, 6, 8, 19, 20, 21, 29] false [
                 (none, .mv 26 (.v 9)),
                 (none, .fadr 27 2 1 (.v 2)),
                 (none, .load 28 false 1 (.v 27) none),
                 (none, .bin 29 .gtr (.v 26) (.v 28))])
               (.cond (.v 29)
                (.seq
                 (.region [] [] [4, 5] false [
                   (none, .mv 30 (.v 8)),
                   (none, .asg 4 (.v 30) .copy),
                   (none, .asg 5 (.c (.int .i64 0)) .copy)])
                 (.ret [4, 5]))
                (.skip [2, 6, 19, 20, 21])))))
            (.region [(19, 6, false)] [] [2, 6, 19, 20, 21] false [
              (none, .bin 31 .add (.v 21) (.c (.int .i64 1))),
              (none, .mv 21 (.v 31))])))))))
      (.seq
       (.region [] [] [4, 5] false [
         (none, .asg 4 (.c (.int .i64 0)) .copy),
         (none, .asg 5 (.c (.int .i64 3)) .copy)])
       (.ret [4, 5]))))))⟩
def F145 : PFunc :=
 ⟨[false, false], [.tmp 4, .tmp 5],
  (.seq
   (.region [] [] [1, 2] false [
     (none, .box 2 (.v 0) .copy),
     (none, .asg 4 (.c (.int .i64 0)) .copy),
     (none, .asg 5 (.c (.int .i64 0)) .copy)])
   (.seq
    (.seq
     (.region [] [] [1, 2, 6] false [
       (none, .load 9 true 3 (.v 2) none),
       (none, .mv 10 (.v 1)),
       (none, .call (some 11) 284 false [((.v 9), false), ((.v 10), false)]),
       (none, .asg 6 (.v 11) .copy)])
     (.seq
      (.region [] [] [1, 2, 6, 13] false [
        (none, .mv 12 (.v 6)),
        (none, .bin 13 .neq (.v 12) (.c (.int .i64 0)))])
      (.cond (.v 13)
       (.seq
        (.region [] [] [4, 5] false [
          (none, .mv 14 (.v 6)),
          (none, .asg 4 (.c (.int .i64 0)) .copy),
          (none, .asg 5 (.v 14) .copy)])
        (.ret [4, 5]))
       (.skip [1, 2]))))
    (.seq
     (.region [] [] [8] false [
       (none, .load 16 true 3 (.v 2) none),
       (none, .mv 17 (.v 1)),
       (none, .call (some 18) 249 false [((.v 16), false), ((.v 17), false)]),
       (none, .asg 15 (.v 18) .copy),
       (none, .extp 19 (.v 15) 0),
       (none, .extp 20 (.v 15) 1),
       (none, .asg 7 (.v 19) .copy),
       (none, .asg 8 (.v 20) .copy)])
     (.seq
      (.region [] [] [4, 5] false [
        (none, .mv 21 (.v 8)),
        (none, .asg 4 (.v 21) .copy),
        (none, .asg 5 (.c (.int .i64 0)) .copy)])
      (.ret [4, 5])))))⟩
def F384 : PFunc :=
 ⟨[false, false, false], [.tmp 6],
  (.seq
   (.region [] [] [0, 1, 2] false [
     (none, .asg 6 (.c (.int .i64 0)) .copy)])
   (.seq
    (.seq
     (.region [(8, 0, false)] [] [0, 1, 2, 14] false [
       (none, .mv 7 (.v 1)),
       (none, .mv 8 (.v 0)),
       (none, .len 9 false (.v 8)),
       (none, .bin 10 .geq (.v 7) (.v 9)),
       (none, .mv 11 (.v 10)),
       (some (11, false), .mv 12 (.v 2)),
       (some (11, false), .bin 13 .lss (.v 12) (.c (.int .i64 1))),
       (none, .pick 14 (.v 11) (.c (.bool true)) (.v 13))])
     (.cond (.v 14)
      (.seq
       (.region [] [] [6] false [
         (none, .asg 6 (.c (.int .i64 0)) .copy)])
       (.ret [6]))
      (.skip [0, 1, 2])))
    (.seq
     (.region [(17, 0, false), (15, 0, false)] [] [6] false [
       (none, .mv 15 (.v 0)),
       (none, .mv 16 (.v 1)),
       (none, .iadr 17 1 (.v 15) (.v 16)),
       (none, .load 18 false 1 (.v 17) none),
       (none, .conv 19 .i64 (.v 18)),
       (none, .mv 20 (.v 2)),
       (none, .bin 21 .rem (.v 19) (.v 20)),
       (none, .asg 6 (.v 21) .copy)])
     (.ret [6]))))⟩
def F386 : PFunc :=
 ⟨[false, false], [.tmp 4],
  (.seq
   (.region [] [] [0, 1] false [
     (none, .asg 4 (.c (.bool false)) .copy)])
   (.seq
    (.region [(9, 1, false), (5, 0, false)] [] [4] false [
      (none, .mv 5 (.v 0)),
      (none, .len 6 false (.v 5)),
      (none, .bin 7 .gtr (.v 6) (.c (.int .i64 3000))),
      (none, .mv 8 (.v 7)),
      (some (8, false), .mv 9 (.v 1)),
      (some (8, false), .len 10 false (.v 9)),
      (some (8, false), .bin 11 .gtr (.v 10) (.c (.int .i64 3000))),
      (none, .pick 12 (.v 8) (.c (.bool true)) (.v 11)),
      (none, .asg 4 (.v 12) .copy)])
    (.ret [4])))⟩
def F387 : PFunc :=
 ⟨[false], [.tmp 2],
  (.seq
   (.region [] [] [0] false [
     (none, .asg 2 (.c (.int .i64 0)) .copy)])
   (.seq
    (.region [] [] [0, 3] false [
      (none, .asg 3 (.c (.int .i64 0)) .copy)])
    (.seq
     (.seq
      (.region [] [] [0, 3, 4] false [
        (none, .asg 4 (.c (.int .i64 0)) .copy)])
      (.block 0
       (.loop
        (.seq
         (.seq
          (.region [] [] [0, 3, 4, 8] false [
            (none, .mv 5 (.v 4)),
            (none, .mv 6 (.v 0)),
            (none, .len 7 true (.v 6)),
            (none, .bin 8 .lss (.v 5) (.v 7))])
          (.cond (.v 8)
           (.skip [0, 3, 4])
           (.exit 0 [3])))
         (.seq
          (.block 1
           (.seq
            (.region [] [] [0, 3, 4, 14] false [
              (none, .mv 11 (.v 0)),
              (none, .mv 12 (.v 4)),
              (none, .idx 13 (.v 11) (.v 12)),
              (none, .bin 14 .eql (.v 13) (.c (.int .u8 49)))])
            (.cond (.v 14)
             (.region [] [] [0, 3, 4] false [
               (none, .mv 15 (.v 3)),
               (none, .bin 16 .add (.v 15) (.c (.int .i64 1))),
               (none, .asg 3 (.v 16) .copy)])
             (.skip [0, 3, 4]))))
          (.region [] [] [0, 3, 4] false [
            (none, .mv 9 (.v 4)),
            (none, .bin 10 .add (.v 9) (.c (.int .i64 1))),
            (none, .asg 4 (.v 10) .copy)]))))))
     (.seq
      (.region [] [] [2] false [
        (none, .mv 17 (.v 3)),
        (none, .asg 2 (.v 17) .copy)])
      (.ret [2])))))⟩
def F5 : PFunc :=
 ⟨[true], [.tmp 2],
  (.seq
   (.region [] [] [0] false [
     (none, .asg 2 (.c (.int .i64 0)) .copy)])
   (.seq
    (.region [] [] [0, 3] false [
      (none, .asg 3 (.c (.int .i64 0)) .copy)])
    (.seq
     (.seq
      (.region [(11, 0, true), (10, 0, false), (9, 0, false), (8, 0, false), (6, 0, false), (5, 0, false), (4, 0, false)] [] [0, 3, 13] true [
        (none, .mv 4 (.v 0)),
        (none, .nchk 5 (.v 4)),
        (none, .fadr 6 1 1 (.v 5)),
        (none, .load 7 false 1 (.v 6) none),
        (none, .mv 8 (.v 0)),
        (none, .nchk 9 (.v 8)),
        (none, .fadr 10 0 1 (.v 9)),
        (none, .load 11 false 1 (.v 10) none),
        (none, .len 12 false (.v 11)),
        (none, .bin 13 .lss (.v 7) (.v 12))])
      (.cond (.v 13)
       (.region [(22, 0, true), (20, 0, false), (19, 0, false), (18, 0, false), (17, 0, true), (16, 0, false), (15, 0, false), (14, 0, false)] [] [0, 3] true [
         (none, .mv 14 (.v 0)),
         (none, .nchk 15 (.v 14)),
         (none, .fadr 16 0 1 (.v 15)),
         (none, .load 17 false 1 (.v 16) none),
         (none, .mv 18 (.v 0)),
         (none, .nchk 19 (.v 18)),
         (none, .fadr 20 1 1 (.v 19)),
         (none, .load 21 false 1 (.v 20) none),
         (none, .iadr 22 1 (.v 17) (.v 21)),
         (none, .load 23 false 1 (.v 22) none),
         (none, .conv 24 .i64 (.v 23)),
         (none, .asg 3 (.v 24) .copy)])
       (.skip [0, 3])))
     (.seq
      (.region [(31, 0, false), (30, 0, false), (27, 0, false), (26, 0, false), (25, 0, false)] [] [0, 3] false [
        (none, .mv 25 (.v 0)),
        (none, .nchk 26 (.v 25)),
        (none, .fadr 27 1 1 (.v 26)),
        (none, .load 28 false 1 (.v 27) none),
        (none, .bin 29 .add (.v 28) (.c (.int .i64 1))),
        (none, .nchk 30 (.v 25)),
        (none, .fadr 31 1 1 (.v 30)),
        (none, .store 1 (.v 31) (.v 29) .copy)])
      (.seq
       (.region [(43, 0, false), (42, 0, false), (35, 0, false), (34, 0, false), (33, 0, false), (32, 0, false)] [] [0, 3] false [
         (none, .mv 32 (.v 0)),
         (none, .mv 33 (.v 0)),
         (none, .nchk 34 (.v 33)),
         (none, .fadr 35 2 1 (.v 34)),
         (none, .load 36 false 1 (.v 35) none),
         (none, .bin 37 .mul (.v 36) (.c (.int .u64 6364136223846793005))),
         (none, .mv 38 (.v 3)),
         (none, .conv 39 .u64 (.v 38)),
         (none, .bin 40 .add (.v 37) (.v 39)),
         (none, .bin 41 .add (.v 40) (.c (.int .u64 1442695040888963407))),
         (none, .nchk 42 (.v 32)),
         (none, .fadr 43 2 1 (.v 42)),
         (none, .store 1 (.v 43) (.v 41) .copy)])
       (.seq
        (.seq
         (.region [(51, 0, true), (50, 0, false), (49, 0, false), (48, 0, false), (46, 0, false), (45, 0, false), (44, 0, false)] [] [0, 3, 53] true [
           (none, .mv 44 (.v 0)),
           (none, .nchk 45 (.v 44)),
           (none, .fadr 46 1 1 (.v 45)),
           (none, .load 47 false 1 (.v 46) none),
           (none, .mv 48 (.v 0)),
           (none, .nchk 49 (.v 48)),
           (none, .fadr 50 0 1 (.v 49)),
           (none, .load 51 false 1 (.v 50) none),
           (none, .len 52 false (.v 51)),
           (none, .bin 53 .leq (.v 47) (.v 52))])
         (.cond (.v 53)
          (.seq
           (.region [] [] [0, 2] false [
             (none, .mv 54 (.v 3)),
             (none, .asg 2 (.v 54) .copy)])
           (.ret [0, 2]))
          (.skip [0])))
        (.seq
         (.region [(57, 0, false), (56, 0, false), (55, 0, false)] [] [0, 2] false [
           (none, .mv 55 (.v 0)),
           (none, .nchk 56 (.v 55)),
           (none, .fadr 57 2 1 (.v 56)),
           (none, .load 58 false 1 (.v 57) none),
           (none, .bin 59 .shr (.v 58) (.c (.int .u64 40))),
           (none, .bin 60 .and (.v 59) (.c (.int .u64 255))),
           (none, .conv 61 .i64 (.v 60)),
           (none, .asg 2 (.v 61) .copy)])
         (.ret [0, 2]))))))))⟩
def F7 : PFunc :=
 ⟨[true, false], [.tmp 4],
  (.seq
   (.region [] [] [0, 1] false [
     (none, .asg 4 (.c (.int .i64 0)) .copy)])
   (.seq
    (.seq
     (.region [] [] [0, 1, 7] false [
       (none, .mv 6 (.v 1)),
       (none, .bin 7 .leq (.v 6) (.c (.int .i64 1)))])
     (.cond (.v 7)
      (.seq
       (.region [] [] [0, 4] false [
         (none, .asg 4 (.c (.int .i64 0)) .copy)])
       (.ret [0, 4]))
      (.skip [0, 1])))
    (.seq
     (.region [(8, 0, false)] [] [0, 1, 5] false [
       (none, .mv 8 (.v 0)),
       (none, .call (some 9) 5 true [((.v 8), true)]),
       (none, .asg 5 (.v 9) .copy)])
     (.seq
      (.seq
       (.region [] [] [0, 1, 5, 11] false [
         (none, .mv 10 (.v 1)),
         (none, .bin 11 .gtr (.v 10) (.c (.int .i64 200)))])
       (.cond (.v 11)
        (.region [(14, 0, false)] [] [0, 1, 5] false [
          (none, .mv 12 (.v 5)),
          (none, .bin 13 .mul (.v 12) (.c (.int .i64 256))),
          (none, .mv 14 (.v 0)),
          (none, .call (some 15) 5 true [((.v 14), true)]),
          (none, .bin 16 .add (.v 13) (.v 15)),
          (none, .asg 5 (.v 16) .copy)])
        (.skip [0, 1, 5])))
      (.seq
       (.region [] [] [0, 4] false [
         (none, .mv 17 (.v 5)),
         (none, .mv 18 (.v 1)),
         (none, .bin 19 .rem (.v 17) (.v 18)),
         (none, .asg 4 (.v 19) .copy)])
       (.ret [0, 4]))))))⟩
def F603 : PFunc :=
 ⟨[false], [.tmp 2],
  (.seq
   (.region [] [] [0] false [
     (none, .asg 2 (.c .nilp) .copy)])
   (.seq
    (.region [(3, 0, false)] [] [2] false [
      (none, .mv 3 (.v 0)),
      (none, .build 4 [(.sl false 1 []), (.int .i64 0), (.int .u64 0)] [(0, 1, (.v 3), .move)]),
      (none, .box 5 (.v 4) .move),
      (none, .asg 2 (.v 5) .move)])
    (.ret [2])))⟩
def F423 : PFunc :=
 ⟨[false, false], [.tmp 4],
  (.seq
   (.region [] [] [0, 1] false [
     (none, .asg 4 (.c (.str [])) .copy)])
   (.seq
    (.region [(8, 0, false)] [] [1, 5] false [
      (none, .mv 8 (.v 0)),
      (none, .call (some 9) 603 true [((.v 8), false)]),
      (none, .asg 5 (.v 9) .move)])
    (.seq
     (.region [] [] [1, 5, 6] false [
       (none, .mksl 10 1 (.int .u8 0) 0 []),
       (none, .asg 6 (.v 10) .move)])
     (.seq
      (.seq
       (.region [] [] [5, 6, 7] false [
         (none, .mv 11 (.v 1)),
         (none, .asg 7 (.v 11) .copy)])
       (.block 0
        (.loop
         (.seq
          (.seq
           (.region [] [] [5, 6, 7, 13] false [
             (none, .mv 12 (.v 7)),
             (none, .bin 13 .gtr (.v 12) (.c (.int .i64 0)))])
           (.cond (.v 13)
            (.skip [5, 6, 7])
            (.exit 0 [6])))
          (.seq
           (.block 1
            (.region [(17, 5, false), (16, 6, false)] [] [5, 6, 7] false [
              (none, .mv 16 (.v 6)),
              (none, .mv 17 (.v 5)),
              (none, .call (some 18) 7 true [((.v 17), true), ((.c (.int .i64 4)), false)]),
              (none, .idx 19 (.c (.str [48, 49, 49, 48])) (.v 18)),
              (none, .mksl 20 1 (.int .u8 0) 1 [(0, (.v 19), .copy)]),
              (none, .app 21 1 (.v 16) (.v 20) .move),
              (none, .asg 6 (.v 21) .move)]))
           (.region [] [] [5, 6, 7] false [
             (none, .mv 14 (.v 7)),
             (none, .bin 15 .sub (.v 14) (.c (.int .i64 1))),
             (none, .asg 7 (.v 15) .copy)]))))))
      (.seq
       (.region [(22, 6, false)] [] [4] false [
         (none, .mv 22 (.v 6)),
         (none, .b2s 23 (.v 22)),
         (none, .asg 4 (.v 23) .copy)])
       (.ret [4]))))))⟩
def F760 : PFunc :=
 ⟨[true], [.cell 2 true 3],
  (.seq
   (.region [] [] [0, 2] false [
     (none, .new 2 (.agg [(.int .i64 0), (.int .i64 0), (.int .i64 0)]))])
   (.seq
    (.region [(4, 0, false)] [] [0, 2, 3] false [
      (none, .mv 4 (.v 0)),
      (none, .call (some 5) 7 true [((.v 4), true), ((.c (.int .i64 5)), false)]),
      (none, .bin 6 .add (.c (.int .i64 1)) (.v 5)),
      (none, .build 7 [(.int .i64 0), (.int .i64 0), (.int .i64 0)] [(0, 1, (.v 6), .copy)]),
      (none, .new 3 (.agg [(.int .i64 0), (.int .i64 0), (.int .i64 0)])),
      (none, .store 3 (.v 3) (.v 7) .copy)])
    (.seq
     (.region [(11, 3, false), (8, 0, false)] [] [0, 2, 3] false [
       (none, .mv 8 (.v 0)),
       (none, .call (some 9) 7 true [((.v 8), true), ((.c (.int .i64 4)), false)]),
       (none, .bin 10 .add (.c (.int .i64 1)) (.v 9)),
       (none, .fadr 11 1 1 (.v 3)),
       (none, .store 1 (.v 11) (.v 10) .copy)])
     (.seq
      (.region [(15, 3, false), (12, 0, false)] [] [0, 2, 3] false [
        (none, .mv 12 (.v 0)),
        (none, .call (some 13) 7 true [((.v 12), true), ((.c (.int .i64 20)), false)]),
        (none, .bin 14 .add (.c (.int .i64 1)) (.v 13)),
        (none, .fadr 15 2 1 (.v 3)),
        (none, .store 1 (.v 15) (.v 14) .copy)])
      (.seq
       (.region [] [] [0, 2] false [
         (none, .load 16 true 3 (.v 3) none),
         (none, .store 3 (.v 2) (.v 16) .copy)])
       (.ret [0, 2]))))))⟩
def F427 : PFunc :=
 ⟨[false], [.cell 2 true 3],
  (.seq
   (.region [] [] [0, 2] false [
     (none, .new 2 (.agg [(.int .i64 0), (.int .i64 0), (.int .i64 0)]))])
   (.seq
    (.region [(3, 0, false)] [] [2] false [
      (none, .mv 3 (.v 0)),
      (none, .call (some 4) 603 true [((.v 3), false)]),
      (none, .call (some 5) 760 true [((.v 4), true)]),
      (none, .store 3 (.v 2) (.v 5) .copy)])
    (.ret [2])))⟩
def F329 : PFunc :=
 ⟨[false, false], [.tmp 4],
  (.seq
   (.region [] [] [0, 1] false [
     (none, .asg 4 (.c (.bool false)) .copy)])
   (.seq
    (.seq
     (.region [(22, 1, false), (21, 0, false)] [] [0, 1, 23] false [
       (none, .mv 21 (.v 0)),
       (none, .mv 22 (.v 1)),
       (none, .call (some 23) 386 false [((.v 21), false), ((.v 22), false)])])
     (.cond (.v 23)
      (.seq
       (.region [] [] [4] false [
         (none, .asg 4 (.c (.bool true)) .copy)])
       (.ret [4]))
      (.skip [0, 1])))
    (.seq
     (.region [(24, 0, false)] [] [1, 5] false [
       (none, .mv 24 (.v 0)),
       (none, .call (some 25) 427 false [((.v 24), false)]),
       (none, .new 5 (.agg [(.int .i64 0), (.int .i64 0), (.int .i64 0)])),
       (none, .store 3 (.v 5) (.v 25) .copy)])
     (.seq
      (.region [(26, 1, false)] [] [1, 5, 6] false [
        (none, .mv 26 (.v 1)),
        (none, .call (some 27) 384 false [((.v 26), false), ((.c (.int .i64 0)), false), ((.c (.int .i64 20)), false)]),
        (none, .asg 6 (.v 27) .copy)])
      (.seq
       (.region [] [] [1, 5, 6, 7, 8] false [
         (none, .load 29 true 3 (.v 5) none),
         (none, .mv 30 (.v 6)),
         (none, .call (some 31) 145 false [((.v 29), false), ((.v 30), false)]),
         (none, .asg 28 (.v 31) .copy),
         (none, .extp 32 (.v 28) 0),
         (none, .extp 33 (.v 28) 1),
         (none, .asg 7 (.v 32) .copy),
         (none, .asg 8 (.v 33) .copy)])
       (.seq
        (.region [] [] [1, 5, 6, 7, 8, 9, 10] false [
          (none, .load 35 true 3 (.v 5) none),
          (none, .mv 36 (.v 6)),
          (none, .call (some 37) 49 false [((.v 35), false), ((.v 36), false)]),
          (none, .asg 34 (.v 37) .copy),
          (none, .extp 38 (.v 34) 0),
          (none, .extp 39 (.v 34) 1),
          (none, .asg 9 (.v 38) .copy),
          (none, .asg 10 (.v 39) .copy)])
        (.seq
         (.region [] [] [1, 5, 6, 7, 8, 9, 10, 12] false [
           (none, .load 41 true 3 (.v 5) none),
           (none, .mv 42 (.v 9)),
           (none, .call (some 43) 95 false [((.v 41), false), ((.v 42), false)]),
           (none, .asg 40 (.v 43) .copy),
           (none, .extp 44 (.v 40) 0),
           (none, .extp 45 (.v 40) 1),
           (none, .asg 11 (.v 44) .copy),
           (none, .asg 12 (.v 45) .copy)])
         (.seq
          (.seq
           (.region [] [] [1, 5, 6, 7, 67] false [
             (none, .mv 46 (.v 8)),
             (none, .bin 47 .neq (.v 46) (.c (.int .i64 0))),
             (none, .mv 48 (.v 47)),
             (some (48, false), .mv 49 (.v 10)),
             (some (48, false), .bin 50 .neq (.v 49) (.c (.int .i64 0))),
             (none, .pick 51 (.v 48) (.c (.bool true)) (.v 50)),
             (none, .mv 52 (.v 51)),
             (some (52, false), .mv 53 (.v 9)),
             (some (52, false), .len 54 true (.v 53)),
             (some (52, false), .mv 55 (.v 6)),
             (some (52, false), .bin 56 .neq (.v 54) (.v 55)),
             (none, .pick 57 (.v 52) (.c (.bool true)) (.v 56)),
             (none, .mv 58 (.v 57)),
             (some (58, false), .mv 59 (.v 12)),
             (some (58, false), .bin 60 .neq (.v 59) (.c (.int .i64 3))),
             (none, .pick 61 (.v 58) (.c (.bool true)) (.v 60)),
             (none, .mv 62 (.v 61)),
             (some (62, false), .mv 63 (.v 9)),
             (some (62, false), .call (some 64) 387 false [((.v 63), false)]),
             (some (62, false), .mv 65 (.v 7)),
             (some (62, false), .bin 66 .neq (.v 64) (.v 65)),
             (none, .pick 67 (.v 62) (.c (.bool true)) (.v 66))])
           (.cond (.v 67)
            (.seq
             (.region [] [] [4] false [
               (none, .asg 4 (.c (.bool false)) .copy)])
             (.ret [4]))
            (.skip [1, 5, 6, 7])))
          (.seq
           (.region [(68, 1, false)] [] [5, 6, 7, 13] false [
             (none, .mv 68 (.v 1)),
             (none, .mv 69 (.v 6)),
             (none, .call (some 70) 423 false [((.v 68), false), ((.v 69), false)]),
             (none, .asg 13 (.v 70) .copy)])
           (.seq
            (.region [] [] [5, 6, 7, 13, 14, 15] false [
              (none, .load 72 true 3 (.v 5) none),
              (none, .mv 73 (.v 13)),
              (none, .call (some 74) 114 false [((.v 72), false), ((.v 73), false)]),
              (none, .asg 71 (.v 74) .move),
              (none, .ext 75 (.v 71) 0),
              (none, .extp 76 (.v 71) 1),
              (none, .asg 14 (.v 75) .move),
              (none, .asg 15 (.v 76) .copy)])
            (.seq
             (.region [] [] [5, 6, 7, 13, 14, 15, 16, 17] false [
               (none, .load 78 true 3 (.v 5) none),
               (none, .mv 79 (.v 13)),
               (none, .call (some 80) 95 false [((.v 78), false), ((.v 79), false)]),
               (none, .asg 77 (.v 80) .copy),
               (none, .extp 81 (.v 77) 0),
               (none, .extp 82 (.v 77) 1),
               (none, .asg 16 (.v 81) .copy),
               (none, .asg 17 (.v 82) .copy)])
             (.seq
              (.seq
               (.region [(86, 14, false)] [] [5, 7, 13, 14, 16, 17, 90] false [
                 (none, .mv 83 (.v 15)),
                 (none, .bin 84 .neq (.v 83) (.c (.int .i64 0))),
                 (none, .mv 85 (.v 84)),
                 (some (85, false), .mv 86 (.v 14)),
                 (some (85, false), .len 87 false (.v 86)),
                 (some (85, false), .mv 88 (.v 6)),
                 (some (85, false), .bin 89 .neq (.v 87) (.v 88)),
                 (none, .pick 90 (.v 85) (.c (.bool true)) (.v 89))])
               (.cond (.v 90)
                (.seq
                 (.region [] [] [4] false [
                   (none, .asg 4 (.c (.bool false)) .copy)])
                 (.ret [4]))
                (.skip [5, 7, 13, 14, 16, 17])))
              (.seq
               (.region [] [] [5, 7, 13, 14, 16, 17, 18] false [
                 (none, .asg 18 (.c (.int .i64 0)) .copy)])
               (.seq
                (.region [] [] [5, 7, 13, 14, 16, 17, 18, 19] false [
                  (none, .asg 19 (.c (.int .i64 (-1))) .copy)])
                (.seq
                 (.seq
                  (.region [] [] [5, 7, 13, 14, 16, 17, 18, 19, 20] false [
                    (none, .asg 20 (.c (.int .i64 0)) .copy)])
                  (.block 0
                   (.loop
                    (.seq
                     (.seq
                      (.region [] [] [5, 7, 13, 14, 16, 17, 18, 19, 20, 94] false [
                        (none, .mv 91 (.v 20)),
                        (none, .mv 92 (.v 13)),
                        (none, .len 93 true (.v 92)),
                        (none, .bin 94 .lss (.v 91) (.v 93))])
                      (.cond (.v 94)
                       (.skip [5, 7, 13, 14, 16, 17, 18, 19, 20])
                       (.exit 0 [7, 13, 16, 17, 19])))
                     (.seq
                      (.block 1
                       (.seq
                        (.seq
                         (.region [] [] [5, 7, 13, 14, 16, 17, 18, 19, 20, 100] false [
                           (none, .mv 97 (.v 13)),
                           (none, .mv 98 (.v 20)),
                           (none, .idx 99 (.v 97) (.v 98)),
                           (none, .bin 100 .eql (.v 99) (.c (.int .u8 49)))])
                         (.cond (.v 100)
                          (.region [(102, 5, false)] [] [5, 7, 13, 14, 16, 17, 18, 19, 20] false [
                            (none, .mv 101 (.v 18)),
                            (none, .fadr 102 0 1 (.v 5)),
                            (none, .load 103 false 1 (.v 102) none),
                            (none, .bin 104 .add (.v 101) (.v 103)),
                            (none, .asg 18 (.v 104) .copy)])
                          (.region [(106, 5, false)] [] [5, 7, 13, 14, 16, 17, 18, 19, 20] false [
                            (none, .mv 105 (.v 18)),
                            (none, .fadr 106 1 1 (.v 5)),
                            (none, .load 107 false 1 (.v 106) none),
                            (none, .bin 108 .sub (.v 105) (.v 107)),
                            (none, .mm 109 true (.c (.int .i64 0)) [(.v 108)]),
                            (none, .asg 18 (.v 109) .copy)])))
                        (.seq
                         (.seq
                          (.region [(112, 14, false), (110, 14, false)] [] [5, 7, 13, 14, 16, 17, 18, 19, 20, 115] false [
                            (none, .mv 110 (.v 14)),
                            (none, .mv 111 (.v 20)),
                            (none, .iadr 112 1 (.v 110) (.v 111)),
                            (none, .load 113 false 1 (.v 112) none),
                            (none, .mv 114 (.v 18)),
                            (none, .bin 115 .neq (.v 113) (.v 114))])
                          (.cond (.v 115)
                           (.seq
                            (.region [] [] [4] false [
                              (none, .asg 4 (.c (.bool false)) .copy)])
                            (.ret [4]))
                           (.skip [5, 7, 13, 14, 16, 17, 18, 19, 20])))
                         (.seq
                          (.region [(117, 5, false)] [] [5, 7, 13, 14, 16, 17, 18, 19, 20, 123] false [
                            (none, .mv 116 (.v 18)),
                            (none, .fadr 117 2 1 (.v 5)),
                            (none, .load 118 false 1 (.v 117) none),
                            (none, .bin 119 .gtr (.v 116) (.v 118)),
                            (none, .mv 120 (.v 119)),
                            (some (120, true), .mv 121 (.v 19)),
                            (some (120, true), .bin 122 .lss (.v 121) (.c (.int .i64 0))),
                            (none, .pick 123 (.v 120) (.v 122) (.c (.bool false)))])
                          (.cond (.v 123)
                           (.region [] [] [5, 7, 13, 14, 16, 17, 18, 19, 20] false [
                             (none, .mv 124 (.v 20)),
                             (none, .asg 19 (.v 124) .copy)])
                           (.skip [5, 7, 13, 14, 16, 17, 18, 19, 20]))))))
                      (.region [] [] [5, 7, 13, 14, 16, 17, 18, 19, 20] false [
                        (none, .mv 95 (.v 20)),
                        (none, .bin 96 .add (.v 95) (.c (.int .i64 1))),
                        (none, .asg 20 (.v 96) .copy)]))))))
                 (.seq
                  (.seq
                   (.region [] [] [7, 13, 16, 17, 19, 126] false [
                     (none, .mv 125 (.v 19)),
                     (none, .bin 126 .geq (.v 125) (.c (.int .i64 0)))])
                   (.cond (.v 126)
                    (.seq
                     (.region [] [] [4] false [
                       (none, .mv 127 (.v 17)),
                       (none, .bin 128 .eql (.v 127) (.c (.int .i64 0))),
                       (none, .mv 129 (.v 128)),
                       (some (129, true), .mv 130 (.v 16)),
                       (some (129, true), .mv 131 (.v 19)),
                       (some (129, true), .bin 132 .eql (.v 130) (.v 131)),
                       (none, .pick 133 (.v 129) (.v 132) (.c (.bool false))),
                       (none, .asg 4 (.v 133) .copy)])
                     (.ret [4]))
                    (.skip [7, 13, 17])))
                  (.seq
                   (.region [] [] [4] false [
                     (none, .mv 134 (.v 17)),
                     (none, .bin 135 .eql (.v 134) (.c (.int .i64 3))),
                     (none, .mv 136 (.v 135)),
                     (some (136, true), .mv 137 (.v 13)),
                     (some (136, true), .call (some 138) 387 false [((.v 137), false)]),
                     (some (136, true), .mv 139 (.v 7)),
                     (some (136, true), .bin 140 .leq (.v 138) (.v 139)),
                     (none, .pick 141 (.v 136) (.v 140) (.c (.bool false))),
                     (none, .asg 4 (.v 141) .copy)])
                   (.ret [4]))))))))))))))))))⟩
def tabl : List (Nat × PFunc) := [(18, F18), (249, F249), (326, F326), (217, F217), (284, F284), (49, F49), (207, F207), (114, F114), (95, F95), (145, F145), (384, F384), (386, F386), (387, F387), (5, F5), (7, F7), (603, F603), (423, F423), (760, F760), (427, F427), (329, F329)]
def T : Nat → Option PFunc := tabOf tabl
end Go.Vs.G
