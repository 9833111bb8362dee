/- The functions that the law reaches, in the small language, printed by program. No conditions. -/
import Derived.Test.YtcbacahinmncaaaDLShutters
import Derived.Test.YtcbacahinmncaaaV4
set_option maxRecDepth 100000
open Go Go.Vs
namespace Go.Vs.G
def F326 : PFunc :=
 ⟨[false, false, false], [.tmp 6],
  (.seq
   (.region [] [] [0, 1, 2] false [
     (none, .asg 6 (.c (.bool false)) .copy)])
   (.seq
    (.region [] [] [6] false [
      (none, .mv 7 (.v 0)),
      (none, .mv 8 (.v 1)),
      (none, .bin 9 .geq (.v 7) (.v 8)),
      (none, .mv 10 (.v 9)),
      (some (10, true), .mv 11 (.v 0)),
      (some (10, true), .mv 12 (.v 2)),
      (some (10, true), .bin 13 .leq (.v 11) (.v 12)),
      (none, .pick 14 (.v 10) (.v 13) (.c (.bool false))),
      (none, .asg 6 (.v 14) .copy)])
    (.ret [6])))⟩
def F79 : PFunc :=
 ⟨[false, false, false], [.tmp 6, .tmp 7],
  (.seq
   (.region [] [] [0, 1, 2] false [
     (none, .asg 6 (.c (.sl true 2 [])) .copy),
     (none, .asg 7 (.c (.int .i64 0)) .copy)])
   (.seq
    (.seq
     (.region [] [] [0, 1, 2, 22] false [
       (none, .mv 10 (.v 0)),
       (none, .call (some 11) 326 false [((.v 10), false), ((.c (.int .i64 0)), false), ((.c (.int .i64 60)), false)]),
       (none, .un 12 .not (.v 11)),
       (none, .mv 13 (.v 12)),
       (some (13, false), .mv 14 (.v 1)),
       (some (13, false), .call (some 15) 326 false [((.v 14), false), ((.c (.int .i64 1)), false), ((.c (.int .i64 10000)), false)]),
       (some (13, false), .un 16 .not (.v 15)),
       (none, .pick 17 (.v 13) (.c (.bool true)) (.v 16)),
       (none, .mv 18 (.v 17)),
       (some (18, false), .mv 19 (.v 2)),
       (some (18, false), .call (some 20) 326 false [((.v 19), false), ((.c (.int .i64 1)), false), ((.c (.int .i64 1000)), false)]),
       (some (18, false), .un 21 .not (.v 20)),
       (none, .pick 22 (.v 18) (.c (.bool true)) (.v 21))])
     (.cond (.v 22)
      (.seq
       (.region [] [] [6, 7] false [
         (none, .asg 6 (.c (.sl true 2 [])) .copy),
         (none, .asg 7 (.c (.int .i64 2)) .copy)])
       (.ret [6, 7]))
      (.skip [0, 1, 2])))
    (.seq
     (.region [] [] [0, 1, 8, 9] false [
       (none, .mksl 23 2 (.agg [(.int .i64 0), (.int .i64 0)]) 0 []),
       (none, .mv 24 (.v 1)),
       (none, .mv 25 (.v 2)),
       (none, .bin 26 .mul (.v 24) (.v 25)),
       (none, .bin 27 .quo (.v 26) (.c (.int .i64 1000))),
       (none, .mm 28 true (.v 27) [(.c (.int .i64 1))]),
       (none, .asg 8 (.v 23) .move),
       (none, .asg 9 (.v 28) .copy)])
     (.seq
      (.seq
       (.region [] [] [1, 8, 9, 29, 30] false [
         (none, .mv 29 (.v 0)),
         (none, .mv 30 (.c (.int .i64 0)))])
       (.block 0
        (.loop
         (.seq
          (.region [] [] [1, 8, 9, 29, 30, 31] false [
            (none, .bin 31 .lss (.v 30) (.v 29))])
          (.seq
           (.cond (.v 31)
            (.skip [1, 8, 9, 29, 30])
            (.exit 0 [8]))
           (.seq
            (.block 1
             (.region [(32, 8, false)] [] [1, 8, 9, 29, 30] false [
               (none, .mv 32 (.v 8)),
               (none, .mv 33 (.v 9)),
               (none, .mv 34 (.v 1)),
               (none, .mv 35 (.v 9)),
               (none, .bin 36 .sub (.v 34) (.v 35)),
               (none, .build 37 [(.int .i64 0), (.int .i64 0)] [(0, 1, (.v 33), .copy), (1, 1, (.v 36), .copy)]),
               (none, .mksl 38 2 (.agg [(.int .i64 0), (.int .i64 0)]) 1 [(0, (.v 37), .copy)]),
               (none, .app 39 2 (.v 32) (.v 38) .move),
               (none, .asg 8 (.v 39) .move)]))
            (.region [] [] [1, 8, 9, 29, 30] false [
              (none, .bin 40 .add (.v 30) (.c (.int .i64 1))),
              (none, .mv 30 (.v 40))])))))))
      (.seq
       (.region [(41, 8, false)] [] [6, 7] false [
         (none, .mv 41 (.v 8)),
         (none, .asg 6 (.v 41) .move),
         (none, .asg 7 (.c (.int .i64 0)) .copy)])
       (.ret [6, 7]))))))⟩
def F215 : PFunc :=
 ⟨[false], [.tmp 2],
  (.seq
   (.region [] [] [1] false [
     (none, .box 1 (.v 0) .copy),
     (none, .asg 2 (.c (.bool false)) .copy)])
   (.seq
    (.region [(8, 1, false), (3, 1, false)] [] [2] false [
      (none, .fadr 3 0 1 (.v 1)),
      (none, .load 4 false 1 (.v 3) none),
      (none, .call (some 5) 326 false [((.v 4), false), ((.c (.int .i64 1)), false), ((.c (.int .i64 10000)), false)]),
      (none, .un 6 .not (.v 5)),
      (none, .mv 7 (.v 6)),
      (some (7, false), .fadr 8 1 1 (.v 1)),
      (some (7, false), .load 9 false 1 (.v 8) none),
      (some (7, false), .call (some 10) 326 false [((.v 9), false), ((.c (.int .i64 0)), false), ((.c (.int .i64 10000)), false)]),
      (some (7, false), .un 11 .not (.v 10)),
      (none, .pick 12 (.v 7) (.c (.bool true)) (.v 11)),
      (none, .asg 2 (.v 12) .copy)])
    (.ret [2])))⟩
def F823 : PFunc :=
 ⟨[false, false], [.tmp 4],
  (.seq
   (.region [] [] [0, 1] false [
     (none, .asg 4 (.c (.int .i64 0)) .copy)])
   (.seq
    (.seq
     (.region [(6, 0, false)] [] [0, 1, 7, 8] false [
       (none, .mv 6 (.v 0)),
       (none, .len 7 false (.v 6)),
       (none, .mv 8 (.c (.int .i64 0)))])
     (.block 0
      (.loop
       (.seq
        (.region [] [] [0, 1, 7, 8, 9] false [
          (none, .bin 9 .lss (.v 8) (.v 7))])
        (.seq
         (.cond (.v 9)
          (.skip [0, 1, 7, 8])
          (.exit 0 []))
         (.seq
          (.block 1
           (.seq
            (.region [] [] [0, 1, 5, 7, 8] false [
              (none, .mv 10 (.v 8)),
              (none, .asg 5 (.v 10) .copy)])
            (.seq
             (.region [(14, 0, false), (12, 0, false), (11, 1, false)] [] [0, 1, 5, 7, 8, 16] false [
               (none, .mv 11 (.v 1)),
               (none, .mv 12 (.v 0)),
               (none, .mv 13 (.v 5)),
               (none, .iadr 14 2 (.v 12) (.v 13)),
               (none, .load 15 true 2 (.v 14) none),
               (none, .callv (some 16) (.v 11) [(.v 15)])])
             (.cond (.v 16)
              (.seq
               (.region [] [] [4] false [
                 (none, .mv 17 (.v 5)),
                 (none, .asg 4 (.v 17) .copy)])
               (.ret [4]))
              (.skip [0, 1, 7, 8])))))
          (.region [] [] [0, 1, 7, 8] false [
            (none, .bin 18 .add (.v 8) (.c (.int .i64 1))),
            (none, .mv 8 (.v 18))])))))))
    (.seq
     (.region [] [] [4] false [
       (none, .asg 4 (.c (.int .i64 (-1))) .copy)])
     (.ret [4]))))⟩
def F801 : PFunc :=
 ⟨[false, false], [.tmp 4],
  (.seq
   (.region [] [] [0, 1] false [
     (none, .asg 4 (.c (.bool false)) .copy)])
   (.seq
    (.region [(6, 1, false), (5, 0, false)] [] [4] false [
      (none, .mv 5 (.v 0)),
      (none, .mv 6 (.v 1)),
      (none, .call (some 7) 823 false [((.v 5), false), ((.v 6), false)]),
      (none, .bin 8 .geq (.v 7) (.c (.int .i64 0))),
      (none, .asg 4 (.v 8) .copy)])
    (.ret [4])))⟩
def F214 : PFunc :=
 ⟨[false], [.tmp 2],
  (.seq
   (.region [] [] [0] false [
     (none, .asg 2 (.c (.bool false)) .copy)])
   (.seq
    (.region [(7, 0, false), (3, 0, false)] [] [2] false [
      (none, .mv 3 (.v 0)),
      (none, .len 4 false (.v 3)),
      (none, .bin 5 .leq (.v 4) (.c (.int .i64 60))),
      (none, .mv 6 (.v 5)),
      (some (6, true), .mv 7 (.v 0)),
      (some (6, true), .call (some 8) 801 false [((.v 7), false), ((.c (.fn 215 [])), false)]),
      (some (6, true), .un 9 .not (.v 8)),
      (none, .pick 10 (.v 6) (.v 9) (.c (.bool false))),
      (none, .asg 2 (.v 10) .copy)])
    (.ret [2])))⟩
def F247 : PFunc :=
 ⟨[false], [.tmp 2],
  (.seq
   (.region [] [] [0] false [
     (none, .asg 2 (.c (.sl true 1 [])) .copy)])
   (.seq
    (.region [] [] [0, 3, 4] false [
      (none, .mksl 7 1 (.int .i64 0) 1 [(0, (.c (.int .i64 0)), .copy)]),
      (none, .asg 3 (.v 7) .move),
      (none, .asg 4 (.c (.int .i64 0)) .copy)])
    (.seq
     (.seq
      (.region [(8, 0, false)] [] [0, 3, 4, 8, 9, 10] false [
        (none, .mv 8 (.v 0)),
        (none, .len 9 false (.v 8)),
        (none, .mv 10 (.c (.int .i64 0)))])
      (.block 0
       (.loop
        (.seq
         (.region [(8, 0, false)] [] [0, 3, 4, 8, 9, 10, 11] false [
           (none, .bin 11 .lss (.v 10) (.v 9))])
         (.seq
          (.cond (.v 11)
           (.skip [0, 3, 4, 8, 9, 10])
           (.exit 0 [3]))
          (.seq
           (.block 1
            (.seq
             (.region [(12, 0, false), (8, 0, false)] [] [0, 3, 4, 6, 8, 9, 10] false [
               (none, .iadr 12 2 (.v 8) (.v 10)),
               (none, .load 13 true 2 (.v 12) none),
               (none, .new 6 (.agg [(.int .i64 0), (.int .i64 0)])),
               (none, .store 2 (.v 6) (.v 13) .copy)])
             (.seq
              (.region [(17, 6, false), (15, 6, false), (8, 0, false)] [] [0, 3, 4, 8, 9, 10] false [
                (none, .mv 14 (.v 4)),
                (none, .fadr 15 0 1 (.v 6)),
                (none, .load 16 false 1 (.v 15) none),
                (none, .fadr 17 1 1 (.v 6)),
                (none, .load 18 false 1 (.v 17) none),
                (none, .bin 19 .add (.v 16) (.v 18)),
                (none, .bin 20 .add (.v 14) (.v 19)),
                (none, .asg 4 (.v 20) .copy)])
              (.region [(21, 3, false), (8, 0, false)] [] [0, 3, 4, 8, 9, 10] false [
                (none, .mv 21 (.v 3)),
                (none, .mv 22 (.v 4)),
                (none, .mksl 23 1 (.int .i64 0) 1 [(0, (.v 22), .copy)]),
                (none, .app 24 1 (.v 21) (.v 23) .move),
                (none, .asg 3 (.v 24) .move)]))))
           (.region [(8, 0, false)] [] [0, 3, 4, 8, 9, 10] false [
             (none, .bin 25 .add (.v 10) (.c (.int .i64 1))),
             (none, .mv 10 (.v 25))])))))))
     (.seq
      (.region [(26, 3, false)] [] [2] false [
        (none, .mv 26 (.v 3)),
        (none, .asg 2 (.v 26) .move)])
      (.ret [2])))))⟩
def F318 : PFunc :=
 ⟨[false], [.tmp 2],
  (.seq
   (.region [] [] [0] false [
     (none, .asg 2 (.c (.int .i64 0)) .copy)])
   (.seq
    (.region [(7, 4, false), (5, 0, false), (3, 0, false)] [] [2] false [
      (none, .mv 3 (.v 0)),
      (none, .call (some 4) 247 false [((.v 3), false)]),
      (none, .mv 5 (.v 0)),
      (none, .len 6 false (.v 5)),
      (none, .iadr 7 1 (.v 4) (.v 6)),
      (none, .load 8 false 1 (.v 7) none),
      (none, .asg 2 (.v 8) .copy)])
    (.ret [2])))⟩
def F102 : PFunc :=
 ⟨[false, false], [.tmp 4, .tmp 5, .tmp 6],
  (.seq
   (.region [] [] [0, 1] false [
     (none, .asg 4 (.c (.int .i64 0)) .copy),
     (none, .asg 5 (.c (.bool false)) .copy),
     (none, .asg 6 (.c (.int .i64 0)) .copy)])
   (.seq
    (.block 0
     (.seq
      (.region [(10, 0, false)] [] [0, 1, 9] false [
        (none, .mv 10 (.v 0)),
        (none, .call (some 11) 214 false [((.v 10), false)]),
        (none, .un 12 .not (.v 11)),
        (none, .asg 9 (.v 12) .copy)])
      (.cond (.v 9)
       (.seq
        (.region [] [] [4, 5, 6] false [
          (none, .asg 4 (.c (.int .i64 0)) .copy),
          (none, .asg 5 (.c (.bool false)) .copy),
          (none, .asg 6 (.c (.int .i64 1)) .copy)])
        (.ret [4, 5, 6]))
       (.seq
        (.region [(15, 0, false)] [] [0, 1, 13] false [
          (none, .mv 14 (.v 1)),
          (none, .mv 15 (.v 0)),
          (none, .call (some 16) 318 false [((.v 15), false)]),
          (none, .bin 17 .sub (.v 16) (.c (.int .i64 1))),
          (none, .call (some 18) 326 false [((.v 14), false), ((.c (.int .i64 0)), false), ((.v 17), false)]),
          (none, .un 19 .not (.v 18)),
          (none, .asg 13 (.v 19) .copy)])
        (.cond (.v 13)
         (.seq
          (.region [] [] [4, 5, 6] false [
            (none, .asg 4 (.c (.int .i64 0)) .copy),
            (none, .asg 5 (.c (.bool false)) .copy),
            (none, .asg 6 (.c (.int .i64 2)) .copy)])
          (.ret [4, 5, 6]))
         (.skip [0, 1]))))))
    (.seq
     (.region [(20, 0, false)] [] [0, 1, 7] false [
       (none, .mv 20 (.v 0)),
       (none, .call (some 21) 247 false [((.v 20), false)]),
       (none, .asg 7 (.v 21) .move)])
     (.seq
      (.region [] [] [0, 1, 7, 8] false [
        (none, .asg 8 (.c (.int .i64 0)) .copy)])
      (.seq
       (.block 1
        (.loop
         (.seq
          (.seq
           (.region [(25, 7, false), (22, 7, false)] [] [0, 1, 7, 8, 28] false [
             (none, .mv 22 (.v 7)),
             (none, .mv 23 (.v 8)),
             (none, .bin 24 .add (.v 23) (.c (.int .i64 1))),
             (none, .iadr 25 1 (.v 22) (.v 24)),
             (none, .load 26 false 1 (.v 25) none),
             (none, .mv 27 (.v 1)),
             (none, .bin 28 .leq (.v 26) (.v 27))])
           (.cond (.v 28)
            (.skip [0, 1, 7, 8])
            (.exit 1 [0, 1, 7, 8])))
          (.block 2
           (.region [] [] [0, 1, 7, 8] false [
             (none, .mv 29 (.v 8)),
             (none, .bin 30 .add (.v 29) (.c (.int .i64 1))),
             (none, .asg 8 (.v 30) .copy)])))))
       (.seq
        (.region [(40, 0, false), (39, 0, false), (37, 0, false), (35, 7, false), (33, 7, false)] [] [4, 5, 6] true [
          (none, .mv 31 (.v 8)),
          (none, .mv 32 (.v 1)),
          (none, .mv 33 (.v 7)),
          (none, .mv 34 (.v 8)),
          (none, .iadr 35 1 (.v 33) (.v 34)),
          (none, .load 36 false 1 (.v 35) none),
          (none, .mv 37 (.v 0)),
          (none, .mv 38 (.v 8)),
          (none, .iadr 39 2 (.v 37) (.v 38)),
          (none, .fadr 40 0 1 (.v 39)),
          (none, .load 41 false 1 (.v 40) none),
          (none, .bin 42 .add (.v 36) (.v 41)),
          (none, .bin 43 .lss (.v 32) (.v 42)),
          (none, .asg 4 (.v 31) .copy),
          (none, .asg 5 (.v 43) .copy),
          (none, .asg 6 (.c (.int .i64 0)) .copy)])
        (.ret [4, 5, 6])))))))⟩
def F267 : PFunc :=
 ⟨[false, false], [.tmp 4],
  (.seq
   (.region [] [] [0, 1] false [
     (none, .asg 4 (.c (.int .i64 0)) .copy)])
   (.seq
    (.block 0
     (.seq
      (.region [(6, 0, false)] [] [1, 5] false [
        (none, .mv 6 (.v 0)),
        (none, .call (some 7) 214 false [((.v 6), false)]),
        (none, .un 8 .not (.v 7)),
        (none, .asg 5 (.v 8) .copy)])
      (.cond (.v 5)
       (.seq
        (.region [] [] [4] false [
          (none, .asg 4 (.c (.int .i64 1)) .copy)])
        (.ret [4]))
       (.seq
        (.region [] [] [9] false [
          (none, .mv 10 (.v 1)),
          (none, .call (some 11) 326 false [((.v 10), false), ((.c (.int .i64 0)), false), ((.c (.int .i64 500)), false)]),
          (none, .un 12 .not (.v 11)),
          (none, .asg 9 (.v 12) .copy)])
        (.cond (.v 9)
         (.seq
          (.region [] [] [4] false [
            (none, .asg 4 (.c (.int .i64 2)) .copy)])
          (.ret [4]))
         (.skip []))))))
    (.seq
     (.region [] [] [4] false [
       (none, .asg 4 (.c (.int .i64 0)) .copy)])
     (.ret [4]))))⟩
def F268 : PFunc :=
 ⟨[false, false], [.tmp 4],
  (.seq
   (.region [] [] [0, 1] false [
     (none, .asg 4 (.c (.int .i64 0)) .copy)])
   (.seq
    (.region [(10, 0, false)] [] [0, 1, 5, 6, 7] false [
      (none, .mv 10 (.v 0)),
      (none, .call (some 11) 247 false [((.v 10), false)]),
      (none, .asg 5 (.c (.int .i64 0)) .copy),
      (none, .asg 6 (.c (.int .i64 0)) .copy),
      (none, .asg 7 (.v 11) .move)])
    (.seq
     (.seq
      (.region [(12, 0, false)] [] [0, 1, 5, 6, 7, 12, 13, 14] false [
        (none, .mv 12 (.v 0)),
        (none, .len 13 false (.v 12)),
        (none, .mv 14 (.c (.int .i64 0)))])
      (.block 0
       (.loop
        (.seq
         (.region [(12, 0, false)] [] [0, 1, 5, 6, 7, 12, 13, 14, 15] false [
           (none, .bin 15 .lss (.v 14) (.v 13))])
         (.seq
          (.cond (.v 15)
           (.skip [0, 1, 5, 6, 7, 12, 13, 14])
           (.exit 0 [0, 5, 6, 7]))
          (.seq
           (.block 1
            (.seq
             (.region [(17, 0, false), (12, 0, false)] [] [0, 1, 5, 6, 7, 8, 9, 12, 13, 14] false [
               (none, .mv 16 (.v 14)),
               (none, .iadr 17 2 (.v 12) (.v 14)),
               (none, .load 18 true 2 (.v 17) none),
               (none, .new 9 (.agg [(.int .i64 0), (.int .i64 0)])),
               (none, .asg 8 (.v 16) .copy),
               (none, .store 2 (.v 9) (.v 18) .copy)])
             (.seq
              (.region [(22, 7, false), (20, 7, false), (12, 0, false)] [] [0, 1, 5, 6, 7, 8, 9, 12, 13, 14] false [
                (none, .mv 19 (.v 5)),
                (none, .mv 20 (.v 7)),
                (none, .mv 21 (.v 8)),
                (none, .iadr 22 1 (.v 20) (.v 21)),
                (none, .load 23 false 1 (.v 22) none),
                (none, .mv 24 (.v 6)),
                (none, .bin 25 .sub (.v 23) (.v 24)),
                (none, .mm 26 true (.v 25) [(.c (.int .i64 0))]),
                (none, .bin 27 .add (.v 19) (.v 26)),
                (none, .asg 5 (.v 27) .copy)])
              (.region [(33, 9, false), (31, 7, false), (29, 7, false), (12, 0, false)] [] [0, 1, 5, 6, 7, 12, 13, 14] true [
                (none, .mv 28 (.v 6)),
                (none, .mv 29 (.v 7)),
                (none, .mv 30 (.v 8)),
                (none, .iadr 31 1 (.v 29) (.v 30)),
                (none, .load 32 false 1 (.v 31) none),
                (none, .fadr 33 0 1 (.v 9)),
                (none, .load 34 false 1 (.v 33) none),
                (none, .bin 35 .add (.v 32) (.v 34)),
                (none, .mv 36 (.v 1)),
                (none, .bin 37 .add (.v 35) (.v 36)),
                (none, .mm 38 true (.v 28) [(.v 37)]),
                (none, .asg 6 (.v 38) .copy)]))))
           (.region [(12, 0, false)] [] [0, 1, 5, 6, 7, 12, 13, 14] false [
             (none, .bin 39 .add (.v 14) (.c (.int .i64 1))),
             (none, .mv 14 (.v 39))])))))))
     (.seq
      (.region [(44, 7, false), (42, 0, false), (41, 7, false)] [] [4] false [
        (none, .mv 40 (.v 5)),
        (none, .mv 41 (.v 7)),
        (none, .mv 42 (.v 0)),
        (none, .len 43 false (.v 42)),
        (none, .iadr 44 1 (.v 41) (.v 43)),
        (none, .load 45 false 1 (.v 44) none),
        (none, .mv 46 (.v 6)),
        (none, .bin 47 .sub (.v 45) (.v 46)),
        (none, .mm 48 true (.v 47) [(.c (.int .i64 0))]),
        (none, .bin 49 .add (.v 40) (.v 48)),
        (none, .asg 4 (.v 49) .copy)])
      (.ret [4])))))⟩
def F105 : PFunc :=
 ⟨[false, false], [.tmp 4, .tmp 5],
  (.seq
   (.region [] [] [0, 1] false [
     (none, .asg 4 (.c (.int .i64 0)) .copy),
     (none, .asg 5 (.c (.int .i64 0)) .copy)])
   (.seq
    (.seq
     (.region [(7, 0, false)] [] [0, 1, 6] false [
       (none, .mv 7 (.v 0)),
       (none, .mv 8 (.v 1)),
       (none, .call (some 9) 267 false [((.v 7), false), ((.v 8), false)]),
       (none, .asg 6 (.v 9) .copy)])
     (.seq
      (.region [] [] [0, 1, 6, 11] false [
        (none, .mv 10 (.v 6)),
        (none, .bin 11 .neq (.v 10) (.c (.int .i64 0)))])
      (.cond (.v 11)
       (.seq
        (.region [] [] [4, 5] false [
          (none, .mv 12 (.v 6)),
          (none, .asg 4 (.c (.int .i64 0)) .copy),
          (none, .asg 5 (.v 12) .copy)])
        (.ret [4, 5]))
       (.skip [0, 1]))))
    (.seq
     (.region [(13, 0, false)] [] [4, 5] false [
       (none, .mv 13 (.v 0)),
       (none, .mv 14 (.v 1)),
       (none, .call (some 15) 268 false [((.v 13), false), ((.v 14), false)]),
       (none, .asg 4 (.v 15) .copy),
       (none, .asg 5 (.c (.int .i64 0)) .copy)])
     (.ret [4, 5]))))⟩
def F121 : PFunc :=
 ⟨[false], [.tmp 2, .tmp 3],
  (.seq
   (.region [] [] [0] false [
     (none, .asg 2 (.c (.int .i64 0)) .copy),
     (none, .asg 3 (.c (.int .i64 0)) .copy)])
   (.seq
    (.seq
     (.region [(5, 0, false)] [] [0, 7] false [
       (none, .mv 5 (.v 0)),
       (none, .call (some 6) 214 false [((.v 5), false)]),
       (none, .un 7 .not (.v 6))])
     (.cond (.v 7)
      (.seq
       (.region [] [] [2, 3] false [
         (none, .asg 2 (.c (.int .i64 0)) .copy),
         (none, .asg 3 (.c (.int .i64 1)) .copy)])
       (.ret [2, 3]))
      (.skip [0])))
    (.seq
     (.seq
      (.region [] [] [0, 4] false [
        (none, .asg 4 (.c (.int .i64 0)) .copy)])
      (.block 0
       (.loop
        (.seq
         (.seq
          (.region [] [] [0, 4, 9] false [
            (none, .mv 8 (.v 4)),
            (none, .bin 9 .leq (.v 8) (.c (.int .i64 500)))])
          (.cond (.v 9)
           (.skip [0, 4])
           (.exit 0 [])))
         (.seq
          (.block 1
           (.seq
            (.region [(12, 0, false)] [] [0, 4, 15] false [
              (none, .mv 12 (.v 0)),
              (none, .mv 13 (.v 4)),
              (none, .call (some 14) 268 false [((.v 12), false), ((.v 13), false)]),
              (none, .bin 15 .eql (.v 14) (.c (.int .i64 0)))])
            (.cond (.v 15)
             (.seq
              (.region [] [] [2, 3] false [
                (none, .mv 16 (.v 4)),
                (none, .asg 2 (.v 16) .copy),
                (none, .asg 3 (.c (.int .i64 0)) .copy)])
              (.ret [2, 3]))
             (.skip [0, 4]))))
          (.region [] [] [0, 4] false [
            (none, .mv 10 (.v 4)),
            (none, .bin 11 .add (.v 10) (.c (.int .i64 1))),
            (none, .asg 4 (.v 11) .copy)]))))))
     (.seq
      (.region [] [] [2, 3] false [
        (none, .asg 2 (.c (.int .i64 0)) .copy),
        (none, .asg 3 (.c (.int .i64 3)) .copy)])
      (.ret [2, 3])))))⟩
def F812 : PFunc :=
 ⟨[false, false], [.tmp 4],
  (.seq
   (.region [] [] [0, 1] false [
     (none, .asg 4 (.c (.bool false)) .copy)])
   (.seq
    (.seq
     (.region [(8, 1, false), (6, 0, false)] [] [0, 1, 10] false [
       (none, .mv 6 (.v 0)),
       (none, .len 7 false (.v 6)),
       (none, .mv 8 (.v 1)),
       (none, .len 9 false (.v 8)),
       (none, .bin 10 .neq (.v 7) (.v 9))])
     (.cond (.v 10)
      (.seq
       (.region [] [] [4] false [
         (none, .asg 4 (.c (.bool false)) .copy)])
       (.ret [4]))
      (.skip [0, 1])))
    (.seq
     (.seq
      (.region [(11, 0, false)] [] [0, 1, 12, 13] false [
        (none, .mv 11 (.v 0)),
        (none, .len 12 false (.v 11)),
        (none, .mv 13 (.c (.int .i64 0)))])
      (.block 0
       (.loop
        (.seq
         (.region [] [] [0, 1, 12, 13, 14] false [
           (none, .bin 14 .lss (.v 13) (.v 12))])
         (.seq
          (.cond (.v 14)
           (.skip [0, 1, 12, 13])
           (.exit 0 []))
          (.seq
           (.block 1
            (.seq
             (.region [] [] [0, 1, 5, 12, 13] false [
               (none, .mv 15 (.v 13)),
               (none, .asg 5 (.v 15) .copy)])
             (.seq
              (.region [(22, 1, false), (20, 1, false), (18, 0, false), (16, 0, false)] [] [0, 1, 12, 13, 24] true [
                (none, .mv 16 (.v 0)),
                (none, .mv 17 (.v 5)),
                (none, .iadr 18 2 (.v 16) (.v 17)),
                (none, .load 19 true 2 (.v 18) none),
                (none, .mv 20 (.v 1)),
                (none, .mv 21 (.v 5)),
                (none, .iadr 22 2 (.v 20) (.v 21)),
                (none, .load 23 true 2 (.v 22) none),
                (none, .eqv 24 true [.i, .i] (.v 19) (.v 23))])
              (.cond (.v 24)
               (.seq
                (.region [] [] [4] false [
                  (none, .asg 4 (.c (.bool false)) .copy)])
                (.ret [4]))
               (.skip [0, 1, 12, 13])))))
           (.region [] [] [0, 1, 12, 13] false [
             (none, .bin 25 .add (.v 13) (.c (.int .i64 1))),
             (none, .mv 13 (.v 25))])))))))
     (.seq
      (.region [] [] [4] false [
        (none, .asg 4 (.c (.bool true)) .copy)])
      (.ret [4])))))⟩
def F170 : PFunc :=
 ⟨[false, false], [.tmp 4],
  (.seq
   (.region [] [] [0, 1] false [
     (none, .asg 4 (.c (.bool false)) .copy)])
   (.seq
    (.region [(6, 1, false), (5, 0, false)] [] [4] false [
      (none, .mv 5 (.v 0)),
      (none, .mv 6 (.v 1)),
      (none, .call (some 7) 812 false [((.v 5), false), ((.v 6), false)]),
      (none, .asg 4 (.v 7) .copy)])
    (.ret [4])))⟩
def F303 : PFunc :=
 ⟨[false, false, false], [.tmp 6],
  (.seq
   (.region [] [] [0, 1, 2] false [
     (none, .asg 6 (.c (.sl true 1 [])) .copy)])
   (.seq
    (.region [(12, 0, false)] [] [0, 1, 2, 7, 8] false [
      (none, .mksl 11 1 (.int .i64 0) 0 []),
      (none, .mv 12 (.v 0)),
      (none, .call (some 13) 247 false [((.v 12), false)]),
      (none, .asg 7 (.v 11) .move),
      (none, .asg 8 (.v 13) .move)])
    (.seq
     (.seq
      (.region [(14, 0, false)] [] [0, 1, 2, 7, 8, 14, 15, 16] false [
        (none, .mv 14 (.v 0)),
        (none, .len 15 false (.v 14)),
        (none, .mv 16 (.c (.int .i64 0)))])
      (.block 0
       (.loop
        (.seq
         (.region [(14, 0, false)] [] [0, 1, 2, 7, 8, 14, 15, 16, 17] false [
           (none, .bin 17 .lss (.v 16) (.v 15))])
         (.seq
          (.cond (.v 17)
           (.skip [0, 1, 2, 7, 8, 14, 15, 16])
           (.exit 0 [7]))
          (.seq
           (.block 1
            (.seq
             (.region [(19, 0, false), (14, 0, false)] [] [0, 1, 2, 7, 8, 9, 10, 14, 15, 16] false [
               (none, .mv 18 (.v 16)),
               (none, .iadr 19 2 (.v 14) (.v 16)),
               (none, .load 20 true 2 (.v 19) none),
               (none, .new 10 (.agg [(.int .i64 0), (.int .i64 0)])),
               (none, .asg 9 (.v 18) .copy),
               (none, .store 2 (.v 10) (.v 20) .copy)])
             (.seq
              (.region [(33, 10, false), (31, 8, false), (29, 8, false), (23, 8, false), (21, 8, false), (14, 0, false)] [] [0, 1, 2, 7, 8, 9, 14, 15, 16, 39] true [
                (none, .mv 21 (.v 8)),
                (none, .mv 22 (.v 9)),
                (none, .iadr 23 1 (.v 21) (.v 22)),
                (none, .load 24 false 1 (.v 23) none),
                (none, .mv 25 (.v 2)),
                (none, .bin 26 .leq (.v 24) (.v 25)),
                (none, .mv 27 (.v 26)),
                (some (27, true), .mv 28 (.v 2)),
                (some (27, true), .mv 29 (.v 8)),
                (some (27, true), .mv 30 (.v 9)),
                (some (27, true), .iadr 31 1 (.v 29) (.v 30)),
                (some (27, true), .load 32 false 1 (.v 31) none),
                (some (27, true), .fadr 33 0 1 (.v 10)),
                (some (27, true), .load 34 false 1 (.v 33) none),
                (some (27, true), .bin 35 .add (.v 32) (.v 34)),
                (some (27, true), .mv 36 (.v 1)),
                (some (27, true), .bin 37 .add (.v 35) (.v 36)),
                (some (27, true), .bin 38 .lss (.v 28) (.v 37)),
                (none, .pick 39 (.v 27) (.v 38) (.c (.bool false)))])
              (.cond (.v 39)
               (.region [(40, 7, false), (14, 0, false)] [] [0, 1, 2, 7, 8, 14, 15, 16] false [
                 (none, .mv 40 (.v 7)),
                 (none, .mv 41 (.v 9)),
                 (none, .mksl 42 1 (.int .i64 0) 1 [(0, (.v 41), .copy)]),
                 (none, .app 43 1 (.v 40) (.v 42) .move),
                 (none, .asg 7 (.v 43) .move)])
               (.skip [0, 1, 2, 7, 8, 14, 15, 16])))))
           (.region [(14, 0, false)] [] [0, 1, 2, 7, 8, 14, 15, 16] false [
             (none, .bin 44 .add (.v 16) (.c (.int .i64 1))),
             (none, .mv 16 (.v 44))])))))))
     (.seq
      (.region [(45, 7, false)] [] [6] false [
        (none, .mv 45 (.v 7)),
        (none, .asg 6 (.v 45) .move)])
      (.ret [6])))))⟩
def F177 : PFunc :=
 ⟨[false, false, false], [.tmp 6, .tmp 7],
  (.seq
   (.region [] [] [0, 1, 2] false [
     (none, .asg 6 (.c (.sl true 1 [])) .copy),
     (none, .asg 7 (.c (.int .i64 0)) .copy)])
   (.seq
    (.region [(9, 0, false)] [] [0, 1, 2, 8] false [
      (none, .mv 9 (.v 0)),
      (none, .mv 10 (.v 1)),
      (none, .call (some 11) 267 false [((.v 9), false), ((.v 10), false)]),
      (none, .asg 8 (.v 11) .copy)])
    (.seq
     (.seq
      (.region [] [] [0, 1, 2, 8, 18] false [
        (none, .mv 12 (.v 8)),
        (none, .bin 13 .eql (.v 12) (.c (.int .i64 0))),
        (none, .mv 14 (.v 13)),
        (some (14, true), .mv 15 (.v 2)),
        (some (14, true), .call (some 16) 326 false [((.v 15), false), ((.c (.int .i64 0)), false), ((.c (.int .i64 10000000)), false)]),
        (some (14, true), .un 17 .not (.v 16)),
        (none, .pick 18 (.v 14) (.v 17) (.c (.bool false)))])
      (.cond (.v 18)
       (.region [] [] [0, 1, 2, 8] false [
         (none, .asg 8 (.c (.int .i64 2)) .copy)])
       (.skip [0, 1, 2, 8])))
     (.seq
      (.seq
       (.region [] [] [0, 1, 2, 8, 20] false [
         (none, .mv 19 (.v 8)),
         (none, .bin 20 .neq (.v 19) (.c (.int .i64 0)))])
       (.cond (.v 20)
        (.seq
         (.region [] [] [6, 7] false [
           (none, .mv 21 (.v 8)),
           (none, .asg 6 (.c (.sl true 1 [])) .copy),
           (none, .asg 7 (.v 21) .copy)])
         (.ret [6, 7]))
        (.skip [0, 1, 2])))
      (.seq
       (.region [(22, 0, false)] [] [6, 7] false [
         (none, .mv 22 (.v 0)),
         (none, .mv 23 (.v 1)),
         (none, .mv 24 (.v 2)),
         (none, .call (some 25) 303 false [((.v 22), false), ((.v 23), false), ((.v 24), false)]),
         (none, .asg 6 (.v 25) .move),
         (none, .asg 7 (.c (.int .i64 0)) .copy)])
       (.ret [6, 7]))))))⟩
def F201 : PFunc :=
 ⟨[false], [.tmp 2, .tmp 3],
  (.seq
   (.region [] [] [0] false [
     (none, .asg 2 (.c (.int .i64 0)) .copy),
     (none, .asg 3 (.c (.int .i64 0)) .copy)])
   (.seq
    (.seq
     (.region [(4, 0, false)] [] [0, 6] false [
       (none, .mv 4 (.v 0)),
       (none, .call (some 5) 214 false [((.v 4), false)]),
       (none, .un 6 .not (.v 5))])
     (.cond (.v 6)
      (.seq
       (.region [] [] [2, 3] false [
         (none, .asg 2 (.c (.int .i64 0)) .copy),
         (none, .asg 3 (.c (.int .i64 1)) .copy)])
       (.ret [2, 3]))
      (.skip [0])))
    (.seq
     (.region [(7, 0, false)] [] [2, 3] false [
       (none, .mv 7 (.v 0)),
       (none, .call (some 8) 318 false [((.v 7), false)]),
       (none, .asg 2 (.v 8) .copy),
       (none, .asg 3 (.c (.int .i64 0)) .copy)])
     (.ret [2, 3]))))⟩
def F398 : PFunc :=
 ⟨[false], [.tmp 2],
  (.seq
   (.region [] [] [0] false [
     (none, .asg 2 (.c (.bool false)) .copy)])
   (.seq
    (.region [(3, 0, false)] [] [2] false [
      (none, .mv 3 (.v 0)),
      (none, .len 4 false (.v 3)),
      (none, .bin 5 .gtr (.v 4) (.c (.int .i64 4096))),
      (none, .asg 2 (.v 5) .copy)])
    (.ret [2])))⟩
def F399 : PFunc :=
 ⟨[false, false], [.tmp 4],
  (.seq
   (.region [] [] [0, 1] false [
     (none, .asg 4 (.c (.bool false)) .copy)])
   (.seq
    (.seq
     (.region [] [] [0, 1, 5] false [
       (none, .asg 5 (.c (.int .i64 0)) .copy)])
     (.block 0
      (.loop
       (.seq
        (.seq
         (.region [(7, 0, false)] [] [0, 1, 5, 9] false [
           (none, .mv 6 (.v 5)),
           (none, .mv 7 (.v 0)),
           (none, .len 8 false (.v 7)),
           (none, .bin 9 .lss (.v 6) (.v 8))])
         (.cond (.v 9)
          (.skip [0, 1, 5])
          (.exit 0 [])))
        (.seq
         (.block 1
          (.seq
           (.region [(14, 0, false), (12, 0, false)] [] [0, 1, 5, 17] false [
             (none, .mv 12 (.v 0)),
             (none, .mv 13 (.v 5)),
             (none, .iadr 14 1 (.v 12) (.v 13)),
             (none, .load 15 false 1 (.v 14) none),
             (none, .mv 16 (.v 1)),
             (none, .bin 17 .eql (.v 15) (.v 16))])
           (.cond (.v 17)
            (.seq
             (.region [] [] [4] false [
               (none, .asg 4 (.c (.bool true)) .copy)])
             (.ret [4]))
            (.skip [0, 1, 5]))))
         (.region [] [] [0, 1, 5] false [
           (none, .mv 10 (.v 5)),
           (none, .bin 11 .add (.v 10) (.c (.int .i64 1))),
           (none, .asg 5 (.v 11) .copy)]))))))
    (.seq
     (.region [] [] [4] false [
       (none, .asg 4 (.c (.bool false)) .copy)])
     (.ret [4]))))⟩
def F400 : PFunc :=
 ⟨[false, false], [.tmp 4],
  (.seq
   (.region [] [] [0, 1] false [
     (none, .asg 4 (.c (.bool false)) .copy)])
   (.seq
    (.seq
     (.region [(8, 1, false), (6, 0, false)] [] [0, 1, 10] false [
       (none, .mv 6 (.v 0)),
       (none, .len 7 false (.v 6)),
       (none, .mv 8 (.v 1)),
       (none, .len 9 false (.v 8)),
       (none, .bin 10 .neq (.v 7) (.v 9))])
     (.cond (.v 10)
      (.seq
       (.region [] [] [4] false [
         (none, .asg 4 (.c (.bool false)) .copy)])
       (.ret [4]))
      (.skip [0, 1])))
    (.seq
     (.seq
      (.region [] [] [0, 1, 5] false [
        (none, .asg 5 (.c (.int .i64 0)) .copy)])
      (.block 0
       (.loop
        (.seq
         (.seq
          (.region [(12, 0, false)] [] [0, 1, 5, 14] false [
            (none, .mv 11 (.v 5)),
            (none, .mv 12 (.v 0)),
            (none, .len 13 false (.v 12)),
            (none, .bin 14 .lss (.v 11) (.v 13))])
          (.cond (.v 14)
           (.skip [0, 1, 5])
           (.exit 0 [])))
         (.seq
          (.block 1
           (.seq
            (.region [(23, 1, false), (21, 1, false), (19, 0, false), (17, 0, false)] [] [0, 1, 5, 25] true [
              (none, .mv 17 (.v 0)),
              (none, .mv 18 (.v 5)),
              (none, .iadr 19 1 (.v 17) (.v 18)),
              (none, .load 20 false 1 (.v 19) none),
              (none, .mv 21 (.v 1)),
              (none, .mv 22 (.v 5)),
              (none, .iadr 23 1 (.v 21) (.v 22)),
              (none, .load 24 false 1 (.v 23) none),
              (none, .bin 25 .neq (.v 20) (.v 24))])
            (.cond (.v 25)
             (.seq
              (.region [] [] [4] false [
                (none, .asg 4 (.c (.bool false)) .copy)])
              (.ret [4]))
             (.skip [0, 1, 5]))))
          (.region [] [] [0, 1, 5] false [
            (none, .mv 15 (.v 5)),
            (none, .bin 16 .add (.v 15) (.c (.int .i64 1))),
            (none, .asg 5 (.v 16) .copy)]))))))
     (.seq
      (.region [] [] [4] false [
        (none, .asg 4 (.c (.bool true)) .copy)])
      (.ret [4])))))⟩
def F5 : PFunc :=
 ⟨[true], [.tmp 2],
  (.seq
   (.region [] [] [0] false [
     (none, .asg 2 (.c (.int .i64 0)) .copy)])
   (.seq
    (.region [] [] [0, 3] false [
      (none, .asg 3 (.c (.int .i64 0)) .copy)])
    (.seq
     (.seq
      (.region [(11, 0, true), (10, 0, false), (9, 0, false), (8, 0, false), (6, 0, false), (5, 0, false), (4, 0, false)] [] [0, 3, 13] true [
        (none, .mv 4 (.v 0)),
        (none, .nchk 5 (.v 4)),
        (none, .fadr 6 1 1 (.v 5)),
        (none, .load 7 false 1 (.v 6) none),
        (none, .mv 8 (.v 0)),
        (none, .nchk 9 (.v 8)),
        (none, .fadr 10 0 1 (.v 9)),
        (none, .load 11 false 1 (.v 10) none),
        (none, .len 12 false (.v 11)),
        (none, .bin 13 .lss (.v 7) (.v 12))])
      (.cond (.v 13)
       (.region [(22, 0, true), (20, 0, false), (19, 0, false), (18, 0, false), (17, 0, true), (16, 0, false), (15, 0, false), (14, 0, false)] [] [0, 3] true [
         (none, .mv 14 (.v 0)),
         (none, .nchk 15 (.v 14)),
         (none, .fadr 16 0 1 (.v 15)),
         (none, .load 17 false 1 (.v 16) none),
         (none, .mv 18 (.v 0)),
         (none, .nchk 19 (.v 18)),
         (none, .fadr 20 1 1 (.v 19)),
         (none, .load 21 false 1 (.v 20) none),
         (none, .iadr 22 1 (.v 17) (.v 21)),
         (none, .load 23 false 1 (.v 22) none),
         (none, .conv 24 .i64 (.v 23)),
         (none, .asg 3 (.v 24) .copy)])
       (.skip [0, 3])))
     (.seq
      (.region [(31, 0, false), (30, 0, false), (27, 0, false), (26, 0, false), (25, 0, false)] [] [0, 3] false [
        (none, .mv 25 (.v 0)),
        (none, .nchk 26 (.v 25)),
        (none, .fadr 27 1 1 (.v 26)),
        (none, .load 28 false 1 (.v 27) none),
        (none, .bin 29 .add (.v 28) (.c (.int .i64 1))),
        (none, .nchk 30 (.v 25)),
        (none, .fadr 31 1 1 (.v 30)),
        (none, .store 1 (.v 31) (.v 29) .copy)])
      (.seq
       (.region [(43, 0, false), (42, 0, false), (35, 0, false), (34, 0, false), (33, 0, false), (32, 0, false)] [] [0, 3] false [
         (none, .mv 32 (.v 0)),
         (none, .mv 33 (.v 0)),
         (none, .nchk 34 (.v 33)),
         (none, .fadr 35 2 1 (.v 34)),
         (none, .load 36 false 1 (.v 35) none),
         (none, .bin 37 .mul (.v 36) (.c (.int .u64 6364136223846793005))),
         (none, .mv 38 (.v 3)),
         (none, .conv 39 .u64 (.v 38)),
         (none, .bin 40 .add (.v 37) (.v 39)),
         (none, .bin 41 .add (.v 40) (.c (.int .u64 1442695040888963407))),
         (none, .nchk 42 (.v 32)),
         (none, .fadr 43 2 1 (.v 42)),
         (none, .store 1 (.v 43) (.v 41) .copy)])
       (.seq
        (.seq
         (.region [(51, 0, true), (50, 0, false), (49, 0, false), (48, 0, false), (46, 0, false), (45, 0, false), (44, 0, false)] [] [0, 3, 53] true [
           (none, .mv 44 (.v 0)),
           (none, .nchk 45 (.v 44)),
           (none, .fadr 46 1 1 (.v 45)),
           (none, .load 47 false 1 (.v 46) none),
           (none, .mv 48 (.v 0)),
           (none, .nchk 49 (.v 48)),
           (none, .fadr 50 0 1 (.v 49)),
           (none, .load 51 false 1 (.v 50) none),
           (none, .len 52 false (.v 51)),
           (none, .bin 53 .leq (.v 47) (.v 52))])
         (.cond (.v 53)
          (.seq
           (.region [] [] [0, 2] false [
             (none, .mv 54 (.v 3)),
             (none, .asg 2 (.v 54) .copy)])
           (.ret [0, 2]))
          (.skip [0])))
        (.seq
         (.region [(57, 0, false), (56, 0, false), (55, 0, false)] [] [0, 2] false [
           (none, .mv 55 (.v 0)),
           (none, .nchk 56 (.v 55)),
           (none, .fadr 57 2 1 (.v 56)),
           (none, .load 58 false 1 (.v 57) none),
           (none, .bin 59 .shr (.v 58) (.c (.int .u64 40))),
           (none, .bin 60 .and (.v 59) (.c (.int .u64 255))),
           (none, .conv 61 .i64 (.v 60)),
           (none, .asg 2 (.v 61) .copy)])
         (.ret [0, 2]))))))))⟩
def F7 : PFunc :=
 ⟨[true, false], [.tmp 4],
  (.seq
   (.region [] [] [0, 1] false [
     (none, .asg 4 (.c (.int .i64 0)) .copy)])
   (.seq
    (.seq
     (.region [] [] [0, 1, 7] false [
       (none, .mv 6 (.v 1)),
       (none, .bin 7 .leq (.v 6) (.c (.int .i64 1)))])
     (.cond (.v 7)
      (.seq
       (.region [] [] [0, 4] false [
         (none, .asg 4 (.c (.int .i64 0)) .copy)])
       (.ret [0, 4]))
      (.skip [0, 1])))
    (.seq
     (.region [(8, 0, false)] [] [0, 1, 5] false [
       (none, .mv 8 (.v 0)),
       (none, .call (some 9) 5 true [((.v 8), true)]),
       (none, .asg 5 (.v 9) .copy)])
     (.seq
      (.seq
       (.region [] [] [0, 1, 5, 11] false [
         (none, .mv 10 (.v 1)),
         (none, .bin 11 .gtr (.v 10) (.c (.int .i64 200)))])
       (.cond (.v 11)
        (.region [(14, 0, false)] [] [0, 1, 5] false [
          (none, .mv 12 (.v 5)),
          (none, .bin 13 .mul (.v 12) (.c (.int .i64 256))),
          (none, .mv 14 (.v 0)),
          (none, .call (some 15) 5 true [((.v 14), true)]),
          (none, .bin 16 .add (.v 13) (.v 15)),
          (none, .asg 5 (.v 16) .copy)])
        (.skip [0, 1, 5])))
      (.seq
       (.region [] [] [0, 4] false [
         (none, .mv 17 (.v 5)),
         (none, .mv 18 (.v 1)),
         (none, .bin 19 .rem (.v 17) (.v 18)),
         (none, .asg 4 (.v 19) .copy)])
       (.ret [0, 4]))))))⟩
def F4 : PFunc :=
 ⟨[true, false], [.tmp 4],
  (.seq
   (.region [] [] [0, 1] false [
     (none, .asg 4 (.c (.int .i64 0)) .copy)])
   (.seq
    (.region [(10, 1, false), (7, 1, false), (6, 0, false), (5, 1, false)] [] [0, 4] false [
      (none, .mv 5 (.v 1)),
      (none, .mv 6 (.v 0)),
      (none, .mv 7 (.v 1)),
      (none, .len 8 false (.v 7)),
      (none, .call (some 9) 7 true [((.v 6), true), ((.v 8), false)]),
      (none, .iadr 10 1 (.v 5) (.v 9)),
      (none, .load 11 false 1 (.v 10) none),
      (none, .asg 4 (.v 11) .copy)])
    (.ret [0, 4])))⟩
def F6 : PFunc :=
 ⟨[true, false], [.tmp 4],
  (.seq
   (.region [] [] [0, 1] false [
     (none, .asg 4 (.c (.bool false)) .copy)])
   (.seq
    (.region [(5, 0, false)] [] [0, 4] false [
      (none, .mv 5 (.v 0)),
      (none, .mv 6 (.v 1)),
      (none, .call (some 7) 7 true [((.v 5), true), ((.v 6), false)]),
      (none, .bin 8 .eql (.v 7) (.c (.int .i64 0))),
      (none, .asg 4 (.v 8) .copy)])
    (.ret [0, 4])))⟩
def F603 : PFunc :=
 ⟨[false], [.tmp 2],
  (.seq
   (.region [] [] [0] false [
     (none, .asg 2 (.c .nilp) .copy)])
   (.seq
    (.region [(3, 0, false)] [] [2] false [
      (none, .mv 3 (.v 0)),
      (none, .build 4 [(.sl false 1 []), (.int .i64 0), (.int .u64 0)] [(0, 1, (.v 3), .move)]),
      (none, .box 5 (.v 4) .move),
      (none, .asg 2 (.v 5) .move)])
    (.ret [2])))⟩
def F465 : PFunc :=
 ⟨[false], [.tmp 2, .tmp 3, .tmp 4],
  (.seq
   (.region [] [] [0] false [
     (none, .asg 2 (.c (.int .i64 0)) .copy),
     (none, .asg 3 (.c (.int .i64 0)) .copy),
     (none, .asg 4 (.c (.int .i64 0)) .copy)])
   (.seq
    (.region [(8, 0, false)] [] [5] false [
      (none, .mv 8 (.v 0)),
      (none, .call (some 9) 603 true [((.v 8), false)]),
      (none, .asg 5 (.v 9) .move)])
    (.seq
     (.region [(10, 5, false)] [] [5, 6] false [
       (none, .mv 10 (.v 5)),
       (none, .call (some 11) 7 true [((.v 10), true), ((.c (.int .i64 20)), false)]),
       (none, .asg 6 (.v 11) .copy)])
     (.seq
      (.seq
       (.region [(12, 5, false)] [] [5, 6, 13] false [
         (none, .mv 12 (.v 5)),
         (none, .call (some 13) 6 true [((.v 12), true), ((.c (.int .i64 10)), false)])])
       (.cond (.v 13)
        (.region [(14, 5, false)] [] [5, 6] false [
          (none, .mv 14 (.v 5)),
          (none, .mksl 15 1 (.int .i64 0) 4 [(0, (.c (.int .i64 (-1))), .copy), (1, (.c (.int .i64 0)), .copy), (2, (.c (.int .i64 60)), .copy), (3, (.c (.int .i64 61)), .copy)]),
          (none, .call (some 16) 4 true [((.v 14), true), ((.v 15), false)]),
          (none, .asg 6 (.v 16) .copy)])
        (.skip [5, 6])))
      (.seq
       (.region [(17, 5, false)] [] [5, 6, 7] false [
         (none, .mv 17 (.v 5)),
         (none, .call (some 18) 7 true [((.v 17), true), ((.c (.int .i64 100)), false)]),
         (none, .bin 19 .add (.c (.int .i64 1)) (.v 18)),
         (none, .asg 7 (.v 19) .copy)])
       (.seq
        (.seq
         (.region [(20, 5, false)] [] [5, 6, 7, 21] false [
           (none, .mv 20 (.v 5)),
           (none, .call (some 21) 6 true [((.v 20), true), ((.c (.int .i64 10)), false)])])
         (.cond (.v 21)
          (.region [(22, 5, false)] [] [5, 6, 7] false [
            (none, .mv 22 (.v 5)),
            (none, .mksl 23 1 (.int .i64 0) 5 [(0, (.c (.int .i64 (-1))), .copy), (1, (.c (.int .i64 0)), .copy), (2, (.c (.int .i64 1)), .copy), (3, (.c (.int .i64 10000)), .copy), (4, (.c (.int .i64 10001)), .copy)]),
            (none, .call (some 24) 4 true [((.v 22), true), ((.v 23), false)]),
            (none, .asg 7 (.v 24) .copy)])
          (.skip [5, 6, 7])))
        (.seq
         (.seq
          (.region [(25, 5, false)] [] [5, 6, 7, 26] false [
            (none, .mv 25 (.v 5)),
            (none, .call (some 26) 6 true [((.v 25), true), ((.c (.int .i64 10)), false)])])
          (.cond (.v 26)
           (.seq
            (.region [(29, 5, false)] [] [2, 3, 4] false [
              (none, .mv 27 (.v 6)),
              (none, .mv 28 (.v 7)),
              (none, .mv 29 (.v 5)),
              (none, .mksl 30 1 (.int .i64 0) 5 [(0, (.c (.int .i64 (-1))), .copy), (1, (.c (.int .i64 0)), .copy), (2, (.c (.int .i64 1)), .copy), (3, (.c (.int .i64 1000)), .copy), (4, (.c (.int .i64 1001)), .copy)]),
              (none, .call (some 31) 4 true [((.v 29), true), ((.v 30), false)]),
              (none, .asg 2 (.v 27) .copy),
              (none, .asg 3 (.v 28) .copy),
              (none, .asg 4 (.v 31) .copy)])
            (.ret [2, 3, 4]))
           (.skip [5, 6, 7])))
         (.seq
          (.region [(34, 5, false)] [] [2, 3, 4] false [
            (none, .mv 32 (.v 6)),
            (none, .mv 33 (.v 7)),
            (none, .mv 34 (.v 5)),
            (none, .call (some 35) 7 true [((.v 34), true), ((.c (.int .i64 1000)), false)]),
            (none, .bin 36 .add (.c (.int .i64 1)) (.v 35)),
            (none, .asg 2 (.v 32) .copy),
            (none, .asg 3 (.v 33) .copy),
            (none, .asg 4 (.v 36) .copy)])
          (.ret [2, 3, 4])))))))))⟩
def F723 : PFunc :=
 ⟨[true], [.tmp 2],
  (.seq
   (.region [] [] [0] false [
     (none, .asg 2 (.c (.sl true 2 [])) .copy)])
   (.seq
    (.region [] [] [0, 3] false [
      (none, .mksl 8 2 (.agg [(.int .i64 0), (.int .i64 0)]) 0 []),
      (none, .asg 3 (.v 8) .move)])
    (.seq
     (.region [(9, 0, false)] [] [0, 3, 4] false [
       (none, .mv 9 (.v 0)),
       (none, .call (some 10) 7 true [((.v 9), true), ((.c (.int .i64 8)), false)]),
       (none, .asg 4 (.v 10) .copy)])
     (.seq
      (.seq
       (.region [(11, 0, false)] [] [0, 3, 4, 12] false [
         (none, .mv 11 (.v 0)),
         (none, .call (some 12) 6 true [((.v 11), true), ((.c (.int .i64 20)), false)])])
       (.cond (.v 12)
        (.region [(13, 0, false)] [] [0, 3, 4] false [
          (none, .mv 13 (.v 0)),
          (none, .call (some 14) 7 true [((.v 13), true), ((.c (.int .i64 2)), false)]),
          (none, .bin 15 .add (.c (.int .i64 60)) (.v 14)),
          (none, .asg 4 (.v 15) .copy)])
        (.skip [0, 3, 4])))
      (.seq
       (.seq
        (.region [] [] [0, 3, 4, 5] false [
          (none, .mv 16 (.v 4)),
          (none, .asg 5 (.v 16) .copy)])
        (.block 0
         (.loop
          (.seq
           (.seq
            (.region [] [] [0, 3, 4, 5, 18] false [
              (none, .mv 17 (.v 5)),
              (none, .bin 18 .gtr (.v 17) (.c (.int .i64 0)))])
            (.cond (.v 18)
             (.skip [0, 3, 4, 5])
             (.exit 0 [0, 3, 4])))
           (.seq
            (.block 1
             (.seq
              (.region [(21, 0, false)] [] [0, 3, 4, 5, 6] false [
                (none, .mv 21 (.v 0)),
                (none, .call (some 22) 7 true [((.v 21), true), ((.c (.int .i64 60)), false)]),
                (none, .bin 23 .add (.c (.int .i64 1)) (.v 22)),
                (none, .build 24 [(.int .i64 0), (.int .i64 0)] [(0, 1, (.v 23), .copy)]),
                (none, .new 6 (.agg [(.int .i64 0), (.int .i64 0)])),
                (none, .store 2 (.v 6) (.v 24) .copy)])
              (.seq
               (.region [(27, 6, false), (25, 0, false)] [] [0, 3, 4, 5, 6] false [
                 (none, .mv 25 (.v 0)),
                 (none, .call (some 26) 7 true [((.v 25), true), ((.c (.int .i64 60)), false)]),
                 (none, .fadr 27 1 1 (.v 6)),
                 (none, .store 1 (.v 27) (.v 26) .copy)])
               (.seq
                (.seq
                 (.region [(28, 0, false)] [] [0, 3, 4, 5, 6, 29] false [
                   (none, .mv 28 (.v 0)),
                   (none, .call (some 29) 6 true [((.v 28), true), ((.c (.int .i64 12)), false)])])
                 (.cond (.v 29)
                  (.region [(33, 6, false), (30, 0, false)] [] [0, 3, 4, 5, 6] false [
                    (none, .mv 30 (.v 0)),
                    (none, .mksl 31 1 (.int .i64 0) 3 [(0, (.c (.int .i64 0)), .copy), (1, (.c (.int .i64 500)), .copy), (2, (.c (.int .i64 501)), .copy)]),
                    (none, .call (some 32) 4 true [((.v 30), true), ((.v 31), false)]),
                    (none, .fadr 33 1 1 (.v 6)),
                    (none, .store 1 (.v 33) (.v 32) .copy)])
                  (.skip [0, 3, 4, 5, 6])))
                (.region [(34, 3, false)] [] [0, 3, 4, 5] false [
                  (none, .mv 34 (.v 3)),
                  (none, .load 35 true 2 (.v 6) none),
                  (none, .mksl 36 2 (.agg [(.int .i64 0), (.int .i64 0)]) 1 [(0, (.v 35), .copy)]),
                  (none, .app 37 2 (.v 34) (.v 36) .move),
                  (none, .asg 3 (.v 37) .move)])))))
            (.region [] [] [0, 3, 4, 5] false [
              (none, .mv 19 (.v 5)),
              (none, .bin 20 .sub (.v 19) (.c (.int .i64 1))),
              (none, .asg 5 (.v 20) .copy)]))))))
       (.seq
        (.seq
         (.region [] [] [0, 3, 4, 39] false [
           (none, .mv 38 (.v 4)),
           (none, .bin 39 .gtr (.v 38) (.c (.int .i64 0)))])
         (.cond (.v 39)
          (.seq
           (.region [(7, 3, false), (44, 3, false), (41, 0, false), (40, 3, false)] [] [0, 3, 7] false [
             (none, .mv 40 (.v 3)),
             (none, .mv 41 (.v 0)),
             (none, .mv 42 (.v 4)),
             (none, .call (some 43) 7 true [((.v 41), true), ((.v 42), false)]),
             (none, .iadr 44 2 (.v 40) (.v 43)),
             (none, .mv 7 (.v 44))])
           (.seq
            (.region [(45, 0, false), (7, 3, false)] [] [0, 3, 7, 46] false [
              (none, .mv 45 (.v 0)),
              (none, .call (some 46) 7 true [((.v 45), true), ((.c (.int .i64 20)), false)])])
            (.block 2
             (.seq
              (.region [(7, 3, false)] [] [0, 3, 7, 46, 47] false [
                (none, .bin 48 .eql (.v 46) (.c (.int .i64 0))),
                (none, .asg 47 (.v 48) .copy)])
              (.cond (.v 47)
               (.region [(54, 3, false), (53, 3, false), (50, 0, false), (49, 3, false), (7, 3, false)] [] [0, 3] false [
                 (none, .mv 49 (.v 7)),
                 (none, .mv 50 (.v 0)),
                 (none, .mksl 51 1 (.int .i64 0) 6 [(0, (.c (.int .i64 (-1))), .copy), (1, (.c (.int .i64 0)), .copy), (2, (.c (.int .i64 1)), .copy), (3, (.c (.int .i64 10000)), .copy), (4, (.c (.int .i64 10001)), .copy), (5, (.c (.int .i64 (-9223372036854775808))), .copy)]),
                 (none, .call (some 52) 4 true [((.v 50), true), ((.v 51), false)]),
                 (none, .nchk 53 (.v 49)),
                 (none, .fadr 54 0 1 (.v 53)),
                 (none, .store 1 (.v 54) (.v 52) .copy)])
               (.seq
                (.region [(7, 3, false)] [] [0, 3, 7, 55] false [
                  (none, .bin 56 .eql (.v 46) (.c (.int .i64 1))),
                  (none, .asg 55 (.v 56) .copy)])
                (.cond (.v 55)
                 (.region [(62, 3, false), (61, 3, false), (58, 0, false), (57, 3, false), (7, 3, false)] [] [0, 3] false [
                   (none, .mv 57 (.v 7)),
                   (none, .mv 58 (.v 0)),
                   (none, .mksl 59 1 (.int .i64 0) 4 [(0, (.c (.int .i64 (-1))), .copy), (1, (.c (.int .i64 0)), .copy), (2, (.c (.int .i64 10000)), .copy), (3, (.c (.int .i64 10001)), .copy)]),
                   (none, .call (some 60) 4 true [((.v 58), true), ((.v 59), false)]),
                   (none, .nchk 61 (.v 57)),
                   (none, .fadr 62 1 1 (.v 61)),
                   (none, .store 1 (.v 62) (.v 60) .copy)])
                 (.skip [0, 3]))))))))
          (.skip [0, 3])))
        (.seq
         (.region [(63, 3, false)] [] [0, 2] false [
           (none, .mv 63 (.v 3)),
           (none, .asg 2 (.v 63) .move)])
         (.ret [0, 2]))))))))⟩
def F490 : PFunc :=
 ⟨[false], [.tmp 2, .tmp 3],
  (.seq
   (.region [] [] [0] false [
     (none, .asg 2 (.c (.sl true 2 [])) .copy),
     (none, .asg 3 (.c (.sl true 2 [])) .copy)])
   (.seq
    (.region [(7, 0, false)] [] [4] false [
      (none, .mv 7 (.v 0)),
      (none, .call (some 8) 603 true [((.v 7), false)]),
      (none, .asg 4 (.v 8) .move)])
    (.seq
     (.region [(9, 4, false)] [] [4, 5] false [
       (none, .mv 9 (.v 4)),
       (none, .call (some 10) 723 true [((.v 9), true)]),
       (none, .asg 5 (.v 10) .move)])
     (.seq
      (.region [(12, 5, false)] [] [4, 5, 6] false [
        (none, .mksl 11 2 (.agg [(.int .i64 0), (.int .i64 0)]) 0 []),
        (none, .mv 12 (.v 5)),
        (none, .app 13 2 (.v 11) (.v 12) .freeze),
        (none, .asg 6 (.v 13) .move)])
      (.seq
       (.seq
        (.region [(18, 4, false), (14, 6, false)] [] [4, 5, 6, 20] false [
          (none, .mv 14 (.v 6)),
          (none, .len 15 false (.v 14)),
          (none, .bin 16 .gtr (.v 15) (.c (.int .i64 0))),
          (none, .mv 17 (.v 16)),
          (some (17, true), .mv 18 (.v 4)),
          (some (17, true), .call (some 19) 6 true [((.v 18), true), ((.c (.int .i64 2)), false)]),
          (none, .pick 20 (.v 17) (.v 19) (.c (.bool false)))])
        (.cond (.v 20)
         (.region [(29, 6, false), (28, 6, false), (25, 4, false), (23, 6, false), (22, 6, false), (21, 6, false)] [] [4, 5, 6] true [
           (none, .mv 21 (.v 6)),
           (none, .iadr 22 2 (.v 21) (.c (.int .i64 0))),
           (none, .fadr 23 1 1 (.v 22)),
           (none, .load 24 false 1 (.v 23) none),
           (none, .mv 25 (.v 4)),
           (none, .call (some 26) 7 true [((.v 25), true), ((.c (.int .i64 2)), false)]),
           (none, .bin 27 .add (.v 24) (.v 26)),
           (none, .iadr 28 2 (.v 21) (.c (.int .i64 0))),
           (none, .fadr 29 1 1 (.v 28)),
           (none, .store 1 (.v 29) (.v 27) .copy)])
         (.skip [4, 5, 6])))
       (.seq
        (.seq
         (.region [(30, 4, false)] [] [5, 6, 31] false [
           (none, .mv 30 (.v 4)),
           (none, .call (some 31) 6 true [((.v 30), true), ((.c (.int .i64 5)), false)])])
         (.cond (.v 31)
          (.region [(32, 6, false)] [] [5, 6] false [
            (none, .mv 32 (.v 6)),
            (none, .build 33 [(.int .i64 0), (.int .i64 0)] []),
            (none, .mksl 34 2 (.agg [(.int .i64 0), (.int .i64 0)]) 1 [(0, (.v 33), .copy)]),
            (none, .app 35 2 (.v 32) (.v 34) .move),
            (none, .asg 6 (.v 35) .move)])
          (.skip [5, 6])))
        (.seq
         (.region [(37, 6, false), (36, 5, false)] [] [2, 3] false [
           (none, .mv 36 (.v 5)),
           (none, .mv 37 (.v 6)),
           (none, .asg 2 (.v 36) .move),
           (none, .asg 3 (.v 37) .move)])
         (.ret [2, 3]))))))))⟩
def F724 : PFunc :=
 ⟨[true], [.tmp 2],
  (.seq
   (.region [] [] [0] false [
     (none, .asg 2 (.c (.int .i64 0)) .copy)])
   (.seq
    (.seq
     (.region [(3, 0, false)] [] [0, 4] false [
       (none, .mv 3 (.v 0)),
       (none, .call (some 4) 6 true [((.v 3), true), ((.c (.int .i64 10)), false)])])
     (.cond (.v 4)
      (.seq
       (.region [(5, 0, false)] [] [0, 2] false [
         (none, .mv 5 (.v 0)),
         (none, .mksl 6 1 (.int .i64 0) 5 [(0, (.c (.int .i64 (-1))), .copy), (1, (.c (.int .i64 0)), .copy), (2, (.c (.int .i64 500)), .copy), (3, (.c (.int .i64 501)), .copy), (4, (.c (.int .i64 (-9223372036854775808))), .copy)]),
         (none, .call (some 7) 4 true [((.v 5), true), ((.v 6), false)]),
         (none, .asg 2 (.v 7) .copy)])
       (.ret [0, 2]))
      (.skip [0])))
    (.seq
     (.region [(8, 0, false)] [] [0, 2] false [
       (none, .mv 8 (.v 0)),
       (none, .call (some 9) 7 true [((.v 8), true), ((.c (.int .i64 120)), false)]),
       (none, .asg 2 (.v 9) .copy)])
     (.ret [0, 2]))))⟩
def F493 : PFunc :=
 ⟨[false], [.tmp 2, .tmp 3, .tmp 4],
  (.seq
   (.region [] [] [0] false [
     (none, .asg 2 (.c (.sl true 2 [])) .copy),
     (none, .asg 3 (.c (.int .i64 0)) .copy),
     (none, .asg 4 (.c (.int .i64 0)) .copy)])
   (.seq
    (.region [(8, 0, false)] [] [5] false [
      (none, .mv 8 (.v 0)),
      (none, .call (some 9) 603 true [((.v 8), false)]),
      (none, .asg 5 (.v 9) .move)])
    (.seq
     (.region [(10, 5, false)] [] [5, 6] false [
       (none, .mv 10 (.v 5)),
       (none, .call (some 11) 723 true [((.v 10), true)]),
       (none, .asg 6 (.v 11) .move)])
     (.seq
      (.region [(12, 5, false)] [] [5, 6, 7] false [
        (none, .mv 12 (.v 5)),
        (none, .call (some 13) 724 true [((.v 12), true)]),
        (none, .asg 7 (.v 13) .copy)])
      (.seq
       (.seq
        (.region [(14, 5, false)] [] [5, 6, 7, 15] false [
          (none, .mv 14 (.v 5)),
          (none, .call (some 15) 6 true [((.v 14), true), ((.c (.int .i64 10)), false)])])
        (.cond (.v 15)
         (.seq
          (.region [(18, 5, false), (16, 6, false)] [] [2, 3, 4] false [
            (none, .mv 16 (.v 6)),
            (none, .mv 17 (.v 7)),
            (none, .mv 18 (.v 5)),
            (none, .mksl 19 1 (.int .i64 0) 4 [(0, (.c (.int .i64 (-1))), .copy), (1, (.c (.int .i64 0)), .copy), (2, (.c (.int .i64 10000000)), .copy), (3, (.c (.int .i64 10000001)), .copy)]),
            (none, .call (some 20) 4 true [((.v 18), true), ((.v 19), false)]),
            (none, .asg 2 (.v 16) .move),
            (none, .asg 3 (.v 17) .copy),
            (none, .asg 4 (.v 20) .copy)])
          (.ret [2, 3, 4]))
         (.skip [5, 6, 7])))
       (.seq
        (.region [(23, 5, false), (21, 6, false)] [] [2, 3, 4] false [
          (none, .mv 21 (.v 6)),
          (none, .mv 22 (.v 7)),
          (none, .mv 23 (.v 5)),
          (none, .call (some 24) 7 true [((.v 23), true), ((.c (.int .i64 400)), false)]),
          (none, .asg 2 (.v 21) .move),
          (none, .asg 3 (.v 22) .copy),
          (none, .asg 4 (.v 24) .copy)])
        (.ret [2, 3, 4])))))))⟩
def F605 : PFunc :=
 ⟨[false, false, false], [.tmp 6],
  (.seq
   (.region [] [] [0, 1, 2] false [
     (none, .asg 6 (.c (.bool false)) .copy)])
   (.seq
    (.region [] [] [6] false [
      (none, .mv 7 (.v 0)),
      (none, .mv 8 (.v 1)),
      (none, .bin 9 .geq (.v 7) (.v 8)),
      (none, .mv 10 (.v 9)),
      (some (10, true), .mv 11 (.v 0)),
      (some (10, true), .mv 12 (.v 2)),
      (some (10, true), .bin 13 .leq (.v 11) (.v 12)),
      (none, .pick 14 (.v 10) (.v 13) (.c (.bool false))),
      (none, .asg 6 (.v 14) .copy)])
    (.ret [6])))⟩
def F606 : PFunc :=
 ⟨[false, false], [.tmp 4],
  (.seq
   (.region [] [] [0, 1] false [
     (none, .asg 4 (.c (.int .i64 0)) .copy)])
   (.seq
    (.seq
     (.region [] [] [0, 1, 7] false [
       (none, .mv 5 (.v 0)),
       (none, .mv 6 (.v 1)),
       (none, .bin 7 .gtr (.v 5) (.v 6))])
     (.cond (.v 7)
      (.seq
       (.region [] [] [4] false [
         (none, .mv 8 (.v 0)),
         (none, .asg 4 (.v 8) .copy)])
       (.ret [4]))
      (.skip [1])))
    (.seq
     (.region [] [] [4] false [
       (none, .mv 9 (.v 1)),
       (none, .asg 4 (.v 9) .copy)])
     (.ret [4]))))⟩
def F513 : PFunc :=
 ⟨[false, false, false], [.tmp 6, .tmp 7],
  (.seq
   (.region [] [] [0, 1, 2] false [
     (none, .asg 6 (.c (.sl true 2 [])) .copy),
     (none, .asg 7 (.c (.int .i64 0)) .copy)])
   (.seq
    (.seq
     (.region [] [] [0, 1, 2, 23] false [
       (none, .mv 11 (.v 0)),
       (none, .call (some 12) 605 false [((.v 11), false), ((.c (.int .i64 0)), false), ((.c (.int .i64 60)), false)]),
       (none, .un 13 .not (.v 12)),
       (none, .mv 14 (.v 13)),
       (some (14, false), .mv 15 (.v 1)),
       (some (14, false), .call (some 16) 605 false [((.v 15), false), ((.c (.int .i64 1)), false), ((.c (.int .i64 10000)), false)]),
       (some (14, false), .un 17 .not (.v 16)),
       (none, .pick 18 (.v 14) (.c (.bool true)) (.v 17)),
       (none, .mv 19 (.v 18)),
       (some (19, false), .mv 20 (.v 2)),
       (some (19, false), .call (some 21) 605 false [((.v 20), false), ((.c (.int .i64 1)), false), ((.c (.int .i64 1000)), false)]),
       (some (19, false), .un 22 .not (.v 21)),
       (none, .pick 23 (.v 19) (.c (.bool true)) (.v 22))])
     (.cond (.v 23)
      (.seq
       (.region [] [] [6, 7] false [
         (none, .asg 6 (.c (.sl true 2 [])) .copy),
         (none, .asg 7 (.c (.int .i64 2)) .copy)])
       (.ret [6, 7]))
      (.skip [0, 1, 2])))
    (.seq
     (.region [] [] [0, 1, 8] false [
       (none, .mv 24 (.v 1)),
       (none, .mv 25 (.v 2)),
       (none, .bin 26 .mul (.v 24) (.v 25)),
       (none, .bin 27 .quo (.v 26) (.c (.int .i64 1000))),
       (none, .call (some 28) 606 false [((.c (.int .i64 1)), false), ((.v 27), false)]),
       (none, .asg 8 (.v 28) .copy)])
     (.seq
      (.region [] [] [0, 1, 8, 9] false [
        (none, .mksl 29 2 (.agg [(.int .i64 0), (.int .i64 0)]) 0 []),
        (none, .asg 9 (.v 29) .move)])
      (.seq
       (.seq
        (.region [] [] [0, 1, 8, 9, 10] false [
          (none, .asg 10 (.c (.int .i64 0)) .copy)])
        (.block 0
         (.loop
          (.seq
           (.seq
            (.region [] [] [0, 1, 8, 9, 10, 32] false [
              (none, .mv 30 (.v 10)),
              (none, .mv 31 (.v 0)),
              (none, .bin 32 .lss (.v 30) (.v 31))])
            (.cond (.v 32)
             (.skip [0, 1, 8, 9, 10])
             (.exit 0 [9])))
           (.seq
            (.block 1
             (.region [(35, 9, false)] [] [0, 1, 8, 9, 10] false [
               (none, .mv 35 (.v 9)),
               (none, .mv 36 (.v 8)),
               (none, .mv 37 (.v 1)),
               (none, .mv 38 (.v 8)),
               (none, .bin 39 .sub (.v 37) (.v 38)),
               (none, .build 40 [(.int .i64 0), (.int .i64 0)] [(0, 1, (.v 36), .copy), (1, 1, (.v 39), .copy)]),
               (none, .mksl 41 2 (.agg [(.int .i64 0), (.int .i64 0)]) 1 [(0, (.v 40), .copy)]),
               (none, .app 42 2 (.v 35) (.v 41) .move),
               (none, .asg 9 (.v 42) .move)]))
            (.region [] [] [0, 1, 8, 9, 10] false [
              (none, .mv 33 (.v 10)),
              (none, .bin 34 .add (.v 33) (.c (.int .i64 1))),
              (none, .asg 10 (.v 34) .copy)]))))))
       (.seq
        (.region [(43, 9, false)] [] [6, 7] false [
          (none, .mv 43 (.v 9)),
          (none, .asg 6 (.v 43) .move),
          (none, .asg 7 (.c (.int .i64 0)) .copy)])
        (.ret [6, 7])))))))⟩
def F725 : PFunc :=
 ⟨[false], [.tmp 2],
  (.seq
   (.region [] [] [0] false [
     (none, .asg 2 (.c (.bool false)) .copy)])
   (.seq
    (.seq
     (.region [] [] [0, 3] false [
       (none, .asg 3 (.c (.int .i64 0)) .copy)])
     (.block 0
      (.loop
       (.seq
        (.seq
         (.region [(5, 0, false)] [] [0, 3, 7] false [
           (none, .mv 4 (.v 3)),
           (none, .mv 5 (.v 0)),
           (none, .len 6 false (.v 5)),
           (none, .bin 7 .lss (.v 4) (.v 6))])
         (.cond (.v 7)
          (.skip [0, 3])
          (.exit 0 [0])))
        (.seq
         (.block 1
          (.seq
           (.region [(21, 0, false), (20, 0, false), (18, 0, false), (13, 0, false), (12, 0, false), (10, 0, false)] [] [0, 3, 25] false [
             (none, .mv 10 (.v 0)),
             (none, .mv 11 (.v 3)),
             (none, .iadr 12 2 (.v 10) (.v 11)),
             (none, .fadr 13 0 1 (.v 12)),
             (none, .load 14 false 1 (.v 13) none),
             (none, .call (some 15) 605 false [((.v 14), false), ((.c (.int .i64 1)), false), ((.c (.int .i64 10000)), false)]),
             (none, .un 16 .not (.v 15)),
             (none, .mv 17 (.v 16)),
             (some (17, false), .mv 18 (.v 0)),
             (some (17, false), .mv 19 (.v 3)),
             (some (17, false), .iadr 20 2 (.v 18) (.v 19)),
             (some (17, false), .fadr 21 1 1 (.v 20)),
             (some (17, false), .load 22 false 1 (.v 21) none),
             (some (17, false), .call (some 23) 605 false [((.v 22), false), ((.c (.int .i64 0)), false), ((.c (.int .i64 10000)), false)]),
             (some (17, false), .un 24 .not (.v 23)),
             (none, .pick 25 (.v 17) (.c (.bool true)) (.v 24))])
           (.cond (.v 25)
            (.seq
             (.region [] [] [2] false [
               (none, .asg 2 (.c (.bool false)) .copy)])
             (.ret [2]))
            (.skip [0, 3]))))
         (.region [] [] [0, 3] false [
           (none, .mv 8 (.v 3)),
           (none, .bin 9 .add (.v 8) (.c (.int .i64 1))),
           (none, .asg 3 (.v 9) .copy)]))))))
    (.seq
     (.region [(26, 0, false)] [] [2] false [
       (none, .mv 26 (.v 0)),
       (none, .len 27 false (.v 26)),
       (none, .bin 28 .leq (.v 27) (.c (.int .i64 60))),
       (none, .asg 2 (.v 28) .copy)])
     (.ret [2]))))⟩
def F728 : PFunc :=
 ⟨[false], [.tmp 2],
  (.seq
   (.region [] [] [0] false [
     (none, .asg 2 (.c (.int .i64 0)) .copy)])
   (.seq
    (.region [] [] [0, 3] false [
      (none, .asg 3 (.c (.int .i64 0)) .copy)])
    (.seq
     (.seq
      (.region [] [] [0, 3, 4] false [
        (none, .asg 4 (.c (.int .i64 0)) .copy)])
      (.block 0
       (.loop
        (.seq
         (.seq
          (.region [(6, 0, false)] [] [0, 3, 4, 8] false [
            (none, .mv 5 (.v 4)),
            (none, .mv 6 (.v 0)),
            (none, .len 7 false (.v 6)),
            (none, .bin 8 .lss (.v 5) (.v 7))])
          (.cond (.v 8)
           (.skip [0, 3, 4])
           (.exit 0 [3])))
         (.seq
          (.block 1
           (.region [(20, 0, false), (19, 0, false), (17, 0, false), (15, 0, false), (14, 0, false), (12, 0, false)] [] [0, 3, 4] true [
             (none, .mv 11 (.v 3)),
             (none, .mv 12 (.v 0)),
             (none, .mv 13 (.v 4)),
             (none, .iadr 14 2 (.v 12) (.v 13)),
             (none, .fadr 15 0 1 (.v 14)),
             (none, .load 16 false 1 (.v 15) none),
             (none, .mv 17 (.v 0)),
             (none, .mv 18 (.v 4)),
             (none, .iadr 19 2 (.v 17) (.v 18)),
             (none, .fadr 20 1 1 (.v 19)),
             (none, .load 21 false 1 (.v 20) none),
             (none, .bin 22 .add (.v 16) (.v 21)),
             (none, .bin 23 .add (.v 11) (.v 22)),
             (none, .asg 3 (.v 23) .copy)]))
          (.region [] [] [0, 3, 4] false [
            (none, .mv 9 (.v 4)),
            (none, .bin 10 .add (.v 9) (.c (.int .i64 1))),
            (none, .asg 4 (.v 10) .copy)]))))))
     (.seq
      (.region [] [] [2] false [
        (none, .mv 24 (.v 3)),
        (none, .asg 2 (.v 24) .copy)])
      (.ret [2])))))⟩
def F525 : PFunc :=
 ⟨[false, false], [.tmp 4, .tmp 5, .tmp 6],
  (.seq
   (.region [] [] [0, 1] false [
     (none, .asg 4 (.c (.int .i64 0)) .copy),
     (none, .asg 5 (.c (.bool false)) .copy),
     (none, .asg 6 (.c (.int .i64 0)) .copy)])
   (.seq
    (.seq
     (.region [(8, 0, false)] [] [0, 1, 10] false [
       (none, .mv 8 (.v 0)),
       (none, .call (some 9) 725 false [((.v 8), false)]),
       (none, .un 10 .not (.v 9))])
     (.cond (.v 10)
      (.seq
       (.region [] [] [4, 5, 6] false [
         (none, .asg 4 (.c (.int .i64 0)) .copy),
         (none, .asg 5 (.c (.bool false)) .copy),
         (none, .asg 6 (.c (.int .i64 1)) .copy)])
       (.ret [4, 5, 6]))
      (.skip [0, 1])))
    (.seq
     (.seq
      (.region [(12, 0, false)] [] [0, 1, 16] false [
        (none, .mv 11 (.v 1)),
        (none, .mv 12 (.v 0)),
        (none, .call (some 13) 728 false [((.v 12), false)]),
        (none, .bin 14 .sub (.v 13) (.c (.int .i64 1))),
        (none, .call (some 15) 605 false [((.v 11), false), ((.c (.int .i64 0)), false), ((.v 14), false)]),
        (none, .un 16 .not (.v 15))])
      (.cond (.v 16)
       (.seq
        (.region [] [] [4, 5, 6] false [
          (none, .asg 4 (.c (.int .i64 0)) .copy),
          (none, .asg 5 (.c (.bool false)) .copy),
          (none, .asg 6 (.c (.int .i64 2)) .copy)])
        (.ret [4, 5, 6]))
       (.skip [0, 1])))
     (.seq
      (.seq
       (.region [] [] [0, 1, 7] false [
         (none, .asg 7 (.c (.int .i64 0)) .copy)])
       (.block 0
        (.loop
         (.seq
          (.seq
           (.region [(18, 0, false)] [] [0, 1, 7, 20] false [
             (none, .mv 17 (.v 7)),
             (none, .mv 18 (.v 0)),
             (none, .len 19 false (.v 18)),
             (none, .bin 20 .lss (.v 17) (.v 19))])
           (.cond (.v 20)
            (.skip [0, 1, 7])
            (.exit 0 [])))
          (.seq
           (.block 1
            (.seq
             (.seq
              (.region [(27, 0, false), (26, 0, false), (24, 0, false)] [] [0, 1, 7, 29] false [
                (none, .mv 23 (.v 1)),
                (none, .mv 24 (.v 0)),
                (none, .mv 25 (.v 7)),
                (none, .iadr 26 2 (.v 24) (.v 25)),
                (none, .fadr 27 0 1 (.v 26)),
                (none, .load 28 false 1 (.v 27) none),
                (none, .bin 29 .lss (.v 23) (.v 28))])
              (.cond (.v 29)
               (.seq
                (.region [] [] [4, 5, 6] false [
                  (none, .mv 30 (.v 7)),
                  (none, .asg 4 (.v 30) .copy),
                  (none, .asg 5 (.c (.bool true)) .copy),
                  (none, .asg 6 (.c (.int .i64 0)) .copy)])
                (.ret [4, 5, 6]))
               (.skip [0, 1, 7])))
             (.seq
              (.region [(40, 0, false), (39, 0, false), (37, 0, false), (35, 0, false), (34, 0, false), (32, 0, false)] [] [0, 1, 7] true [
                (none, .mv 31 (.v 1)),
                (none, .mv 32 (.v 0)),
                (none, .mv 33 (.v 7)),
                (none, .iadr 34 2 (.v 32) (.v 33)),
                (none, .fadr 35 0 1 (.v 34)),
                (none, .load 36 false 1 (.v 35) none),
                (none, .mv 37 (.v 0)),
                (none, .mv 38 (.v 7)),
                (none, .iadr 39 2 (.v 37) (.v 38)),
                (none, .fadr 40 1 1 (.v 39)),
                (none, .load 41 false 1 (.v 40) none),
                (none, .bin 42 .add (.v 36) (.v 41)),
                (none, .bin 43 .sub (.v 31) (.v 42)),
                (none, .asg 1 (.v 43) .copy)])
              (.seq
               (.region [] [] [0, 1, 7, 45] false [
                 (none, .mv 44 (.v 1)),
                 (none, .bin 45 .lss (.v 44) (.c (.int .i64 0)))])
               (.cond (.v 45)
                (.seq
                 (.region [] [] [4, 5, 6] false [
                   (none, .mv 46 (.v 7)),
                   (none, .asg 4 (.v 46) .copy),
                   (none, .asg 5 (.c (.bool false)) .copy),
                   (none, .asg 6 (.c (.int .i64 0)) .copy)])
                 (.ret [4, 5, 6]))
                (.skip [0, 1, 7]))))))
           (.region [] [] [0, 1, 7] false [
             (none, .mv 21 (.v 7)),
             (none, .bin 22 .add (.v 21) (.c (.int .i64 1))),
             (none, .asg 7 (.v 22) .copy)]))))))
      (.seq
       (.region [] [] [4, 5, 6] false [
         (none, .asg 4 (.c (.int .i64 0)) .copy),
         (none, .asg 5 (.c (.bool false)) .copy),
         (none, .asg 6 (.c (.int .i64 0)) .copy)])
       (.ret [4, 5, 6]))))))⟩
def F537 : PFunc :=
 ⟨[false], [.tmp 2, .tmp 3],
  (.seq
   (.region [] [] [0] false [
     (none, .asg 2 (.c (.int .i64 0)) .copy),
     (none, .asg 3 (.c (.int .i64 0)) .copy)])
   (.seq
    (.seq
     (.region [(6, 0, false)] [] [0, 8] false [
       (none, .mv 6 (.v 0)),
       (none, .call (some 7) 725 false [((.v 6), false)]),
       (none, .un 8 .not (.v 7))])
     (.cond (.v 8)
      (.seq
       (.region [] [] [2, 3] false [
         (none, .asg 2 (.c (.int .i64 0)) .copy),
         (none, .asg 3 (.c (.int .i64 1)) .copy)])
       (.ret [2, 3]))
      (.skip [0])))
    (.seq
     (.region [] [] [0, 4] false [
       (none, .asg 4 (.c (.int .i64 0)) .copy)])
     (.seq
      (.seq
       (.region [] [] [0, 4, 5] false [
         (none, .asg 5 (.c (.int .i64 0)) .copy)])
       (.block 0
        (.loop
         (.seq
          (.seq
           (.region [(10, 0, false)] [] [0, 4, 5, 12] false [
             (none, .mv 9 (.v 5)),
             (none, .mv 10 (.v 0)),
             (none, .len 11 false (.v 10)),
             (none, .bin 12 .lss (.v 9) (.v 11))])
           (.cond (.v 12)
            (.skip [0, 4, 5])
            (.exit 0 [4])))
          (.seq
           (.block 1
            (.region [(19, 0, false), (18, 0, false), (16, 0, false)] [] [0, 4, 5] false [
              (none, .mv 15 (.v 4)),
              (none, .mv 16 (.v 0)),
              (none, .mv 17 (.v 5)),
              (none, .iadr 18 2 (.v 16) (.v 17)),
              (none, .fadr 19 1 1 (.v 18)),
              (none, .load 20 false 1 (.v 19) none),
              (none, .call (some 21) 606 false [((.v 15), false), ((.v 20), false)]),
              (none, .asg 4 (.v 21) .copy)]))
           (.region [] [] [0, 4, 5] false [
             (none, .mv 13 (.v 5)),
             (none, .bin 14 .add (.v 13) (.c (.int .i64 1))),
             (none, .asg 5 (.v 14) .copy)]))))))
      (.seq
       (.seq
        (.region [] [] [4, 23] false [
          (none, .mv 22 (.v 4)),
          (none, .bin 23 .gtr (.v 22) (.c (.int .i64 500)))])
        (.cond (.v 23)
         (.seq
          (.region [] [] [2, 3] false [
            (none, .asg 2 (.c (.int .i64 0)) .copy),
            (none, .asg 3 (.c (.int .i64 3)) .copy)])
          (.ret [2, 3]))
         (.skip [4])))
       (.seq
        (.region [] [] [2, 3] false [
          (none, .mv 24 (.v 4)),
          (none, .asg 2 (.v 24) .copy),
          (none, .asg 3 (.c (.int .i64 0)) .copy)])
        (.ret [2, 3])))))))⟩
def F559 : PFunc :=
 ⟨[false, false], [.tmp 4],
  (.seq
   (.region [] [] [0, 1] false [
     (none, .asg 4 (.c (.bool false)) .copy)])
   (.seq
    (.seq
     (.region [(8, 1, false), (6, 0, false)] [] [0, 1, 10] false [
       (none, .mv 6 (.v 0)),
       (none, .len 7 false (.v 6)),
       (none, .mv 8 (.v 1)),
       (none, .len 9 false (.v 8)),
       (none, .bin 10 .neq (.v 7) (.v 9))])
     (.cond (.v 10)
      (.seq
       (.region [] [] [4] false [
         (none, .asg 4 (.c (.bool false)) .copy)])
       (.ret [4]))
      (.skip [0, 1])))
    (.seq
     (.seq
      (.region [] [] [0, 1, 5] false [
        (none, .asg 5 (.c (.int .i64 0)) .copy)])
      (.block 0
       (.loop
        (.seq
         (.seq
          (.region [(12, 0, false)] [] [0, 1, 5, 14] false [
            (none, .mv 11 (.v 5)),
            (none, .mv 12 (.v 0)),
            (none, .len 13 false (.v 12)),
            (none, .bin 14 .lss (.v 11) (.v 13))])
          (.cond (.v 14)
           (.skip [0, 1, 5])
           (.exit 0 [])))
         (.seq
          (.block 1
           (.seq
            (.region [(23, 1, false), (21, 1, false), (19, 0, false), (17, 0, false)] [] [0, 1, 5, 25] true [
              (none, .mv 17 (.v 0)),
              (none, .mv 18 (.v 5)),
              (none, .iadr 19 2 (.v 17) (.v 18)),
              (none, .load 20 true 2 (.v 19) none),
              (none, .mv 21 (.v 1)),
              (none, .mv 22 (.v 5)),
              (none, .iadr 23 2 (.v 21) (.v 22)),
              (none, .load 24 true 2 (.v 23) none),
              (none, .eqv 25 true [.i, .i] (.v 20) (.v 24))])
            (.cond (.v 25)
             (.seq
              (.region [] [] [4] false [
                (none, .asg 4 (.c (.bool false)) .copy)])
              (.ret [4]))
             (.skip [0, 1, 5]))))
          (.region [] [] [0, 1, 5] false [
            (none, .mv 15 (.v 5)),
            (none, .bin 16 .add (.v 15) (.c (.int .i64 1))),
            (none, .asg 5 (.v 16) .copy)]))))))
     (.seq
      (.region [] [] [4] false [
        (none, .asg 4 (.c (.bool true)) .copy)])
      (.ret [4])))))⟩
def F726 : PFunc :=
 ⟨[false], [.tmp 2],
  (.seq
   (.region [] [] [0] false [
     (none, .asg 2 (.c (.bool false)) .copy)])
   (.seq
    (.region [] [] [2] false [
      (none, .mv 3 (.v 0)),
      (none, .call (some 4) 605 false [((.v 3), false), ((.c (.int .i64 0)), false), ((.c (.int .i64 500)), false)]),
      (none, .asg 2 (.v 4) .copy)])
    (.ret [2])))⟩
def F727 : PFunc :=
 ⟨[false, false, false], [.tmp 6],
  (.seq
   (.region [] [] [0, 1, 2] false [
     (none, .asg 6 (.c (.sl true 1 [])) .copy)])
   (.seq
    (.region [] [] [0, 1, 2, 7] false [
      (none, .mksl 10 1 (.int .i64 0) 0 []),
      (none, .asg 7 (.v 10) .move)])
    (.seq
     (.region [] [] [0, 1, 2, 7, 8] false [
       (none, .asg 8 (.c (.int .i64 0)) .copy)])
     (.seq
      (.seq
       (.region [] [] [0, 1, 2, 7, 8, 9] false [
         (none, .asg 9 (.c (.int .i64 0)) .copy)])
       (.block 0
        (.loop
         (.seq
          (.seq
           (.region [(12, 0, false)] [] [0, 1, 2, 7, 8, 9, 14] false [
             (none, .mv 11 (.v 9)),
             (none, .mv 12 (.v 0)),
             (none, .len 13 false (.v 12)),
             (none, .bin 14 .lss (.v 11) (.v 13))])
           (.cond (.v 14)
            (.skip [0, 1, 2, 7, 8, 9])
            (.exit 0 [7])))
          (.seq
           (.block 1
            (.seq
             (.seq
              (.region [(23, 0, false), (22, 0, false), (20, 0, false)] [] [0, 1, 2, 7, 8, 9, 29] false [
                (none, .mv 17 (.v 2)),
                (none, .mv 18 (.v 8)),
                (none, .mv 19 (.v 8)),
                (none, .mv 20 (.v 0)),
                (none, .mv 21 (.v 9)),
                (none, .iadr 22 2 (.v 20) (.v 21)),
                (none, .fadr 23 0 1 (.v 22)),
                (none, .load 24 false 1 (.v 23) none),
                (none, .bin 25 .add (.v 19) (.v 24)),
                (none, .mv 26 (.v 1)),
                (none, .bin 27 .add (.v 25) (.v 26)),
                (none, .bin 28 .sub (.v 27) (.c (.int .i64 1))),
                (none, .call (some 29) 605 false [((.v 17), false), ((.v 18), false), ((.v 28), false)])])
              (.cond (.v 29)
               (.region [(30, 7, false)] [] [0, 1, 2, 7, 8, 9] false [
                 (none, .mv 30 (.v 7)),
                 (none, .mv 31 (.v 9)),
                 (none, .mksl 32 1 (.int .i64 0) 1 [(0, (.v 31), .copy)]),
                 (none, .app 33 1 (.v 30) (.v 32) .move),
                 (none, .asg 7 (.v 33) .move)])
               (.skip [0, 1, 2, 7, 8, 9])))
             (.region [(43, 0, false), (42, 0, false), (40, 0, false), (38, 0, false), (37, 0, false), (35, 0, false)] [] [0, 1, 2, 7, 8, 9] true [
               (none, .mv 34 (.v 8)),
               (none, .mv 35 (.v 0)),
               (none, .mv 36 (.v 9)),
               (none, .iadr 37 2 (.v 35) (.v 36)),
               (none, .fadr 38 0 1 (.v 37)),
               (none, .load 39 false 1 (.v 38) none),
               (none, .mv 40 (.v 0)),
               (none, .mv 41 (.v 9)),
               (none, .iadr 42 2 (.v 40) (.v 41)),
               (none, .fadr 43 1 1 (.v 42)),
               (none, .load 44 false 1 (.v 43) none),
               (none, .bin 45 .add (.v 39) (.v 44)),
               (none, .bin 46 .add (.v 34) (.v 45)),
               (none, .asg 8 (.v 46) .copy)])))
           (.region [] [] [0, 1, 2, 7, 8, 9] false [
             (none, .mv 15 (.v 9)),
             (none, .bin 16 .add (.v 15) (.c (.int .i64 1))),
             (none, .asg 9 (.v 16) .copy)]))))))
      (.seq
       (.region [(47, 7, false)] [] [6] false [
         (none, .mv 47 (.v 7)),
         (none, .asg 6 (.v 47) .move)])
       (.ret [6]))))))⟩
def F566 : PFunc :=
 ⟨[false, false, false], [.tmp 6, .tmp 7],
  (.seq
   (.region [] [] [0, 1, 2] false [
     (none, .asg 6 (.c (.sl true 1 [])) .copy),
     (none, .asg 7 (.c (.int .i64 0)) .copy)])
   (.seq
    (.seq
     (.region [(8, 0, false)] [] [0, 1, 2, 10] false [
       (none, .mv 8 (.v 0)),
       (none, .call (some 9) 725 false [((.v 8), false)]),
       (none, .un 10 .not (.v 9))])
     (.cond (.v 10)
      (.seq
       (.region [] [] [6, 7] false [
         (none, .asg 6 (.c (.sl true 1 [])) .copy),
         (none, .asg 7 (.c (.int .i64 1)) .copy)])
       (.ret [6, 7]))
      (.skip [0, 1, 2])))
    (.seq
     (.seq
      (.region [] [] [0, 1, 2, 18] false [
        (none, .mv 11 (.v 1)),
        (none, .call (some 12) 726 false [((.v 11), false)]),
        (none, .un 13 .not (.v 12)),
        (none, .mv 14 (.v 13)),
        (some (14, false), .mv 15 (.v 2)),
        (some (14, false), .call (some 16) 605 false [((.v 15), false), ((.c (.int .i64 0)), false), ((.c (.int .i64 10000000)), false)]),
        (some (14, false), .un 17 .not (.v 16)),
        (none, .pick 18 (.v 14) (.c (.bool true)) (.v 17))])
      (.cond (.v 18)
       (.seq
        (.region [] [] [6, 7] false [
          (none, .asg 6 (.c (.sl true 1 [])) .copy),
          (none, .asg 7 (.c (.int .i64 2)) .copy)])
        (.ret [6, 7]))
       (.skip [0, 1, 2])))
     (.seq
      (.region [(19, 0, false)] [] [6, 7] false [
        (none, .mv 19 (.v 0)),
        (none, .mv 20 (.v 1)),
        (none, .mv 21 (.v 2)),
        (none, .call (some 22) 727 false [((.v 19), false), ((.v 20), false), ((.v 21), false)]),
        (none, .asg 6 (.v 22) .move),
        (none, .asg 7 (.c (.int .i64 0)) .copy)])
      (.ret [6, 7])))))⟩
def F591 : PFunc :=
 ⟨[false], [.tmp 2],
  (.seq
   (.region [] [] [0] false [
     (none, .asg 2 (.c (.bool false)) .copy)])
   (.seq
    (.region [(3, 0, false)] [] [2] false [
      (none, .mv 3 (.v 0)),
      (none, .call (some 4) 725 false [((.v 3), false)]),
      (none, .asg 2 (.v 4) .copy)])
    (.ret [2])))⟩
def F376 : PFunc :=
 ⟨[false], [.tmp 2],
  (.seq
   (.region [] [] [0] false [
     (none, .asg 2 (.c (.bool false)) .copy)])
   (.seq
    (.seq
     (.region [(35, 0, false)] [] [0, 36] false [
       (none, .mv 35 (.v 0)),
       (none, .call (some 36) 398 false [((.v 35), false)])])
     (.cond (.v 36)
      (.seq
       (.region [] [] [2] false [
         (none, .asg 2 (.c (.bool true)) .copy)])
       (.ret [2]))
      (.skip [0])))
    (.seq
     (.region [(38, 0, false)] [] [0, 3, 4, 5] false [
       (none, .mv 38 (.v 0)),
       (none, .call (some 39) 493 false [((.v 38), false)]),
       (none, .asg 37 (.v 39) .move),
       (none, .ext 40 (.v 37) 0),
       (none, .extp 41 (.v 37) 1),
       (none, .extp 42 (.v 37) 2),
       (none, .asg 3 (.v 40) .move),
       (none, .asg 4 (.v 41) .copy),
       (none, .asg 5 (.v 42) .copy)])
     (.seq
      (.region [(44, 3, false)] [] [0, 3, 4, 5, 6, 7] false [
        (none, .mv 44 (.v 3)),
        (none, .mv 45 (.v 4)),
        (none, .mv 46 (.v 5)),
        (none, .call (some 47) 177 false [((.v 44), false), ((.v 45), false), ((.v 46), false)]),
        (none, .asg 43 (.v 47) .move),
        (none, .ext 48 (.v 43) 0),
        (none, .extp 49 (.v 43) 1),
        (none, .asg 6 (.v 48) .move),
        (none, .asg 7 (.v 49) .copy)])
      (.seq
       (.region [(51, 3, false)] [] [0, 3, 5, 6, 7, 8, 9] false [
         (none, .mv 51 (.v 3)),
         (none, .mv 52 (.v 4)),
         (none, .mv 53 (.v 5)),
         (none, .call (some 54) 566 false [((.v 51), false), ((.v 52), false), ((.v 53), false)]),
         (none, .asg 50 (.v 54) .move),
         (none, .ext 55 (.v 50) 0),
         (none, .extp 56 (.v 50) 1),
         (none, .asg 8 (.v 55) .move),
         (none, .asg 9 (.v 56) .copy)])
       (.seq
        (.region [(58, 3, false)] [] [0, 3, 5, 6, 7, 8, 9, 10, 11, 12] false [
          (none, .mv 58 (.v 3)),
          (none, .mv 59 (.v 5)),
          (none, .call (some 60) 102 false [((.v 58), false), ((.v 59), false)]),
          (none, .asg 57 (.v 60) .copy),
          (none, .extp 61 (.v 57) 0),
          (none, .extp 62 (.v 57) 1),
          (none, .extp 63 (.v 57) 2),
          (none, .asg 10 (.v 61) .copy),
          (none, .asg 11 (.v 62) .copy),
          (none, .asg 12 (.v 63) .copy)])
        (.seq
         (.region [(65, 3, false)] [] [0, 3, 6, 7, 8, 9, 10, 11, 12, 13, 14, 15] false [
           (none, .mv 65 (.v 3)),
           (none, .mv 66 (.v 5)),
           (none, .call (some 67) 525 false [((.v 65), false), ((.v 66), false)]),
           (none, .asg 64 (.v 67) .copy),
           (none, .extp 68 (.v 64) 0),
           (none, .extp 69 (.v 64) 1),
           (none, .extp 70 (.v 64) 2),
           (none, .asg 13 (.v 68) .copy),
           (none, .asg 14 (.v 69) .copy),
           (none, .asg 15 (.v 70) .copy)])
         (.seq
          (.region [(72, 3, false)] [] [0, 3, 6, 7, 8, 9, 10, 11, 12, 13, 14, 15, 16, 17] false [
            (none, .mv 72 (.v 3)),
            (none, .call (some 73) 121 false [((.v 72), false)]),
            (none, .asg 71 (.v 73) .copy),
            (none, .extp 74 (.v 71) 0),
            (none, .extp 75 (.v 71) 1),
            (none, .asg 16 (.v 74) .copy),
            (none, .asg 17 (.v 75) .copy)])
          (.seq
           (.region [(77, 3, false)] [] [0, 3, 6, 7, 8, 9, 10, 11, 12, 13, 14, 15, 16, 17, 18, 19] false [
             (none, .mv 77 (.v 3)),
             (none, .call (some 78) 537 false [((.v 77), false)]),
             (none, .asg 76 (.v 78) .copy),
             (none, .extp 79 (.v 76) 0),
             (none, .extp 80 (.v 76) 1),
             (none, .asg 18 (.v 79) .copy),
             (none, .asg 19 (.v 80) .copy)])
           (.seq
            (.region [(82, 0, false)] [] [0, 3, 6, 7, 8, 9, 10, 11, 12, 13, 14, 15, 16, 17, 18, 19, 20, 21, 22] false [
              (none, .mv 82 (.v 0)),
              (none, .call (some 83) 465 false [((.v 82), false)]),
              (none, .asg 81 (.v 83) .copy),
              (none, .extp 84 (.v 81) 0),
              (none, .extp 85 (.v 81) 1),
              (none, .extp 86 (.v 81) 2),
              (none, .asg 20 (.v 84) .copy),
              (none, .asg 21 (.v 85) .copy),
              (none, .asg 22 (.v 86) .copy)])
            (.seq
             (.region [] [] [0, 3, 6, 7, 8, 9, 10, 11, 12, 13, 14, 15, 16, 17, 18, 19, 20, 21, 22, 23, 24] false [
               (none, .mv 88 (.v 20)),
               (none, .mv 89 (.v 21)),
               (none, .mv 90 (.v 22)),
               (none, .call (some 91) 79 false [((.v 88), false), ((.v 89), false), ((.v 90), false)]),
               (none, .asg 87 (.v 91) .move),
               (none, .ext 92 (.v 87) 0),
               (none, .extp 93 (.v 87) 1),
               (none, .asg 23 (.v 92) .move),
               (none, .asg 24 (.v 93) .copy)])
             (.seq
              (.region [] [] [0, 3, 6, 7, 8, 9, 10, 11, 12, 13, 14, 15, 16, 17, 18, 19, 20, 21, 23, 24, 25, 26] false [
                (none, .mv 95 (.v 20)),
                (none, .mv 96 (.v 21)),
                (none, .mv 97 (.v 22)),
                (none, .call (some 98) 513 false [((.v 95), false), ((.v 96), false), ((.v 97), false)]),
                (none, .asg 94 (.v 98) .move),
                (none, .ext 99 (.v 94) 0),
                (none, .extp 100 (.v 94) 1),
                (none, .asg 25 (.v 99) .move),
                (none, .asg 26 (.v 100) .copy)])
              (.seq
               (.region [(102, 0, false)] [] [3, 6, 7, 8, 9, 10, 11, 12, 13, 14, 15, 16, 17, 18, 19, 20, 21, 23, 24, 25, 26, 27, 28] false [
                 (none, .mv 102 (.v 0)),
                 (none, .call (some 103) 490 true [((.v 102), false)]),
                 (none, .asg 101 (.v 103) .move),
                 (none, .extp 104 (.v 101) 0),
                 (none, .ext 105 (.v 101) 1),
                 (none, .asg 27 (.v 104) .move),
                 (none, .asg 28 (.v 105) .move)])
               (.seq
                (.seq
                 (.region [(163, 3, false), (161, 3, false), (156, 28, false), (155, 27, false), (153, 28, false), (152, 27, false), (147, 25, false), (146, 23, false), (111, 8, false), (110, 6, false)] [] [3, 7, 8, 12, 13, 14, 17, 18, 20, 21, 23, 24, 166] false [
                   (none, .mv 106 (.v 7)),
                   (none, .mv 107 (.v 9)),
                   (none, .bin 108 .neq (.v 106) (.v 107)),
                   (none, .mv 109 (.v 108)),
                   (some (109, false), .mv 110 (.v 6)),
                   (some (109, false), .mv 111 (.v 8)),
                   (some (109, false), .call (some 112) 400 false [((.v 110), false), ((.v 111), false)]),
                   (some (109, false), .un 113 .not (.v 112)),
                   (none, .pick 114 (.v 109) (.c (.bool true)) (.v 113)),
                   (none, .mv 115 (.v 114)),
                   (some (115, false), .mv 116 (.v 12)),
                   (some (115, false), .mv 117 (.v 15)),
                   (some (115, false), .bin 118 .neq (.v 116) (.v 117)),
                   (none, .pick 119 (.v 115) (.c (.bool true)) (.v 118)),
                   (none, .mv 120 (.v 119)),
                   (some (120, false), .mv 121 (.v 10)),
                   (some (120, false), .mv 122 (.v 13)),
                   (some (120, false), .bin 123 .neq (.v 121) (.v 122)),
                   (none, .pick 124 (.v 120) (.c (.bool true)) (.v 123)),
                   (none, .mv 125 (.v 124)),
                   (some (125, false), .mv 126 (.v 11)),
                   (some (125, false), .mv 127 (.v 14)),
                   (some (125, false), .eqb 128 true (.v 126) (.v 127)),
                   (none, .pick 129 (.v 125) (.c (.bool true)) (.v 128)),
                   (none, .mv 130 (.v 129)),
                   (some (130, false), .mv 131 (.v 17)),
                   (some (130, false), .mv 132 (.v 19)),
                   (some (130, false), .bin 133 .neq (.v 131) (.v 132)),
                   (none, .pick 134 (.v 130) (.c (.bool true)) (.v 133)),
                   (none, .mv 135 (.v 134)),
                   (some (135, false), .mv 136 (.v 16)),
                   (some (135, false), .mv 137 (.v 18)),
                   (some (135, false), .bin 138 .neq (.v 136) (.v 137)),
                   (none, .pick 139 (.v 135) (.c (.bool true)) (.v 138)),
                   (none, .mv 140 (.v 139)),
                   (some (140, false), .mv 141 (.v 24)),
                   (some (140, false), .mv 142 (.v 26)),
                   (some (140, false), .bin 143 .neq (.v 141) (.v 142)),
                   (none, .pick 144 (.v 140) (.c (.bool true)) (.v 143)),
                   (none, .mv 145 (.v 144)),
                   (some (145, false), .mv 146 (.v 23)),
                   (some (145, false), .mv 147 (.v 25)),
                   (some (145, false), .call (some 148) 559 false [((.v 146), false), ((.v 147), false)]),
                   (some (145, false), .un 149 .not (.v 148)),
                   (none, .pick 150 (.v 145) (.c (.bool true)) (.v 149)),
                   (none, .mv 151 (.v 150)),
                   (some (151, false), .mv 152 (.v 27)),
                   (some (151, false), .mv 153 (.v 28)),
                   (some (151, false), .call (some 154) 170 false [((.v 152), false), ((.v 153), false)]),
                   (some (151, false), .mv 155 (.v 27)),
                   (some (151, false), .mv 156 (.v 28)),
                   (some (151, false), .call (some 157) 559 false [((.v 155), false), ((.v 156), false)]),
                   (some (151, false), .eqb 158 true (.v 154) (.v 157)),
                   (none, .pick 159 (.v 151) (.c (.bool true)) (.v 158)),
                   (none, .mv 160 (.v 159)),
                   (some (160, false), .mv 161 (.v 3)),
                   (some (160, false), .call (some 162) 214 false [((.v 161), false)]),
                   (some (160, false), .mv 163 (.v 3)),
                   (some (160, false), .call (some 164) 591 false [((.v 163), false)]),
                   (some (160, false), .eqb 165 true (.v 162) (.v 164)),
                   (none, .pick 166 (.v 160) (.c (.bool true)) (.v 165))])
                 (.cond (.v 166)
                  (.seq
                   (.region [] [] [2] false [
                     (none, .asg 2 (.c (.bool false)) .copy)])
                   (.ret [2]))
                  (.skip [3, 7, 8, 12, 13, 14, 17, 18, 20, 21, 23, 24])))
                (.seq
                 (.seq
                  (.region [] [] [3, 7, 8, 12, 13, 14, 17, 18, 20, 21, 23, 168] false [
                    (none, .mv 167 (.v 24)),
                    (none, .bin 168 .eql (.v 167) (.c (.int .i64 0)))])
                  (.cond (.v 168)
                   (.seq
                    (.region [(170, 23, false)] [] [3, 7, 8, 12, 13, 14, 17, 18, 20, 21, 29, 30] false [
                      (none, .mv 170 (.v 23)),
                      (none, .call (some 171) 201 false [((.v 170), false)]),
                      (none, .asg 169 (.v 171) .copy),
                      (none, .extp 172 (.v 169) 0),
                      (none, .extp 173 (.v 169) 1),
                      (none, .asg 29 (.v 172) .copy),
                      (none, .asg 30 (.v 173) .copy)])
                    (.seq
                     (.region [] [] [3, 7, 8, 12, 13, 14, 17, 18, 182] false [
                       (none, .mv 174 (.v 30)),
                       (none, .bin 175 .neq (.v 174) (.c (.int .i64 0))),
                       (none, .mv 176 (.v 175)),
                       (some (176, false), .mv 177 (.v 29)),
                       (some (176, false), .mv 178 (.v 20)),
                       (some (176, false), .mv 179 (.v 21)),
                       (some (176, false), .bin 180 .mul (.v 178) (.v 179)),
                       (some (176, false), .bin 181 .neq (.v 177) (.v 180)),
                       (none, .pick 182 (.v 176) (.c (.bool true)) (.v 181))])
                     (.cond (.v 182)
                      (.seq
                       (.region [] [] [2] false [
                         (none, .asg 2 (.c (.bool false)) .copy)])
                       (.ret [2]))
                      (.skip [3, 7, 8, 12, 13, 14, 17, 18]))))
                   (.skip [3, 7, 8, 12, 13, 14, 17, 18])))
                 (.seq
                  (.seq
                   (.region [] [] [3, 7, 8, 12, 13, 14, 18, 184] false [
                     (none, .mv 183 (.v 17)),
                     (none, .bin 184 .eql (.v 183) (.c (.int .i64 0)))])
                   (.cond (.v 184)
                    (.seq
                     (.region [(186, 3, false)] [] [3, 7, 8, 12, 13, 14, 18, 31, 32] false [
                       (none, .mv 186 (.v 3)),
                       (none, .mv 187 (.v 18)),
                       (none, .call (some 188) 105 false [((.v 186), false), ((.v 187), false)]),
                       (none, .asg 185 (.v 188) .copy),
                       (none, .extp 189 (.v 185) 0),
                       (none, .extp 190 (.v 185) 1),
                       (none, .asg 31 (.v 189) .copy),
                       (none, .asg 32 (.v 190) .copy)])
                     (.seq
                      (.seq
                       (.region [] [] [3, 7, 8, 12, 13, 14, 18, 196] false [
                         (none, .mv 191 (.v 32)),
                         (none, .bin 192 .neq (.v 191) (.c (.int .i64 0))),
                         (none, .mv 193 (.v 192)),
                         (some (193, false), .mv 194 (.v 31)),
                         (some (193, false), .bin 195 .neq (.v 194) (.c (.int .i64 0))),
                         (none, .pick 196 (.v 193) (.c (.bool true)) (.v 195))])
                       (.cond (.v 196)
                        (.seq
                         (.region [] [] [2] false [
                           (none, .asg 2 (.c (.bool false)) .copy)])
                         (.ret [2]))
                        (.skip [3, 7, 8, 12, 13, 14, 18])))
                      (.seq
                       (.region [] [] [3, 7, 8, 12, 13, 14, 18, 198] false [
                         (none, .mv 197 (.v 18)),
                         (none, .bin 198 .gtr (.v 197) (.c (.int .i64 0)))])
                       (.cond (.v 198)
                        (.seq
                         (.region [(200, 3, false)] [] [7, 8, 12, 13, 14, 33, 34] false [
                           (none, .mv 200 (.v 3)),
                           (none, .mv 201 (.v 18)),
                           (none, .bin 202 .sub (.v 201) (.c (.int .i64 1))),
                           (none, .call (some 203) 105 false [((.v 200), false), ((.v 202), false)]),
                           (none, .asg 199 (.v 203) .copy),
                           (none, .extp 204 (.v 199) 0),
                           (none, .extp 205 (.v 199) 1),
                           (none, .asg 33 (.v 204) .copy),
                           (none, .asg 34 (.v 205) .copy)])
                         (.seq
                          (.region [] [] [7, 8, 12, 13, 14, 211] false [
                            (none, .mv 206 (.v 34)),
                            (none, .bin 207 .neq (.v 206) (.c (.int .i64 0))),
                            (none, .mv 208 (.v 207)),
                            (some (208, false), .mv 209 (.v 33)),
                            (some (208, false), .bin 210 .lss (.v 209) (.c (.int .i64 1))),
                            (none, .pick 211 (.v 208) (.c (.bool true)) (.v 210))])
                          (.cond (.v 211)
                           (.seq
                            (.region [] [] [2] false [
                              (none, .asg 2 (.c (.bool false)) .copy)])
                            (.ret [2]))
                           (.skip [7, 8, 12, 13, 14]))))
                        (.skip [7, 8, 12, 13, 14])))))
                    (.skip [7, 8, 12, 13, 14])))
                  (.seq
                   (.seq
                    (.region [] [] [8, 13, 14, 217] false [
                      (none, .mv 212 (.v 7)),
                      (none, .bin 213 .neq (.v 212) (.c (.int .i64 0))),
                      (none, .mv 214 (.v 213)),
                      (some (214, false), .mv 215 (.v 12)),
                      (some (214, false), .bin 216 .neq (.v 215) (.c (.int .i64 0))),
                      (none, .pick 217 (.v 214) (.c (.bool true)) (.v 216))])
                    (.cond (.v 217)
                     (.seq
                      (.region [] [] [2] false [
                        (none, .asg 2 (.c (.bool true)) .copy)])
                      (.ret [2]))
                     (.skip [8, 13, 14])))
                   (.seq
                    (.region [(221, 8, false)] [] [2] false [
                      (none, .mv 218 (.v 14)),
                      (none, .un 219 .not (.v 218)),
                      (none, .mv 220 (.v 219)),
                      (some (220, false), .mv 221 (.v 8)),
                      (some (220, false), .mv 222 (.v 13)),
                      (some (220, false), .call (some 223) 399 false [((.v 221), false), ((.v 222), false)]),
                      (none, .pick 224 (.v 220) (.c (.bool true)) (.v 223)),
                      (none, .asg 2 (.v 224) .copy)])
                    (.ret [2])))))))))))))))))))⟩
def tabl : List (Nat × PFunc) := [(326, F326), (79, F79), (215, F215), (823, F823), (801, F801), (214, F214), (247, F247), (318, F318), (102, F102), (267, F267), (268, F268), (105, F105), (121, F121), (812, F812), (170, F170), (303, F303), (177, F177), (201, F201), (398, F398), (399, F399), (400, F400), (5, F5), (7, F7), (4, F4), (6, F6), (603, F603), (465, F465), (723, F723), (490, F490), (724, F724), (493, F493), (605, F605), (606, F606), (513, F513), (725, F725), (728, F728), (525, F525), (537, F537), (559, F559), (726, F726), (727, F727), (566, F566), (591, F591), (376, F376)]
def T : Nat → Option PFunc := tabOf tabl
end Go.Vs.G
