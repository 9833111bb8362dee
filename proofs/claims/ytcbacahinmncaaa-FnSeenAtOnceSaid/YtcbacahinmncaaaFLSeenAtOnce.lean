/- The functions that the law reaches, in the small language, printed by program. No conditions. -/
import Derived.Test.YtcbacahinmncaaaDLSeenAtOnce
import Derived.Test.YtcbacahinmncaaaV4
set_option maxRecDepth 100000
open Go Go.Vs
namespace Go.Vs.G
def F247 : PFunc :=
 ⟨[false], [.tmp 2],
  (.seq
   (.region [] [] [0] false [
     (none, .asg 2 (.c (.sl true 1 [])) .copy)])
   (.seq
    (.region [] [] [0, 3, 4] false [
      (none, .mksl 7 1 (.int .i64 0) 1 [(0, (.c (.int .i64 0)), .copy)]),
      (none, .asg 3 (.v 7) .move),
      (none, .asg 4 (.c (.int .i64 0)) .copy)])
    (.seq
     (.seq
      (.region [(8, 0, false)] [] [0, 3, 4, 8, 9, 10] false [
        (none, .mv 8 (.v 0)),
        (none, .len 9 false (.v 8)),
        (none, .mv 10 (.c (.int .i64 0)))])
      (.block 0
       (.loop
        (.seq
         (.region [(8, 0, false)] [] [0, 3, 4, 8, 9, 10, 11] false [
           (none, .bin 11 .lss (.v 10) (.v 9))])
         (.seq
          (.cond (.v 11)
           (.skip [0, 3, 4, 8, 9, 10])
           (.exit 0 [3]))
          (.seq
           (.block 1
            (.seq
             (.region [(12, 0, false), (8, 0, false)] [] [0, 3, 4, 6, 8, 9, 10] false [
               (none, .iadr 12 2 (.v 8) (.v 10)),
               (none, .load 13 true 2 (.v 12) none),
               (none, .new 6 (.agg [(.int .i64 0), (.int .i64 0)])),
               (none, .store 2 (.v 6) (.v 13) .copy)])
             (.seq
              (.region [(17, 6, false), (15, 6, false), (8, 0, false)] [] [0, 3, 4, 8, 9, 10] false [
                (none, .mv 14 (.v 4)),
                (none, .fadr 15 0 1 (.v 6)),
                (none, .load 16 false 1 (.v 15) none),
                (none, .fadr 17 1 1 (.v 6)),
                (none, .load 18 false 1 (.v 17) none),
                (none, .bin 19 .add (.v 16) (.v 18)),
                (none, .bin 20 .add (.v 14) (.v 19)),
                (none, .asg 4 (.v 20) .copy)])
              (.region [(21, 3, false), (8, 0, false)] [] [0, 3, 4, 8, 9, 10] false [
                (none, .mv 21 (.v 3)),
                (none, .mv 22 (.v 4)),
                (none, .mksl 23 1 (.int .i64 0) 1 [(0, (.v 22), .copy)]),
                (none, .app 24 1 (.v 21) (.v 23) .move),
                (none, .asg 3 (.v 24) .move)]))))
           (.region [(8, 0, false)] [] [0, 3, 4, 8, 9, 10] false [
             (none, .bin 25 .add (.v 10) (.c (.int .i64 1))),
             (none, .mv 10 (.v 25))])))))))
     (.seq
      (.region [(26, 3, false)] [] [2] false [
        (none, .mv 26 (.v 3)),
        (none, .asg 2 (.v 26) .move)])
      (.ret [2])))))⟩
def F326 : PFunc :=
 ⟨[false, false, false], [.tmp 6],
  (.seq
   (.region [] [] [0, 1, 2] false [
     (none, .asg 6 (.c (.bool false)) .copy)])
   (.seq
    (.region [] [] [6] false [
      (none, .mv 7 (.v 0)),
      (none, .mv 8 (.v 1)),
      (none, .bin 9 .geq (.v 7) (.v 8)),
      (none, .mv 10 (.v 9)),
      (some (10, true), .mv 11 (.v 0)),
      (some (10, true), .mv 12 (.v 2)),
      (some (10, true), .bin 13 .leq (.v 11) (.v 12)),
      (none, .pick 14 (.v 10) (.v 13) (.c (.bool false))),
      (none, .asg 6 (.v 14) .copy)])
    (.ret [6])))⟩
def F215 : PFunc :=
 ⟨[false], [.tmp 2],
  (.seq
   (.region [] [] [1] false [
     (none, .box 1 (.v 0) .copy),
     (none, .asg 2 (.c (.bool false)) .copy)])
   (.seq
    (.region [(8, 1, false), (3, 1, false)] [] [2] false [
      (none, .fadr 3 0 1 (.v 1)),
      (none, .load 4 false 1 (.v 3) none),
      (none, .call (some 5) 326 false [((.v 4), false), ((.c (.int .i64 1)), false), ((.c (.int .i64 10000)), false)]),
      (none, .un 6 .not (.v 5)),
      (none, .mv 7 (.v 6)),
      (some (7, false), .fadr 8 1 1 (.v 1)),
      (some (7, false), .load 9 false 1 (.v 8) none),
      (some (7, false), .call (some 10) 326 false [((.v 9), false), ((.c (.int .i64 0)), false), ((.c (.int .i64 10000)), false)]),
      (some (7, false), .un 11 .not (.v 10)),
      (none, .pick 12 (.v 7) (.c (.bool true)) (.v 11)),
      (none, .asg 2 (.v 12) .copy)])
    (.ret [2])))⟩
def F823 : PFunc :=
 ⟨[false, false], [.tmp 4],
  (.seq
   (.region [] [] [0, 1] false [
     (none, .asg 4 (.c (.int .i64 0)) .copy)])
   (.seq
    (.seq
     (.region [(6, 0, false)] [] [0, 1, 7, 8] false [
       (none, .mv 6 (.v 0)),
       (none, .len 7 false (.v 6)),
       (none, .mv 8 (.c (.int .i64 0)))])
     (.block 0
      (.loop
       (.seq
        (.region [] [] [0, 1, 7, 8, 9] false [
          (none, .bin 9 .lss (.v 8) (.v 7))])
        (.seq
         (.cond (.v 9)
          (.skip [0, 1, 7, 8])
          (.exit 0 []))
         (.seq
          (.block 1
           (.seq
            (.region [] [] [0, 1, 5, 7, 8] false [
              (none, .mv 10 (.v 8)),
              (none, .asg 5 (.v 10) .copy)])
            (.seq
             (.region [(14, 0, false), (12, 0, false), (11, 1, false)] [] [0, 1, 5, 7, 8, 16] false [
               (none, .mv 11 (.v 1)),
               (none, .mv 12 (.v 0)),
               (none, .mv 13 (.v 5)),
               (none, .iadr 14 2 (.v 12) (.v 13)),
               (none, .load 15 true 2 (.v 14) none),
               (none, .callv (some 16) (.v 11) [(.v 15)])])
             (.cond (.v 16)
              (.seq
               (.region [] [] [4] false [
                 (none, .mv 17 (.v 5)),
                 (none, .asg 4 (.v 17) .copy)])
               (.ret [4]))
              (.skip [0, 1, 7, 8])))))
          (.region [] [] [0, 1, 7, 8] false [
            (none, .bin 18 .add (.v 8) (.c (.int .i64 1))),
            (none, .mv 8 (.v 18))])))))))
    (.seq
     (.region [] [] [4] false [
       (none, .asg 4 (.c (.int .i64 (-1))) .copy)])
     (.ret [4]))))⟩
def F801 : PFunc :=
 ⟨[false, false], [.tmp 4],
  (.seq
   (.region [] [] [0, 1] false [
     (none, .asg 4 (.c (.bool false)) .copy)])
   (.seq
    (.region [(6, 1, false), (5, 0, false)] [] [4] false [
      (none, .mv 5 (.v 0)),
      (none, .mv 6 (.v 1)),
      (none, .call (some 7) 823 false [((.v 5), false), ((.v 6), false)]),
      (none, .bin 8 .geq (.v 7) (.c (.int .i64 0))),
      (none, .asg 4 (.v 8) .copy)])
    (.ret [4])))⟩
def F214 : PFunc :=
 ⟨[false], [.tmp 2],
  (.seq
   (.region [] [] [0] false [
     (none, .asg 2 (.c (.bool false)) .copy)])
   (.seq
    (.region [(7, 0, false), (3, 0, false)] [] [2] false [
      (none, .mv 3 (.v 0)),
      (none, .len 4 false (.v 3)),
      (none, .bin 5 .leq (.v 4) (.c (.int .i64 60))),
      (none, .mv 6 (.v 5)),
      (some (6, true), .mv 7 (.v 0)),
      (some (6, true), .call (some 8) 801 false [((.v 7), false), ((.c (.fn 215 [])), false)]),
      (some (6, true), .un 9 .not (.v 8)),
      (none, .pick 10 (.v 6) (.v 9) (.c (.bool false))),
      (none, .asg 2 (.v 10) .copy)])
    (.ret [2])))⟩
def F267 : PFunc :=
 ⟨[false, false], [.tmp 4],
  (.seq
   (.region [] [] [0, 1] false [
     (none, .asg 4 (.c (.int .i64 0)) .copy)])
   (.seq
    (.block 0
     (.seq
      (.region [(6, 0, false)] [] [1, 5] false [
        (none, .mv 6 (.v 0)),
        (none, .call (some 7) 214 false [((.v 6), false)]),
        (none, .un 8 .not (.v 7)),
        (none, .asg 5 (.v 8) .copy)])
      (.cond (.v 5)
       (.seq
        (.region [] [] [4] false [
          (none, .asg 4 (.c (.int .i64 1)) .copy)])
        (.ret [4]))
       (.seq
        (.region [] [] [9] false [
          (none, .mv 10 (.v 1)),
          (none, .call (some 11) 326 false [((.v 10), false), ((.c (.int .i64 0)), false), ((.c (.int .i64 500)), false)]),
          (none, .un 12 .not (.v 11)),
          (none, .asg 9 (.v 12) .copy)])
        (.cond (.v 9)
         (.seq
          (.region [] [] [4] false [
            (none, .asg 4 (.c (.int .i64 2)) .copy)])
          (.ret [4]))
         (.skip []))))))
    (.seq
     (.region [] [] [4] false [
       (none, .asg 4 (.c (.int .i64 0)) .copy)])
     (.ret [4]))))⟩
def F303 : PFunc :=
 ⟨[false, false, false], [.tmp 6],
  (.seq
   (.region [] [] [0, 1, 2] false [
     (none, .asg 6 (.c (.sl true 1 [])) .copy)])
   (.seq
    (.region [(12, 0, false)] [] [0, 1, 2, 7, 8] false [
      (none, .mksl 11 1 (.int .i64 0) 0 []),
      (none, .mv 12 (.v 0)),
      (none, .call (some 13) 247 false [((.v 12), false)]),
      (none, .asg 7 (.v 11) .move),
      (none, .asg 8 (.v 13) .move)])
    (.seq
     (.seq
      (.region [(14, 0, false)] [] [0, 1, 2, 7, 8, 14, 15, 16] false [
        (none, .mv 14 (.v 0)),
        (none, .len 15 false (.v 14)),
        (none, .mv 16 (.c (.int .i64 0)))])
      (.block 0
       (.loop
        (.seq
         (.region [(14, 0, false)] [] [0, 1, 2, 7, 8, 14, 15, 16, 17] false [
           (none, .bin 17 .lss (.v 16) (.v 15))])
         (.seq
          (.cond (.v 17)
           (.skip [0, 1, 2, 7, 8, 14, 15, 16])
           (.exit 0 [7]))
          (.seq
           (.block 1
            (.seq
             (.region [(19, 0, false), (14, 0, false)] [] [0, 1, 2, 7, 8, 9, 10, 14, 15, 16] false [
               (none, .mv 18 (.v 16)),
               (none, .iadr 19 2 (.v 14) (.v 16)),
               (none, .load 20 true 2 (.v 19) none),
               (none, .new 10 (.agg [(.int .i64 0), (.int .i64 0)])),
               (none, .asg 9 (.v 18) .copy),
               (none, .store 2 (.v 10) (.v 20) .copy)])
             (.seq
              (.region [(33, 10, false), (31, 8, false), (29, 8, false), (23, 8, false), (21, 8, false), (14, 0, false)] [] [0, 1, 2, 7, 8, 9, 14, 15, 16, 39] true [
                (none, .mv 21 (.v 8)),
                (none, .mv 22 (.v 9)),
                (none, .iadr 23 1 (.v 21) (.v 22)),
                (none, .load 24 false 1 (.v 23) none),
                (none, .mv 25 (.v 2)),
                (none, .bin 26 .leq (.v 24) (.v 25)),
                (none, .mv 27 (.v 26)),
                (some (27, true), .mv 28 (.v 2)),
                (some (27, true), .mv 29 (.v 8)),
                (some (27, true), .mv 30 (.v 9)),
                (some (27, true), .iadr 31 1 (.v 29) (.v 30)),
                (some (27, true), .load 32 false 1 (.v 31) none),
                (some (27, true), .fadr 33 0 1 (.v 10)),
                (some (27, true), .load 34 false 1 (.v 33) none),
                (some (27, true), .bin 35 .add (.v 32) (.v 34)),
                (some (27, true), .mv 36 (.v 1)),
                (some (27, true), .bin 37 .add (.v 35) (.v 36)),
                (some (27, true), .bin 38 .lss (.v 28) (.v 37)),
                (none, .pick 39 (.v 27) (.v 38) (.c (.bool false)))])
              (.cond (.v 39)
               (.region [(40, 7, false), (14, 0, false)] [] [0, 1, 2, 7, 8, 14, 15, 16] false [
                 (none, .mv 40 (.v 7)),
                 (none, .mv 41 (.v 9)),
                 (none, .mksl 42 1 (.int .i64 0) 1 [(0, (.v 41), .copy)]),
                 (none, .app 43 1 (.v 40) (.v 42) .move),
                 (none, .asg 7 (.v 43) .move)])
               (.skip [0, 1, 2, 7, 8, 14, 15, 16])))))
           (.region [(14, 0, false)] [] [0, 1, 2, 7, 8, 14, 15, 16] false [
             (none, .bin 44 .add (.v 16) (.c (.int .i64 1))),
             (none, .mv 16 (.v 44))])))))))
     (.seq
      (.region [(45, 7, false)] [] [6] false [
        (none, .mv 45 (.v 7)),
        (none, .asg 6 (.v 45) .move)])
      (.ret [6])))))⟩
def F56 : PFunc :=
 ⟨[false, false], [.tmp 4, .tmp 5],
  (.seq
   (.region [] [] [0, 1] false [
     (none, .asg 4 (.c (.int .i64 0)) .copy),
     (none, .asg 5 (.c (.int .i64 0)) .copy)])
   (.seq
    (.seq
     (.region [(10, 0, false)] [] [0, 1, 6] false [
       (none, .mv 10 (.v 0)),
       (none, .mv 11 (.v 1)),
       (none, .call (some 12) 267 false [((.v 10), false), ((.v 11), false)]),
       (none, .asg 6 (.v 12) .copy)])
     (.seq
      (.region [] [] [0, 1, 6, 14] false [
        (none, .mv 13 (.v 6)),
        (none, .bin 14 .neq (.v 13) (.c (.int .i64 0)))])
      (.cond (.v 14)
       (.seq
        (.region [] [] [4, 5] false [
          (none, .mv 15 (.v 6)),
          (none, .asg 4 (.c (.int .i64 0)) .copy),
          (none, .asg 5 (.v 15) .copy)])
        (.ret [4, 5]))
       (.skip [0, 1]))))
    (.seq
     (.region [] [] [0, 1, 7] false [
       (none, .asg 7 (.c (.int .i64 0)) .copy)])
     (.seq
      (.seq
       (.region [(16, 0, false)] [] [0, 1, 7, 17, 18, 19] false [
         (none, .mv 16 (.v 0)),
         (none, .call (some 17) 247 false [((.v 16), false)]),
         (none, .len 18 false (.v 17)),
         (none, .mv 19 (.c (.int .i64 0)))])
       (.block 0
        (.loop
         (.seq
          (.region [] [] [0, 1, 7, 17, 18, 19, 20] false [
            (none, .bin 20 .lss (.v 19) (.v 18))])
          (.seq
           (.cond (.v 20)
            (.skip [0, 1, 7, 17, 18, 19])
            (.exit 0 [7]))
           (.seq
            (.block 1
             (.seq
              (.region [(21, 17, false)] [] [0, 1, 7, 9, 17, 18, 19] false [
                (none, .iadr 21 1 (.v 17) (.v 19)),
                (none, .load 22 false 1 (.v 21) none),
                (none, .asg 9 (.v 22) .copy)])
              (.region [(24, 0, false)] [] [0, 1, 7, 17, 18, 19] false [
                (none, .mv 23 (.v 7)),
                (none, .mv 24 (.v 0)),
                (none, .mv 25 (.v 1)),
                (none, .mv 26 (.v 9)),
                (none, .call (some 27) 303 false [((.v 24), false), ((.v 25), false), ((.v 26), false)]),
                (none, .len 28 false (.v 27)),
                (none, .mm 29 true (.v 23) [(.v 28)]),
                (none, .asg 7 (.v 29) .copy)])))
            (.region [] [] [0, 1, 7, 17, 18, 19] false [
              (none, .bin 30 .add (.v 19) (.c (.int .i64 1))),
              (none, .mv 19 (.v 30))])))))))
      (.seq
       (.region [] [] [4, 5] false [
         (none, .mv 31 (.v 7)),
         (none, .asg 4 (.v 31) .copy),
         (none, .asg 5 (.c (.int .i64 0)) .copy)])
       (.ret [4, 5]))))))⟩
def F268 : PFunc :=
 ⟨[false, false], [.tmp 4],
  (.seq
   (.region [] [] [0, 1] false [
     (none, .asg 4 (.c (.int .i64 0)) .copy)])
   (.seq
    (.region [(10, 0, false)] [] [0, 1, 5, 6, 7] false [
      (none, .mv 10 (.v 0)),
      (none, .call (some 11) 247 false [((.v 10), false)]),
      (none, .asg 5 (.c (.int .i64 0)) .copy),
      (none, .asg 6 (.c (.int .i64 0)) .copy),
      (none, .asg 7 (.v 11) .move)])
    (.seq
     (.seq
      (.region [(12, 0, false)] [] [0, 1, 5, 6, 7, 12, 13, 14] false [
        (none, .mv 12 (.v 0)),
        (none, .len 13 false (.v 12)),
        (none, .mv 14 (.c (.int .i64 0)))])
      (.block 0
       (.loop
        (.seq
         (.region [(12, 0, false)] [] [0, 1, 5, 6, 7, 12, 13, 14, 15] false [
           (none, .bin 15 .lss (.v 14) (.v 13))])
         (.seq
          (.cond (.v 15)
           (.skip [0, 1, 5, 6, 7, 12, 13, 14])
           (.exit 0 [0, 5, 6, 7]))
          (.seq
           (.block 1
            (.seq
             (.region [(17, 0, false), (12, 0, false)] [] [0, 1, 5, 6, 7, 8, 9, 12, 13, 14] false [
               (none, .mv 16 (.v 14)),
               (none, .iadr 17 2 (.v 12) (.v 14)),
               (none, .load 18 true 2 (.v 17) none),
               (none, .new 9 (.agg [(.int .i64 0), (.int .i64 0)])),
               (none, .asg 8 (.v 16) .copy),
               (none, .store 2 (.v 9) (.v 18) .copy)])
             (.seq
              (.region [(22, 7, false), (20, 7, false), (12, 0, false)] [] [0, 1, 5, 6, 7, 8, 9, 12, 13, 14] false [
                (none, .mv 19 (.v 5)),
                (none, .mv 20 (.v 7)),
                (none, .mv 21 (.v 8)),
                (none, .iadr 22 1 (.v 20) (.v 21)),
                (none, .load 23 false 1 (.v 22) none),
                (none, .mv 24 (.v 6)),
                (none, .bin 25 .sub (.v 23) (.v 24)),
                (none, .mm 26 true (.v 25) [(.c (.int .i64 0))]),
                (none, .bin 27 .add (.v 19) (.v 26)),
                (none, .asg 5 (.v 27) .copy)])
              (.region [(33, 9, false), (31, 7, false), (29, 7, false), (12, 0, false)] [] [0, 1, 5, 6, 7, 12, 13, 14] true [
                (none, .mv 28 (.v 6)),
                (none, .mv 29 (.v 7)),
                (none, .mv 30 (.v 8)),
                (none, .iadr 31 1 (.v 29) (.v 30)),
                (none, .load 32 false 1 (.v 31) none),
                (none, .fadr 33 0 1 (.v 9)),
                (none, .load 34 false 1 (.v 33) none),
                (none, .bin 35 .add (.v 32) (.v 34)),
                (none, .mv 36 (.v 1)),
                (none, .bin 37 .add (.v 35) (.v 36)),
                (none, .mm 38 true (.v 28) [(.v 37)]),
                (none, .asg 6 (.v 38) .copy)]))))
           (.region [(12, 0, false)] [] [0, 1, 5, 6, 7, 12, 13, 14] false [
             (none, .bin 39 .add (.v 14) (.c (.int .i64 1))),
             (none, .mv 14 (.v 39))])))))))
     (.seq
      (.region [(44, 7, false), (42, 0, false), (41, 7, false)] [] [4] false [
        (none, .mv 40 (.v 5)),
        (none, .mv 41 (.v 7)),
        (none, .mv 42 (.v 0)),
        (none, .len 43 false (.v 42)),
        (none, .iadr 44 1 (.v 41) (.v 43)),
        (none, .load 45 false 1 (.v 44) none),
        (none, .mv 46 (.v 6)),
        (none, .bin 47 .sub (.v 45) (.v 46)),
        (none, .mm 48 true (.v 47) [(.c (.int .i64 0))]),
        (none, .bin 49 .add (.v 40) (.v 48)),
        (none, .asg 4 (.v 49) .copy)])
      (.ret [4])))))⟩
def F105 : PFunc :=
 ⟨[false, false], [.tmp 4, .tmp 5],
  (.seq
   (.region [] [] [0, 1] false [
     (none, .asg 4 (.c (.int .i64 0)) .copy),
     (none, .asg 5 (.c (.int .i64 0)) .copy)])
   (.seq
    (.seq
     (.region [(7, 0, false)] [] [0, 1, 6] false [
       (none, .mv 7 (.v 0)),
       (none, .mv 8 (.v 1)),
       (none, .call (some 9) 267 false [((.v 7), false), ((.v 8), false)]),
       (none, .asg 6 (.v 9) .copy)])
     (.seq
      (.region [] [] [0, 1, 6, 11] false [
        (none, .mv 10 (.v 6)),
        (none, .bin 11 .neq (.v 10) (.c (.int .i64 0)))])
      (.cond (.v 11)
       (.seq
        (.region [] [] [4, 5] false [
          (none, .mv 12 (.v 6)),
          (none, .asg 4 (.c (.int .i64 0)) .copy),
          (none, .asg 5 (.v 12) .copy)])
        (.ret [4, 5]))
       (.skip [0, 1]))))
    (.seq
     (.region [(13, 0, false)] [] [4, 5] false [
       (none, .mv 13 (.v 0)),
       (none, .mv 14 (.v 1)),
       (none, .call (some 15) 268 false [((.v 13), false), ((.v 14), false)]),
       (none, .asg 4 (.v 15) .copy),
       (none, .asg 5 (.c (.int .i64 0)) .copy)])
     (.ret [4, 5]))))⟩
def F269 : PFunc :=
 ⟨[false, false], [.tmp 4],
  (.seq
   (.region [] [] [0, 1] false [
     (none, .asg 4 (.c (.int .i64 0)) .copy)])
   (.seq
    (.block 0
     (.loop
      (.seq
       (.seq
        (.region [] [] [0, 1, 6] false [
          (none, .mv 5 (.v 1)),
          (none, .bin 6 .neq (.v 5) (.c (.int .i64 0)))])
        (.cond (.v 6)
         (.skip [0, 1])
         (.exit 0 [0])))
       (.block 1
        (.region [] [] [0, 1] true [
          (none, .mv 7 (.v 1)),
          (none, .mv 8 (.v 0)),
          (none, .mv 9 (.v 1)),
          (none, .bin 10 .rem (.v 8) (.v 9)),
          (none, .asg 0 (.v 7) .copy),
          (none, .asg 1 (.v 10) .copy)])))))
    (.seq
     (.region [] [] [4] false [
       (none, .mv 11 (.v 0)),
       (none, .mv 12 (.v 0)),
       (none, .un 13 .neg (.v 12)),
       (none, .mm 14 true (.v 11) [(.v 13)]),
       (none, .asg 4 (.v 14) .copy)])
     (.ret [4]))))⟩
def F292 : PFunc :=
 ⟨[false, false], [.cell 4 true 2],
  (.seq
   (.region [] [] [0, 1, 4] false [
     (none, .new 4 (.agg [(.int .i64 0), (.int .i64 0)]))])
   (.seq
    (.seq
     (.region [] [] [0, 1, 4, 7] false [
       (none, .mv 6 (.v 1)),
       (none, .bin 7 .lss (.v 6) (.c (.int .i64 0)))])
     (.cond (.v 7)
      (.region [] [] [0, 1, 4] false [
        (none, .mv 8 (.v 0)),
        (none, .un 9 .neg (.v 8)),
        (none, .mv 10 (.v 1)),
        (none, .un 11 .neg (.v 10)),
        (none, .asg 0 (.v 9) .copy),
        (none, .asg 1 (.v 11) .copy)])
      (.skip [0, 1, 4])))
    (.seq
     (.region [] [] [0, 1, 4, 5] false [
       (none, .mv 12 (.v 0)),
       (none, .mv 13 (.v 1)),
       (none, .call (some 14) 269 false [((.v 12), false), ((.v 13), false)]),
       (none, .asg 5 (.v 14) .copy)])
     (.seq
      (.region [] [] [4] true [
        (none, .mv 15 (.v 0)),
        (none, .mv 16 (.v 5)),
        (none, .bin 17 .quo (.v 15) (.v 16)),
        (none, .mv 18 (.v 1)),
        (none, .mv 19 (.v 5)),
        (none, .bin 20 .quo (.v 18) (.v 19)),
        (none, .build 21 [(.int .i64 0), (.int .i64 0)] [(0, 1, (.v 17), .copy), (1, 1, (.v 20), .copy)]),
        (none, .store 2 (.v 4) (.v 21) .copy)])
      (.ret [4])))))⟩
def F318 : PFunc :=
 ⟨[false], [.tmp 2],
  (.seq
   (.region [] [] [0] false [
     (none, .asg 2 (.c (.int .i64 0)) .copy)])
   (.seq
    (.region [(7, 4, false), (5, 0, false), (3, 0, false)] [] [2] false [
      (none, .mv 3 (.v 0)),
      (none, .call (some 4) 247 false [((.v 3), false)]),
      (none, .mv 5 (.v 0)),
      (none, .len 6 false (.v 5)),
      (none, .iadr 7 1 (.v 4) (.v 6)),
      (none, .load 8 false 1 (.v 7) none),
      (none, .asg 2 (.v 8) .copy)])
    (.ret [2])))⟩
def F131 : PFunc :=
 ⟨[false], [.cell 2 true 2, .tmp 3],
  (.seq
   (.region [] [] [0, 2] false [
     (none, .new 2 (.agg [(.int .i64 0), (.int .i64 0)])),
     (none, .asg 3 (.c (.int .i64 0)) .copy)])
   (.seq
    (.block 0
     (.seq
      (.region [(8, 0, false)] [] [0, 2, 7] false [
        (none, .mv 8 (.v 0)),
        (none, .call (some 9) 214 false [((.v 8), false)]),
        (none, .un 10 .not (.v 9)),
        (none, .asg 7 (.v 10) .copy)])
      (.cond (.v 7)
       (.seq
        (.region [] [] [2, 3] false [
          (none, .build 11 [(.int .i64 0), (.int .i64 0)] []),
          (none, .store 2 (.v 2) (.v 11) .copy),
          (none, .asg 3 (.c (.int .i64 1)) .copy)])
        (.ret [2, 3]))
       (.seq
        (.region [(13, 0, false)] [] [0, 2, 12] false [
          (none, .mv 13 (.v 0)),
          (none, .len 14 false (.v 13)),
          (none, .bin 15 .eql (.v 14) (.c (.int .i64 0))),
          (none, .asg 12 (.v 15) .copy)])
        (.cond (.v 12)
         (.seq
          (.region [] [] [2, 3] false [
            (none, .build 16 [(.int .i64 0), (.int .i64 0)] []),
            (none, .store 2 (.v 2) (.v 16) .copy),
            (none, .asg 3 (.c (.int .i64 3)) .copy)])
          (.ret [2, 3]))
         (.skip [0, 2]))))))
    (.seq
     (.region [] [] [0, 2, 4] false [
       (none, .asg 4 (.c (.int .i64 0)) .copy)])
     (.seq
      (.seq
       (.region [(17, 0, false)] [] [0, 2, 4, 17, 18, 19] false [
         (none, .mv 17 (.v 0)),
         (none, .len 18 false (.v 17)),
         (none, .mv 19 (.c (.int .i64 0)))])
       (.block 1
        (.loop
         (.seq
          (.region [(17, 0, false)] [] [0, 2, 4, 17, 18, 19, 20] false [
            (none, .bin 20 .lss (.v 19) (.v 18))])
          (.seq
           (.cond (.v 20)
            (.skip [0, 2, 4, 17, 18, 19])
            (.exit 1 [0, 2, 4]))
           (.seq
            (.block 2
             (.seq
              (.region [(21, 0, false), (17, 0, false)] [] [0, 2, 4, 6, 17, 18, 19] false [
                (none, .iadr 21 2 (.v 17) (.v 19)),
                (none, .load 22 true 2 (.v 21) none),
                (none, .new 6 (.agg [(.int .i64 0), (.int .i64 0)])),
                (none, .store 2 (.v 6) (.v 22) .copy)])
              (.region [(24, 6, false), (17, 0, false)] [] [0, 2, 4, 17, 18, 19] false [
                (none, .mv 23 (.v 4)),
                (none, .fadr 24 0 1 (.v 6)),
                (none, .load 25 false 1 (.v 24) none),
                (none, .bin 26 .add (.v 23) (.v 25)),
                (none, .asg 4 (.v 26) .copy)])))
            (.region [(17, 0, false)] [] [0, 2, 4, 17, 18, 19] false [
              (none, .bin 27 .add (.v 19) (.c (.int .i64 1))),
              (none, .mv 19 (.v 27))])))))))
      (.seq
       (.region [(29, 0, false)] [] [2, 3] false [
         (none, .mv 28 (.v 4)),
         (none, .mv 29 (.v 0)),
         (none, .call (some 30) 318 false [((.v 29), false)]),
         (none, .call (some 31) 292 false [((.v 28), false), ((.v 30), false)]),
         (none, .store 2 (.v 2) (.v 31) .copy),
         (none, .asg 3 (.c (.int .i64 0)) .copy)])
       (.ret [2, 3]))))))⟩
def F177 : PFunc :=
 ⟨[false, false, false], [.tmp 6, .tmp 7],
  (.seq
   (.region [] [] [0, 1, 2] false [
     (none, .asg 6 (.c (.sl true 1 [])) .copy),
     (none, .asg 7 (.c (.int .i64 0)) .copy)])
   (.seq
    (.region [(9, 0, false)] [] [0, 1, 2, 8] false [
      (none, .mv 9 (.v 0)),
      (none, .mv 10 (.v 1)),
      (none, .call (some 11) 267 false [((.v 9), false), ((.v 10), false)]),
      (none, .asg 8 (.v 11) .copy)])
    (.seq
     (.seq
      (.region [] [] [0, 1, 2, 8, 18] false [
        (none, .mv 12 (.v 8)),
        (none, .bin 13 .eql (.v 12) (.c (.int .i64 0))),
        (none, .mv 14 (.v 13)),
        (some (14, true), .mv 15 (.v 2)),
        (some (14, true), .call (some 16) 326 false [((.v 15), false), ((.c (.int .i64 0)), false), ((.c (.int .i64 10000000)), false)]),
        (some (14, true), .un 17 .not (.v 16)),
        (none, .pick 18 (.v 14) (.v 17) (.c (.bool false)))])
      (.cond (.v 18)
       (.region [] [] [0, 1, 2, 8] false [
         (none, .asg 8 (.c (.int .i64 2)) .copy)])
       (.skip [0, 1, 2, 8])))
     (.seq
      (.seq
       (.region [] [] [0, 1, 2, 8, 20] false [
         (none, .mv 19 (.v 8)),
         (none, .bin 20 .neq (.v 19) (.c (.int .i64 0)))])
       (.cond (.v 20)
        (.seq
         (.region [] [] [6, 7] false [
           (none, .mv 21 (.v 8)),
           (none, .asg 6 (.c (.sl true 1 [])) .copy),
           (none, .asg 7 (.v 21) .copy)])
         (.ret [6, 7]))
        (.skip [0, 1, 2])))
      (.seq
       (.region [(22, 0, false)] [] [6, 7] false [
         (none, .mv 22 (.v 0)),
         (none, .mv 23 (.v 1)),
         (none, .mv 24 (.v 2)),
         (none, .call (some 25) 303 false [((.v 22), false), ((.v 23), false), ((.v 24), false)]),
         (none, .asg 6 (.v 25) .move),
         (none, .asg 7 (.c (.int .i64 0)) .copy)])
       (.ret [6, 7]))))))⟩
def F201 : PFunc :=
 ⟨[false], [.tmp 2, .tmp 3],
  (.seq
   (.region [] [] [0] false [
     (none, .asg 2 (.c (.int .i64 0)) .copy),
     (none, .asg 3 (.c (.int .i64 0)) .copy)])
   (.seq
    (.seq
     (.region [(4, 0, false)] [] [0, 6] false [
       (none, .mv 4 (.v 0)),
       (none, .call (some 5) 214 false [((.v 4), false)]),
       (none, .un 6 .not (.v 5))])
     (.cond (.v 6)
      (.seq
       (.region [] [] [2, 3] false [
         (none, .asg 2 (.c (.int .i64 0)) .copy),
         (none, .asg 3 (.c (.int .i64 1)) .copy)])
       (.ret [2, 3]))
      (.skip [0])))
    (.seq
     (.region [(7, 0, false)] [] [2, 3] false [
       (none, .mv 7 (.v 0)),
       (none, .call (some 8) 318 false [((.v 7), false)]),
       (none, .asg 2 (.v 8) .copy),
       (none, .asg 3 (.c (.int .i64 0)) .copy)])
     (.ret [2, 3]))))⟩
def F398 : PFunc :=
 ⟨[false], [.tmp 2],
  (.seq
   (.region [] [] [0] false [
     (none, .asg 2 (.c (.bool false)) .copy)])
   (.seq
    (.region [(3, 0, false)] [] [2] false [
      (none, .mv 3 (.v 0)),
      (none, .len 4 false (.v 3)),
      (none, .bin 5 .gtr (.v 4) (.c (.int .i64 4096))),
      (none, .asg 2 (.v 5) .copy)])
    (.ret [2])))⟩
def F606 : PFunc :=
 ⟨[false, false], [.tmp 4],
  (.seq
   (.region [] [] [0, 1] false [
     (none, .asg 4 (.c (.int .i64 0)) .copy)])
   (.seq
    (.seq
     (.region [] [] [0, 1, 7] false [
       (none, .mv 5 (.v 0)),
       (none, .mv 6 (.v 1)),
       (none, .bin 7 .gtr (.v 5) (.v 6))])
     (.cond (.v 7)
      (.seq
       (.region [] [] [4] false [
         (none, .mv 8 (.v 0)),
         (none, .asg 4 (.v 8) .copy)])
       (.ret [4]))
      (.skip [1])))
    (.seq
     (.region [] [] [4] false [
       (none, .mv 9 (.v 1)),
       (none, .asg 4 (.v 9) .copy)])
     (.ret [4]))))⟩
def F605 : PFunc :=
 ⟨[false, false, false], [.tmp 6],
  (.seq
   (.region [] [] [0, 1, 2] false [
     (none, .asg 6 (.c (.bool false)) .copy)])
   (.seq
    (.region [] [] [6] false [
      (none, .mv 7 (.v 0)),
      (none, .mv 8 (.v 1)),
      (none, .bin 9 .geq (.v 7) (.v 8)),
      (none, .mv 10 (.v 9)),
      (some (10, true), .mv 11 (.v 0)),
      (some (10, true), .mv 12 (.v 2)),
      (some (10, true), .bin 13 .leq (.v 11) (.v 12)),
      (none, .pick 14 (.v 10) (.v 13) (.c (.bool false))),
      (none, .asg 6 (.v 14) .copy)])
    (.ret [6])))⟩
def F725 : PFunc :=
 ⟨[false], [.tmp 2],
  (.seq
   (.region [] [] [0] false [
     (none, .asg 2 (.c (.bool false)) .copy)])
   (.seq
    (.seq
     (.region [] [] [0, 3] false [
       (none, .asg 3 (.c (.int .i64 0)) .copy)])
     (.block 0
      (.loop
       (.seq
        (.seq
         (.region [(5, 0, false)] [] [0, 3, 7] false [
           (none, .mv 4 (.v 3)),
           (none, .mv 5 (.v 0)),
           (none, .len 6 false (.v 5)),
           (none, .bin 7 .lss (.v 4) (.v 6))])
         (.cond (.v 7)
          (.skip [0, 3])
          (.exit 0 [0])))
        (.seq
         (.block 1
          (.seq
           (.region [(21, 0, false), (20, 0, false), (18, 0, false), (13, 0, false), (12, 0, false), (10, 0, false)] [] [0, 3, 25] false [
             (none, .mv 10 (.v 0)),
             (none, .mv 11 (.v 3)),
             (none, .iadr 12 2 (.v 10) (.v 11)),
             (none, .fadr 13 0 1 (.v 12)),
             (none, .load 14 false 1 (.v 13) none),
             (none, .call (some 15) 605 false [((.v 14), false), ((.c (.int .i64 1)), false), ((.c (.int .i64 10000)), false)]),
             (none, .un 16 .not (.v 15)),
             (none, .mv 17 (.v 16)),
             (some (17, false), .mv 18 (.v 0)),
             (some (17, false), .mv 19 (.v 3)),
             (some (17, false), .iadr 20 2 (.v 18) (.v 19)),
             (some (17, false), .fadr 21 1 1 (.v 20)),
             (some (17, false), .load 22 false 1 (.v 21) none),
             (some (17, false), .call (some 23) 605 false [((.v 22), false), ((.c (.int .i64 0)), false), ((.c (.int .i64 10000)), false)]),
             (some (17, false), .un 24 .not (.v 23)),
             (none, .pick 25 (.v 17) (.c (.bool true)) (.v 24))])
           (.cond (.v 25)
            (.seq
             (.region [] [] [2] false [
               (none, .asg 2 (.c (.bool false)) .copy)])
             (.ret [2]))
            (.skip [0, 3]))))
         (.region [] [] [0, 3] false [
           (none, .mv 8 (.v 3)),
           (none, .bin 9 .add (.v 8) (.c (.int .i64 1))),
           (none, .asg 3 (.v 9) .copy)]))))))
    (.seq
     (.region [(26, 0, false)] [] [2] false [
       (none, .mv 26 (.v 0)),
       (none, .len 27 false (.v 26)),
       (none, .bin 28 .leq (.v 27) (.c (.int .i64 60))),
       (none, .asg 2 (.v 28) .copy)])
     (.ret [2]))))⟩
def F726 : PFunc :=
 ⟨[false], [.tmp 2],
  (.seq
   (.region [] [] [0] false [
     (none, .asg 2 (.c (.bool false)) .copy)])
   (.seq
    (.region [] [] [2] false [
      (none, .mv 3 (.v 0)),
      (none, .call (some 4) 605 false [((.v 3), false), ((.c (.int .i64 0)), false), ((.c (.int .i64 500)), false)]),
      (none, .asg 2 (.v 4) .copy)])
    (.ret [2])))⟩
def F727 : PFunc :=
 ⟨[false, false, false], [.tmp 6],
  (.seq
   (.region [] [] [0, 1, 2] false [
     (none, .asg 6 (.c (.sl true 1 [])) .copy)])
   (.seq
    (.region [] [] [0, 1, 2, 7] false [
      (none, .mksl 10 1 (.int .i64 0) 0 []),
      (none, .asg 7 (.v 10) .move)])
    (.seq
     (.region [] [] [0, 1, 2, 7, 8] false [
       (none, .asg 8 (.c (.int .i64 0)) .copy)])
     (.seq
      (.seq
       (.region [] [] [0, 1, 2, 7, 8, 9] false [
         (none, .asg 9 (.c (.int .i64 0)) .copy)])
       (.block 0
        (.loop
         (.seq
          (.seq
           (.region [(12, 0, false)] [] [0, 1, 2, 7, 8, 9, 14] false [
             (none, .mv 11 (.v 9)),
             (none, .mv 12 (.v 0)),
             (none, .len 13 false (.v 12)),
             (none, .bin 14 .lss (.v 11) (.v 13))])
           (.cond (.v 14)
            (.skip [0, 1, 2, 7, 8, 9])
            (.exit 0 [7])))
          (.seq
           (.block 1
            (.seq
             (.seq
              (.region [(23, 0, false), (22, 0, false), (20, 0, false)] [] [0, 1, 2, 7, 8, 9, 29] false [
                (none, .mv 17 (.v 2)),
                (none, .mv 18 (.v 8)),
                (none, .mv 19 (.v 8)),
                (none, .mv 20 (.v 0)),
                (none, .mv 21 (.v 9)),
                (none, .iadr 22 2 (.v 20) (.v 21)),
                (none, .fadr 23 0 1 (.v 22)),
                (none, .load 24 false 1 (.v 23) none),
                (none, .bin 25 .add (.v 19) (.v 24)),
                (none, .mv 26 (.v 1)),
                (none, .bin 27 .add (.v 25) (.v 26)),
                (none, .bin 28 .sub (.v 27) (.c (.int .i64 1))),
                (none, .call (some 29) 605 false [((.v 17), false), ((.v 18), false), ((.v 28), false)])])
              (.cond (.v 29)
               (.region [(30, 7, false)] [] [0, 1, 2, 7, 8, 9] false [
                 (none, .mv 30 (.v 7)),
                 (none, .mv 31 (.v 9)),
                 (none, .mksl 32 1 (.int .i64 0) 1 [(0, (.v 31), .copy)]),
                 (none, .app 33 1 (.v 30) (.v 32) .move),
                 (none, .asg 7 (.v 33) .move)])
               (.skip [0, 1, 2, 7, 8, 9])))
             (.region [(43, 0, false), (42, 0, false), (40, 0, false), (38, 0, false), (37, 0, false), (35, 0, false)] [] [0, 1, 2, 7, 8, 9] true [
               (none, .mv 34 (.v 8)),
               (none, .mv 35 (.v 0)),
               (none, .mv 36 (.v 9)),
               (none, .iadr 37 2 (.v 35) (.v 36)),
               (none, .fadr 38 0 1 (.v 37)),
               (none, .load 39 false 1 (.v 38) none),
               (none, .mv 40 (.v 0)),
               (none, .mv 41 (.v 9)),
               (none, .iadr 42 2 (.v 40) (.v 41)),
               (none, .fadr 43 1 1 (.v 42)),
               (none, .load 44 false 1 (.v 43) none),
               (none, .bin 45 .add (.v 39) (.v 44)),
               (none, .bin 46 .add (.v 34) (.v 45)),
               (none, .asg 8 (.v 46) .copy)])))
           (.region [] [] [0, 1, 2, 7, 8, 9] false [
             (none, .mv 15 (.v 9)),
             (none, .bin 16 .add (.v 15) (.c (.int .i64 1))),
             (none, .asg 9 (.v 16) .copy)]))))))
      (.seq
       (.region [(47, 7, false)] [] [6] false [
         (none, .mv 47 (.v 7)),
         (none, .asg 6 (.v 47) .move)])
       (.ret [6]))))))⟩
def F443 : PFunc :=
 ⟨[false, false], [.tmp 4, .tmp 5],
  (.seq
   (.region [] [] [0, 1] false [
     (none, .asg 4 (.c (.int .i64 0)) .copy),
     (none, .asg 5 (.c (.int .i64 0)) .copy)])
   (.seq
    (.seq
     (.region [(9, 0, false)] [] [0, 1, 11] false [
       (none, .mv 9 (.v 0)),
       (none, .call (some 10) 725 false [((.v 9), false)]),
       (none, .un 11 .not (.v 10))])
     (.cond (.v 11)
      (.seq
       (.region [] [] [4, 5] false [
         (none, .asg 4 (.c (.int .i64 0)) .copy),
         (none, .asg 5 (.c (.int .i64 1)) .copy)])
       (.ret [4, 5]))
      (.skip [0, 1])))
    (.seq
     (.seq
      (.region [] [] [0, 1, 14] false [
        (none, .mv 12 (.v 1)),
        (none, .call (some 13) 726 false [((.v 12), false)]),
        (none, .un 14 .not (.v 13))])
      (.cond (.v 14)
       (.seq
        (.region [] [] [4, 5] false [
          (none, .asg 4 (.c (.int .i64 0)) .copy),
          (none, .asg 5 (.c (.int .i64 2)) .copy)])
        (.ret [4, 5]))
       (.skip [0, 1])))
     (.seq
      (.region [] [] [0, 1, 6] false [
        (none, .asg 6 (.c (.int .i64 0)) .copy)])
      (.seq
       (.region [] [] [0, 1, 6, 7] false [
         (none, .asg 7 (.c (.int .i64 0)) .copy)])
       (.seq
        (.seq
         (.region [] [] [0, 1, 6, 7, 8] false [
           (none, .asg 8 (.c (.int .i64 0)) .copy)])
         (.block 0
          (.loop
           (.seq
            (.seq
             (.region [(16, 0, false)] [] [0, 1, 6, 7, 8, 18] false [
               (none, .mv 15 (.v 8)),
               (none, .mv 16 (.v 0)),
               (none, .len 17 false (.v 16)),
               (none, .bin 18 .lss (.v 15) (.v 17))])
             (.cond (.v 18)
              (.skip [0, 1, 6, 7, 8])
              (.exit 0 [6])))
            (.seq
             (.block 1
              (.seq
               (.region [(22, 0, false)] [] [0, 1, 6, 7, 8] false [
                 (none, .mv 21 (.v 6)),
                 (none, .mv 22 (.v 0)),
                 (none, .mv 23 (.v 1)),
                 (none, .mv 24 (.v 7)),
                 (none, .call (some 25) 727 false [((.v 22), false), ((.v 23), false), ((.v 24), false)]),
                 (none, .len 26 false (.v 25)),
                 (none, .call (some 27) 606 false [((.v 21), false), ((.v 26), false)]),
                 (none, .asg 6 (.v 27) .copy)])
               (.region [(37, 0, false), (36, 0, false), (34, 0, false), (32, 0, false), (31, 0, false), (29, 0, false)] [] [0, 1, 6, 7, 8] true [
                 (none, .mv 28 (.v 7)),
                 (none, .mv 29 (.v 0)),
                 (none, .mv 30 (.v 8)),
                 (none, .iadr 31 2 (.v 29) (.v 30)),
                 (none, .fadr 32 0 1 (.v 31)),
                 (none, .load 33 false 1 (.v 32) none),
                 (none, .mv 34 (.v 0)),
                 (none, .mv 35 (.v 8)),
                 (none, .iadr 36 2 (.v 34) (.v 35)),
                 (none, .fadr 37 1 1 (.v 36)),
                 (none, .load 38 false 1 (.v 37) none),
                 (none, .bin 39 .add (.v 33) (.v 38)),
                 (none, .bin 40 .add (.v 28) (.v 39)),
                 (none, .asg 7 (.v 40) .copy)])))
             (.region [] [] [0, 1, 6, 7, 8] false [
               (none, .mv 19 (.v 8)),
               (none, .bin 20 .add (.v 19) (.c (.int .i64 1))),
               (none, .asg 8 (.v 20) .copy)]))))))
        (.seq
         (.region [] [] [4, 5] false [
           (none, .mv 41 (.v 6)),
           (none, .asg 4 (.v 41) .copy),
           (none, .asg 5 (.c (.int .i64 0)) .copy)])
         (.ret [4, 5]))))))))⟩
def F603 : PFunc :=
 ⟨[false], [.tmp 2],
  (.seq
   (.region [] [] [0] false [
     (none, .asg 2 (.c .nilp) .copy)])
   (.seq
    (.region [(3, 0, false)] [] [2] false [
      (none, .mv 3 (.v 0)),
      (none, .build 4 [(.sl false 1 []), (.int .i64 0), (.int .u64 0)] [(0, 1, (.v 3), .move)]),
      (none, .box 5 (.v 4) .move),
      (none, .asg 2 (.v 5) .move)])
    (.ret [2])))⟩
def F5 : PFunc :=
 ⟨[true], [.tmp 2],
  (.seq
   (.region [] [] [0] false [
     (none, .asg 2 (.c (.int .i64 0)) .copy)])
   (.seq
    (.region [] [] [0, 3] false [
      (none, .asg 3 (.c (.int .i64 0)) .copy)])
    (.seq
     (.seq
      (.region [(11, 0, true), (10, 0, false), (9, 0, false), (8, 0, false), (6, 0, false), (5, 0, false), (4, 0, false)] [] [0, 3, 13] true [
        (none, .mv 4 (.v 0)),
        (none, .nchk 5 (.v 4)),
        (none, .fadr 6 1 1 (.v 5)),
        (none, .load 7 false 1 (.v 6) none),
        (none, .mv 8 (.v 0)),
        (none, .nchk 9 (.v 8)),
        (none, .fadr 10 0 1 (.v 9)),
        (none, .load 11 false 1 (.v 10) none),
        (none, .len 12 false (.v 11)),
        (none, .bin 13 .lss (.v 7) (.v 12))])
      (.cond (.v 13)
       (.region [(22, 0, true), (20, 0, false), (19, 0, false), (18, 0, false), (17, 0, true), (16, 0, false), (15, 0, false), (14, 0, false)] [] [0, 3] true [
         (none, .mv 14 (.v 0)),
         (none, .nchk 15 (.v 14)),
         (none, .fadr 16 0 1 (.v 15)),
         (none, .load 17 false 1 (.v 16) none),
         (none, .mv 18 (.v 0)),
         (none, .nchk 19 (.v 18)),
         (none, .fadr 20 1 1 (.v 19)),
         (none, .load 21 false 1 (.v 20) none),
         (none, .iadr 22 1 (.v 17) (.v 21)),
         (none, .load 23 false 1 (.v 22) none),
         (none, .conv 24 .i64 (.v 23)),
         (none, .asg 3 (.v 24) .copy)])
       (.skip [0, 3])))
     (.seq
      (.region [(31, 0, false), (30, 0, false), (27, 0, false), (26, 0, false), (25, 0, false)] [] [0, 3] false [
        (none, .mv 25 (.v 0)),
        (none, .nchk 26 (.v 25)),
        (none, .fadr 27 1 1 (.v 26)),
        (none, .load 28 false 1 (.v 27) none),
        (none, .bin 29 .add (.v 28) (.c (.int .i64 1))),
        (none, .nchk 30 (.v 25)),
        (none, .fadr 31 1 1 (.v 30)),
        (none, .store 1 (.v 31) (.v 29) .copy)])
      (.seq
       (.region [(43, 0, false), (42, 0, false), (35, 0, false), (34, 0, false), (33, 0, false), (32, 0, false)] [] [0, 3] false [
         (none, .mv 32 (.v 0)),
         (none, .mv 33 (.v 0)),
         (none, .nchk 34 (.v 33)),
         (none, .fadr 35 2 1 (.v 34)),
         (none, .load 36 false 1 (.v 35) none),
         (none, .bin 37 .mul (.v 36) (.c (.int .u64 6364136223846793005))),
         (none, .mv 38 (.v 3)),
         (none, .conv 39 .u64 (.v 38)),
         (none, .bin 40 .add (.v 37) (.v 39)),
         (none, .bin 41 .add (.v 40) (.c (.int .u64 1442695040888963407))),
         (none, .nchk 42 (.v 32)),
         (none, .fadr 43 2 1 (.v 42)),
         (none, .store 1 (.v 43) (.v 41) .copy)])
       (.seq
        (.seq
         (.region [(51, 0, true), (50, 0, false), (49, 0, false), (48, 0, false), (46, 0, false), (45, 0, false), (44, 0, false)] [] [0, 3, 53] true [
           (none, .mv 44 (.v 0)),
           (none, .nchk 45 (.v 44)),
           (none, .fadr 46 1 1 (.v 45)),
           (none, .load 47 false 1 (.v 46) none),
           (none, .mv 48 (.v 0)),
           (none, .nchk 49 (.v 48)),
           (none, .fadr 50 0 1 (.v 49)),
           (none, .load 51 false 1 (.v 50) none),
           (none, .len 52 false (.v 51)),
           (none, .bin 53 .leq (.v 47) (.v 52))])
         (.cond (.v 53)
          (.seq
           (.region [] [] [0, 2] false [
             (none, .mv 54 (.v 3)),
             (none, .asg 2 (.v 54) .copy)])
           (.ret [0, 2]))
          (.skip [0])))
        (.seq
         (.region [(57, 0, false), (56, 0, false), (55, 0, false)] [] [0, 2] false [
           (none, .mv 55 (.v 0)),
           (none, .nchk 56 (.v 55)),
           (none, .fadr 57 2 1 (.v 56)),
           (none, .load 58 false 1 (.v 57) none),
           (none, .bin 59 .shr (.v 58) (.c (.int .u64 40))),
           (none, .bin 60 .and (.v 59) (.c (.int .u64 255))),
           (none, .conv 61 .i64 (.v 60)),
           (none, .asg 2 (.v 61) .copy)])
         (.ret [0, 2]))))))))⟩
def F7 : PFunc :=
 ⟨[true, false], [.tmp 4],
  (.seq
   (.region [] [] [0, 1] false [
     (none, .asg 4 (.c (.int .i64 0)) .copy)])
   (.seq
    (.seq
     (.region [] [] [0, 1, 7] false [
       (none, .mv 6 (.v 1)),
       (none, .bin 7 .leq (.v 6) (.c (.int .i64 1)))])
     (.cond (.v 7)
      (.seq
       (.region [] [] [0, 4] false [
         (none, .asg 4 (.c (.int .i64 0)) .copy)])
       (.ret [0, 4]))
      (.skip [0, 1])))
    (.seq
     (.region [(8, 0, false)] [] [0, 1, 5] false [
       (none, .mv 8 (.v 0)),
       (none, .call (some 9) 5 true [((.v 8), true)]),
       (none, .asg 5 (.v 9) .copy)])
     (.seq
      (.seq
       (.region [] [] [0, 1, 5, 11] false [
         (none, .mv 10 (.v 1)),
         (none, .bin 11 .gtr (.v 10) (.c (.int .i64 200)))])
       (.cond (.v 11)
        (.region [(14, 0, false)] [] [0, 1, 5] false [
          (none, .mv 12 (.v 5)),
          (none, .bin 13 .mul (.v 12) (.c (.int .i64 256))),
          (none, .mv 14 (.v 0)),
          (none, .call (some 15) 5 true [((.v 14), true)]),
          (none, .bin 16 .add (.v 13) (.v 15)),
          (none, .asg 5 (.v 16) .copy)])
        (.skip [0, 1, 5])))
      (.seq
       (.region [] [] [0, 4] false [
         (none, .mv 17 (.v 5)),
         (none, .mv 18 (.v 1)),
         (none, .bin 19 .rem (.v 17) (.v 18)),
         (none, .asg 4 (.v 19) .copy)])
       (.ret [0, 4]))))))⟩
def F4 : PFunc :=
 ⟨[true, false], [.tmp 4],
  (.seq
   (.region [] [] [0, 1] false [
     (none, .asg 4 (.c (.int .i64 0)) .copy)])
   (.seq
    (.region [(10, 1, false), (7, 1, false), (6, 0, false), (5, 1, false)] [] [0, 4] false [
      (none, .mv 5 (.v 1)),
      (none, .mv 6 (.v 0)),
      (none, .mv 7 (.v 1)),
      (none, .len 8 false (.v 7)),
      (none, .call (some 9) 7 true [((.v 6), true), ((.v 8), false)]),
      (none, .iadr 10 1 (.v 5) (.v 9)),
      (none, .load 11 false 1 (.v 10) none),
      (none, .asg 4 (.v 11) .copy)])
    (.ret [0, 4])))⟩
def F6 : PFunc :=
 ⟨[true, false], [.tmp 4],
  (.seq
   (.region [] [] [0, 1] false [
     (none, .asg 4 (.c (.bool false)) .copy)])
   (.seq
    (.region [(5, 0, false)] [] [0, 4] false [
      (none, .mv 5 (.v 0)),
      (none, .mv 6 (.v 1)),
      (none, .call (some 7) 7 true [((.v 5), true), ((.v 6), false)]),
      (none, .bin 8 .eql (.v 7) (.c (.int .i64 0))),
      (none, .asg 4 (.v 8) .copy)])
    (.ret [0, 4])))⟩
def F723 : PFunc :=
 ⟨[true], [.tmp 2],
  (.seq
   (.region [] [] [0] false [
     (none, .asg 2 (.c (.sl true 2 [])) .copy)])
   (.seq
    (.region [] [] [0, 3] false [
      (none, .mksl 8 2 (.agg [(.int .i64 0), (.int .i64 0)]) 0 []),
      (none, .asg 3 (.v 8) .move)])
    (.seq
     (.region [(9, 0, false)] [] [0, 3, 4] false [
       (none, .mv 9 (.v 0)),
       (none, .call (some 10) 7 true [((.v 9), true), ((.c (.int .i64 8)), false)]),
       (none, .asg 4 (.v 10) .copy)])
     (.seq
      (.seq
       (.region [(11, 0, false)] [] [0, 3, 4, 12] false [
         (none, .mv 11 (.v 0)),
         (none, .call (some 12) 6 true [((.v 11), true), ((.c (.int .i64 20)), false)])])
       (.cond (.v 12)
        (.region [(13, 0, false)] [] [0, 3, 4] false [
          (none, .mv 13 (.v 0)),
          (none, .call (some 14) 7 true [((.v 13), true), ((.c (.int .i64 2)), false)]),
          (none, .bin 15 .add (.c (.int .i64 60)) (.v 14)),
          (none, .asg 4 (.v 15) .copy)])
        (.skip [0, 3, 4])))
      (.seq
       (.seq
        (.region [] [] [0, 3, 4, 5] false [
          (none, .mv 16 (.v 4)),
          (none, .asg 5 (.v 16) .copy)])
        (.block 0
         (.loop
          (.seq
           (.seq
            (.region [] [] [0, 3, 4, 5, 18] false [
              (none, .mv 17 (.v 5)),
              (none, .bin 18 .gtr (.v 17) (.c (.int .i64 0)))])
            (.cond (.v 18)
             (.skip [0, 3, 4, 5])
             (.exit 0 [0, 3, 4])))
           (.seq
            (.block 1
             (.seq
              (.region [(21, 0, false)] [] [0, 3, 4, 5, 6] false [
                (none, .mv 21 (.v 0)),
                (none, .call (some 22) 7 true [((.v 21), true), ((.c (.int .i64 60)), false)]),
                (none, .bin 23 .add (.c (.int .i64 1)) (.v 22)),
                (none, .build 24 [(.int .i64 0), (.int .i64 0)] [(0, 1, (.v 23), .copy)]),
                (none, .new 6 (.agg [(.int .i64 0), (.int .i64 0)])),
                (none, .store 2 (.v 6) (.v 24) .copy)])
              (.seq
               (.region [(27, 6, false), (25, 0, false)] [] [0, 3, 4, 5, 6] false [
                 (none, .mv 25 (.v 0)),
                 (none, .call (some 26) 7 true [((.v 25), true), ((.c (.int .i64 60)), false)]),
                 (none, .fadr 27 1 1 (.v 6)),
                 (none, .store 1 (.v 27) (.v 26) .copy)])
               (.seq
                (.seq
                 (.region [(28, 0, false)] [] [0, 3, 4, 5, 6, 29] false [
                   (none, .mv 28 (.v 0)),
                   (none, .call (some 29) 6 true [((.v 28), true), ((.c (.int .i64 12)), false)])])
                 (.cond (.v 29)
                  (.region [(33, 6, false), (30, 0, false)] [] [0, 3, 4, 5, 6] false [
                    (none, .mv 30 (.v 0)),
                    (none, .mksl 31 1 (.int .i64 0) 3 [(0, (.c (.int .i64 0)), .copy), (1, (.c (.int .i64 500)), .copy), (2, (.c (.int .i64 501)), .copy)]),
                    (none, .call (some 32) 4 true [((.v 30), true), ((.v 31), false)]),
                    (none, .fadr 33 1 1 (.v 6)),
                    (none, .store 1 (.v 33) (.v 32) .copy)])
                  (.skip [0, 3, 4, 5, 6])))
                (.region [(34, 3, false)] [] [0, 3, 4, 5] false [
                  (none, .mv 34 (.v 3)),
                  (none, .load 35 true 2 (.v 6) none),
                  (none, .mksl 36 2 (.agg [(.int .i64 0), (.int .i64 0)]) 1 [(0, (.v 35), .copy)]),
                  (none, .app 37 2 (.v 34) (.v 36) .move),
                  (none, .asg 3 (.v 37) .move)])))))
            (.region [] [] [0, 3, 4, 5] false [
              (none, .mv 19 (.v 5)),
              (none, .bin 20 .sub (.v 19) (.c (.int .i64 1))),
              (none, .asg 5 (.v 20) .copy)]))))))
       (.seq
        (.seq
         (.region [] [] [0, 3, 4, 39] false [
           (none, .mv 38 (.v 4)),
           (none, .bin 39 .gtr (.v 38) (.c (.int .i64 0)))])
         (.cond (.v 39)
          (.seq
           (.region [(7, 3, false), (44, 3, false), (41, 0, false), (40, 3, false)] [] [0, 3, 7] false [
             (none, .mv 40 (.v 3)),
             (none, .mv 41 (.v 0)),
             (none, .mv 42 (.v 4)),
             (none, .call (some 43) 7 true [((.v 41), true), ((.v 42), false)]),
             (none, .iadr 44 2 (.v 40) (.v 43)),
             (none, .mv 7 (.v 44))])
           (.seq
            (.region [(45, 0, false), (7, 3, false)] [] [0, 3, 7, 46] false [
              (none, .mv 45 (.v 0)),
              (none, .call (some 46) 7 true [((.v 45), true), ((.c (.int .i64 20)), false)])])
            (.block 2
             (.seq
              (.region [(7, 3, false)] [] [0, 3, 7, 46, 47] false [
                (none, .bin 48 .eql (.v 46) (.c (.int .i64 0))),
                (none, .asg 47 (.v 48) .copy)])
              (.cond (.v 47)
               (.region [(54, 3, false), (53, 3, false), (50, 0, false), (49, 3, false), (7, 3, false)] [] [0, 3] false [
                 (none, .mv 49 (.v 7)),
                 (none, .mv 50 (.v 0)),
                 (none, .mksl 51 1 (.int .i64 0) 6 [(0, (.c (.int .i64 (-1))), .copy), (1, (.c (.int .i64 0)), .copy), (2, (.c (.int .i64 1)), .copy), (3, (.c (.int .i64 10000)), .copy), (4, (.c (.int .i64 10001)), .copy), (5, (.c (.int .i64 (-9223372036854775808))), .copy)]),
                 (none, .call (some 52) 4 true [((.v 50), true), ((.v 51), false)]),
                 (none, .nchk 53 (.v 49)),
                 (none, .fadr 54 0 1 (.v 53)),
                 (none, .store 1 (.v 54) (.v 52) .copy)])
               (.seq
                (.region [(7, 3, false)] [] [0, 3, 7, 55] false [
                  (none, .bin 56 .eql (.v 46) (.c (.int .i64 1))),
                  (none, .asg 55 (.v 56) .copy)])
                (.cond (.v 55)
                 (.region [(62, 3, false), (61, 3, false), (58, 0, false), (57, 3, false), (7, 3, false)] [] [0, 3] false [
                   (none, .mv 57 (.v 7)),
                   (none, .mv 58 (.v 0)),
                   (none, .mksl 59 1 (.int .i64 0) 4 [(0, (.c (.int .i64 (-1))), .copy), (1, (.c (.int .i64 0)), .copy), (2, (.c (.int .i64 10000)), .copy), (3, (.c (.int .i64 10001)), .copy)]),
                   (none, .call (some 60) 4 true [((.v 58), true), ((.v 59), false)]),
                   (none, .nchk 61 (.v 57)),
                   (none, .fadr 62 1 1 (.v 61)),
                   (none, .store 1 (.v 62) (.v 60) .copy)])
                 (.skip [0, 3]))))))))
          (.skip [0, 3])))
        (.seq
         (.region [(63, 3, false)] [] [0, 2] false [
           (none, .mv 63 (.v 3)),
           (none, .asg 2 (.v 63) .move)])
         (.ret [0, 2]))))))))⟩
def F724 : PFunc :=
 ⟨[true], [.tmp 2],
  (.seq
   (.region [] [] [0] false [
     (none, .asg 2 (.c (.int .i64 0)) .copy)])
   (.seq
    (.seq
     (.region [(3, 0, false)] [] [0, 4] false [
       (none, .mv 3 (.v 0)),
       (none, .call (some 4) 6 true [((.v 3), true), ((.c (.int .i64 10)), false)])])
     (.cond (.v 4)
      (.seq
       (.region [(5, 0, false)] [] [0, 2] false [
         (none, .mv 5 (.v 0)),
         (none, .mksl 6 1 (.int .i64 0) 5 [(0, (.c (.int .i64 (-1))), .copy), (1, (.c (.int .i64 0)), .copy), (2, (.c (.int .i64 500)), .copy), (3, (.c (.int .i64 501)), .copy), (4, (.c (.int .i64 (-9223372036854775808))), .copy)]),
         (none, .call (some 7) 4 true [((.v 5), true), ((.v 6), false)]),
         (none, .asg 2 (.v 7) .copy)])
       (.ret [0, 2]))
      (.skip [0])))
    (.seq
     (.region [(8, 0, false)] [] [0, 2] false [
       (none, .mv 8 (.v 0)),
       (none, .call (some 9) 7 true [((.v 8), true), ((.c (.int .i64 120)), false)]),
       (none, .asg 2 (.v 9) .copy)])
     (.ret [0, 2]))))⟩
def F729 : PFunc :=
 ⟨[false], [.tmp 2, .tmp 3],
  (.seq
   (.region [] [] [0] false [
     (none, .asg 2 (.c (.sl true 2 [])) .copy),
     (none, .asg 3 (.c (.int .i64 0)) .copy)])
   (.seq
    (.region [(6, 0, false)] [] [4] false [
      (none, .mv 6 (.v 0)),
      (none, .call (some 7) 603 true [((.v 6), false)]),
      (none, .asg 4 (.v 7) .move)])
    (.seq
     (.region [(8, 4, false)] [] [4, 5] false [
       (none, .mv 8 (.v 4)),
       (none, .call (some 9) 723 true [((.v 8), true)]),
       (none, .asg 5 (.v 9) .move)])
     (.seq
      (.region [(11, 4, false), (10, 5, false)] [] [2, 3] false [
        (none, .mv 10 (.v 5)),
        (none, .mv 11 (.v 4)),
        (none, .call (some 12) 724 true [((.v 11), true)]),
        (none, .asg 2 (.v 10) .move),
        (none, .asg 3 (.v 12) .copy)])
      (.ret [2, 3])))))⟩
def F474 : PFunc :=
 ⟨[false], [.tmp 2, .tmp 3],
  (.seq
   (.region [] [] [0] false [
     (none, .asg 2 (.c (.sl true 2 [])) .copy),
     (none, .asg 3 (.c (.int .i64 0)) .copy)])
   (.seq
    (.region [(4, 0, false)] [] [2, 3] false [
      (none, .mv 4 (.v 0)),
      (none, .call (some 5) 729 false [((.v 4), false)]),
      (none, .ext 6 (.v 5) 0),
      (none, .extp 7 (.v 5) 1),
      (none, .asg 2 (.v 6) .move),
      (none, .asg 3 (.v 7) .copy)])
    (.ret [2, 3])))⟩
def F528 : PFunc :=
 ⟨[false, false], [.tmp 4, .tmp 5],
  (.seq
   (.region [] [] [0, 1] false [
     (none, .asg 4 (.c (.int .i64 0)) .copy),
     (none, .asg 5 (.c (.int .i64 0)) .copy)])
   (.seq
    (.seq
     (.region [(10, 0, false)] [] [0, 1, 12] false [
       (none, .mv 10 (.v 0)),
       (none, .call (some 11) 725 false [((.v 10), false)]),
       (none, .un 12 .not (.v 11))])
     (.cond (.v 12)
      (.seq
       (.region [] [] [4, 5] false [
         (none, .asg 4 (.c (.int .i64 0)) .copy),
         (none, .asg 5 (.c (.int .i64 1)) .copy)])
       (.ret [4, 5]))
      (.skip [0, 1])))
    (.seq
     (.seq
      (.region [] [] [0, 1, 15] false [
        (none, .mv 13 (.v 1)),
        (none, .call (some 14) 726 false [((.v 13), false)]),
        (none, .un 15 .not (.v 14))])
      (.cond (.v 15)
       (.seq
        (.region [] [] [4, 5] false [
          (none, .asg 4 (.c (.int .i64 0)) .copy),
          (none, .asg 5 (.c (.int .i64 2)) .copy)])
        (.ret [4, 5]))
       (.skip [0, 1])))
     (.seq
      (.region [] [] [0, 1, 6] false [
        (none, .asg 6 (.c (.int .i64 0)) .copy)])
      (.seq
       (.region [] [] [0, 1, 6, 7] false [
         (none, .asg 7 (.c (.int .i64 0)) .copy)])
       (.seq
        (.region [] [] [0, 1, 6, 7, 8] false [
          (none, .asg 8 (.c (.int .i64 0)) .copy)])
        (.seq
         (.seq
          (.region [] [] [0, 1, 6, 7, 8, 9] false [
            (none, .asg 9 (.c (.int .i64 0)) .copy)])
          (.block 0
           (.loop
            (.seq
             (.seq
              (.region [(17, 0, false)] [] [0, 1, 6, 7, 8, 9, 19] false [
                (none, .mv 16 (.v 9)),
                (none, .mv 17 (.v 0)),
                (none, .len 18 false (.v 17)),
                (none, .bin 19 .lss (.v 16) (.v 18))])
              (.cond (.v 19)
               (.skip [0, 1, 6, 7, 8, 9])
               (.exit 0 [6])))
             (.seq
              (.block 1
               (.seq
                (.region [(27, 0, false), (26, 0, false), (24, 0, false)] [] [0, 1, 6, 7, 8, 9] false [
                  (none, .mv 22 (.v 8)),
                  (none, .mv 23 (.v 7)),
                  (none, .mv 24 (.v 0)),
                  (none, .mv 25 (.v 9)),
                  (none, .iadr 26 2 (.v 24) (.v 25)),
                  (none, .fadr 27 0 1 (.v 26)),
                  (none, .load 28 false 1 (.v 27) none),
                  (none, .bin 29 .add (.v 23) (.v 28)),
                  (none, .mv 30 (.v 1)),
                  (none, .bin 31 .add (.v 29) (.v 30)),
                  (none, .call (some 32) 606 false [((.v 22), false), ((.v 31), false)]),
                  (none, .asg 8 (.v 32) .copy)])
                (.seq
                 (.region [(42, 0, false), (41, 0, false), (39, 0, false), (37, 0, false), (36, 0, false), (34, 0, false)] [] [0, 1, 6, 7, 8, 9] true [
                   (none, .mv 33 (.v 7)),
                   (none, .mv 34 (.v 0)),
                   (none, .mv 35 (.v 9)),
                   (none, .iadr 36 2 (.v 34) (.v 35)),
                   (none, .fadr 37 0 1 (.v 36)),
                   (none, .load 38 false 1 (.v 37) none),
                   (none, .mv 39 (.v 0)),
                   (none, .mv 40 (.v 9)),
                   (none, .iadr 41 2 (.v 39) (.v 40)),
                   (none, .fadr 42 1 1 (.v 41)),
                   (none, .load 43 false 1 (.v 42) none),
                   (none, .bin 44 .add (.v 38) (.v 43)),
                   (none, .bin 45 .add (.v 33) (.v 44)),
                   (none, .asg 7 (.v 45) .copy)])
                 (.region [] [] [0, 1, 6, 7, 8, 9] false [
                   (none, .mv 46 (.v 6)),
                   (none, .mv 47 (.v 7)),
                   (none, .mv 48 (.v 8)),
                   (none, .bin 49 .sub (.v 47) (.v 48)),
                   (none, .call (some 50) 606 false [((.c (.int .i64 0)), false), ((.v 49), false)]),
                   (none, .bin 51 .add (.v 46) (.v 50)),
                   (none, .asg 6 (.v 51) .copy)]))))
              (.region [] [] [0, 1, 6, 7, 8, 9] false [
                (none, .mv 20 (.v 9)),
                (none, .bin 21 .add (.v 20) (.c (.int .i64 1))),
                (none, .asg 9 (.v 21) .copy)]))))))
         (.seq
          (.region [] [] [4, 5] false [
            (none, .mv 52 (.v 6)),
            (none, .asg 4 (.v 52) .copy),
            (none, .asg 5 (.c (.int .i64 0)) .copy)])
          (.ret [4, 5])))))))))⟩
def F604 : PFunc :=
 ⟨[false, false], [.tmp 4],
  (.seq
   (.region [] [] [0, 1] false [
     (none, .asg 4 (.c (.int .i64 0)) .copy)])
   (.seq
    (.block 0
     (.loop
      (.seq
       (.seq
        (.region [] [] [0, 1, 7] false [
          (none, .mv 6 (.v 1)),
          (none, .bin 7 .neq (.v 6) (.c (.int .i64 0)))])
        (.cond (.v 7)
         (.skip [0, 1])
         (.exit 0 [0])))
       (.block 1
        (.seq
         (.region [] [] [1, 5] false [
           (none, .mv 8 (.v 0)),
           (none, .mv 9 (.v 1)),
           (none, .bin 10 .rem (.v 8) (.v 9)),
           (none, .asg 5 (.v 10) .copy)])
         (.seq
          (.region [] [] [0, 5] false [
            (none, .mv 11 (.v 1)),
            (none, .asg 0 (.v 11) .copy)])
          (.region [] [] [0, 1] false [
            (none, .mv 12 (.v 5)),
            (none, .asg 1 (.v 12) .copy)])))))))
    (.seq
     (.region [] [] [4] false [
       (none, .mv 13 (.v 0)),
       (none, .asg 4 (.v 13) .copy)])
     (.ret [4]))))⟩
def F611 : PFunc :=
 ⟨[false], [.tmp 2],
  (.seq
   (.region [] [] [0] false [
     (none, .asg 2 (.c (.int .i64 0)) .copy)])
   (.seq
    (.seq
     (.region [] [] [0, 4] false [
       (none, .mv 3 (.v 0)),
       (none, .bin 4 .lss (.v 3) (.c (.int .i64 0)))])
     (.cond (.v 4)
      (.seq
       (.region [] [] [2] false [
         (none, .mv 5 (.v 0)),
         (none, .un 6 .neg (.v 5)),
         (none, .asg 2 (.v 6) .copy)])
       (.ret [2]))
      (.skip [0])))
    (.seq
     (.region [] [] [2] false [
       (none, .mv 7 (.v 0)),
       (none, .asg 2 (.v 7) .copy)])
     (.ret [2]))))⟩
def F616 : PFunc :=
 ⟨[false, false], [.cell 4 true 2],
  (.seq
   (.region [] [] [0, 1, 4] false [
     (none, .new 4 (.agg [(.int .i64 0), (.int .i64 0)]))])
   (.seq
    (.region [] [] [0, 1, 4, 5] false [
      (none, .mv 6 (.v 0)),
      (none, .call (some 7) 611 false [((.v 6), false)]),
      (none, .mv 8 (.v 1)),
      (none, .call (some 9) 604 false [((.v 7), false), ((.v 8), false)]),
      (none, .asg 5 (.v 9) .copy)])
    (.seq
     (.region [] [] [4] true [
       (none, .mv 10 (.v 0)),
       (none, .mv 11 (.v 5)),
       (none, .bin 12 .quo (.v 10) (.v 11)),
       (none, .mv 13 (.v 1)),
       (none, .mv 14 (.v 5)),
       (none, .bin 15 .quo (.v 13) (.v 14)),
       (none, .build 16 [(.int .i64 0), (.int .i64 0)] [(0, 1, (.v 12), .copy), (1, 1, (.v 15), .copy)]),
       (none, .store 2 (.v 4) (.v 16) .copy)])
     (.ret [4]))))⟩
def F728 : PFunc :=
 ⟨[false], [.tmp 2],
  (.seq
   (.region [] [] [0] false [
     (none, .asg 2 (.c (.int .i64 0)) .copy)])
   (.seq
    (.region [] [] [0, 3] false [
      (none, .asg 3 (.c (.int .i64 0)) .copy)])
    (.seq
     (.seq
      (.region [] [] [0, 3, 4] false [
        (none, .asg 4 (.c (.int .i64 0)) .copy)])
      (.block 0
       (.loop
        (.seq
         (.seq
          (.region [(6, 0, false)] [] [0, 3, 4, 8] false [
            (none, .mv 5 (.v 4)),
            (none, .mv 6 (.v 0)),
            (none, .len 7 false (.v 6)),
            (none, .bin 8 .lss (.v 5) (.v 7))])
          (.cond (.v 8)
           (.skip [0, 3, 4])
           (.exit 0 [3])))
         (.seq
          (.block 1
           (.region [(20, 0, false), (19, 0, false), (17, 0, false), (15, 0, false), (14, 0, false), (12, 0, false)] [] [0, 3, 4] true [
             (none, .mv 11 (.v 3)),
             (none, .mv 12 (.v 0)),
             (none, .mv 13 (.v 4)),
             (none, .iadr 14 2 (.v 12) (.v 13)),
             (none, .fadr 15 0 1 (.v 14)),
             (none, .load 16 false 1 (.v 15) none),
             (none, .mv 17 (.v 0)),
             (none, .mv 18 (.v 4)),
             (none, .iadr 19 2 (.v 17) (.v 18)),
             (none, .fadr 20 1 1 (.v 19)),
             (none, .load 21 false 1 (.v 20) none),
             (none, .bin 22 .add (.v 16) (.v 21)),
             (none, .bin 23 .add (.v 11) (.v 22)),
             (none, .asg 3 (.v 23) .copy)]))
          (.region [] [] [0, 3, 4] false [
            (none, .mv 9 (.v 4)),
            (none, .bin 10 .add (.v 9) (.c (.int .i64 1))),
            (none, .asg 4 (.v 10) .copy)]))))))
     (.seq
      (.region [] [] [2] false [
        (none, .mv 24 (.v 3)),
        (none, .asg 2 (.v 24) .copy)])
      (.ret [2])))))⟩
def F541 : PFunc :=
 ⟨[false], [.cell 2 true 2, .tmp 3],
  (.seq
   (.region [] [] [0, 2] false [
     (none, .new 2 (.agg [(.int .i64 0), (.int .i64 0)])),
     (none, .asg 3 (.c (.int .i64 0)) .copy)])
   (.seq
    (.seq
     (.region [(6, 0, false)] [] [0, 2, 8] false [
       (none, .mv 6 (.v 0)),
       (none, .call (some 7) 725 false [((.v 6), false)]),
       (none, .un 8 .not (.v 7))])
     (.cond (.v 8)
      (.seq
       (.region [] [] [2, 3] false [
         (none, .build 9 [(.int .i64 0), (.int .i64 0)] []),
         (none, .store 2 (.v 2) (.v 9) .copy),
         (none, .asg 3 (.c (.int .i64 1)) .copy)])
       (.ret [2, 3]))
      (.skip [0, 2])))
    (.seq
     (.seq
      (.region [(10, 0, false)] [] [0, 2, 12] false [
        (none, .mv 10 (.v 0)),
        (none, .len 11 false (.v 10)),
        (none, .bin 12 .eql (.v 11) (.c (.int .i64 0)))])
      (.cond (.v 12)
       (.seq
        (.region [] [] [2, 3] false [
          (none, .build 13 [(.int .i64 0), (.int .i64 0)] []),
          (none, .store 2 (.v 2) (.v 13) .copy),
          (none, .asg 3 (.c (.int .i64 3)) .copy)])
        (.ret [2, 3]))
       (.skip [0, 2])))
     (.seq
      (.region [] [] [0, 2, 4] false [
        (none, .asg 4 (.c (.int .i64 0)) .copy)])
      (.seq
       (.seq
        (.region [] [] [0, 2, 4, 5] false [
          (none, .asg 5 (.c (.int .i64 0)) .copy)])
        (.block 0
         (.loop
          (.seq
           (.seq
            (.region [(15, 0, false)] [] [0, 2, 4, 5, 17] false [
              (none, .mv 14 (.v 5)),
              (none, .mv 15 (.v 0)),
              (none, .len 16 false (.v 15)),
              (none, .bin 17 .lss (.v 14) (.v 16))])
            (.cond (.v 17)
             (.skip [0, 2, 4, 5])
             (.exit 0 [0, 2, 4])))
           (.seq
            (.block 1
             (.region [(24, 0, false), (23, 0, false), (21, 0, false)] [] [0, 2, 4, 5] false [
               (none, .mv 20 (.v 4)),
               (none, .mv 21 (.v 0)),
               (none, .mv 22 (.v 5)),
               (none, .iadr 23 2 (.v 21) (.v 22)),
               (none, .fadr 24 0 1 (.v 23)),
               (none, .load 25 false 1 (.v 24) none),
               (none, .bin 26 .add (.v 20) (.v 25)),
               (none, .asg 4 (.v 26) .copy)]))
            (.region [] [] [0, 2, 4, 5] false [
              (none, .mv 18 (.v 5)),
              (none, .bin 19 .add (.v 18) (.c (.int .i64 1))),
              (none, .asg 5 (.v 19) .copy)]))))))
       (.seq
        (.region [(28, 0, false)] [] [2, 3] false [
          (none, .mv 27 (.v 4)),
          (none, .mv 28 (.v 0)),
          (none, .call (some 29) 728 false [((.v 28), false)]),
          (none, .call (some 30) 616 false [((.v 27), false), ((.v 29), false)]),
          (none, .store 2 (.v 2) (.v 30) .copy),
          (none, .asg 3 (.c (.int .i64 0)) .copy)])
        (.ret [2, 3])))))))⟩
def F584 : PFunc :=
 ⟨[false], [.tmp 2, .tmp 3],
  (.seq
   (.region [] [] [0] false [
     (none, .asg 2 (.c (.int .i64 0)) .copy),
     (none, .asg 3 (.c (.int .i64 0)) .copy)])
   (.seq
    (.seq
     (.region [(4, 0, false)] [] [0, 6] false [
       (none, .mv 4 (.v 0)),
       (none, .call (some 5) 725 false [((.v 4), false)]),
       (none, .un 6 .not (.v 5))])
     (.cond (.v 6)
      (.seq
       (.region [] [] [2, 3] false [
         (none, .asg 2 (.c (.int .i64 0)) .copy),
         (none, .asg 3 (.c (.int .i64 1)) .copy)])
       (.ret [2, 3]))
      (.skip [0])))
    (.seq
     (.region [(7, 0, false)] [] [2, 3] false [
       (none, .mv 7 (.v 0)),
       (none, .call (some 8) 728 false [((.v 7), false)]),
       (none, .asg 2 (.v 8) .copy),
       (none, .asg 3 (.c (.int .i64 0)) .copy)])
     (.ret [2, 3]))))⟩
def F374 : PFunc :=
 ⟨[false], [.tmp 2],
  (.seq
   (.region [] [] [0] false [
     (none, .asg 2 (.c (.bool false)) .copy)])
   (.seq
    (.seq
     (.region [(28, 0, false)] [] [0, 29] false [
       (none, .mv 28 (.v 0)),
       (none, .call (some 29) 398 false [((.v 28), false)])])
     (.cond (.v 29)
      (.seq
       (.region [] [] [2] false [
         (none, .asg 2 (.c (.bool true)) .copy)])
       (.ret [2]))
      (.skip [0])))
    (.seq
     (.region [(31, 0, false)] [] [3, 4] false [
       (none, .mv 31 (.v 0)),
       (none, .call (some 32) 474 false [((.v 31), false)]),
       (none, .asg 30 (.v 32) .move),
       (none, .ext 33 (.v 30) 0),
       (none, .extp 34 (.v 30) 1),
       (none, .asg 3 (.v 33) .move),
       (none, .asg 4 (.v 34) .copy)])
     (.seq
      (.region [(36, 3, false)] [] [3, 4, 5, 6] false [
        (none, .mv 36 (.v 3)),
        (none, .mv 37 (.v 4)),
        (none, .call (some 38) 105 false [((.v 36), false), ((.v 37), false)]),
        (none, .asg 35 (.v 38) .copy),
        (none, .extp 39 (.v 35) 0),
        (none, .extp 40 (.v 35) 1),
        (none, .asg 5 (.v 39) .copy),
        (none, .asg 6 (.v 40) .copy)])
      (.seq
       (.region [(42, 3, false)] [] [3, 4, 5, 6, 7, 8] false [
         (none, .mv 42 (.v 3)),
         (none, .mv 43 (.v 4)),
         (none, .call (some 44) 528 false [((.v 42), false), ((.v 43), false)]),
         (none, .asg 41 (.v 44) .copy),
         (none, .extp 45 (.v 41) 0),
         (none, .extp 46 (.v 41) 1),
         (none, .asg 7 (.v 45) .copy),
         (none, .asg 8 (.v 46) .copy)])
       (.seq
        (.region [(48, 3, false)] [] [3, 4, 5, 6, 7, 8, 9, 10] false [
          (none, .mv 48 (.v 3)),
          (none, .mv 49 (.v 4)),
          (none, .call (some 50) 56 false [((.v 48), false), ((.v 49), false)]),
          (none, .asg 47 (.v 50) .copy),
          (none, .extp 51 (.v 47) 0),
          (none, .extp 52 (.v 47) 1),
          (none, .asg 9 (.v 51) .copy),
          (none, .asg 10 (.v 52) .copy)])
        (.seq
         (.region [(54, 3, false)] [] [3, 4, 5, 6, 7, 8, 9, 10, 11, 12] false [
           (none, .mv 54 (.v 3)),
           (none, .mv 55 (.v 4)),
           (none, .call (some 56) 443 false [((.v 54), false), ((.v 55), false)]),
           (none, .asg 53 (.v 56) .copy),
           (none, .extp 57 (.v 53) 0),
           (none, .extp 58 (.v 53) 1),
           (none, .asg 11 (.v 57) .copy),
           (none, .asg 12 (.v 58) .copy)])
         (.seq
          (.region [(60, 3, false)] [] [3, 4, 5, 6, 7, 8, 9, 10, 11, 12, 13, 14] false [
            (none, .mv 60 (.v 3)),
            (none, .call (some 61) 131 false [((.v 60), false)]),
            (none, .asg 59 (.v 61) .copy),
            (none, .extp 62 (.v 59) 0),
            (none, .extp 63 (.v 59) 1),
            (none, .new 13 (.agg [(.int .i64 0), (.int .i64 0)])),
            (none, .store 2 (.v 13) (.v 62) .copy),
            (none, .asg 14 (.v 63) .copy)])
          (.seq
           (.region [(65, 3, false)] [] [3, 4, 5, 6, 7, 8, 9, 10, 11, 12, 13, 14, 15, 16] false [
             (none, .mv 65 (.v 3)),
             (none, .call (some 66) 541 false [((.v 65), false)]),
             (none, .asg 64 (.v 66) .copy),
             (none, .extp 67 (.v 64) 0),
             (none, .extp 68 (.v 64) 1),
             (none, .new 15 (.agg [(.int .i64 0), (.int .i64 0)])),
             (none, .store 2 (.v 15) (.v 67) .copy),
             (none, .asg 16 (.v 68) .copy)])
           (.seq
            (.region [(70, 3, false)] [] [3, 4, 5, 6, 7, 8, 9, 10, 11, 12, 13, 14, 15, 16, 17, 18] false [
              (none, .mv 70 (.v 3)),
              (none, .call (some 71) 201 false [((.v 70), false)]),
              (none, .asg 69 (.v 71) .copy),
              (none, .extp 72 (.v 69) 0),
              (none, .extp 73 (.v 69) 1),
              (none, .asg 17 (.v 72) .copy),
              (none, .asg 18 (.v 73) .copy)])
            (.seq
             (.region [(75, 3, false)] [] [3, 4, 5, 6, 7, 8, 9, 10, 11, 12, 13, 14, 15, 16, 17, 18, 19, 20] false [
               (none, .mv 75 (.v 3)),
               (none, .call (some 76) 584 false [((.v 75), false)]),
               (none, .asg 74 (.v 76) .copy),
               (none, .extp 77 (.v 74) 0),
               (none, .extp 78 (.v 74) 1),
               (none, .asg 19 (.v 77) .copy),
               (none, .asg 20 (.v 78) .copy)])
             (.seq
              (.seq
               (.region [] [] [3, 4, 6, 7, 11, 14, 15, 19, 116] false [
                 (none, .mv 79 (.v 6)),
                 (none, .mv 80 (.v 8)),
                 (none, .bin 81 .neq (.v 79) (.v 80)),
                 (none, .mv 82 (.v 81)),
                 (some (82, false), .mv 83 (.v 5)),
                 (some (82, false), .mv 84 (.v 7)),
                 (some (82, false), .bin 85 .neq (.v 83) (.v 84)),
                 (none, .pick 86 (.v 82) (.c (.bool true)) (.v 85)),
                 (none, .mv 87 (.v 86)),
                 (some (87, false), .mv 88 (.v 10)),
                 (some (87, false), .mv 89 (.v 12)),
                 (some (87, false), .bin 90 .neq (.v 88) (.v 89)),
                 (none, .pick 91 (.v 87) (.c (.bool true)) (.v 90)),
                 (none, .mv 92 (.v 91)),
                 (some (92, false), .mv 93 (.v 9)),
                 (some (92, false), .mv 94 (.v 11)),
                 (some (92, false), .bin 95 .neq (.v 93) (.v 94)),
                 (none, .pick 96 (.v 92) (.c (.bool true)) (.v 95)),
                 (none, .mv 97 (.v 96)),
                 (some (97, false), .mv 98 (.v 14)),
                 (some (97, false), .mv 99 (.v 16)),
                 (some (97, false), .bin 100 .neq (.v 98) (.v 99)),
                 (none, .pick 101 (.v 97) (.c (.bool true)) (.v 100)),
                 (none, .mv 102 (.v 101)),
                 (some (102, false), .load 103 true 2 (.v 13) none),
                 (some (102, false), .load 104 true 2 (.v 15) none),
                 (some (102, false), .eqv 105 true [.i, .i] (.v 103) (.v 104)),
                 (none, .pick 106 (.v 102) (.c (.bool true)) (.v 105)),
                 (none, .mv 107 (.v 106)),
                 (some (107, false), .mv 108 (.v 18)),
                 (some (107, false), .mv 109 (.v 20)),
                 (some (107, false), .bin 110 .neq (.v 108) (.v 109)),
                 (none, .pick 111 (.v 107) (.c (.bool true)) (.v 110)),
                 (none, .mv 112 (.v 111)),
                 (some (112, false), .mv 113 (.v 17)),
                 (some (112, false), .mv 114 (.v 19)),
                 (some (112, false), .bin 115 .neq (.v 113) (.v 114)),
                 (none, .pick 116 (.v 112) (.c (.bool true)) (.v 115))])
               (.cond (.v 116)
                (.seq
                 (.region [] [] [2] false [
                   (none, .asg 2 (.c (.bool false)) .copy)])
                 (.ret [2]))
                (.skip [3, 4, 6, 7, 11, 14, 15, 19])))
              (.seq
               (.seq
                (.region [] [] [3, 4, 6, 7, 11, 15, 19, 118] false [
                  (none, .mv 117 (.v 14)),
                  (none, .bin 118 .eql (.v 117) (.c (.int .i64 0)))])
                (.cond (.v 118)
                 (.seq
                  (.region [] [] [3, 4, 6, 7, 11, 15, 19, 21] false [
                    (none, .asg 21 (.c (.int .i64 0)) .copy)])
                  (.seq
                   (.seq
                    (.region [] [] [3, 4, 6, 7, 11, 15, 19, 21, 22] false [
                      (none, .asg 22 (.c (.int .i64 0)) .copy)])
                    (.block 0
                     (.loop
                      (.seq
                       (.seq
                        (.region [(120, 3, false)] [] [3, 4, 6, 7, 11, 15, 19, 21, 22, 122] false [
                          (none, .mv 119 (.v 22)),
                          (none, .mv 120 (.v 3)),
                          (none, .len 121 false (.v 120)),
                          (none, .bin 122 .lss (.v 119) (.v 121))])
                        (.cond (.v 122)
                         (.skip [3, 4, 6, 7, 11, 15, 19, 21, 22])
                         (.exit 0 [3, 4, 6, 7, 11, 15, 19, 21])))
                       (.seq
                        (.block 1
                         (.region [(129, 3, false), (128, 3, false), (126, 3, false)] [] [3, 4, 6, 7, 11, 15, 19, 21, 22] false [
                           (none, .mv 125 (.v 21)),
                           (none, .mv 126 (.v 3)),
                           (none, .mv 127 (.v 22)),
                           (none, .iadr 128 2 (.v 126) (.v 127)),
                           (none, .fadr 129 0 1 (.v 128)),
                           (none, .load 130 false 1 (.v 129) none),
                           (none, .bin 131 .add (.v 125) (.v 130)),
                           (none, .asg 21 (.v 131) .copy)]))
                        (.region [] [] [3, 4, 6, 7, 11, 15, 19, 21, 22] false [
                          (none, .mv 123 (.v 22)),
                          (none, .bin 124 .add (.v 123) (.c (.int .i64 1))),
                          (none, .asg 22 (.v 124) .copy)]))))))
                   (.seq
                    (.region [(137, 15, false), (132, 15, false)] [] [3, 4, 6, 7, 11, 19, 140] false [
                      (none, .fadr 132 0 1 (.v 15)),
                      (none, .load 133 false 1 (.v 132) none),
                      (none, .mv 134 (.v 19)),
                      (none, .bin 135 .mul (.v 133) (.v 134)),
                      (none, .mv 136 (.v 21)),
                      (none, .fadr 137 1 1 (.v 15)),
                      (none, .load 138 false 1 (.v 137) none),
                      (none, .bin 139 .mul (.v 136) (.v 138)),
                      (none, .bin 140 .neq (.v 135) (.v 139))])
                    (.cond (.v 140)
                     (.seq
                      (.region [] [] [2] false [
                        (none, .asg 2 (.c (.bool false)) .copy)])
                      (.ret [2]))
                     (.skip [3, 4, 6, 7, 11, 19])))))
                 (.skip [3, 4, 6, 7, 11, 19])))
               (.seq
                (.seq
                 (.region [] [] [3, 4, 7, 11, 19, 146] false [
                   (none, .mv 141 (.v 6)),
                   (none, .bin 142 .neq (.v 141) (.c (.int .i64 0))),
                   (none, .mv 143 (.v 142)),
                   (some (143, false), .mv 144 (.v 19)),
                   (some (143, false), .bin 145 .gtr (.v 144) (.c (.int .i64 400))),
                   (none, .pick 146 (.v 143) (.c (.bool true)) (.v 145))])
                 (.cond (.v 146)
                  (.seq
                   (.region [] [] [2] false [
                     (none, .asg 2 (.c (.bool true)) .copy)])
                   (.ret [2]))
                  (.skip [3, 4, 7, 11, 19])))
                (.seq
                 (.region [] [] [3, 4, 7, 11, 19, 23] false [
                   (none, .asg 23 (.c (.int .i64 0)) .copy)])
                 (.seq
                  (.region [] [] [3, 4, 7, 11, 19, 23, 24] false [
                    (none, .asg 24 (.c (.int .i64 0)) .copy)])
                  (.seq
                   (.seq
                    (.region [] [] [3, 4, 7, 11, 19, 23, 24, 25] false [
                      (none, .asg 25 (.c (.int .i64 0)) .copy)])
                    (.block 2
                     (.loop
                      (.seq
                       (.seq
                        (.region [] [] [3, 4, 7, 11, 19, 23, 24, 25, 149] false [
                          (none, .mv 147 (.v 25)),
                          (none, .mv 148 (.v 19)),
                          (none, .bin 149 .lss (.v 147) (.v 148))])
                        (.cond (.v 149)
                         (.skip [3, 4, 7, 11, 19, 23, 24, 25])
                         (.exit 2 [7, 11, 23, 24])))
                       (.seq
                        (.block 3
                         (.seq
                          (.region [(153, 3, false)] [] [3, 4, 7, 11, 19, 23, 24, 25, 26, 27] false [
                            (none, .mv 153 (.v 3)),
                            (none, .mv 154 (.v 4)),
                            (none, .mv 155 (.v 25)),
                            (none, .call (some 156) 177 false [((.v 153), false), ((.v 154), false), ((.v 155), false)]),
                            (none, .asg 152 (.v 156) .move),
                            (none, .ext 157 (.v 152) 0),
                            (none, .extp 158 (.v 152) 1),
                            (none, .asg 26 (.v 157) .move),
                            (none, .asg 27 (.v 158) .copy)])
                          (.seq
                           (.seq
                            (.region [] [] [3, 4, 7, 11, 19, 23, 24, 25, 26, 160] false [
                              (none, .mv 159 (.v 27)),
                              (none, .bin 160 .neq (.v 159) (.c (.int .i64 0)))])
                            (.cond (.v 160)
                             (.seq
                              (.region [] [] [2] false [
                                (none, .asg 2 (.c (.bool false)) .copy)])
                              (.ret [2]))
                             (.skip [3, 4, 7, 11, 19, 23, 24, 25, 26])))
                           (.seq
                            (.seq
                             (.region [(161, 26, false)] [] [3, 4, 7, 11, 19, 23, 24, 25, 26, 163] false [
                               (none, .mv 161 (.v 26)),
                               (none, .len 162 false (.v 161)),
                               (none, .bin 163 .eql (.v 162) (.c (.int .i64 0)))])
                             (.cond (.v 163)
                              (.region [] [] [3, 4, 7, 11, 19, 23, 24, 25, 26] false [
                                (none, .mv 164 (.v 23)),
                                (none, .bin 165 .add (.v 164) (.c (.int .i64 1))),
                                (none, .asg 23 (.v 165) .copy)])
                              (.skip [3, 4, 7, 11, 19, 23, 24, 25, 26])))
                            (.region [(167, 26, false)] [] [3, 4, 7, 11, 19, 23, 24, 25] false [
                              (none, .mv 166 (.v 24)),
                              (none, .mv 167 (.v 26)),
                              (none, .len 168 false (.v 167)),
                              (none, .mm 169 true (.v 166) [(.v 168)]),
                              (none, .asg 24 (.v 169) .copy)])))))
                        (.region [] [] [3, 4, 7, 11, 19, 23, 24, 25] false [
                          (none, .mv 150 (.v 25)),
                          (none, .bin 151 .add (.v 150) (.c (.int .i64 1))),
                          (none, .asg 25 (.v 151) .copy)]))))))
                   (.seq
                    (.region [] [] [2] false [
                      (none, .mv 170 (.v 23)),
                      (none, .mv 171 (.v 7)),
                      (none, .bin 172 .eql (.v 170) (.v 171)),
                      (none, .mv 173 (.v 172)),
                      (some (173, true), .mv 174 (.v 24)),
                      (some (173, true), .mv 175 (.v 11)),
                      (some (173, true), .bin 176 .eql (.v 174) (.v 175)),
                      (none, .pick 177 (.v 173) (.v 176) (.c (.bool false))),
                      (none, .asg 2 (.v 177) .copy)])
                    (.ret [2])))))))))))))))))))⟩
def tabl : List (Nat × PFunc) := [(247, F247), (326, F326), (215, F215), (823, F823), (801, F801), (214, F214), (267, F267), (303, F303), (56, F56), (268, F268), (105, F105), (269, F269), (292, F292), (318, F318), (131, F131), (177, F177), (201, F201), (398, F398), (606, F606), (605, F605), (725, F725), (726, F726), (727, F727), (443, F443), (603, F603), (5, F5), (7, F7), (4, F4), (6, F6), (723, F723), (724, F724), (729, F729), (474, F474), (528, F528), (604, F604), (611, F611), (616, F616), (728, F728), (541, F541), (584, F584), (374, F374)]
def T : Nat → Option PFunc := tabOf tabl
end Go.Vs.G
