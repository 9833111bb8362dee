/- The functions that the law reaches, in the small language, printed by program. No conditions. -/
import Derived.Test.YtiefnapeghkjnaaDLTicks
import Derived.Test.YtiefnapeghkjnaaV4
set_option maxRecDepth 100000
open Go Go.Vs
namespace Go.Vs.G
def F277 : PFunc :=
 ⟨[false, false], [.tmp 4],
  (.seq
   (.region [] [] [0, 1] false [
     (none, .asg 4 (.c (.bool false)) .copy)])
   (.seq
    (.seq
     (.region [] [] [0, 1, 5] false [
       (none, .asg 5 (.c (.int .i64 0)) .copy)])
     (.block 0
      (.loop
       (.seq
        (.seq
         (.region [] [] [0, 1, 5, 9] false [
           (none, .mv 6 (.v 5)),
           (none, .mv 7 (.v 0)),
           (none, .len 8 true (.v 7)),
           (none, .bin 9 .lss (.v 6) (.v 8))])
         (.cond (.v 9)
          (.skip [0, 1, 5])
          (.exit 0 [0, 1])))
        (.seq
         (.block 1
          (.seq
           (.region [] [] [0, 1, 5, 21] false [
             (none, .mv 12 (.v 0)),
             (none, .mv 13 (.v 5)),
             (none, .idx 14 (.v 12) (.v 13)),
             (none, .bin 15 .lss (.v 14) (.c (.int .u8 97))),
             (none, .mv 16 (.v 15)),
             (some (16, false), .mv 17 (.v 0)),
             (some (16, false), .mv 18 (.v 5)),
             (some (16, false), .idx 19 (.v 17) (.v 18)),
             (some (16, false), .bin 20 .gtr (.v 19) (.c (.int .u8 122))),
             (none, .pick 21 (.v 16) (.c (.bool true)) (.v 20))])
           (.cond (.v 21)
            (.seq
             (.region [] [] [4] false [
               (none, .asg 4 (.c (.bool false)) .copy)])
             (.ret [4]))
            (.skip [0, 1, 5]))))
         (.region [] [] [0, 1, 5] false [
           (none, .mv 10 (.v 5)),
           (none, .bin 11 .add (.v 10) (.c (.int .i64 1))),
           (none, .asg 5 (.v 11) .copy)]))))))
    (.seq
     (.region [] [] [4] false [
       (none, .mv 22 (.v 0)),
       (none, .len 23 true (.v 22)),
       (none, .bin 24 .geq (.v 23) (.c (.int .i64 1))),
       (none, .mv 25 (.v 24)),
       (some (25, true), .mv 26 (.v 0)),
       (some (25, true), .len 27 true (.v 26)),
       (some (25, true), .mv 28 (.v 1)),
       (some (25, true), .bin 29 .leq (.v 27) (.v 28)),
       (none, .pick 30 (.v 25) (.v 29) (.c (.bool false))),
       (none, .asg 4 (.v 30) .copy)])
     (.ret [4]))))⟩
def F326 : PFunc :=
 ⟨[false, false, false], [.tmp 6],
  (.seq
   (.region [] [] [0, 1, 2] false [
     (none, .asg 6 (.c (.bool false)) .copy)])
   (.seq
    (.region [] [] [6] false [
      (none, .mv 7 (.v 0)),
      (none, .mv 8 (.v 1)),
      (none, .bin 9 .geq (.v 7) (.v 8)),
      (none, .mv 10 (.v 9)),
      (some (10, true), .mv 11 (.v 0)),
      (some (10, true), .mv 12 (.v 2)),
      (some (10, true), .bin 13 .leq (.v 11) (.v 12)),
      (none, .pick 14 (.v 10) (.v 13) (.c (.bool false))),
      (none, .asg 6 (.v 14) .copy)])
    (.ret [6])))⟩
def F227 : PFunc :=
 ⟨[false], [.tmp 2],
  (.seq
   (.region [] [] [0] false [
     (none, .asg 2 (.c (.bool false)) .copy)])
   (.seq
    (.seq
     (.region [(5, 0, false)] [] [0, 5, 6, 7] false [
       (none, .mv 5 (.v 0)),
       (none, .len 6 false (.v 5)),
       (none, .mv 7 (.c (.int .i64 0)))])
     (.block 0
      (.loop
       (.seq
        (.region [(5, 0, false)] [] [0, 5, 6, 7, 8] false [
          (none, .bin 8 .lss (.v 7) (.v 6))])
        (.seq
         (.cond (.v 8)
          (.skip [0, 5, 6, 7])
          (.exit 0 [0]))
         (.seq
          (.block 1
           (.seq
            (.region [(10, 0, false), (5, 0, false)] [] [0, 3, 4, 5, 6, 7] false [
              (none, .mv 9 (.v 7)),
              (none, .iadr 10 2 (.v 5) (.v 7)),
              (none, .load 11 true 2 (.v 10) none),
              (none, .new 4 (.agg [(.str []), (.int .i64 0)])),
              (none, .asg 3 (.v 9) .copy),
              (none, .store 2 (.v 4) (.v 11) .copy)])
            (.seq
             (.region [(32, 4, false), (30, 0, false), (29, 0, false), (26, 0, false), (17, 4, false), (12, 4, false), (5, 0, false)] [] [0, 5, 6, 7, 36] true [
               (none, .fadr 12 0 1 (.v 4)),
               (none, .load 13 false 1 (.v 12) none),
               (none, .call (some 14) 277 false [((.v 13), false), ((.c (.int .i64 1)), false)]),
               (none, .un 15 .not (.v 14)),
               (none, .mv 16 (.v 15)),
               (some (16, false), .fadr 17 1 1 (.v 4)),
               (some (16, false), .load 18 false 1 (.v 17) none),
               (some (16, false), .call (some 19) 326 false [((.v 18), false), ((.c (.int .i64 1)), false), ((.c (.int .i64 1000)), false)]),
               (some (16, false), .un 20 .not (.v 19)),
               (none, .pick 21 (.v 16) (.c (.bool true)) (.v 20)),
               (none, .mv 22 (.v 21)),
               (some (22, false), .mv 23 (.v 3)),
               (some (22, false), .bin 24 .gtr (.v 23) (.c (.int .i64 0))),
               (some (22, false), .mv 25 (.v 24)),
               (some (25, true), .mv 26 (.v 0)),
               (some (25, true), .mv 27 (.v 3)),
               (some (25, true), .bin 28 .sub (.v 27) (.c (.int .i64 1))),
               (some (25, true), .iadr 29 2 (.v 26) (.v 28)),
               (some (25, true), .fadr 30 0 1 (.v 29)),
               (some (25, true), .load 31 false 1 (.v 30) none),
               (some (25, true), .fadr 32 0 1 (.v 4)),
               (some (25, true), .load 33 false 1 (.v 32) none),
               (some (25, true), .bin 34 .eql (.v 31) (.v 33)),
               (some (22, false), .pick 35 (.v 25) (.v 34) (.c (.bool false))),
               (none, .pick 36 (.v 22) (.c (.bool true)) (.v 35))])
             (.cond (.v 36)
              (.seq
               (.region [] [] [2] false [
                 (none, .asg 2 (.c (.bool false)) .copy)])
               (.ret [2]))
              (.skip [0, 5, 6, 7])))))
          (.region [(5, 0, false)] [] [0, 5, 6, 7] false [
            (none, .bin 37 .add (.v 7) (.c (.int .i64 1))),
            (none, .mv 7 (.v 37))])))))))
    (.seq
     (.region [(42, 0, false), (38, 0, false)] [] [2] false [
       (none, .mv 38 (.v 0)),
       (none, .len 39 false (.v 38)),
       (none, .bin 40 .geq (.v 39) (.c (.int .i64 1))),
       (none, .mv 41 (.v 40)),
       (some (41, true), .mv 42 (.v 0)),
       (some (41, true), .len 43 false (.v 42)),
       (some (41, true), .bin 44 .leq (.v 43) (.c (.int .i64 12))),
       (none, .pick 45 (.v 41) (.v 44) (.c (.bool false))),
       (none, .asg 2 (.v 45) .copy)])
     (.ret [2]))))⟩
def F245 : PFunc :=
 ⟨[false, false], [.tmp 4],
  (.seq
   (.region [] [] [0, 1] false [
     (none, .asg 4 (.c (.int .i64 0)) .copy)])
   (.seq
    (.region [] [] [4] false [
      (none, .mv 5 (.v 0)),
      (none, .mv 6 (.v 1)),
      (none, .bin 7 .sub (.v 5) (.v 6)),
      (none, .mv 8 (.v 1)),
      (none, .mv 9 (.v 0)),
      (none, .bin 10 .sub (.v 8) (.v 9)),
      (none, .mm 11 true (.v 7) [(.v 10)]),
      (none, .asg 4 (.v 11) .copy)])
    (.ret [4])))⟩
def F301 : PFunc :=
 ⟨[false, false], [.tmp 4],
  (.seq
   (.region [] [] [0, 1] false [
     (none, .asg 4 (.c (.int .i64 0)) .copy)])
   (.seq
    (.region [] [] [0, 1] false [
      (none, .mv 6 (.v 0)),
      (none, .bin 7 .mul (.c (.int .i64 2)) (.v 6)),
      (none, .mv 8 (.v 1)),
      (none, .bin 9 .add (.v 7) (.v 8)),
      (none, .mv 10 (.v 1)),
      (none, .bin 11 .mul (.c (.int .i64 2)) (.v 10)),
      (none, .asg 0 (.v 9) .copy),
      (none, .asg 1 (.v 11) .copy)])
    (.seq
     (.region [] [] [0, 1, 5] false [
       (none, .mv 12 (.v 0)),
       (none, .mv 13 (.v 1)),
       (none, .bin 14 .quo (.v 12) (.v 13)),
       (none, .asg 5 (.v 14) .copy)])
     (.seq
      (.seq
       (.region [] [] [5, 18] false [
         (none, .mv 15 (.v 0)),
         (none, .mv 16 (.v 1)),
         (none, .bin 17 .rem (.v 15) (.v 16)),
         (none, .bin 18 .lss (.v 17) (.c (.int .i64 0)))])
       (.cond (.v 18)
        (.region [] [] [5] false [
          (none, .mv 19 (.v 5)),
          (none, .bin 20 .sub (.v 19) (.c (.int .i64 1))),
          (none, .asg 5 (.v 20) .copy)])
        (.skip [5])))
      (.seq
       (.region [] [] [4] false [
         (none, .mv 21 (.v 5)),
         (none, .asg 4 (.v 21) .copy)])
       (.ret [4]))))))⟩
def F296 : PFunc :=
 ⟨[false, false], [.tmp 4],
  (.seq
   (.region [] [] [0, 1] false [
     (none, .asg 4 (.c (.sl true 1 [])) .copy)])
   (.seq
    (.region [] [] [0, 1, 5] false [
      (none, .mksl 8 1 (.int .i64 0) 0 []),
      (none, .asg 5 (.v 8) .move)])
    (.seq
     (.seq
      (.region [(9, 0, false)] [] [0, 1, 5, 9, 10, 11] false [
        (none, .mv 9 (.v 0)),
        (none, .len 10 false (.v 9)),
        (none, .mv 11 (.c (.int .i64 0)))])
      (.block 0
       (.loop
        (.seq
         (.region [(9, 0, false)] [] [0, 1, 5, 9, 10, 11, 12] false [
           (none, .bin 12 .lss (.v 11) (.v 10))])
         (.seq
          (.cond (.v 12)
           (.skip [0, 1, 5, 9, 10, 11])
           (.exit 0 [5]))
          (.seq
           (.block 1
            (.seq
             (.region [(13, 0, false), (9, 0, false)] [] [0, 1, 5, 7, 9, 10, 11] false [
               (none, .iadr 13 2 (.v 9) (.v 11)),
               (none, .load 14 true 2 (.v 13) none),
               (none, .new 7 (.agg [(.str []), (.int .i64 0)])),
               (none, .store 2 (.v 7) (.v 14) .copy)])
             (.region [(16, 7, false), (15, 5, false), (9, 0, false)] [] [0, 1, 5, 9, 10, 11] false [
               (none, .mv 15 (.v 5)),
               (none, .fadr 16 1 1 (.v 7)),
               (none, .load 17 false 1 (.v 16) none),
               (none, .mv 18 (.v 1)),
               (none, .call (some 19) 301 false [((.v 17), false), ((.v 18), false)]),
               (none, .mm 20 true (.v 19) [(.c (.int .i64 1))]),
               (none, .mksl 21 1 (.int .i64 0) 1 [(0, (.v 20), .copy)]),
               (none, .app 22 1 (.v 15) (.v 21) .move),
               (none, .asg 5 (.v 22) .move)])))
           (.region [(9, 0, false)] [] [0, 1, 5, 9, 10, 11] false [
             (none, .bin 23 .add (.v 11) (.c (.int .i64 1))),
             (none, .mv 11 (.v 23))])))))))
     (.seq
      (.region [(24, 5, false)] [] [4] false [
        (none, .mv 24 (.v 5)),
        (none, .asg 4 (.v 24) .move)])
      (.ret [4])))))⟩
def F265 : PFunc :=
 ⟨[false, false], [.tmp 4],
  (.seq
   (.region [] [] [0, 1] false [
     (none, .asg 4 (.c (.int .i64 0)) .copy)])
   (.seq
    (.region [] [] [0, 1, 5] false [
      (none, .asg 5 (.c (.int .i64 0)) .copy)])
    (.seq
     (.seq
      (.region [(8, 0, false)] [] [0, 1, 5, 10, 11, 12] false [
        (none, .mv 8 (.v 0)),
        (none, .mv 9 (.v 1)),
        (none, .call (some 10) 296 false [((.v 8), false), ((.v 9), false)]),
        (none, .len 11 false (.v 10)),
        (none, .mv 12 (.c (.int .i64 0)))])
      (.block 0
       (.loop
        (.seq
         (.region [] [] [0, 1, 5, 10, 11, 12, 13] false [
           (none, .bin 13 .lss (.v 12) (.v 11))])
         (.seq
          (.cond (.v 13)
           (.skip [0, 1, 5, 10, 11, 12])
           (.exit 0 [5]))
          (.seq
           (.block 1
            (.seq
             (.region [(15, 10, false)] [] [0, 1, 5, 6, 7, 10, 11, 12] false [
               (none, .mv 14 (.v 12)),
               (none, .iadr 15 1 (.v 10) (.v 12)),
               (none, .load 16 false 1 (.v 15) none),
               (none, .asg 6 (.v 14) .copy),
               (none, .asg 7 (.v 16) .copy)])
             (.region [(24, 0, false), (23, 0, false), (21, 0, false)] [] [0, 1, 5, 10, 11, 12] false [
               (none, .mv 17 (.v 5)),
               (none, .mv 18 (.v 7)),
               (none, .mv 19 (.v 1)),
               (none, .bin 20 .mul (.v 18) (.v 19)),
               (none, .mv 21 (.v 0)),
               (none, .mv 22 (.v 6)),
               (none, .iadr 23 2 (.v 21) (.v 22)),
               (none, .fadr 24 1 1 (.v 23)),
               (none, .load 25 false 1 (.v 24) none),
               (none, .call (some 26) 245 false [((.v 20), false), ((.v 25), false)]),
               (none, .bin 27 .add (.v 17) (.v 26)),
               (none, .asg 5 (.v 27) .copy)])))
           (.region [] [] [0, 1, 5, 10, 11, 12] false [
             (none, .bin 28 .add (.v 12) (.c (.int .i64 1))),
             (none, .mv 12 (.v 28))])))))))
     (.seq
      (.region [] [] [4] false [
        (none, .mv 29 (.v 5)),
        (none, .asg 4 (.v 29) .copy)])
      (.ret [4])))))⟩
def F315 : PFunc :=
 ⟨[false], [.tmp 2],
  (.seq
   (.region [] [] [0] false [
     (none, .asg 2 (.c (.int .i64 0)) .copy)])
   (.seq
    (.region [] [] [0, 3] false [
      (none, .asg 3 (.c (.int .i64 0)) .copy)])
    (.seq
     (.seq
      (.region [(6, 0, false)] [] [0, 3, 6, 7, 8] false [
        (none, .mv 6 (.v 0)),
        (none, .len 7 false (.v 6)),
        (none, .mv 8 (.c (.int .i64 0)))])
      (.block 0
       (.loop
        (.seq
         (.region [(6, 0, false)] [] [0, 3, 6, 7, 8, 9] false [
           (none, .bin 9 .lss (.v 8) (.v 7))])
         (.seq
          (.cond (.v 9)
           (.skip [0, 3, 6, 7, 8])
           (.exit 0 [3]))
          (.seq
           (.block 1
            (.seq
             (.region [(10, 0, false), (6, 0, false)] [] [0, 3, 5, 6, 7, 8] false [
               (none, .iadr 10 1 (.v 6) (.v 8)),
               (none, .load 11 false 1 (.v 10) none),
               (none, .asg 5 (.v 11) .copy)])
             (.region [(6, 0, false)] [] [0, 3, 6, 7, 8] false [
               (none, .mv 12 (.v 3)),
               (none, .mv 13 (.v 5)),
               (none, .bin 14 .add (.v 12) (.v 13)),
               (none, .asg 3 (.v 14) .copy)])))
           (.region [(6, 0, false)] [] [0, 3, 6, 7, 8] false [
             (none, .bin 15 .add (.v 8) (.c (.int .i64 1))),
             (none, .mv 8 (.v 15))])))))))
     (.seq
      (.region [] [] [2] false [
        (none, .mv 16 (.v 3)),
        (none, .asg 2 (.v 16) .copy)])
      (.ret [2])))))⟩
def F54 : PFunc :=
 ⟨[false, false], [.tmp 4, .tmp 5, .tmp 6],
  (.seq
   (.region [] [] [0, 1] false [
     (none, .asg 4 (.c (.int .i64 0)) .copy),
     (none, .asg 5 (.c (.int .i64 0)) .copy),
     (none, .asg 6 (.c (.int .i64 0)) .copy)])
   (.seq
    (.block 0
     (.seq
      (.region [(12, 0, false)] [] [0, 1, 11] false [
        (none, .mv 12 (.v 0)),
        (none, .call (some 13) 227 false [((.v 12), false)]),
        (none, .un 14 .not (.v 13)),
        (none, .asg 11 (.v 14) .copy)])
      (.cond (.v 11)
       (.seq
        (.region [] [] [4, 5, 6] false [
          (none, .asg 4 (.c (.int .i64 0)) .copy),
          (none, .asg 5 (.c (.int .i64 0)) .copy),
          (none, .asg 6 (.c (.int .i64 1)) .copy)])
        (.ret [4, 5, 6]))
       (.seq
        (.region [] [] [0, 1, 15] false [
          (none, .mv 16 (.v 1)),
          (none, .call (some 17) 326 false [((.v 16), false), ((.c (.int .i64 1)), false), ((.c (.int .i64 60)), false)]),
          (none, .un 18 .not (.v 17)),
          (none, .asg 15 (.v 18) .copy)])
        (.cond (.v 15)
         (.seq
          (.region [] [] [4, 5, 6] false [
            (none, .asg 4 (.c (.int .i64 0)) .copy),
            (none, .asg 5 (.c (.int .i64 0)) .copy),
            (none, .asg 6 (.c (.int .i64 2)) .copy)])
          (.ret [4, 5, 6]))
         (.skip [0, 1]))))))
    (.seq
     (.region [] [] [0, 1, 7, 8] false [
       (none, .asg 7 (.c (.int .i64 0)) .copy),
       (none, .asg 8 (.c (.int .i64 (-1))) .copy)])
     (.seq
      (.seq
       (.region [] [] [0, 1, 7, 8, 9] false [
         (none, .asg 9 (.c (.int .i64 1)) .copy)])
       (.block 1
        (.loop
         (.seq
          (.seq
           (.region [] [] [0, 1, 7, 8, 9, 20] false [
             (none, .mv 19 (.v 9)),
             (none, .bin 20 .leq (.v 19) (.c (.int .i64 100)))])
           (.cond (.v 20)
            (.skip [0, 1, 7, 8, 9])
            (.exit 1 [7, 8])))
          (.seq
           (.block 2
            (.seq
             (.seq
              (.region [(23, 0, false)] [] [0, 1, 7, 8, 9, 28] false [
                (none, .mv 23 (.v 0)),
                (none, .mv 24 (.v 9)),
                (none, .call (some 25) 296 false [((.v 23), false), ((.v 24), false)]),
                (none, .call (some 26) 315 false [((.v 25), false)]),
                (none, .mv 27 (.v 1)),
                (none, .bin 28 .gtr (.v 26) (.v 27))])
              (.cond (.v 28)
               (.exit 2 [0, 1, 7, 8, 9])
               (.skip [0, 1, 7, 8, 9])))
             (.seq
              (.region [(29, 0, false)] [] [0, 1, 7, 8, 9, 10] false [
                (none, .mv 29 (.v 0)),
                (none, .mv 30 (.v 9)),
                (none, .call (some 31) 265 false [((.v 29), false), ((.v 30), false)]),
                (none, .asg 10 (.v 31) .copy)])
              (.seq
               (.region [] [] [0, 1, 7, 8, 9, 10, 38] false [
                 (none, .mv 32 (.v 8)),
                 (none, .bin 33 .lss (.v 32) (.c (.int .i64 0))),
                 (none, .mv 34 (.v 33)),
                 (some (34, false), .mv 35 (.v 10)),
                 (some (34, false), .mv 36 (.v 8)),
                 (some (34, false), .bin 37 .leq (.v 35) (.v 36)),
                 (none, .pick 38 (.v 34) (.c (.bool true)) (.v 37))])
               (.cond (.v 38)
                (.region [] [] [0, 1, 7, 8, 9] false [
                  (none, .mv 39 (.v 9)),
                  (none, .mv 40 (.v 10)),
                  (none, .asg 7 (.v 39) .copy),
                  (none, .asg 8 (.v 40) .copy)])
                (.skip [0, 1, 7, 8, 9]))))))
           (.region [] [] [0, 1, 7, 8, 9] false [
             (none, .mv 21 (.v 9)),
             (none, .bin 22 .add (.v 21) (.c (.int .i64 1))),
             (none, .asg 9 (.v 22) .copy)]))))))
      (.seq
       (.seq
        (.region [] [] [7, 8, 42] false [
          (none, .mv 41 (.v 8)),
          (none, .bin 42 .lss (.v 41) (.c (.int .i64 0)))])
        (.cond (.v 42)
         (.seq
          (.region [] [] [4, 5, 6] false [
            (none, .asg 4 (.c (.int .i64 0)) .copy),
            (none, .asg 5 (.c (.int .i64 0)) .copy),
            (none, .asg 6 (.c (.int .i64 3)) .copy)])
          (.ret [4, 5, 6]))
         (.skip [7, 8])))
       (.seq
        (.region [] [] [4, 5, 6] false [
          (none, .mv 43 (.v 7)),
          (none, .mv 44 (.v 8)),
          (none, .asg 4 (.v 43) .copy),
          (none, .asg 5 (.v 44) .copy),
          (none, .asg 6 (.c (.int .i64 0)) .copy)])
        (.ret [4, 5, 6])))))))⟩
def F252 : PFunc :=
 ⟨[false, false], [.tmp 4],
  (.seq
   (.region [] [] [0, 1] false [
     (none, .asg 4 (.c (.int .i64 0)) .copy)])
   (.seq
    (.block 0
     (.seq
      (.region [(6, 0, false)] [] [0, 1, 5] false [
        (none, .mv 6 (.v 0)),
        (none, .call (some 7) 227 false [((.v 6), false)]),
        (none, .un 8 .not (.v 7)),
        (none, .asg 5 (.v 8) .copy)])
      (.cond (.v 5)
       (.seq
        (.region [] [] [4] false [
          (none, .asg 4 (.c (.int .i64 1)) .copy)])
        (.ret [4]))
       (.seq
        (.region [] [] [0, 1, 9] false [
          (none, .mv 10 (.v 1)),
          (none, .call (some 11) 326 false [((.v 10), false), ((.c (.int .i64 1)), false), ((.c (.int .i64 100)), false)]),
          (none, .un 12 .not (.v 11)),
          (none, .asg 9 (.v 12) .copy)])
        (.cond (.v 9)
         (.seq
          (.region [] [] [4] false [
            (none, .asg 4 (.c (.int .i64 2)) .copy)])
          (.ret [4]))
         (.seq
          (.region [(14, 0, false)] [] [13] false [
            (none, .mv 14 (.v 0)),
            (none, .mv 15 (.v 1)),
            (none, .call (some 16) 296 false [((.v 14), false), ((.v 15), false)]),
            (none, .call (some 17) 315 false [((.v 16), false)]),
            (none, .bin 18 .gtr (.v 17) (.c (.int .i64 60))),
            (none, .asg 13 (.v 18) .copy)])
          (.cond (.v 13)
           (.seq
            (.region [] [] [4] false [
              (none, .asg 4 (.c (.int .i64 5)) .copy)])
            (.ret [4]))
           (.skip []))))))))
    (.seq
     (.region [] [] [4] false [
       (none, .asg 4 (.c (.int .i64 0)) .copy)])
     (.ret [4]))))⟩
def F57 : PFunc :=
 ⟨[false, false], [.tmp 4, .tmp 5],
  (.seq
   (.region [] [] [0, 1] false [
     (none, .asg 4 (.c (.str [])) .copy),
     (none, .asg 5 (.c (.int .i64 0)) .copy)])
   (.seq
    (.seq
     (.region [(10, 0, false)] [] [0, 1, 6] false [
       (none, .mv 10 (.v 0)),
       (none, .mv 11 (.v 1)),
       (none, .call (some 12) 252 false [((.v 10), false), ((.v 11), false)]),
       (none, .asg 6 (.v 12) .copy)])
     (.seq
      (.region [] [] [0, 1, 6, 14] false [
        (none, .mv 13 (.v 6)),
        (none, .bin 14 .neq (.v 13) (.c (.int .i64 0)))])
      (.cond (.v 14)
       (.seq
        (.region [] [] [4, 5] false [
          (none, .mv 15 (.v 6)),
          (none, .asg 4 (.c (.str [])) .copy),
          (none, .asg 5 (.v 15) .copy)])
        (.ret [4, 5]))
       (.skip [0, 1]))))
    (.seq
     (.region [] [] [0, 1, 7] false [
       (none, .asg 7 (.c (.str [])) .copy)])
     (.seq
      (.seq
       (.region [(16, 0, false)] [] [0, 7, 18, 19, 20] false [
         (none, .mv 16 (.v 0)),
         (none, .mv 17 (.v 1)),
         (none, .call (some 18) 296 false [((.v 16), false), ((.v 17), false)]),
         (none, .len 19 false (.v 18)),
         (none, .mv 20 (.c (.int .i64 0)))])
       (.block 0
        (.loop
         (.seq
          (.region [] [] [0, 7, 18, 19, 20, 21] false [
            (none, .bin 21 .lss (.v 20) (.v 19))])
          (.seq
           (.cond (.v 21)
            (.skip [0, 7, 18, 19, 20])
            (.exit 0 [7]))
           (.seq
            (.block 1
             (.seq
              (.region [(23, 18, false)] [] [0, 7, 8, 9, 18, 19, 20] false [
                (none, .mv 22 (.v 20)),
                (none, .iadr 23 1 (.v 18) (.v 20)),
                (none, .load 24 false 1 (.v 23) none),
                (none, .asg 8 (.v 22) .copy),
                (none, .asg 9 (.v 24) .copy)])
              (.region [(29, 0, false), (28, 0, false), (26, 0, false)] [] [0, 7, 18, 19, 20] false [
                (none, .mv 25 (.v 7)),
                (none, .mv 26 (.v 0)),
                (none, .mv 27 (.v 8)),
                (none, .iadr 28 2 (.v 26) (.v 27)),
                (none, .fadr 29 0 1 (.v 28)),
                (none, .load 30 false 1 (.v 29) none),
                (none, .mv 31 (.v 9)),
                (none, .call (some 32) 875 false [((.v 30), false), ((.v 31), false)]),
                (none, .bin 33 .add (.v 25) (.v 32)),
                (none, .asg 7 (.v 33) .copy)])))
            (.region [] [] [0, 7, 18, 19, 20] false [
              (none, .bin 34 .add (.v 20) (.c (.int .i64 1))),
              (none, .mv 20 (.v 34))])))))))
      (.seq
       (.region [] [] [4, 5] false [
         (none, .mv 35 (.v 7)),
         (none, .asg 4 (.v 35) .copy),
         (none, .asg 5 (.c (.int .i64 0)) .copy)])
       (.ret [4, 5]))))))⟩
def F77 : PFunc :=
 ⟨[false, false], [.tmp 4, .tmp 5],
  (.seq
   (.region [] [] [0, 1] false [
     (none, .asg 4 (.c (.int .i64 0)) .copy),
     (none, .asg 5 (.c (.int .i64 0)) .copy)])
   (.seq
    (.seq
     (.region [(7, 0, false)] [] [0, 1, 6] false [
       (none, .mv 7 (.v 0)),
       (none, .mv 8 (.v 1)),
       (none, .call (some 9) 252 false [((.v 7), false), ((.v 8), false)]),
       (none, .asg 6 (.v 9) .copy)])
     (.seq
      (.region [] [] [0, 1, 6, 11] false [
        (none, .mv 10 (.v 6)),
        (none, .bin 11 .neq (.v 10) (.c (.int .i64 0)))])
      (.cond (.v 11)
       (.seq
        (.region [] [] [4, 5] false [
          (none, .mv 12 (.v 6)),
          (none, .asg 4 (.c (.int .i64 0)) .copy),
          (none, .asg 5 (.v 12) .copy)])
        (.ret [4, 5]))
       (.skip [0, 1]))))
    (.seq
     (.region [(13, 0, false)] [] [4, 5] false [
       (none, .mv 13 (.v 0)),
       (none, .mv 14 (.v 1)),
       (none, .call (some 15) 265 false [((.v 13), false), ((.v 14), false)]),
       (none, .asg 4 (.v 15) .copy),
       (none, .asg 5 (.c (.int .i64 0)) .copy)])
     (.ret [4, 5]))))⟩
def F384 : PFunc :=
 ⟨[false, false, false], [.tmp 6],
  (.seq
   (.region [] [] [0, 1, 2] false [
     (none, .asg 6 (.c (.int .i64 0)) .copy)])
   (.seq
    (.seq
     (.region [(8, 0, false)] [] [0, 1, 2, 14] false [
       (none, .mv 7 (.v 1)),
       (none, .mv 8 (.v 0)),
       (none, .len 9 false (.v 8)),
       (none, .bin 10 .geq (.v 7) (.v 9)),
       (none, .mv 11 (.v 10)),
       (some (11, false), .mv 12 (.v 2)),
       (some (11, false), .bin 13 .lss (.v 12) (.c (.int .i64 1))),
       (none, .pick 14 (.v 11) (.c (.bool true)) (.v 13))])
     (.cond (.v 14)
      (.seq
       (.region [] [] [6] false [
         (none, .asg 6 (.c (.int .i64 0)) .copy)])
       (.ret [6]))
      (.skip [0, 1, 2])))
    (.seq
     (.region [(17, 0, false), (15, 0, false)] [] [6] false [
       (none, .mv 15 (.v 0)),
       (none, .mv 16 (.v 1)),
       (none, .iadr 17 1 (.v 15) (.v 16)),
       (none, .load 18 false 1 (.v 17) none),
       (none, .conv 19 .i64 (.v 18)),
       (none, .mv 20 (.v 2)),
       (none, .bin 21 .rem (.v 19) (.v 20)),
       (none, .asg 6 (.v 21) .copy)])
     (.ret [6]))))⟩
def F386 : PFunc :=
 ⟨[false, false], [.tmp 4],
  (.seq
   (.region [] [] [0, 1] false [
     (none, .asg 4 (.c (.bool false)) .copy)])
   (.seq
    (.region [(9, 1, false), (5, 0, false)] [] [4] false [
      (none, .mv 5 (.v 0)),
      (none, .len 6 false (.v 5)),
      (none, .bin 7 .gtr (.v 6) (.c (.int .i64 3000))),
      (none, .mv 8 (.v 7)),
      (some (8, false), .mv 9 (.v 1)),
      (some (8, false), .len 10 false (.v 9)),
      (some (8, false), .bin 11 .gtr (.v 10) (.c (.int .i64 3000))),
      (none, .pick 12 (.v 8) (.c (.bool true)) (.v 11)),
      (none, .asg 4 (.v 12) .copy)])
    (.ret [4])))⟩
def F603 : PFunc :=
 ⟨[false], [.tmp 2],
  (.seq
   (.region [] [] [0] false [
     (none, .asg 2 (.c .nilp) .copy)])
   (.seq
    (.region [(3, 0, false)] [] [2] false [
      (none, .mv 3 (.v 0)),
      (none, .build 4 [(.sl false 1 []), (.int .i64 0), (.int .u64 0)] [(0, 1, (.v 3), .move)]),
      (none, .box 5 (.v 4) .move),
      (none, .asg 2 (.v 5) .move)])
    (.ret [2])))⟩
def F5 : PFunc :=
 ⟨[true], [.tmp 2],
  (.seq
   (.region [] [] [0] false [
     (none, .asg 2 (.c (.int .i64 0)) .copy)])
   (.seq
    (.region [] [] [0, 3] false [
      (none, .asg 3 (.c (.int .i64 0)) .copy)])
    (.seq
     (.seq
      (.region [(11, 0, true), (10, 0, false), (9, 0, false), (8, 0, false), (6, 0, false), (5, 0, false), (4, 0, false)] [] [0, 3, 13] true [
        (none, .mvr 4 0),
        (none, .nchk 5 (.v 4)),
        (none, .fadr 6 1 1 (.v 5)),
        (none, .load 7 false 1 (.v 6) none),
        (none, .mvr 8 0),
        (none, .nchk 9 (.v 8)),
        (none, .fadr 10 0 1 (.v 9)),
        (none, .load 11 false 1 (.v 10) none),
        (none, .len 12 false (.v 11)),
        (none, .bin 13 .lss (.v 7) (.v 12))])
      (.cond (.v 13)
       (.region [(22, 0, true), (20, 0, false), (19, 0, false), (18, 0, false), (17, 0, true), (16, 0, false), (15, 0, false), (14, 0, false)] [] [0, 3] true [
         (none, .mvr 14 0),
         (none, .nchk 15 (.v 14)),
         (none, .fadr 16 0 1 (.v 15)),
         (none, .load 17 false 1 (.v 16) none),
         (none, .mvr 18 0),
         (none, .nchk 19 (.v 18)),
         (none, .fadr 20 1 1 (.v 19)),
         (none, .load 21 false 1 (.v 20) none),
         (none, .iadr 22 1 (.v 17) (.v 21)),
         (none, .load 23 false 1 (.v 22) none),
         (none, .conv 24 .i64 (.v 23)),
         (none, .asg 3 (.v 24) .copy)])
       (.skip [0, 3])))
     (.seq
      (.region [(31, 0, false), (30, 0, false), (27, 0, false), (26, 0, false), (25, 0, false)] [] [0, 3] false [
        (none, .mv 25 (.v 0)),
        (none, .nchk 26 (.v 25)),
        (none, .fadr 27 1 1 (.v 26)),
        (none, .load 28 false 1 (.v 27) none),
        (none, .bin 29 .add (.v 28) (.c (.int .i64 1))),
        (none, .nchk 30 (.v 25)),
        (none, .fadr 31 1 1 (.v 30)),
        (none, .store 1 (.v 31) (.v 29) .copy)])
      (.seq
       (.region [(43, 0, false), (42, 0, false), (35, 0, false), (34, 0, false), (33, 0, false), (32, 0, false)] [] [0, 3] false [
         (none, .mv 32 (.v 0)),
         (none, .mv 33 (.v 0)),
         (none, .nchk 34 (.v 33)),
         (none, .fadr 35 2 1 (.v 34)),
         (none, .load 36 false 1 (.v 35) none),
         (none, .bin 37 .mul (.v 36) (.c (.int .u64 6364136223846793005))),
         (none, .mv 38 (.v 3)),
         (none, .conv 39 .u64 (.v 38)),
         (none, .bin 40 .add (.v 37) (.v 39)),
         (none, .bin 41 .add (.v 40) (.c (.int .u64 1442695040888963407))),
         (none, .nchk 42 (.v 32)),
         (none, .fadr 43 2 1 (.v 42)),
         (none, .store 1 (.v 43) (.v 41) .copy)])
       (.seq
        (.seq
         (.region [(51, 0, true), (50, 0, false), (49, 0, false), (48, 0, false), (46, 0, false), (45, 0, false), (44, 0, false)] [] [0, 3, 53] true [
           (none, .mvr 44 0),
           (none, .nchk 45 (.v 44)),
           (none, .fadr 46 1 1 (.v 45)),
           (none, .load 47 false 1 (.v 46) none),
           (none, .mvr 48 0),
           (none, .nchk 49 (.v 48)),
           (none, .fadr 50 0 1 (.v 49)),
           (none, .load 51 false 1 (.v 50) none),
           (none, .len 52 false (.v 51)),
           (none, .bin 53 .leq (.v 47) (.v 52))])
         (.cond (.v 53)
          (.seq
           (.region [] [] [0, 2] false [
             (none, .mv 54 (.v 3)),
             (none, .asg 2 (.v 54) .copy)])
           (.ret [0, 2]))
          (.skip [0])))
        (.seq
         (.region [(57, 0, false), (56, 0, false), (55, 0, false)] [] [0, 2] false [
           (none, .mv 55 (.v 0)),
           (none, .nchk 56 (.v 55)),
           (none, .fadr 57 2 1 (.v 56)),
           (none, .load 58 false 1 (.v 57) none),
           (none, .bin 59 .shr (.v 58) (.c (.int .u64 40))),
           (none, .bin 60 .and (.v 59) (.c (.int .u64 255))),
           (none, .conv 61 .i64 (.v 60)),
           (none, .asg 2 (.v 61) .copy)])
         (.ret [0, 2]))))))))⟩
def F7 : PFunc :=
 ⟨[true, false], [.tmp 4],
  (.seq
   (.region [] [] [0, 1] false [
     (none, .asg 4 (.c (.int .i64 0)) .copy)])
   (.seq
    (.seq
     (.region [] [] [0, 1, 7] false [
       (none, .mv 6 (.v 1)),
       (none, .bin 7 .leq (.v 6) (.c (.int .i64 1)))])
     (.cond (.v 7)
      (.seq
       (.region [] [] [0, 4] false [
         (none, .asg 4 (.c (.int .i64 0)) .copy)])
       (.ret [0, 4]))
      (.skip [0, 1])))
    (.seq
     (.region [(8, 0, false)] [] [0, 1, 5] false [
       (none, .mv 8 (.v 0)),
       (none, .call (some 9) 5 true [((.v 8), true)]),
       (none, .asg 5 (.v 9) .copy)])
     (.seq
      (.seq
       (.region [] [] [0, 1, 5, 11] false [
         (none, .mv 10 (.v 1)),
         (none, .bin 11 .gtr (.v 10) (.c (.int .i64 200)))])
       (.cond (.v 11)
        (.region [(14, 0, false)] [] [0, 1, 5] false [
          (none, .mv 12 (.v 5)),
          (none, .bin 13 .mul (.v 12) (.c (.int .i64 256))),
          (none, .mv 14 (.v 0)),
          (none, .call (some 15) 5 true [((.v 14), true)]),
          (none, .bin 16 .add (.v 13) (.v 15)),
          (none, .asg 5 (.v 16) .copy)])
        (.skip [0, 1, 5])))
      (.seq
       (.region [] [] [0, 4] false [
         (none, .mv 17 (.v 5)),
         (none, .mv 18 (.v 1)),
         (none, .bin 19 .rem (.v 17) (.v 18)),
         (none, .asg 4 (.v 19) .copy)])
       (.ret [0, 4]))))))⟩
def F6 : PFunc :=
 ⟨[true, false], [.tmp 4],
  (.seq
   (.region [] [] [0, 1] false [
     (none, .asg 4 (.c (.bool false)) .copy)])
   (.seq
    (.region [(5, 0, false)] [] [0, 4] false [
      (none, .mv 5 (.v 0)),
      (none, .mv 6 (.v 1)),
      (none, .call (some 7) 7 true [((.v 5), true), ((.v 6), false)]),
      (none, .bin 8 .eql (.v 7) (.c (.int .i64 0))),
      (none, .asg 4 (.v 8) .copy)])
    (.ret [0, 4])))⟩
def F8 : PFunc :=
 ⟨[true, false], [.tmp 4],
  (.seq
   (.region [] [] [0, 1] false [
     (none, .asg 4 (.c (.str [])) .copy)])
   (.seq
    (.region [(10, 1, false), (7, 1, false), (6, 0, false), (5, 1, false)] [] [0, 4] false [
      (none, .mv 5 (.v 1)),
      (none, .mv 6 (.v 0)),
      (none, .mv 7 (.v 1)),
      (none, .len 8 false (.v 7)),
      (none, .call (some 9) 7 true [((.v 6), true), ((.v 8), false)]),
      (none, .iadr 10 1 (.v 5) (.v 9)),
      (none, .load 11 false 1 (.v 10) none),
      (none, .asg 4 (.v 11) .copy)])
    (.ret [0, 4])))⟩
def F657 : PFunc :=
 ⟨[true], [.tmp 2],
  (.seq
   (.region [] [] [0] false [
     (none, .asg 2 (.c (.sl true 2 [])) .copy)])
   (.seq
    (.region [] [] [0, 3] false [
      (none, .mksl 8 2 (.agg [(.str []), (.int .i64 0)]) 0 []),
      (none, .asg 3 (.v 8) .move)])
    (.seq
     (.region [(9, 0, false)] [] [0, 3, 4] false [
       (none, .mv 9 (.v 0)),
       (none, .call (some 10) 7 true [((.v 9), true), ((.c (.int .i64 6)), false)]),
       (none, .bin 11 .add (.c (.int .i64 1)) (.v 10)),
       (none, .asg 4 (.v 11) .copy)])
     (.seq
      (.region [] [] [0, 3, 4, 5] false [
        (none, .asg 5 (.c (.str [])) .copy)])
      (.seq
       (.seq
        (.region [(12, 0, false)] [] [0, 3, 4, 5, 6] false [
          (none, .mv 12 (.v 0)),
          (none, .call (some 13) 7 true [((.v 12), true), ((.c (.int .i64 6)), false)]),
          (none, .bin 14 .add (.c (.int .i64 1)) (.v 13)),
          (none, .asg 6 (.v 14) .copy)])
        (.block 0
         (.loop
          (.seq
           (.seq
            (.region [] [] [0, 3, 4, 5, 6, 16] false [
              (none, .mv 15 (.v 6)),
              (none, .bin 16 .gtr (.v 15) (.c (.int .i64 0)))])
            (.cond (.v 16)
             (.skip [0, 3, 4, 5, 6])
             (.exit 0 [0, 3])))
           (.seq
            (.block 1
             (.seq
              (.region [(19, 0, false)] [] [0, 3, 4, 5, 6, 7] false [
                (none, .mv 19 (.v 0)),
                (none, .mksl 20 1 (.str []) 4 [(0, (.c (.str [97])), .copy), (1, (.c (.str [98])), .copy), (2, (.c (.str [99])), .copy), (3, (.c (.str [100])), .copy)]),
                (none, .call (some 21) 8 true [((.v 19), true), ((.v 20), false)]),
                (none, .build 22 [(.str []), (.int .i64 0)] [(0, 1, (.v 21), .copy)]),
                (none, .new 7 (.agg [(.str []), (.int .i64 0)])),
                (none, .store 2 (.v 7) (.v 22) .copy)])
              (.seq
               (.seq
                (.region [(23, 7, false)] [] [0, 3, 4, 6, 7, 26] false [
                  (none, .fadr 23 0 1 (.v 7)),
                  (none, .load 24 false 1 (.v 23) none),
                  (none, .mv 25 (.v 5)),
                  (none, .bin 26 .eql (.v 24) (.v 25))])
                (.cond (.v 26)
                 (.region [(27, 7, false)] [] [0, 3, 4, 6, 7] false [
                   (none, .fadr 27 0 1 (.v 7)),
                   (none, .store 1 (.v 27) (.c (.str [101])) .copy)])
                 (.skip [0, 3, 4, 6, 7])))
               (.seq
                (.region [(33, 7, false), (29, 0, false)] [] [0, 3, 4, 6, 7] false [
                  (none, .mv 28 (.v 4)),
                  (none, .mv 29 (.v 0)),
                  (none, .call (some 30) 7 true [((.v 29), true), ((.c (.int .i64 12)), false)]),
                  (none, .bin 31 .add (.c (.int .i64 1)) (.v 30)),
                  (none, .bin 32 .mul (.v 28) (.v 31)),
                  (none, .fadr 33 1 1 (.v 7)),
                  (none, .store 1 (.v 33) (.v 32) .copy)])
                (.seq
                 (.seq
                  (.region [(34, 0, false)] [] [0, 3, 4, 6, 7, 35] false [
                    (none, .mv 34 (.v 0)),
                    (none, .call (some 35) 6 true [((.v 34), true), ((.c (.int .i64 6)), false)])])
                  (.cond (.v 35)
                   (.region [(39, 7, false), (36, 7, false)] [] [0, 3, 4, 6, 7] false [
                     (none, .fadr 36 1 1 (.v 7)),
                     (none, .load 37 false 1 (.v 36) none),
                     (none, .bin 38 .add (.v 37) (.c (.int .i64 1))),
                     (none, .fadr 39 1 1 (.v 7)),
                     (none, .store 1 (.v 39) (.v 38) .copy)])
                   (.skip [0, 3, 4, 6, 7])))
                 (.seq
                  (.region [(40, 3, false)] [] [0, 3, 4, 6, 7] false [
                    (none, .mv 40 (.v 3)),
                    (none, .load 41 true 2 (.v 7) none),
                    (none, .mksl 42 2 (.agg [(.str []), (.int .i64 0)]) 1 [(0, (.v 41), .copy)]),
                    (none, .app 43 2 (.v 40) (.v 42) .move),
                    (none, .asg 3 (.v 43) .move)])
                  (.region [(44, 7, false)] [] [0, 3, 4, 5, 6] false [
                    (none, .fadr 44 0 1 (.v 7)),
                    (none, .load 45 false 1 (.v 44) none),
                    (none, .asg 5 (.v 45) .copy)])))))))
            (.region [] [] [0, 3, 4, 5, 6] false [
              (none, .mv 17 (.v 6)),
              (none, .bin 18 .sub (.v 17) (.c (.int .i64 1))),
              (none, .asg 6 (.v 18) .copy)]))))))
       (.seq
        (.region [(46, 3, false)] [] [0, 2] false [
          (none, .mv 46 (.v 3)),
          (none, .asg 2 (.v 46) .move)])
        (.ret [0, 2])))))))⟩
def F431 : PFunc :=
 ⟨[false], [.tmp 2],
  (.seq
   (.region [] [] [0] false [
     (none, .asg 2 (.c (.sl true 2 [])) .copy)])
   (.seq
    (.region [(3, 0, false)] [] [2] false [
      (none, .mv 3 (.v 0)),
      (none, .call (some 4) 603 true [((.v 3), false)]),
      (none, .call (some 5) 657 true [((.v 4), true)]),
      (none, .asg 2 (.v 5) .move)])
    (.ret [2])))⟩
def F380 : PFunc :=
 ⟨[false, false], [.tmp 4],
  (.seq
   (.region [] [] [0, 1] false [
     (none, .asg 4 (.c (.bool false)) .copy)])
   (.seq
    (.seq
     (.region [(20, 1, false), (19, 0, false)] [] [0, 1, 21] false [
       (none, .mv 19 (.v 0)),
       (none, .mv 20 (.v 1)),
       (none, .call (some 21) 386 false [((.v 19), false), ((.v 20), false)])])
     (.cond (.v 21)
      (.seq
       (.region [] [] [4] false [
         (none, .asg 4 (.c (.bool true)) .copy)])
       (.ret [4]))
      (.skip [0, 1])))
    (.seq
     (.region [(22, 0, false)] [] [1, 5] false [
       (none, .mv 22 (.v 0)),
       (none, .call (some 23) 431 false [((.v 22), false)]),
       (none, .asg 5 (.v 23) .move)])
     (.seq
      (.region [(24, 1, false)] [] [1, 5, 6] false [
        (none, .mv 24 (.v 1)),
        (none, .call (some 25) 384 false [((.v 24), false), ((.c (.int .i64 0)), false), ((.c (.int .i64 40)), false)]),
        (none, .bin 26 .add (.c (.int .i64 1)) (.v 25)),
        (none, .asg 6 (.v 26) .copy)])
      (.seq
       (.region [(28, 5, false)] [] [1, 5, 6, 7, 8, 9] false [
         (none, .mv 28 (.v 5)),
         (none, .mv 29 (.v 6)),
         (none, .call (some 30) 54 false [((.v 28), false), ((.v 29), false)]),
         (none, .asg 27 (.v 30) .copy),
         (none, .extp 31 (.v 27) 0),
         (none, .extp 32 (.v 27) 1),
         (none, .extp 33 (.v 27) 2),
         (none, .asg 7 (.v 31) .copy),
         (none, .asg 8 (.v 32) .copy),
         (none, .asg 9 (.v 33) .copy)])
       (.seq
        (.region [(34, 1, false)] [] [5, 6, 7, 8, 9, 10] false [
          (none, .mv 34 (.v 1)),
          (none, .call (some 35) 384 false [((.v 34), false), ((.c (.int .i64 1)), false), ((.c (.int .i64 100)), false)]),
          (none, .bin 36 .add (.c (.int .i64 1)) (.v 35)),
          (none, .asg 10 (.v 36) .copy)])
        (.seq
         (.region [(38, 5, false)] [] [5, 6, 7, 8, 9, 10, 11, 12] false [
           (none, .mv 38 (.v 5)),
           (none, .mv 39 (.v 10)),
           (none, .call (some 40) 57 false [((.v 38), false), ((.v 39), false)]),
           (none, .asg 37 (.v 40) .copy),
           (none, .extp 41 (.v 37) 0),
           (none, .extp 42 (.v 37) 1),
           (none, .asg 11 (.v 41) .copy),
           (none, .asg 12 (.v 42) .copy)])
         (.seq
          (.region [(44, 5, false)] [] [5, 6, 7, 8, 9, 10, 11, 12, 13, 14] false [
            (none, .mv 44 (.v 5)),
            (none, .mv 45 (.v 10)),
            (none, .call (some 46) 77 false [((.v 44), false), ((.v 45), false)]),
            (none, .asg 43 (.v 46) .copy),
            (none, .extp 47 (.v 43) 0),
            (none, .extp 48 (.v 43) 1),
            (none, .asg 13 (.v 47) .copy),
            (none, .asg 14 (.v 48) .copy)])
          (.seq
           (.seq
            (.region [] [] [5, 6, 7, 8, 9, 10, 11, 12, 13, 59] false [
              (none, .mv 49 (.v 12)),
              (none, .mv 50 (.v 14)),
              (none, .bin 51 .neq (.v 49) (.v 50)),
              (none, .mv 52 (.v 51)),
              (some (52, false), .mv 53 (.v 12)),
              (some (52, false), .bin 54 .neq (.v 53) (.c (.int .i64 0))),
              (some (52, false), .mv 55 (.v 54)),
              (some (55, true), .mv 56 (.v 12)),
              (some (55, true), .bin 57 .neq (.v 56) (.c (.int .i64 5))),
              (some (52, false), .pick 58 (.v 55) (.v 57) (.c (.bool false))),
              (none, .pick 59 (.v 52) (.c (.bool true)) (.v 58))])
            (.cond (.v 59)
             (.seq
              (.region [] [] [4] false [
                (none, .asg 4 (.c (.bool false)) .copy)])
              (.ret [4]))
             (.skip [5, 6, 7, 8, 9, 10, 11, 12, 13])))
           (.seq
            (.seq
             (.region [] [] [5, 6, 7, 8, 9, 86] false [
               (none, .mv 60 (.v 12)),
               (none, .bin 61 .eql (.v 60) (.c (.int .i64 0))),
               (none, .mv 62 (.v 61)),
               (some (62, true), .mv 63 (.v 11)),
               (some (62, true), .len 64 true (.v 63)),
               (some (62, true), .mv 65 (.v 6)),
               (some (62, true), .bin 66 .leq (.v 64) (.v 65)),
               (none, .pick 67 (.v 62) (.v 66) (.c (.bool false))),
               (none, .mv 68 (.v 67)),
               (some (68, true), .mv 69 (.v 9)),
               (some (68, true), .bin 70 .neq (.v 69) (.c (.int .i64 0))),
               (some (68, true), .mv 71 (.v 70)),
               (some (71, false), .mv 72 (.v 13)),
               (some (71, false), .mv 73 (.v 8)),
               (some (71, false), .bin 74 .lss (.v 72) (.v 73)),
               (some (68, true), .pick 75 (.v 71) (.c (.bool true)) (.v 74)),
               (some (68, true), .mv 76 (.v 75)),
               (some (76, false), .mv 77 (.v 13)),
               (some (76, false), .mv 78 (.v 8)),
               (some (76, false), .bin 79 .eql (.v 77) (.v 78)),
               (some (76, false), .mv 80 (.v 79)),
               (some (80, true), .mv 81 (.v 10)),
               (some (80, true), .mv 82 (.v 7)),
               (some (80, true), .bin 83 .gtr (.v 81) (.v 82)),
               (some (76, false), .pick 84 (.v 80) (.v 83) (.c (.bool false))),
               (some (68, true), .pick 85 (.v 76) (.c (.bool true)) (.v 84)),
               (none, .pick 86 (.v 68) (.v 85) (.c (.bool false)))])
             (.cond (.v 86)
              (.seq
               (.region [] [] [4] false [
                 (none, .asg 4 (.c (.bool false)) .copy)])
               (.ret [4]))
              (.skip [5, 6, 7, 8, 9])))
            (.seq
             (.seq
              (.region [] [] [5, 6, 7, 8, 9, 88] false [
                (none, .mv 87 (.v 9)),
                (none, .bin 88 .neq (.v 87) (.c (.int .i64 0)))])
              (.cond (.v 88)
               (.seq
                (.region [(93, 5, false)] [] [4] false [
                  (none, .mv 89 (.v 9)),
                  (none, .bin 90 .eql (.v 89) (.c (.int .i64 3))),
                  (none, .mv 91 (.v 90)),
                  (some (91, true), .mv 92 (.v 6)),
                  (some (91, true), .mv 93 (.v 5)),
                  (some (91, true), .len 94 false (.v 93)),
                  (some (91, true), .bin 95 .lss (.v 92) (.v 94)),
                  (none, .pick 96 (.v 91) (.v 95) (.c (.bool false))),
                  (none, .asg 4 (.v 96) .copy)])
                (.ret [4]))
               (.skip [5, 6, 7, 8])))
             (.seq
              (.region [(98, 5, false)] [] [5, 6, 7, 8, 15, 16] false [
                (none, .mv 98 (.v 5)),
                (none, .mv 99 (.v 7)),
                (none, .call (some 100) 57 false [((.v 98), false), ((.v 99), false)]),
                (none, .asg 97 (.v 100) .copy),
                (none, .extp 101 (.v 97) 0),
                (none, .extp 102 (.v 97) 1),
                (none, .asg 15 (.v 101) .copy),
                (none, .asg 16 (.v 102) .copy)])
              (.seq
               (.region [(104, 5, false)] [] [5, 6, 7, 8, 15, 16, 17, 18] false [
                 (none, .mv 104 (.v 5)),
                 (none, .mv 105 (.v 7)),
                 (none, .call (some 106) 77 false [((.v 104), false), ((.v 105), false)]),
                 (none, .asg 103 (.v 106) .copy),
                 (none, .extp 107 (.v 103) 0),
                 (none, .extp 108 (.v 103) 1),
                 (none, .asg 17 (.v 107) .copy),
                 (none, .asg 18 (.v 108) .copy)])
               (.seq
                (.region [(128, 5, false)] [] [4] false [
                  (none, .mv 109 (.v 7)),
                  (none, .bin 110 .geq (.v 109) (.c (.int .i64 1))),
                  (none, .mv 111 (.v 110)),
                  (some (111, true), .mv 112 (.v 7)),
                  (some (111, true), .bin 113 .leq (.v 112) (.c (.int .i64 100))),
                  (none, .pick 114 (.v 111) (.v 113) (.c (.bool false))),
                  (none, .mv 115 (.v 114)),
                  (some (115, true), .mv 116 (.v 16)),
                  (some (115, true), .bin 117 .eql (.v 116) (.c (.int .i64 0))),
                  (none, .pick 118 (.v 115) (.v 117) (.c (.bool false))),
                  (none, .mv 119 (.v 118)),
                  (some (119, true), .mv 120 (.v 15)),
                  (some (119, true), .len 121 true (.v 120)),
                  (some (119, true), .mv 122 (.v 6)),
                  (some (119, true), .bin 123 .leq (.v 121) (.v 122)),
                  (none, .pick 124 (.v 119) (.v 123) (.c (.bool false))),
                  (none, .mv 125 (.v 124)),
                  (some (125, true), .mv 126 (.v 15)),
                  (some (125, true), .len 127 true (.v 126)),
                  (some (125, true), .mv 128 (.v 5)),
                  (some (125, true), .len 129 false (.v 128)),
                  (some (125, true), .bin 130 .geq (.v 127) (.v 129)),
                  (none, .pick 131 (.v 125) (.v 130) (.c (.bool false))),
                  (none, .mv 132 (.v 131)),
                  (some (132, true), .mv 133 (.v 18)),
                  (some (132, true), .bin 134 .eql (.v 133) (.c (.int .i64 0))),
                  (none, .pick 135 (.v 132) (.v 134) (.c (.bool false))),
                  (none, .mv 136 (.v 135)),
                  (some (136, true), .mv 137 (.v 17)),
                  (some (136, true), .mv 138 (.v 8)),
                  (some (136, true), .bin 139 .eql (.v 137) (.v 138)),
                  (none, .pick 140 (.v 136) (.v 139) (.c (.bool false))),
                  (none, .mv 141 (.v 140)),
                  (some (141, true), .mv 142 (.v 8)),
                  (some (141, true), .bin 143 .geq (.v 142) (.c (.int .i64 0))),
                  (none, .pick 144 (.v 141) (.v 143) (.c (.bool false))),
                  (none, .asg 4 (.v 144) .copy)])
                (.ret [4])))))))))))))))⟩
def tabl : List (Nat × PFunc) := [(277, F277), (326, F326), (227, F227), (245, F245), (301, F301), (296, F296), (265, F265), (315, F315), (54, F54), (252, F252), (57, F57), (77, F77), (384, F384), (386, F386), (603, F603), (5, F5), (7, F7), (6, F6), (8, F8), (657, F657), (431, F431), (380, F380)]
def T : Nat → Option PFunc := tabOf tabl
end Go.Vs.G
