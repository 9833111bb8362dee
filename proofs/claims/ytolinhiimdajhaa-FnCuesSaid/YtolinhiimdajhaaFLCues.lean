/- The functions that the law reaches, in the small language, printed by program. No conditions. -/
import Derived.Test.YtolinhiimdajhaaDLCues
import Derived.Test.YtolinhiimdajhaaV4
set_option maxRecDepth 100000
open Go Go.Vs
namespace Go.Vs.G
def F326 : PFunc :=
 ⟨[false, false, false], [.tmp 6],
  (.seq
   (.region [] [] [0, 1, 2] false [
     (none, .asg 6 (.c (.bool false)) .copy)])
   (.seq
    (.region [] [] [6] false [
      (none, .mv 7 (.v 0)),
      (none, .mv 8 (.v 1)),
      (none, .bin 9 .geq (.v 7) (.v 8)),
      (none, .mv 10 (.v 9)),
      (some (10, true), .mv 11 (.v 0)),
      (some (10, true), .mv 12 (.v 2)),
      (some (10, true), .bin 13 .leq (.v 11) (.v 12)),
      (none, .pick 14 (.v 10) (.v 13) (.c (.bool false))),
      (none, .asg 6 (.v 14) .copy)])
    (.ret [6])))⟩
def F211 : PFunc :=
 ⟨[false], [.tmp 2],
  (.seq
   (.region [] [] [1] false [
     (none, .box 1 (.v 0) .copy),
     (none, .asg 2 (.c (.bool false)) .copy)])
   (.seq
    (.region [(20, 1, false), (14, 1, false), (8, 1, false), (3, 1, false)] [] [2] false [
      (none, .fadr 3 0 1 (.v 1)),
      (none, .load 4 false 1 (.v 3) none),
      (none, .call (some 5) 326 false [((.v 4), false), ((.c (.int .i64 0)), false), ((.c (.int .i64 10000)), false)]),
      (none, .un 6 .not (.v 5)),
      (none, .mv 7 (.v 6)),
      (some (7, false), .fadr 8 1 1 (.v 1)),
      (some (7, false), .load 9 false 1 (.v 8) none),
      (some (7, false), .call (some 10) 326 false [((.v 9), false), ((.c (.int .i64 1)), false), ((.c (.int .i64 1000)), false)]),
      (some (7, false), .un 11 .not (.v 10)),
      (none, .pick 12 (.v 7) (.c (.bool true)) (.v 11)),
      (none, .mv 13 (.v 12)),
      (some (13, false), .fadr 14 2 1 (.v 1)),
      (some (13, false), .load 15 false 1 (.v 14) none),
      (some (13, false), .call (some 16) 326 false [((.v 15), false), ((.c (.int .i64 1)), false), ((.c (.int .i64 4)), false)]),
      (some (13, false), .un 17 .not (.v 16)),
      (none, .pick 18 (.v 13) (.c (.bool true)) (.v 17)),
      (none, .mv 19 (.v 18)),
      (some (19, false), .fadr 20 3 1 (.v 1)),
      (some (19, false), .load 21 false 1 (.v 20) none),
      (some (19, false), .call (some 22) 326 false [((.v 21), false), ((.c (.int .i64 0)), false), ((.c (.int .i64 6)), false)]),
      (some (19, false), .un 23 .not (.v 22)),
      (none, .pick 24 (.v 19) (.c (.bool true)) (.v 23)),
      (none, .asg 2 (.v 24) .copy)])
    (.ret [2])))⟩
def F822 : PFunc :=
 ⟨[false, false], [.tmp 4],
  (.seq
   (.region [] [] [0, 1] false [
     (none, .asg 4 (.c (.int .i64 0)) .copy)])
   (.seq
    (.seq
     (.region [(6, 0, false)] [] [0, 1, 7, 8] false [
       (none, .mv 6 (.v 0)),
       (none, .len 7 false (.v 6)),
       (none, .mv 8 (.c (.int .i64 0)))])
     (.block 0
      (.loop
       (.seq
        (.region [] [] [0, 1, 7, 8, 9] false [
          (none, .bin 9 .lss (.v 8) (.v 7))])
        (.seq
         (.cond (.v 9)
          (.skip [0, 1, 7, 8])
          (.exit 0 []))
         (.seq
          (.block 1
           (.seq
            (.region [] [] [0, 1, 5, 7, 8] false [
              (none, .mv 10 (.v 8)),
              (none, .asg 5 (.v 10) .copy)])
            (.seq
             (.region [(14, 0, false), (12, 0, false), (11, 1, false)] [] [0, 1, 5, 7, 8, 16] false [
               (none, .mv 11 (.v 1)),
               (none, .mv 12 (.v 0)),
               (none, .mv 13 (.v 5)),
               (none, .iadr 14 4 (.v 12) (.v 13)),
               (none, .load 15 true 4 (.v 14) none),
               (none, .callv (some 16) (.v 11) [(.v 15)])])
             (.cond (.v 16)
              (.seq
               (.region [] [] [4] false [
                 (none, .mv 17 (.v 5)),
                 (none, .asg 4 (.v 17) .copy)])
               (.ret [4]))
              (.skip [0, 1, 7, 8])))))
          (.region [] [] [0, 1, 7, 8] false [
            (none, .bin 18 .add (.v 8) (.c (.int .i64 1))),
            (none, .mv 8 (.v 18))])))))))
    (.seq
     (.region [] [] [4] false [
       (none, .asg 4 (.c (.int .i64 (-1))) .copy)])
     (.ret [4]))))⟩
def F800 : PFunc :=
 ⟨[false, false], [.tmp 4],
  (.seq
   (.region [] [] [0, 1] false [
     (none, .asg 4 (.c (.bool false)) .copy)])
   (.seq
    (.region [(6, 1, false), (5, 0, false)] [] [4] false [
      (none, .mv 5 (.v 0)),
      (none, .mv 6 (.v 1)),
      (none, .call (some 7) 822 false [((.v 5), false), ((.v 6), false)]),
      (none, .bin 8 .geq (.v 7) (.c (.int .i64 0))),
      (none, .asg 4 (.v 8) .copy)])
    (.ret [4])))⟩
def F210 : PFunc :=
 ⟨[false], [.tmp 2],
  (.seq
   (.region [] [] [0] false [
     (none, .asg 2 (.c (.bool false)) .copy)])
   (.seq
    (.region [(7, 0, false), (3, 0, false)] [] [2] false [
      (none, .mv 3 (.v 0)),
      (none, .len 4 false (.v 3)),
      (none, .bin 5 .leq (.v 4) (.c (.int .i64 6))),
      (none, .mv 6 (.v 5)),
      (some (6, true), .mv 7 (.v 0)),
      (some (6, true), .call (some 8) 800 false [((.v 7), false), ((.c (.fn 211 [])), false)]),
      (some (6, true), .un 9 .not (.v 8)),
      (none, .pick 10 (.v 6) (.v 9) (.c (.bool false))),
      (none, .asg 2 (.v 10) .copy)])
    (.ret [2])))⟩
def F264 : PFunc :=
 ⟨[false], [.tmp 2],
  (.seq
   (.region [] [] [0] false [
     (none, .asg 2 (.c (.int .i64 0)) .copy)])
   (.seq
    (.region [] [] [0, 3] false [
      (none, .asg 3 (.c (.int .i64 0)) .copy)])
    (.seq
     (.seq
      (.region [(6, 0, false)] [] [0, 3, 6, 7, 8] false [
        (none, .mv 6 (.v 0)),
        (none, .len 7 false (.v 6)),
        (none, .mv 8 (.c (.int .i64 0)))])
      (.block 0
       (.loop
        (.seq
         (.region [(6, 0, false)] [] [0, 3, 6, 7, 8, 9] false [
           (none, .bin 9 .lss (.v 8) (.v 7))])
         (.seq
          (.cond (.v 9)
           (.skip [0, 3, 6, 7, 8])
           (.exit 0 [3]))
          (.seq
           (.block 1
            (.seq
             (.region [(10, 0, false), (6, 0, false)] [] [0, 3, 5, 6, 7, 8] false [
               (none, .iadr 10 4 (.v 6) (.v 8)),
               (none, .load 11 true 4 (.v 10) none),
               (none, .new 5 (.agg [(.int .i64 0), (.int .i64 0), (.int .i64 0), (.int .i64 0)])),
               (none, .store 4 (.v 5) (.v 11) .copy)])
             (.region [(15, 5, false), (13, 5, false), (6, 0, false)] [] [0, 3, 6, 7, 8] false [
               (none, .mv 12 (.v 3)),
               (none, .fadr 13 0 1 (.v 5)),
               (none, .load 14 false 1 (.v 13) none),
               (none, .fadr 15 1 1 (.v 5)),
               (none, .load 16 false 1 (.v 15) none),
               (none, .bin 17 .add (.v 14) (.v 16)),
               (none, .mm 18 true (.v 12) [(.v 17)]),
               (none, .asg 3 (.v 18) .copy)])))
           (.region [(6, 0, false)] [] [0, 3, 6, 7, 8] false [
             (none, .bin 19 .add (.v 8) (.c (.int .i64 1))),
             (none, .mv 8 (.v 19))])))))))
     (.seq
      (.region [] [] [2] false [
        (none, .mv 20 (.v 3)),
        (none, .asg 2 (.v 20) .copy)])
      (.ret [2])))))⟩
def F76 : PFunc :=
 ⟨[false], [.tmp 2, .tmp 3],
  (.seq
   (.region [] [] [0] false [
     (none, .asg 2 (.c (.int .i64 0)) .copy),
     (none, .asg 3 (.c (.int .i64 0)) .copy)])
   (.seq
    (.seq
     (.region [(4, 0, false)] [] [0, 6] false [
       (none, .mv 4 (.v 0)),
       (none, .call (some 5) 210 false [((.v 4), false)]),
       (none, .un 6 .not (.v 5))])
     (.cond (.v 6)
      (.seq
       (.region [] [] [2, 3] false [
         (none, .asg 2 (.c (.int .i64 0)) .copy),
         (none, .asg 3 (.c (.int .i64 1)) .copy)])
       (.ret [2, 3]))
      (.skip [0])))
    (.seq
     (.region [(7, 0, false)] [] [2, 3] false [
       (none, .mv 7 (.v 0)),
       (none, .call (some 8) 264 false [((.v 7), false)]),
       (none, .asg 2 (.v 8) .copy),
       (none, .asg 3 (.c (.int .i64 0)) .copy)])
     (.ret [2, 3]))))⟩
def F260 : PFunc :=
 ⟨[false, false], [.tmp 4],
  (.seq
   (.region [] [] [0, 1] false [
     (none, .asg 4 (.c (.int .i64 0)) .copy)])
   (.seq
    (.block 0
     (.seq
      (.region [(6, 0, false)] [] [1, 5] false [
        (none, .mv 6 (.v 0)),
        (none, .call (some 7) 210 false [((.v 6), false)]),
        (none, .un 8 .not (.v 7)),
        (none, .asg 5 (.v 8) .copy)])
      (.cond (.v 5)
       (.seq
        (.region [] [] [4] false [
          (none, .asg 4 (.c (.int .i64 1)) .copy)])
        (.ret [4]))
       (.seq
        (.region [] [] [9] false [
          (none, .mv 10 (.v 1)),
          (none, .call (some 11) 326 false [((.v 10), false), ((.c (.int .i64 0)), false), ((.c (.int .i64 24)), false)]),
          (none, .un 12 .not (.v 11)),
          (none, .asg 9 (.v 12) .copy)])
        (.cond (.v 9)
         (.seq
          (.region [] [] [4] false [
            (none, .asg 4 (.c (.int .i64 2)) .copy)])
          (.ret [4]))
         (.skip []))))))
    (.seq
     (.region [] [] [4] false [
       (none, .asg 4 (.c (.int .i64 0)) .copy)])
     (.ret [4]))))⟩
def F272 : PFunc :=
 ⟨[false, false], [.tmp 4],
  (.seq
   (.region [] [] [0, 1] false [
     (none, .asg 4 (.c (.int .i64 0)) .copy)])
   (.seq
    (.region [] [] [0, 1, 5] false [
      (none, .asg 5 (.c (.int .i64 0)) .copy)])
    (.seq
     (.seq
      (.region [(8, 0, false)] [] [0, 1, 5, 8, 9, 10] false [
        (none, .mv 8 (.v 0)),
        (none, .len 9 false (.v 8)),
        (none, .mv 10 (.c (.int .i64 0)))])
      (.block 0
       (.loop
        (.seq
         (.region [(8, 0, false)] [] [0, 1, 5, 8, 9, 10, 11] false [
           (none, .bin 11 .lss (.v 10) (.v 9))])
         (.seq
          (.cond (.v 11)
           (.skip [0, 1, 5, 8, 9, 10])
           (.exit 0 [5]))
          (.seq
           (.block 1
            (.seq
             (.region [(12, 0, false), (8, 0, false)] [] [0, 1, 5, 7, 8, 9, 10] false [
               (none, .iadr 12 4 (.v 8) (.v 10)),
               (none, .load 13 true 4 (.v 12) none),
               (none, .new 7 (.agg [(.int .i64 0), (.int .i64 0), (.int .i64 0), (.int .i64 0)])),
               (none, .store 4 (.v 7) (.v 13) .copy)])
             (.seq
              (.region [(22, 7, false), (20, 7, false), (14, 7, false), (8, 0, false)] [] [0, 1, 5, 7, 8, 9, 10, 26] false [
                (none, .fadr 14 0 1 (.v 7)),
                (none, .load 15 false 1 (.v 14) none),
                (none, .mv 16 (.v 1)),
                (none, .bin 17 .leq (.v 15) (.v 16)),
                (none, .mv 18 (.v 17)),
                (some (18, true), .mv 19 (.v 1)),
                (some (18, true), .fadr 20 0 1 (.v 7)),
                (some (18, true), .load 21 false 1 (.v 20) none),
                (some (18, true), .fadr 22 1 1 (.v 7)),
                (some (18, true), .load 23 false 1 (.v 22) none),
                (some (18, true), .bin 24 .add (.v 21) (.v 23)),
                (some (18, true), .bin 25 .lss (.v 19) (.v 24)),
                (none, .pick 26 (.v 18) (.v 25) (.c (.bool false)))])
              (.cond (.v 26)
               (.region [(28, 7, false), (8, 0, false)] [] [0, 1, 5, 8, 9, 10] false [
                 (none, .mv 27 (.v 5)),
                 (none, .fadr 28 2 1 (.v 7)),
                 (none, .load 29 false 1 (.v 28) none),
                 (none, .bin 30 .add (.v 27) (.v 29)),
                 (none, .asg 5 (.v 30) .copy)])
               (.skip [0, 1, 5, 8, 9, 10])))))
           (.region [(8, 0, false)] [] [0, 1, 5, 8, 9, 10] false [
             (none, .bin 31 .add (.v 10) (.c (.int .i64 1))),
             (none, .mv 10 (.v 31))])))))))
     (.seq
      (.region [] [] [4] false [
        (none, .mv 32 (.v 5)),
        (none, .asg 4 (.v 32) .copy)])
      (.ret [4])))))⟩
def F93 : PFunc :=
 ⟨[false, false], [.tmp 4, .tmp 5],
  (.seq
   (.region [] [] [0, 1] false [
     (none, .asg 4 (.c (.int .i64 0)) .copy),
     (none, .asg 5 (.c (.int .i64 0)) .copy)])
   (.seq
    (.seq
     (.region [(10, 0, false)] [] [0, 1, 6] false [
       (none, .mv 10 (.v 0)),
       (none, .mv 11 (.v 1)),
       (none, .call (some 12) 260 false [((.v 10), false), ((.v 11), false)]),
       (none, .asg 6 (.v 12) .copy)])
     (.seq
      (.region [] [] [0, 1, 6, 14] false [
        (none, .mv 13 (.v 6)),
        (none, .bin 14 .neq (.v 13) (.c (.int .i64 0)))])
      (.cond (.v 14)
       (.seq
        (.region [] [] [4, 5] false [
          (none, .mv 15 (.v 6)),
          (none, .asg 4 (.c (.int .i64 0)) .copy),
          (none, .asg 5 (.v 15) .copy)])
        (.ret [4, 5]))
       (.skip [0, 1]))))
    (.seq
     (.region [] [] [0, 1, 7] false [
       (none, .asg 7 (.c (.int .i64 (-1))) .copy)])
     (.seq
      (.seq
       (.region [(16, 0, false)] [] [0, 1, 7, 16, 17, 18] false [
         (none, .mv 16 (.v 0)),
         (none, .len 17 false (.v 16)),
         (none, .mv 18 (.c (.int .i64 0)))])
       (.block 0
        (.loop
         (.seq
          (.region [(16, 0, false)] [] [0, 1, 7, 16, 17, 18, 19] false [
            (none, .bin 19 .lss (.v 18) (.v 17))])
          (.seq
           (.cond (.v 19)
            (.skip [0, 1, 7, 16, 17, 18])
            (.exit 0 [7]))
           (.seq
            (.block 1
             (.seq
              (.region [(20, 0, false), (16, 0, false)] [] [0, 1, 7, 9, 16, 17, 18] false [
                (none, .iadr 20 4 (.v 16) (.v 18)),
                (none, .load 21 true 4 (.v 20) none),
                (none, .new 9 (.agg [(.int .i64 0), (.int .i64 0), (.int .i64 0), (.int .i64 0)])),
                (none, .store 4 (.v 9) (.v 21) .copy)])
              (.seq
               (.region [(32, 9, false), (23, 9, false), (22, 0, false), (16, 0, false)] [] [0, 1, 7, 9, 16, 17, 18, 37] false [
                 (none, .mv 22 (.v 0)),
                 (none, .fadr 23 0 1 (.v 9)),
                 (none, .load 24 false 1 (.v 23) none),
                 (none, .call (some 25) 272 false [((.v 22), false), ((.v 24), false)]),
                 (none, .mv 26 (.v 1)),
                 (none, .bin 27 .gtr (.v 25) (.v 26)),
                 (none, .mv 28 (.v 27)),
                 (some (28, true), .mv 29 (.v 7)),
                 (some (28, true), .bin 30 .lss (.v 29) (.c (.int .i64 0))),
                 (some (28, true), .mv 31 (.v 30)),
                 (some (31, false), .fadr 32 0 1 (.v 9)),
                 (some (31, false), .load 33 false 1 (.v 32) none),
                 (some (31, false), .mv 34 (.v 7)),
                 (some (31, false), .bin 35 .lss (.v 33) (.v 34)),
                 (some (28, true), .pick 36 (.v 31) (.c (.bool true)) (.v 35)),
                 (none, .pick 37 (.v 28) (.v 36) (.c (.bool false)))])
               (.cond (.v 37)
                (.region [(38, 9, false), (16, 0, false)] [] [0, 1, 7, 16, 17, 18] false [
                  (none, .fadr 38 0 1 (.v 9)),
                  (none, .load 39 false 1 (.v 38) none),
                  (none, .asg 7 (.v 39) .copy)])
                (.skip [0, 1, 7, 16, 17, 18])))))
            (.region [(16, 0, false)] [] [0, 1, 7, 16, 17, 18] false [
              (none, .bin 40 .add (.v 18) (.c (.int .i64 1))),
              (none, .mv 18 (.v 40))])))))))
      (.seq
       (.seq
        (.region [] [] [7, 42] false [
          (none, .mv 41 (.v 7)),
          (none, .bin 42 .lss (.v 41) (.c (.int .i64 0)))])
        (.cond (.v 42)
         (.seq
          (.region [] [] [4, 5] false [
            (none, .asg 4 (.c (.int .i64 0)) .copy),
            (none, .asg 5 (.c (.int .i64 3)) .copy)])
          (.ret [4, 5]))
         (.skip [7])))
       (.seq
        (.region [] [] [4, 5] false [
          (none, .mv 43 (.v 7)),
          (none, .asg 4 (.v 43) .copy),
          (none, .asg 5 (.c (.int .i64 0)) .copy)])
        (.ret [4, 5])))))))⟩
def F111 : PFunc :=
 ⟨[false, false], [.tmp 4, .tmp 5],
  (.seq
   (.region [] [] [0, 1] false [
     (none, .asg 4 (.c (.int .i64 0)) .copy),
     (none, .asg 5 (.c (.int .i64 0)) .copy)])
   (.seq
    (.block 0
     (.seq
      (.region [(7, 0, false)] [] [0, 1, 6] false [
        (none, .mv 7 (.v 0)),
        (none, .call (some 8) 210 false [((.v 7), false)]),
        (none, .un 9 .not (.v 8)),
        (none, .asg 6 (.v 9) .copy)])
      (.cond (.v 6)
       (.seq
        (.region [] [] [4, 5] false [
          (none, .asg 4 (.c (.int .i64 0)) .copy),
          (none, .asg 5 (.c (.int .i64 1)) .copy)])
        (.ret [4, 5]))
       (.seq
        (.region [] [] [0, 1, 10] false [
          (none, .mv 11 (.v 1)),
          (none, .call (some 12) 326 false [((.v 11), false), ((.c (.int .i64 0)), false), ((.c (.int .i64 20000)), false)]),
          (none, .un 13 .not (.v 12)),
          (none, .asg 10 (.v 13) .copy)])
        (.cond (.v 10)
         (.seq
          (.region [] [] [4, 5] false [
            (none, .asg 4 (.c (.int .i64 0)) .copy),
            (none, .asg 5 (.c (.int .i64 2)) .copy)])
          (.ret [4, 5]))
         (.skip [0, 1]))))))
    (.seq
     (.region [(14, 0, false)] [] [4, 5] false [
       (none, .mv 14 (.v 0)),
       (none, .mv 15 (.v 1)),
       (none, .call (some 16) 272 false [((.v 14), false), ((.v 15), false)]),
       (none, .asg 4 (.v 16) .copy),
       (none, .asg 5 (.c (.int .i64 0)) .copy)])
     (.ret [4, 5]))))⟩
def F115 : PFunc :=
 ⟨[false], [.tmp 2, .tmp 3],
  (.seq
   (.region [] [] [0] false [
     (none, .asg 2 (.c (.int .i64 0)) .copy),
     (none, .asg 3 (.c (.int .i64 0)) .copy)])
   (.seq
    (.seq
     (.region [(6, 0, false)] [] [0, 8] false [
       (none, .mv 6 (.v 0)),
       (none, .call (some 7) 210 false [((.v 6), false)]),
       (none, .un 8 .not (.v 7))])
     (.cond (.v 8)
      (.seq
       (.region [] [] [2, 3] false [
         (none, .asg 2 (.c (.int .i64 0)) .copy),
         (none, .asg 3 (.c (.int .i64 1)) .copy)])
       (.ret [2, 3]))
      (.skip [0])))
    (.seq
     (.region [] [] [0, 4] false [
       (none, .asg 4 (.c (.int .i64 0)) .copy)])
     (.seq
      (.seq
       (.region [(9, 0, false)] [] [0, 4, 10, 11] false [
         (none, .mv 9 (.v 0)),
         (none, .call (some 10) 264 false [((.v 9), false)]),
         (none, .mv 11 (.c (.int .i64 0)))])
       (.block 0
        (.loop
         (.seq
          (.region [] [] [0, 4, 10, 11, 12] false [
            (none, .bin 12 .lss (.v 11) (.v 10))])
          (.seq
           (.cond (.v 12)
            (.skip [0, 4, 10, 11])
            (.exit 0 [4]))
           (.seq
            (.block 1
             (.seq
              (.region [] [] [0, 4, 5, 10, 11] false [
                (none, .mv 13 (.v 11)),
                (none, .asg 5 (.v 13) .copy)])
              (.seq
               (.region [(14, 0, false)] [] [0, 4, 10, 11, 17] false [
                 (none, .mv 14 (.v 0)),
                 (none, .mv 15 (.v 5)),
                 (none, .call (some 16) 272 false [((.v 14), false), ((.v 15), false)]),
                 (none, .bin 17 .eql (.v 16) (.c (.int .i64 0)))])
               (.cond (.v 17)
                (.region [] [] [0, 4, 10, 11] false [
                  (none, .mv 18 (.v 4)),
                  (none, .bin 19 .add (.v 18) (.c (.int .i64 1))),
                  (none, .asg 4 (.v 19) .copy)])
                (.skip [0, 4, 10, 11])))))
            (.region [] [] [0, 4, 10, 11] false [
              (none, .bin 20 .add (.v 11) (.c (.int .i64 1))),
              (none, .mv 11 (.v 20))])))))))
      (.seq
       (.region [] [] [2, 3] false [
         (none, .mv 21 (.v 4)),
         (none, .asg 2 (.v 21) .copy),
         (none, .asg 3 (.c (.int .i64 0)) .copy)])
       (.ret [2, 3]))))))⟩
def F293 : PFunc :=
 ⟨[false], [.tmp 2],
  (.seq
   (.region [] [] [0] false [
     (none, .asg 2 (.c (.int .i64 0)) .copy)])
   (.seq
    (.region [] [] [0, 3] false [
      (none, .asg 3 (.c (.int .i64 0)) .copy)])
    (.seq
     (.seq
      (.region [(6, 0, false)] [] [0, 3, 6, 7, 8] false [
        (none, .mv 6 (.v 0)),
        (none, .len 7 false (.v 6)),
        (none, .mv 8 (.c (.int .i64 0)))])
      (.block 0
       (.loop
        (.seq
         (.region [(6, 0, false)] [] [0, 3, 6, 7, 8, 9] false [
           (none, .bin 9 .lss (.v 8) (.v 7))])
         (.seq
          (.cond (.v 9)
           (.skip [0, 3, 6, 7, 8])
           (.exit 0 [3]))
          (.seq
           (.block 1
            (.seq
             (.region [(10, 0, false), (6, 0, false)] [] [0, 3, 5, 6, 7, 8] false [
               (none, .iadr 10 4 (.v 6) (.v 8)),
               (none, .load 11 true 4 (.v 10) none),
               (none, .new 5 (.agg [(.int .i64 0), (.int .i64 0), (.int .i64 0), (.int .i64 0)])),
               (none, .store 4 (.v 5) (.v 11) .copy)])
             (.region [(14, 5, false), (13, 0, false), (6, 0, false)] [] [0, 3, 6, 7, 8] false [
               (none, .mv 12 (.v 3)),
               (none, .mv 13 (.v 0)),
               (none, .fadr 14 0 1 (.v 5)),
               (none, .load 15 false 1 (.v 14) none),
               (none, .call (some 16) 272 false [((.v 13), false), ((.v 15), false)]),
               (none, .mm 17 true (.v 12) [(.v 16)]),
               (none, .asg 3 (.v 17) .copy)])))
           (.region [(6, 0, false)] [] [0, 3, 6, 7, 8] false [
             (none, .bin 18 .add (.v 8) (.c (.int .i64 1))),
             (none, .mv 8 (.v 18))])))))))
     (.seq
      (.region [] [] [2] false [
        (none, .mv 19 (.v 3)),
        (none, .asg 2 (.v 19) .copy)])
      (.ret [2])))))⟩
def F146 : PFunc :=
 ⟨[false], [.tmp 2, .tmp 3],
  (.seq
   (.region [] [] [0] false [
     (none, .asg 2 (.c (.int .i64 0)) .copy),
     (none, .asg 3 (.c (.int .i64 0)) .copy)])
   (.seq
    (.seq
     (.region [(4, 0, false)] [] [0, 6] false [
       (none, .mv 4 (.v 0)),
       (none, .call (some 5) 210 false [((.v 4), false)]),
       (none, .un 6 .not (.v 5))])
     (.cond (.v 6)
      (.seq
       (.region [] [] [2, 3] false [
         (none, .asg 2 (.c (.int .i64 0)) .copy),
         (none, .asg 3 (.c (.int .i64 1)) .copy)])
       (.ret [2, 3]))
      (.skip [0])))
    (.seq
     (.region [(7, 0, false)] [] [2, 3] false [
       (none, .mv 7 (.v 0)),
       (none, .call (some 8) 293 false [((.v 7), false)]),
       (none, .asg 2 (.v 8) .copy),
       (none, .asg 3 (.c (.int .i64 0)) .copy)])
     (.ret [2, 3]))))⟩
def F306 : PFunc :=
 ⟨[false, false], [.tmp 4],
  (.seq
   (.region [] [] [0, 1] false [
     (none, .asg 4 (.c (.sl true 4 [])) .copy)])
   (.seq
    (.region [(8, 0, false)] [] [1, 5] false [
      (none, .mv 8 (.v 0)),
      (none, .call (some 9) 786 false [((.v 8), false)]),
      (none, .asg 5 (.v 9) .move)])
    (.seq
     (.seq
      (.region [(10, 1, false)] [] [1, 5, 10, 11, 12] false [
        (none, .mv 10 (.v 1)),
        (none, .len 11 false (.v 10)),
        (none, .mv 12 (.c (.int .i64 0)))])
      (.block 0
       (.loop
        (.seq
         (.region [(10, 1, false)] [] [1, 5, 10, 11, 12, 13] false [
           (none, .bin 13 .lss (.v 12) (.v 11))])
         (.seq
          (.cond (.v 13)
           (.skip [1, 5, 10, 11, 12])
           (.exit 0 [5]))
          (.seq
           (.block 1
            (.seq
             (.region [(15, 1, false), (10, 1, false)] [] [1, 5, 6, 7, 10, 11, 12] false [
               (none, .mv 14 (.v 12)),
               (none, .iadr 15 1 (.v 10) (.v 12)),
               (none, .load 16 false 1 (.v 15) none),
               (none, .asg 6 (.v 14) .copy),
               (none, .asg 7 (.v 16) .copy)])
             (.seq
              (.region [(25, 5, false), (24, 5, false), (20, 5, false), (19, 5, false), (17, 5, false), (10, 1, false)] [] [1, 5, 6, 7, 10, 11, 12] false [
                (none, .mv 17 (.v 5)),
                (none, .mv 18 (.v 6)),
                (none, .iadr 19 4 (.v 17) (.v 18)),
                (none, .fadr 20 0 1 (.v 19)),
                (none, .load 21 false 1 (.v 20) none),
                (none, .mv 22 (.v 7)),
                (none, .bin 23 .add (.v 21) (.v 22)),
                (none, .iadr 24 4 (.v 17) (.v 18)),
                (none, .fadr 25 0 1 (.v 24)),
                (none, .store 1 (.v 25) (.v 23) .copy)])
              (.region [(34, 5, false), (33, 5, false), (29, 5, false), (28, 5, false), (26, 5, false), (10, 1, false)] [] [1, 5, 10, 11, 12] false [
                (none, .mv 26 (.v 5)),
                (none, .mv 27 (.v 6)),
                (none, .iadr 28 4 (.v 26) (.v 27)),
                (none, .fadr 29 3 1 (.v 28)),
                (none, .load 30 false 1 (.v 29) none),
                (none, .mv 31 (.v 7)),
                (none, .bin 32 .sub (.v 30) (.v 31)),
                (none, .iadr 33 4 (.v 26) (.v 27)),
                (none, .fadr 34 3 1 (.v 33)),
                (none, .store 1 (.v 34) (.v 32) .copy)]))))
           (.region [(10, 1, false)] [] [1, 5, 10, 11, 12] false [
             (none, .bin 35 .add (.v 12) (.c (.int .i64 1))),
             (none, .mv 12 (.v 35))])))))))
     (.seq
      (.region [(36, 5, false)] [] [4] false [
        (none, .mv 36 (.v 5)),
        (none, .asg 4 (.v 36) .move)])
      (.ret [4])))))⟩
def F179 : PFunc :=
 ⟨[false, false], [.tmp 4, .tmp 5],
  (.seq
   (.region [] [] [0, 1] false [
     (none, .asg 4 (.c (.sl true 4 [])) .copy),
     (none, .asg 5 (.c (.int .i64 0)) .copy)])
   (.seq
    (.seq
     (.region [(9, 0, false)] [] [0, 1, 11] false [
       (none, .mv 9 (.v 0)),
       (none, .call (some 10) 210 false [((.v 9), false)]),
       (none, .un 11 .not (.v 10))])
     (.cond (.v 11)
      (.seq
       (.region [] [] [4, 5] false [
         (none, .asg 4 (.c (.sl true 4 [])) .copy),
         (none, .asg 5 (.c (.int .i64 1)) .copy)])
       (.ret [4, 5]))
      (.skip [0, 1])))
    (.seq
     (.seq
      (.region [(14, 0, false), (12, 1, false)] [] [0, 1, 16] false [
        (none, .mv 12 (.v 1)),
        (none, .len 13 false (.v 12)),
        (none, .mv 14 (.v 0)),
        (none, .len 15 false (.v 14)),
        (none, .bin 16 .neq (.v 13) (.v 15))])
      (.cond (.v 16)
       (.seq
        (.region [] [] [4, 5] false [
          (none, .asg 4 (.c (.sl true 4 [])) .copy),
          (none, .asg 5 (.c (.int .i64 2)) .copy)])
        (.ret [4, 5]))
       (.skip [0, 1])))
     (.seq
      (.seq
       (.region [(17, 1, false)] [] [0, 1, 17, 18, 19] false [
         (none, .mv 17 (.v 1)),
         (none, .len 18 false (.v 17)),
         (none, .mv 19 (.c (.int .i64 0)))])
       (.block 0
        (.loop
         (.seq
          (.region [(17, 1, false)] [] [0, 1, 17, 18, 19, 20] false [
            (none, .bin 20 .lss (.v 19) (.v 18))])
          (.seq
           (.cond (.v 20)
            (.skip [0, 1, 17, 18, 19])
            (.exit 0 [0, 1]))
           (.seq
            (.block 1
             (.seq
              (.region [(22, 1, false), (17, 1, false)] [] [0, 1, 6, 7, 17, 18, 19] false [
                (none, .mv 21 (.v 19)),
                (none, .iadr 22 1 (.v 17) (.v 19)),
                (none, .load 23 false 1 (.v 22) none),
                (none, .asg 6 (.v 21) .copy),
                (none, .asg 7 (.v 23) .copy)])
              (.seq
               (.region [(28, 0, false), (27, 0, false), (25, 0, false), (17, 1, false)] [] [0, 1, 17, 18, 19, 31] false [
                 (none, .mv 24 (.v 7)),
                 (none, .mv 25 (.v 0)),
                 (none, .mv 26 (.v 6)),
                 (none, .iadr 27 4 (.v 25) (.v 26)),
                 (none, .fadr 28 3 1 (.v 27)),
                 (none, .load 29 false 1 (.v 28) none),
                 (none, .call (some 30) 326 false [((.v 24), false), ((.c (.int .i64 0)), false), ((.v 29), false)]),
                 (none, .un 31 .not (.v 30))])
               (.cond (.v 31)
                (.seq
                 (.region [] [] [4, 5] false [
                   (none, .asg 4 (.c (.sl true 4 [])) .copy),
                   (none, .asg 5 (.c (.int .i64 2)) .copy)])
                 (.ret [4, 5]))
                (.skip [0, 1, 17, 18, 19])))))
            (.region [(17, 1, false)] [] [0, 1, 17, 18, 19] false [
              (none, .bin 32 .add (.v 19) (.c (.int .i64 1))),
              (none, .mv 19 (.v 32))])))))))
      (.seq
       (.region [(34, 1, false), (33, 0, false)] [] [8] false [
         (none, .mv 33 (.v 0)),
         (none, .mv 34 (.v 1)),
         (none, .call (some 35) 306 false [((.v 33), false), ((.v 34), false)]),
         (none, .asg 8 (.v 35) .move)])
       (.seq
        (.seq
         (.region [(36, 8, false)] [] [8, 38] false [
           (none, .mv 36 (.v 8)),
           (none, .call (some 37) 210 false [((.v 36), false)]),
           (none, .un 38 .not (.v 37))])
         (.cond (.v 38)
          (.seq
           (.region [] [] [4, 5] false [
             (none, .asg 4 (.c (.sl true 4 [])) .copy),
             (none, .asg 5 (.c (.int .i64 5)) .copy)])
           (.ret [4, 5]))
          (.skip [8])))
        (.seq
         (.region [(39, 8, false)] [] [4, 5] false [
           (none, .mv 39 (.v 8)),
           (none, .asg 4 (.v 39) .move),
           (none, .asg 5 (.c (.int .i64 0)) .copy)])
         (.ret [4, 5]))))))))⟩
def F384 : PFunc :=
 ⟨[false, false, false], [.tmp 6],
  (.seq
   (.region [] [] [0, 1, 2] false [
     (none, .asg 6 (.c (.int .i64 0)) .copy)])
   (.seq
    (.seq
     (.region [(8, 0, false)] [] [0, 1, 2, 14] false [
       (none, .mv 7 (.v 1)),
       (none, .mv 8 (.v 0)),
       (none, .len 9 false (.v 8)),
       (none, .bin 10 .geq (.v 7) (.v 9)),
       (none, .mv 11 (.v 10)),
       (some (11, false), .mv 12 (.v 2)),
       (some (11, false), .bin 13 .lss (.v 12) (.c (.int .i64 1))),
       (none, .pick 14 (.v 11) (.c (.bool true)) (.v 13))])
     (.cond (.v 14)
      (.seq
       (.region [] [] [6] false [
         (none, .asg 6 (.c (.int .i64 0)) .copy)])
       (.ret [6]))
      (.skip [0, 1, 2])))
    (.seq
     (.region [(17, 0, false), (15, 0, false)] [] [6] false [
       (none, .mv 15 (.v 0)),
       (none, .mv 16 (.v 1)),
       (none, .iadr 17 1 (.v 15) (.v 16)),
       (none, .load 18 false 1 (.v 17) none),
       (none, .conv 19 .i64 (.v 18)),
       (none, .mv 20 (.v 2)),
       (none, .bin 21 .rem (.v 19) (.v 20)),
       (none, .asg 6 (.v 21) .copy)])
     (.ret [6]))))⟩
def F386 : PFunc :=
 ⟨[false, false], [.tmp 4],
  (.seq
   (.region [] [] [0, 1] false [
     (none, .asg 4 (.c (.bool false)) .copy)])
   (.seq
    (.region [(9, 1, false), (5, 0, false)] [] [4] false [
      (none, .mv 5 (.v 0)),
      (none, .len 6 false (.v 5)),
      (none, .bin 7 .gtr (.v 6) (.c (.int .i64 3000))),
      (none, .mv 8 (.v 7)),
      (some (8, false), .mv 9 (.v 1)),
      (some (8, false), .len 10 false (.v 9)),
      (some (8, false), .bin 11 .gtr (.v 10) (.c (.int .i64 3000))),
      (none, .pick 12 (.v 8) (.c (.bool true)) (.v 11)),
      (none, .asg 4 (.v 12) .copy)])
    (.ret [4])))⟩
def F603 : PFunc :=
 ⟨[false], [.tmp 2],
  (.seq
   (.region [] [] [0] false [
     (none, .asg 2 (.c .nilp) .copy)])
   (.seq
    (.region [(3, 0, false)] [] [2] false [
      (none, .mv 3 (.v 0)),
      (none, .build 4 [(.sl false 1 []), (.int .i64 0), (.int .u64 0)] [(0, 1, (.v 3), .move)]),
      (none, .box 5 (.v 4) .move),
      (none, .asg 2 (.v 5) .move)])
    (.ret [2])))⟩
def F5 : PFunc :=
 ⟨[true], [.tmp 2],
  (.seq
   (.region [] [] [0] false [
     (none, .asg 2 (.c (.int .i64 0)) .copy)])
   (.seq
    (.region [] [] [0, 3] false [
      (none, .asg 3 (.c (.int .i64 0)) .copy)])
    (.seq
     (.seq
      (.region [(11, 0, true), (10, 0, false), (9, 0, false), (8, 0, false), (6, 0, false), (5, 0, false), (4, 0, false)] [] [0, 3, 13] true [
        (none, .mv 4 (.v 0)),
        (none, .nchk 5 (.v 4)),
        (none, .fadr 6 1 1 (.v 5)),
        (none, .load 7 false 1 (.v 6) none),
        (none, .mv 8 (.v 0)),
        (none, .nchk 9 (.v 8)),
        (none, .fadr 10 0 1 (.v 9)),
        (none, .load 11 false 1 (.v 10) none),
        (none, .len 12 false (.v 11)),
        (none, .bin 13 .lss (.v 7) (.v 12))])
      (.cond (.v 13)
       (.region [(22, 0, true), (20, 0, false), (19, 0, false), (18, 0, false), (17, 0, true), (16, 0, false), (15, 0, false), (14, 0, false)] [] [0, 3] true [
         (none, .mv 14 (.v 0)),
         (none, .nchk 15 (.v 14)),
         (none, .fadr 16 0 1 (.v 15)),
         (none, .load 17 false 1 (.v 16) none),
         (none, .mv 18 (.v 0)),
         (none, .nchk 19 (.v 18)),
         (none, .fadr 20 1 1 (.v 19)),
         (none, .load 21 false 1 (.v 20) none),
         (none, .iadr 22 1 (.v 17) (.v 21)),
         (none, .load 23 false 1 (.v 22) none),
         (none, .conv 24 .i64 (.v 23)),
         (none, .asg 3 (.v 24) .copy)])
       (.skip [0, 3])))
     (.seq
      (.region [(31, 0, false), (30, 0, false), (27, 0, false), (26, 0, false), (25, 0, false)] [] [0, 3] false [
        (none, .mv 25 (.v 0)),
        (none, .nchk 26 (.v 25)),
        (none, .fadr 27 1 1 (.v 26)),
        (none, .load 28 false 1 (.v 27) none),
        (none, .bin 29 .add (.v 28) (.c (.int .i64 1))),
        (none, .nchk 30 (.v 25)),
        (none, .fadr 31 1 1 (.v 30)),
        (none, .store 1 (.v 31) (.v 29) .copy)])
      (.seq
       (.region [(43, 0, false), (42, 0, false), (35, 0, false), (34, 0, false), (33, 0, false), (32, 0, false)] [] [0, 3] false [
         (none, .mv 32 (.v 0)),
         (none, .mv 33 (.v 0)),
         (none, .nchk 34 (.v 33)),
         (none, .fadr 35 2 1 (.v 34)),
         (none, .load 36 false 1 (.v 35) none),
         (none, .bin 37 .mul (.v 36) (.c (.int .u64 6364136223846793005))),
         (none, .mv 38 (.v 3)),
         (none, .conv 39 .u64 (.v 38)),
         (none, .bin 40 .add (.v 37) (.v 39)),
         (none, .bin 41 .add (.v 40) (.c (.int .u64 1442695040888963407))),
         (none, .nchk 42 (.v 32)),
         (none, .fadr 43 2 1 (.v 42)),
         (none, .store 1 (.v 43) (.v 41) .copy)])
       (.seq
        (.seq
         (.region [(51, 0, true), (50, 0, false), (49, 0, false), (48, 0, false), (46, 0, false), (45, 0, false), (44, 0, false)] [] [0, 3, 53] true [
           (none, .mv 44 (.v 0)),
           (none, .nchk 45 (.v 44)),
           (none, .fadr 46 1 1 (.v 45)),
           (none, .load 47 false 1 (.v 46) none),
           (none, .mv 48 (.v 0)),
           (none, .nchk 49 (.v 48)),
           (none, .fadr 50 0 1 (.v 49)),
           (none, .load 51 false 1 (.v 50) none),
           (none, .len 52 false (.v 51)),
           (none, .bin 53 .leq (.v 47) (.v 52))])
         (.cond (.v 53)
          (.seq
           (.region [] [] [0, 2] false [
             (none, .mv 54 (.v 3)),
             (none, .asg 2 (.v 54) .copy)])
           (.ret [0, 2]))
          (.skip [0])))
        (.seq
         (.region [(57, 0, false), (56, 0, false), (55, 0, false)] [] [0, 2] false [
           (none, .mv 55 (.v 0)),
           (none, .nchk 56 (.v 55)),
           (none, .fadr 57 2 1 (.v 56)),
           (none, .load 58 false 1 (.v 57) none),
           (none, .bin 59 .shr (.v 58) (.c (.int .u64 40))),
           (none, .bin 60 .and (.v 59) (.c (.int .u64 255))),
           (none, .conv 61 .i64 (.v 60)),
           (none, .asg 2 (.v 61) .copy)])
         (.ret [0, 2]))))))))⟩
def F7 : PFunc :=
 ⟨[true, false], [.tmp 4],
  (.seq
   (.region [] [] [0, 1] false [
     (none, .asg 4 (.c (.int .i64 0)) .copy)])
   (.seq
    (.seq
     (.region [] [] [0, 1, 7] false [
       (none, .mv 6 (.v 1)),
       (none, .bin 7 .leq (.v 6) (.c (.int .i64 1)))])
     (.cond (.v 7)
      (.seq
       (.region [] [] [0, 4] false [
         (none, .asg 4 (.c (.int .i64 0)) .copy)])
       (.ret [0, 4]))
      (.skip [0, 1])))
    (.seq
     (.region [(8, 0, false)] [] [0, 1, 5] false [
       (none, .mv 8 (.v 0)),
       (none, .call (some 9) 5 true [((.v 8), true)]),
       (none, .asg 5 (.v 9) .copy)])
     (.seq
      (.seq
       (.region [] [] [0, 1, 5, 11] false [
         (none, .mv 10 (.v 1)),
         (none, .bin 11 .gtr (.v 10) (.c (.int .i64 200)))])
       (.cond (.v 11)
        (.region [(14, 0, false)] [] [0, 1, 5] false [
          (none, .mv 12 (.v 5)),
          (none, .bin 13 .mul (.v 12) (.c (.int .i64 256))),
          (none, .mv 14 (.v 0)),
          (none, .call (some 15) 5 true [((.v 14), true)]),
          (none, .bin 16 .add (.v 13) (.v 15)),
          (none, .asg 5 (.v 16) .copy)])
        (.skip [0, 1, 5])))
      (.seq
       (.region [] [] [0, 4] false [
         (none, .mv 17 (.v 5)),
         (none, .mv 18 (.v 1)),
         (none, .bin 19 .rem (.v 17) (.v 18)),
         (none, .asg 4 (.v 19) .copy)])
       (.ret [0, 4]))))))⟩
def F731 : PFunc :=
 ⟨[true], [.tmp 2],
  (.seq
   (.region [] [] [0] false [
     (none, .asg 2 (.c (.sl true 4 [])) .copy)])
   (.seq
    (.region [] [] [0, 3] false [
      (none, .mksl 6 4 (.agg [(.int .i64 0), (.int .i64 0), (.int .i64 0), (.int .i64 0)]) 0 []),
      (none, .asg 3 (.v 6) .move)])
    (.seq
     (.seq
      (.region [(7, 0, false)] [] [0, 3, 4] false [
        (none, .mv 7 (.v 0)),
        (none, .call (some 8) 7 true [((.v 7), true), ((.c (.int .i64 6)), false)]),
        (none, .asg 4 (.v 8) .copy)])
      (.block 0
       (.loop
        (.seq
         (.seq
          (.region [] [] [0, 3, 4, 10] false [
            (none, .mv 9 (.v 4)),
            (none, .bin 10 .gtr (.v 9) (.c (.int .i64 0)))])
          (.cond (.v 10)
           (.skip [0, 3, 4])
           (.exit 0 [0, 3])))
         (.seq
          (.block 1
           (.seq
            (.region [(13, 0, false)] [] [0, 3, 4, 5] false [
              (none, .mv 13 (.v 0)),
              (none, .call (some 14) 7 true [((.v 13), true), ((.c (.int .i64 20)), false)]),
              (none, .build 15 [(.int .i64 0), (.int .i64 0), (.int .i64 0), (.int .i64 0)] [(0, 1, (.v 14), .copy)]),
              (none, .new 5 (.agg [(.int .i64 0), (.int .i64 0), (.int .i64 0), (.int .i64 0)])),
              (none, .store 4 (.v 5) (.v 15) .copy)])
            (.seq
             (.region [(19, 5, false), (16, 0, false)] [] [0, 3, 4, 5] false [
               (none, .mv 16 (.v 0)),
               (none, .call (some 17) 7 true [((.v 16), true), ((.c (.int .i64 7)), false)]),
               (none, .bin 18 .add (.c (.int .i64 1)) (.v 17)),
               (none, .fadr 19 1 1 (.v 5)),
               (none, .store 1 (.v 19) (.v 18) .copy)])
             (.seq
              (.region [(23, 5, false), (20, 0, false)] [] [0, 3, 4, 5] false [
                (none, .mv 20 (.v 0)),
                (none, .call (some 21) 7 true [((.v 20), true), ((.c (.int .i64 2)), false)]),
                (none, .bin 22 .add (.c (.int .i64 1)) (.v 21)),
                (none, .fadr 23 2 1 (.v 5)),
                (none, .store 1 (.v 23) (.v 22) .copy)])
              (.seq
               (.region [(26, 5, false), (24, 0, false)] [] [0, 3, 4, 5] false [
                 (none, .mv 24 (.v 0)),
                 (none, .call (some 25) 7 true [((.v 24), true), ((.c (.int .i64 5)), false)]),
                 (none, .fadr 26 3 1 (.v 5)),
                 (none, .store 1 (.v 26) (.v 25) .copy)])
               (.region [(27, 3, false)] [] [0, 3, 4] false [
                 (none, .mv 27 (.v 3)),
                 (none, .load 28 true 4 (.v 5) none),
                 (none, .mksl 29 4 (.agg [(.int .i64 0), (.int .i64 0), (.int .i64 0), (.int .i64 0)]) 1 [(0, (.v 28), .copy)]),
                 (none, .app 30 4 (.v 27) (.v 29) .move),
                 (none, .asg 3 (.v 30) .move)]))))))
          (.region [] [] [0, 3, 4] false [
            (none, .mv 11 (.v 4)),
            (none, .bin 12 .sub (.v 11) (.c (.int .i64 1))),
            (none, .asg 4 (.v 12) .copy)]))))))
     (.seq
      (.region [(31, 3, false)] [] [0, 2] false [
        (none, .mv 31 (.v 3)),
        (none, .asg 2 (.v 31) .move)])
      (.ret [0, 2])))))⟩
def F424 : PFunc :=
 ⟨[false], [.tmp 2],
  (.seq
   (.region [] [] [0] false [
     (none, .asg 2 (.c (.sl true 4 [])) .copy)])
   (.seq
    (.region [(3, 0, false)] [] [2] false [
      (none, .mv 3 (.v 0)),
      (none, .call (some 4) 603 true [((.v 3), false)]),
      (none, .call (some 5) 731 true [((.v 4), true)]),
      (none, .asg 2 (.v 5) .move)])
    (.ret [2])))⟩
def F432 : PFunc :=
 ⟨[false, false], [.tmp 4],
  (.seq
   (.region [] [] [0, 1] false [
     (none, .asg 4 (.c (.sl true 1 [])) .copy)])
   (.seq
    (.region [(8, 0, false)] [] [1, 5] false [
      (none, .mv 8 (.v 0)),
      (none, .call (some 9) 603 true [((.v 8), false)]),
      (none, .asg 5 (.v 9) .move)])
    (.seq
     (.region [] [] [1, 5, 6] false [
       (none, .mksl 10 1 (.int .i64 0) 0 []),
       (none, .asg 6 (.v 10) .move)])
     (.seq
      (.seq
       (.region [] [] [1, 5, 6, 7] false [
         (none, .asg 7 (.c (.int .i64 0)) .copy)])
       (.block 0
        (.loop
         (.seq
          (.seq
           (.region [(12, 1, false)] [] [1, 5, 6, 7, 14] false [
             (none, .mv 11 (.v 7)),
             (none, .mv 12 (.v 1)),
             (none, .len 13 false (.v 12)),
             (none, .bin 14 .lss (.v 11) (.v 13))])
           (.cond (.v 14)
            (.skip [1, 5, 6, 7])
            (.exit 0 [6])))
          (.seq
           (.block 1
            (.region [(22, 1, false), (21, 1, false), (19, 1, false), (18, 5, false), (17, 6, false)] [] [1, 5, 6, 7] false [
              (none, .mv 17 (.v 6)),
              (none, .mv 18 (.v 5)),
              (none, .mv 19 (.v 1)),
              (none, .mv 20 (.v 7)),
              (none, .iadr 21 4 (.v 19) (.v 20)),
              (none, .fadr 22 3 1 (.v 21)),
              (none, .load 23 false 1 (.v 22) none),
              (none, .bin 24 .add (.v 23) (.c (.int .i64 1))),
              (none, .call (some 25) 7 true [((.v 18), true), ((.v 24), false)]),
              (none, .mksl 26 1 (.int .i64 0) 1 [(0, (.v 25), .copy)]),
              (none, .app 27 1 (.v 17) (.v 26) .move),
              (none, .asg 6 (.v 27) .move)]))
           (.region [] [] [1, 5, 6, 7] false [
             (none, .mv 15 (.v 7)),
             (none, .bin 16 .add (.v 15) (.c (.int .i64 1))),
             (none, .asg 7 (.v 16) .copy)]))))))
      (.seq
       (.region [(28, 6, false)] [] [4] false [
         (none, .mv 28 (.v 6)),
         (none, .asg 4 (.v 28) .move)])
       (.ret [4]))))))⟩
def F331 : PFunc :=
 ⟨[false, false], [.tmp 4],
  (.seq
   (.region [] [] [0, 1] false [
     (none, .asg 4 (.c (.bool false)) .copy)])
   (.seq
    (.seq
     (.region [(28, 1, false), (27, 0, false)] [] [0, 1, 29] false [
       (none, .mv 27 (.v 0)),
       (none, .mv 28 (.v 1)),
       (none, .call (some 29) 386 false [((.v 27), false), ((.v 28), false)])])
     (.cond (.v 29)
      (.seq
       (.region [] [] [4] false [
         (none, .asg 4 (.c (.bool true)) .copy)])
       (.ret [4]))
      (.skip [0, 1])))
    (.seq
     (.region [(30, 0, false)] [] [1, 5] false [
       (none, .mv 30 (.v 0)),
       (none, .call (some 31) 424 false [((.v 30), false)]),
       (none, .asg 5 (.v 31) .move)])
     (.seq
      (.region [(32, 1, false)] [] [1, 5, 6] false [
        (none, .mv 32 (.v 1)),
        (none, .call (some 33) 384 false [((.v 32), false), ((.c (.int .i64 0)), false), ((.c (.int .i64 5)), false)]),
        (none, .asg 6 (.v 33) .copy)])
      (.seq
       (.region [(35, 5, false)] [] [1, 5, 6, 7, 8] false [
         (none, .mv 35 (.v 5)),
         (none, .call (some 36) 76 false [((.v 35), false)]),
         (none, .asg 34 (.v 36) .copy),
         (none, .extp 37 (.v 34) 0),
         (none, .extp 38 (.v 34) 1),
         (none, .asg 7 (.v 37) .copy),
         (none, .asg 8 (.v 38) .copy)])
       (.seq
        (.region [(40, 5, false)] [] [1, 5, 6, 7, 8, 9, 10] false [
          (none, .mv 40 (.v 5)),
          (none, .call (some 41) 146 false [((.v 40), false)]),
          (none, .asg 39 (.v 41) .copy),
          (none, .extp 42 (.v 39) 0),
          (none, .extp 43 (.v 39) 1),
          (none, .asg 9 (.v 42) .copy),
          (none, .asg 10 (.v 43) .copy)])
        (.seq
         (.region [(45, 5, false)] [] [1, 5, 6, 7, 8, 9, 10, 11, 12] false [
           (none, .mv 45 (.v 5)),
           (none, .mv 46 (.v 6)),
           (none, .call (some 47) 93 false [((.v 45), false), ((.v 46), false)]),
           (none, .asg 44 (.v 47) .copy),
           (none, .extp 48 (.v 44) 0),
           (none, .extp 49 (.v 44) 1),
           (none, .asg 11 (.v 48) .copy),
           (none, .asg 12 (.v 49) .copy)])
         (.seq
          (.region [(51, 5, false)] [] [1, 5, 6, 7, 8, 9, 10, 11, 12, 13, 14] false [
            (none, .mv 51 (.v 5)),
            (none, .call (some 52) 115 false [((.v 51), false)]),
            (none, .asg 50 (.v 52) .copy),
            (none, .extp 53 (.v 50) 0),
            (none, .extp 54 (.v 50) 1),
            (none, .asg 13 (.v 53) .copy),
            (none, .asg 14 (.v 54) .copy)])
          (.seq
           (.seq
            (.region [] [] [1, 5, 6, 7, 9, 11, 12, 13, 72] false [
              (none, .mv 55 (.v 8)),
              (none, .bin 56 .neq (.v 55) (.c (.int .i64 0))),
              (none, .mv 57 (.v 56)),
              (some (57, false), .mv 58 (.v 7)),
              (some (57, false), .bin 59 .lss (.v 58) (.c (.int .i64 0))),
              (none, .pick 60 (.v 57) (.c (.bool true)) (.v 59)),
              (none, .mv 61 (.v 60)),
              (some (61, false), .mv 62 (.v 7)),
              (some (61, false), .bin 63 .gtr (.v 62) (.c (.int .i64 40))),
              (none, .pick 64 (.v 61) (.c (.bool true)) (.v 63)),
              (none, .mv 65 (.v 64)),
              (some (65, false), .mv 66 (.v 10)),
              (some (65, false), .bin 67 .neq (.v 66) (.c (.int .i64 0))),
              (none, .pick 68 (.v 65) (.c (.bool true)) (.v 67)),
              (none, .mv 69 (.v 68)),
              (some (69, false), .mv 70 (.v 14)),
              (some (69, false), .bin 71 .neq (.v 70) (.c (.int .i64 0))),
              (none, .pick 72 (.v 69) (.c (.bool true)) (.v 71))])
            (.cond (.v 72)
             (.seq
              (.region [] [] [4] false [
                (none, .asg 4 (.c (.bool false)) .copy)])
              (.ret [4]))
             (.skip [1, 5, 6, 7, 9, 11, 12, 13])))
           (.seq
            (.region [] [] [1, 5, 6, 7, 9, 11, 12, 13, 15] false [
              (none, .asg 15 (.c (.int .i64 0)) .copy)])
            (.seq
             (.region [] [] [1, 5, 6, 7, 9, 11, 12, 13, 15, 16] false [
               (none, .asg 16 (.c (.int .i64 0)) .copy)])
             (.seq
              (.region [] [] [1, 5, 6, 7, 9, 11, 12, 13, 15, 16, 17] false [
                (none, .asg 17 (.c (.int .i64 (-1))) .copy)])
              (.seq
               (.seq
                (.region [] [] [1, 5, 6, 7, 9, 11, 12, 13, 15, 16, 17, 18] false [
                  (none, .asg 18 (.c (.int .i64 0)) .copy)])
                (.block 0
                 (.loop
                  (.seq
                   (.seq
                    (.region [] [] [1, 5, 6, 7, 9, 11, 12, 13, 15, 16, 17, 18, 75] false [
                      (none, .mv 73 (.v 18)),
                      (none, .mv 74 (.v 7)),
                      (none, .bin 75 .leq (.v 73) (.v 74))])
                    (.cond (.v 75)
                     (.skip [1, 5, 6, 7, 9, 11, 12, 13, 15, 16, 17, 18])
                     (.exit 0 [1, 5, 9, 11, 12, 13, 15, 16, 17])))
                   (.seq
                    (.block 1
                     (.seq
                      (.region [(79, 5, false)] [] [1, 5, 6, 7, 9, 11, 12, 13, 15, 16, 17, 18, 19, 20] false [
                        (none, .mv 79 (.v 5)),
                        (none, .mv 80 (.v 18)),
                        (none, .call (some 81) 111 false [((.v 79), false), ((.v 80), false)]),
                        (none, .asg 78 (.v 81) .copy),
                        (none, .extp 82 (.v 78) 0),
                        (none, .extp 83 (.v 78) 1),
                        (none, .asg 19 (.v 82) .copy),
                        (none, .asg 20 (.v 83) .copy)])
                      (.seq
                       (.region [] [] [1, 5, 6, 7, 9, 11, 12, 13, 15, 16, 17, 18, 19, 20, 21] false [
                         (none, .asg 21 (.c (.int .i64 0)) .copy)])
                       (.seq
                        (.seq
                         (.region [] [] [1, 5, 6, 7, 9, 11, 12, 13, 15, 16, 17, 18, 19, 20, 21, 22] false [
                           (none, .asg 22 (.c (.int .i64 0)) .copy)])
                         (.block 2
                          (.loop
                           (.seq
                            (.seq
                             (.region [(85, 5, false)] [] [1, 5, 6, 7, 9, 11, 12, 13, 15, 16, 17, 18, 19, 20, 21, 22, 87] false [
                               (none, .mv 84 (.v 22)),
                               (none, .mv 85 (.v 5)),
                               (none, .len 86 false (.v 85)),
                               (none, .bin 87 .lss (.v 84) (.v 86))])
                             (.cond (.v 87)
                              (.skip [1, 5, 6, 7, 9, 11, 12, 13, 15, 16, 17, 18, 19, 20, 21, 22])
                              (.exit 2 [1, 5, 6, 7, 9, 11, 12, 13, 15, 16, 17, 18, 19, 20, 21])))
                            (.seq
                             (.block 3
                              (.seq
                               (.region [(107, 5, false), (106, 5, false), (104, 5, false), (102, 5, false), (101, 5, false), (99, 5, false), (94, 5, false), (93, 5, false), (91, 5, false)] [] [1, 5, 6, 7, 9, 11, 12, 13, 15, 16, 17, 18, 19, 20, 21, 22, 111] true [
                                 (none, .mv 90 (.v 18)),
                                 (none, .mv 91 (.v 5)),
                                 (none, .mv 92 (.v 22)),
                                 (none, .iadr 93 4 (.v 91) (.v 92)),
                                 (none, .fadr 94 0 1 (.v 93)),
                                 (none, .load 95 false 1 (.v 94) none),
                                 (none, .bin 96 .geq (.v 90) (.v 95)),
                                 (none, .mv 97 (.v 96)),
                                 (some (97, true), .mv 98 (.v 18)),
                                 (some (97, true), .mv 99 (.v 5)),
                                 (some (97, true), .mv 100 (.v 22)),
                                 (some (97, true), .iadr 101 4 (.v 99) (.v 100)),
                                 (some (97, true), .fadr 102 0 1 (.v 101)),
                                 (some (97, true), .load 103 false 1 (.v 102) none),
                                 (some (97, true), .mv 104 (.v 5)),
                                 (some (97, true), .mv 105 (.v 22)),
                                 (some (97, true), .iadr 106 4 (.v 104) (.v 105)),
                                 (some (97, true), .fadr 107 1 1 (.v 106)),
                                 (some (97, true), .load 108 false 1 (.v 107) none),
                                 (some (97, true), .bin 109 .add (.v 103) (.v 108)),
                                 (some (97, true), .bin 110 .lss (.v 98) (.v 109)),
                                 (none, .pick 111 (.v 97) (.v 110) (.c (.bool false)))])
                               (.cond (.v 111)
                                (.region [(116, 5, false), (115, 5, false), (113, 5, false)] [] [1, 5, 6, 7, 9, 11, 12, 13, 15, 16, 17, 18, 19, 20, 21, 22] false [
                                  (none, .mv 112 (.v 21)),
                                  (none, .mv 113 (.v 5)),
                                  (none, .mv 114 (.v 22)),
                                  (none, .iadr 115 4 (.v 113) (.v 114)),
                                  (none, .fadr 116 2 1 (.v 115)),
                                  (none, .load 117 false 1 (.v 116) none),
                                  (none, .bin 118 .add (.v 112) (.v 117)),
                                  (none, .asg 21 (.v 118) .copy)])
                                (.skip [1, 5, 6, 7, 9, 11, 12, 13, 15, 16, 17, 18, 19, 20, 21, 22]))))
                             (.region [] [] [1, 5, 6, 7, 9, 11, 12, 13, 15, 16, 17, 18, 19, 20, 21, 22] false [
                               (none, .mv 88 (.v 22)),
                               (none, .bin 89 .add (.v 88) (.c (.int .i64 1))),
                               (none, .asg 22 (.v 89) .copy)]))))))
                        (.seq
                         (.seq
                          (.region [] [] [1, 5, 6, 7, 9, 11, 12, 13, 15, 16, 17, 18, 21, 144] false [
                            (none, .mv 119 (.v 20)),
                            (none, .bin 120 .neq (.v 119) (.c (.int .i64 0))),
                            (none, .mv 121 (.v 120)),
                            (some (121, false), .mv 122 (.v 19)),
                            (some (121, false), .mv 123 (.v 21)),
                            (some (121, false), .bin 124 .neq (.v 122) (.v 123)),
                            (none, .pick 125 (.v 121) (.c (.bool true)) (.v 124)),
                            (none, .mv 126 (.v 125)),
                            (some (126, false), .mv 127 (.v 18)),
                            (some (126, false), .mv 128 (.v 7)),
                            (some (126, false), .bin 129 .eql (.v 127) (.v 128)),
                            (some (126, false), .mv 130 (.v 129)),
                            (some (130, true), .mv 131 (.v 21)),
                            (some (130, true), .bin 132 .neq (.v 131) (.c (.int .i64 0))),
                            (some (126, false), .pick 133 (.v 130) (.v 132) (.c (.bool false))),
                            (none, .pick 134 (.v 126) (.c (.bool true)) (.v 133)),
                            (none, .mv 135 (.v 134)),
                            (some (135, false), .mv 136 (.v 18)),
                            (some (135, false), .mv 137 (.v 7)),
                            (some (135, false), .bin 138 .sub (.v 137) (.c (.int .i64 1))),
                            (some (135, false), .bin 139 .eql (.v 136) (.v 138)),
                            (some (135, false), .mv 140 (.v 139)),
                            (some (140, true), .mv 141 (.v 21)),
                            (some (140, true), .bin 142 .eql (.v 141) (.c (.int .i64 0))),
                            (some (135, false), .pick 143 (.v 140) (.v 142) (.c (.bool false))),
                            (none, .pick 144 (.v 135) (.c (.bool true)) (.v 143))])
                          (.cond (.v 144)
                           (.seq
                            (.region [] [] [4] false [
                              (none, .asg 4 (.c (.bool false)) .copy)])
                            (.ret [4]))
                           (.skip [1, 5, 6, 7, 9, 11, 12, 13, 15, 16, 17, 18, 21])))
                         (.seq
                          (.region [] [] [1, 5, 6, 7, 9, 11, 12, 13, 15, 16, 17, 18, 21] false [
                            (none, .mv 145 (.v 15)),
                            (none, .mv 146 (.v 21)),
                            (none, .mm 147 true (.v 145) [(.v 146)]),
                            (none, .asg 15 (.v 147) .copy)])
                          (.seq
                           (.seq
                            (.region [] [] [1, 5, 6, 7, 9, 11, 12, 13, 15, 16, 17, 18, 21, 154] false [
                              (none, .mv 148 (.v 21)),
                              (none, .bin 149 .eql (.v 148) (.c (.int .i64 0))),
                              (none, .mv 150 (.v 149)),
                              (some (150, true), .mv 151 (.v 18)),
                              (some (150, true), .mv 152 (.v 7)),
                              (some (150, true), .bin 153 .lss (.v 151) (.v 152)),
                              (none, .pick 154 (.v 150) (.v 153) (.c (.bool false)))])
                            (.cond (.v 154)
                             (.region [] [] [1, 5, 6, 7, 9, 11, 12, 13, 15, 16, 17, 18, 21] false [
                               (none, .mv 155 (.v 16)),
                               (none, .bin 156 .add (.v 155) (.c (.int .i64 1))),
                               (none, .asg 16 (.v 156) .copy)])
                             (.skip [1, 5, 6, 7, 9, 11, 12, 13, 15, 16, 17, 18, 21])))
                           (.seq
                            (.region [] [] [1, 5, 6, 7, 9, 11, 12, 13, 15, 16, 17, 18, 163] false [
                              (none, .mv 157 (.v 21)),
                              (none, .mv 158 (.v 6)),
                              (none, .bin 159 .gtr (.v 157) (.v 158)),
                              (none, .mv 160 (.v 159)),
                              (some (160, true), .mv 161 (.v 17)),
                              (some (160, true), .bin 162 .lss (.v 161) (.c (.int .i64 0))),
                              (none, .pick 163 (.v 160) (.v 162) (.c (.bool false)))])
                            (.cond (.v 163)
                             (.region [] [] [1, 5, 6, 7, 9, 11, 12, 13, 15, 16, 17, 18] false [
                               (none, .mv 164 (.v 18)),
                               (none, .asg 17 (.v 164) .copy)])
                             (.skip [1, 5, 6, 7, 9, 11, 12, 13, 15, 16, 17, 18]))))))))))
                    (.region [] [] [1, 5, 6, 7, 9, 11, 12, 13, 15, 16, 17, 18] false [
                      (none, .mv 76 (.v 18)),
                      (none, .bin 77 .add (.v 76) (.c (.int .i64 1))),
                      (none, .asg 18 (.v 77) .copy)]))))))
               (.seq
                (.seq
                 (.region [] [] [1, 5, 193] false [
                   (none, .mv 165 (.v 15)),
                   (none, .mv 166 (.v 9)),
                   (none, .bin 167 .neq (.v 165) (.v 166)),
                   (none, .mv 168 (.v 167)),
                   (some (168, false), .mv 169 (.v 16)),
                   (some (168, false), .mv 170 (.v 13)),
                   (some (168, false), .bin 171 .neq (.v 169) (.v 170)),
                   (none, .pick 172 (.v 168) (.c (.bool true)) (.v 171)),
                   (none, .mv 173 (.v 172)),
                   (some (173, false), .mv 174 (.v 17)),
                   (some (173, false), .bin 175 .lss (.v 174) (.c (.int .i64 0))),
                   (some (173, false), .mv 176 (.v 175)),
                   (some (176, true), .mv 177 (.v 12)),
                   (some (176, true), .bin 178 .neq (.v 177) (.c (.int .i64 3))),
                   (some (173, false), .pick 179 (.v 176) (.v 178) (.c (.bool false))),
                   (none, .pick 180 (.v 173) (.c (.bool true)) (.v 179)),
                   (none, .mv 181 (.v 180)),
                   (some (181, false), .mv 182 (.v 17)),
                   (some (181, false), .bin 183 .geq (.v 182) (.c (.int .i64 0))),
                   (some (181, false), .mv 184 (.v 183)),
                   (some (184, true), .mv 185 (.v 12)),
                   (some (184, true), .bin 186 .neq (.v 185) (.c (.int .i64 0))),
                   (some (184, true), .mv 187 (.v 186)),
                   (some (187, false), .mv 188 (.v 11)),
                   (some (187, false), .mv 189 (.v 17)),
                   (some (187, false), .bin 190 .neq (.v 188) (.v 189)),
                   (some (184, true), .pick 191 (.v 187) (.c (.bool true)) (.v 190)),
                   (some (181, false), .pick 192 (.v 184) (.v 191) (.c (.bool false))),
                   (none, .pick 193 (.v 181) (.c (.bool true)) (.v 192))])
                 (.cond (.v 193)
                  (.seq
                   (.region [] [] [4] false [
                     (none, .asg 4 (.c (.bool false)) .copy)])
                   (.ret [4]))
                  (.skip [1, 5])))
                (.seq
                 (.region [(195, 5, false), (194, 1, false)] [] [5, 23] false [
                   (none, .mv 194 (.v 1)),
                   (none, .mv 195 (.v 5)),
                   (none, .call (some 196) 432 false [((.v 194), false), ((.v 195), false)]),
                   (none, .asg 23 (.v 196) .move)])
                 (.seq
                  (.region [(199, 23, false), (198, 5, false)] [] [5, 23, 24, 25] false [
                    (none, .mv 198 (.v 5)),
                    (none, .mv 199 (.v 23)),
                    (none, .call (some 200) 179 false [((.v 198), false), ((.v 199), false)]),
                    (none, .asg 197 (.v 200) .move),
                    (none, .ext 201 (.v 197) 0),
                    (none, .extp 202 (.v 197) 1),
                    (none, .asg 24 (.v 201) .move),
                    (none, .asg 25 (.v 202) .copy)])
                  (.seq
                   (.seq
                    (.region [(208, 5, false), (206, 24, false)] [] [5, 23, 24, 211] false [
                      (none, .mv 203 (.v 25)),
                      (none, .bin 204 .neq (.v 203) (.c (.int .i64 0))),
                      (none, .mv 205 (.v 204)),
                      (some (205, false), .mv 206 (.v 24)),
                      (some (205, false), .len 207 false (.v 206)),
                      (some (205, false), .mv 208 (.v 5)),
                      (some (205, false), .len 209 false (.v 208)),
                      (some (205, false), .bin 210 .neq (.v 207) (.v 209)),
                      (none, .pick 211 (.v 205) (.c (.bool true)) (.v 210))])
                    (.cond (.v 211)
                     (.seq
                      (.region [] [] [4] false [
                        (none, .asg 4 (.c (.bool false)) .copy)])
                      (.ret [4]))
                     (.skip [5, 23, 24])))
                   (.seq
                    (.seq
                     (.region [] [] [5, 23, 24, 26] false [
                       (none, .asg 26 (.c (.int .i64 0)) .copy)])
                     (.block 4
                      (.loop
                       (.seq
                        (.seq
                         (.region [(213, 5, false)] [] [5, 23, 24, 26, 215] false [
                           (none, .mv 212 (.v 26)),
                           (none, .mv 213 (.v 5)),
                           (none, .len 214 false (.v 213)),
                           (none, .bin 215 .lss (.v 212) (.v 214))])
                         (.cond (.v 215)
                          (.skip [5, 23, 24, 26])
                          (.exit 4 [])))
                        (.seq
                         (.block 5
                          (.seq
                           (.region [(274, 5, false), (273, 5, false), (271, 5, false), (269, 24, false), (268, 24, false), (266, 24, false), (261, 5, false), (260, 5, false), (258, 5, false), (256, 24, false), (255, 24, false), (253, 24, false), (247, 23, false), (245, 23, false), (243, 5, false), (242, 5, false), (240, 5, false), (238, 24, false), (237, 24, false), (235, 24, false), (230, 23, false), (228, 23, false), (226, 5, false), (225, 5, false), (223, 5, false), (221, 24, false), (220, 24, false), (218, 24, false)] [] [5, 23, 24, 26, 277] true [
                             (none, .mv 218 (.v 24)),
                             (none, .mv 219 (.v 26)),
                             (none, .iadr 220 4 (.v 218) (.v 219)),
                             (none, .fadr 221 0 1 (.v 220)),
                             (none, .load 222 false 1 (.v 221) none),
                             (none, .mv 223 (.v 5)),
                             (none, .mv 224 (.v 26)),
                             (none, .iadr 225 4 (.v 223) (.v 224)),
                             (none, .fadr 226 0 1 (.v 225)),
                             (none, .load 227 false 1 (.v 226) none),
                             (none, .mv 228 (.v 23)),
                             (none, .mv 229 (.v 26)),
                             (none, .iadr 230 1 (.v 228) (.v 229)),
                             (none, .load 231 false 1 (.v 230) none),
                             (none, .bin 232 .add (.v 227) (.v 231)),
                             (none, .bin 233 .neq (.v 222) (.v 232)),
                             (none, .mv 234 (.v 233)),
                             (some (234, false), .mv 235 (.v 24)),
                             (some (234, false), .mv 236 (.v 26)),
                             (some (234, false), .iadr 237 4 (.v 235) (.v 236)),
                             (some (234, false), .fadr 238 3 1 (.v 237)),
                             (some (234, false), .load 239 false 1 (.v 238) none),
                             (some (234, false), .mv 240 (.v 5)),
                             (some (234, false), .mv 241 (.v 26)),
                             (some (234, false), .iadr 242 4 (.v 240) (.v 241)),
                             (some (234, false), .fadr 243 3 1 (.v 242)),
                             (some (234, false), .load 244 false 1 (.v 243) none),
                             (some (234, false), .mv 245 (.v 23)),
                             (some (234, false), .mv 246 (.v 26)),
                             (some (234, false), .iadr 247 1 (.v 245) (.v 246)),
                             (some (234, false), .load 248 false 1 (.v 247) none),
                             (some (234, false), .bin 249 .sub (.v 244) (.v 248)),
                             (some (234, false), .bin 250 .neq (.v 239) (.v 249)),
                             (none, .pick 251 (.v 234) (.c (.bool true)) (.v 250)),
                             (none, .mv 252 (.v 251)),
                             (some (252, false), .mv 253 (.v 24)),
                             (some (252, false), .mv 254 (.v 26)),
                             (some (252, false), .iadr 255 4 (.v 253) (.v 254)),
                             (some (252, false), .fadr 256 1 1 (.v 255)),
                             (some (252, false), .load 257 false 1 (.v 256) none),
                             (some (252, false), .mv 258 (.v 5)),
                             (some (252, false), .mv 259 (.v 26)),
                             (some (252, false), .iadr 260 4 (.v 258) (.v 259)),
                             (some (252, false), .fadr 261 1 1 (.v 260)),
                             (some (252, false), .load 262 false 1 (.v 261) none),
                             (some (252, false), .bin 263 .neq (.v 257) (.v 262)),
                             (none, .pick 264 (.v 252) (.c (.bool true)) (.v 263)),
                             (none, .mv 265 (.v 264)),
                             (some (265, false), .mv 266 (.v 24)),
                             (some (265, false), .mv 267 (.v 26)),
                             (some (265, false), .iadr 268 4 (.v 266) (.v 267)),
                             (some (265, false), .fadr 269 2 1 (.v 268)),
                             (some (265, false), .load 270 false 1 (.v 269) none),
                             (some (265, false), .mv 271 (.v 5)),
                             (some (265, false), .mv 272 (.v 26)),
                             (some (265, false), .iadr 273 4 (.v 271) (.v 272)),
                             (some (265, false), .fadr 274 2 1 (.v 273)),
                             (some (265, false), .load 275 false 1 (.v 274) none),
                             (some (265, false), .bin 276 .neq (.v 270) (.v 275)),
                             (none, .pick 277 (.v 265) (.c (.bool true)) (.v 276))])
                           (.cond (.v 277)
                            (.seq
                             (.region [] [] [4] false [
                               (none, .asg 4 (.c (.bool false)) .copy)])
                             (.ret [4]))
                            (.skip [5, 23, 24, 26]))))
                         (.region [] [] [5, 23, 24, 26] false [
                           (none, .mv 216 (.v 26)),
                           (none, .bin 217 .add (.v 216) (.c (.int .i64 1))),
                           (none, .asg 26 (.v 217) .copy)]))))))
                    (.seq
                     (.region [] [] [4] false [
                       (none, .asg 4 (.c (.bool true)) .copy)])
                     (.ret [4]))))))))))))))))))))⟩
def tabl : List (Nat × PFunc) := [(326, F326), (211, F211), (822, F822), (800, F800), (210, F210), (264, F264), (76, F76), (260, F260), (272, F272), (93, F93), (111, F111), (115, F115), (293, F293), (146, F146), (306, F306), (179, F179), (384, F384), (386, F386), (603, F603), (5, F5), (7, F7), (731, F731), (424, F424), (432, F432), (331, F331)]
def T : Nat → Option PFunc := tabOf tabl
end Go.Vs.G
