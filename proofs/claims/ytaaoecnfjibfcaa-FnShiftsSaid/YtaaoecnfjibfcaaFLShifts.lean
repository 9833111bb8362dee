/- The functions that the law reaches, in the small language, printed by program. No conditions. -/
import Derived.Test.YtaaoecnfjibfcaaDLShifts
import Derived.Test.YtaaoecnfjibfcaaV4
set_option maxRecDepth 100000
open Go Go.Vs
namespace Go.Vs.G
def F272 : PFunc :=
 ⟨[false, false], [.tmp 4],
  (.seq
   (.region [] [] [0, 1] false [
     (none, .asg 4 (.c (.int .i64 0)) .copy)])
   (.seq
    (.region [] [] [0, 1, 5] false [
      (none, .asg 5 (.c (.int .i64 0)) .copy)])
    (.seq
     (.seq
      (.region [(8, 0, false)] [] [0, 1, 5, 8, 9, 10] false [
        (none, .mv 8 (.v 0)),
        (none, .len 9 false (.v 8)),
        (none, .mv 10 (.c (.int .i64 0)))])
      (.block 0
       (.loop
        (.seq
         (.region [(8, 0, false)] [] [0, 1, 5, 8, 9, 10, 11] false [
           (none, .bin 11 .lss (.v 10) (.v 9))])
         (.seq
          (.cond (.v 11)
           (.skip [0, 1, 5, 8, 9, 10])
           (.exit 0 [5]))
          (.seq
           (.block 1
            (.seq
             (.region [(12, 0, false), (8, 0, false)] [] [0, 1, 5, 7, 8, 9, 10] false [
               (none, .iadr 12 4 (.v 8) (.v 10)),
               (none, .load 13 true 4 (.v 12) none),
               (none, .new 7 (.agg [(.int .i64 0), (.int .i64 0), (.int .i64 0), (.int .i64 0)])),
               (none, .store 4 (.v 7) (.v 13) .copy)])
             (.seq
              (.region [(22, 7, false), (20, 7, false), (14, 7, false), (8, 0, false)] [] [0, 1, 5, 7, 8, 9, 10, 26] false [
                (none, .fadr 14 0 1 (.v 7)),
                (none, .load 15 false 1 (.v 14) none),
                (none, .mv 16 (.v 1)),
                (none, .bin 17 .leq (.v 15) (.v 16)),
                (none, .mv 18 (.v 17)),
                (some (18, true), .mv 19 (.v 1)),
                (some (18, true), .fadr 20 0 1 (.v 7)),
                (some (18, true), .load 21 false 1 (.v 20) none),
                (some (18, true), .fadr 22 1 1 (.v 7)),
                (some (18, true), .load 23 false 1 (.v 22) none),
                (some (18, true), .bin 24 .add (.v 21) (.v 23)),
                (some (18, true), .bin 25 .lss (.v 19) (.v 24)),
                (none, .pick 26 (.v 18) (.v 25) (.c (.bool false)))])
              (.cond (.v 26)
               (.region [(28, 7, false), (8, 0, false)] [] [0, 1, 5, 8, 9, 10] false [
                 (none, .mv 27 (.v 5)),
                 (none, .fadr 28 2 1 (.v 7)),
                 (none, .load 29 false 1 (.v 28) none),
                 (none, .bin 30 .add (.v 27) (.v 29)),
                 (none, .asg 5 (.v 30) .copy)])
               (.skip [0, 1, 5, 8, 9, 10])))))
           (.region [(8, 0, false)] [] [0, 1, 5, 8, 9, 10] false [
             (none, .bin 31 .add (.v 10) (.c (.int .i64 1))),
             (none, .mv 10 (.v 31))])))))))
     (.seq
      (.region [] [] [4] false [
        (none, .mv 32 (.v 5)),
        (none, .asg 4 (.v 32) .copy)])
      (.ret [4])))))⟩
def F293 : PFunc :=
 ⟨[false], [.tmp 2],
  (.seq
   (.region [] [] [0] false [
     (none, .asg 2 (.c (.int .i64 0)) .copy)])
   (.seq
    (.region [] [] [0, 3] false [
      (none, .asg 3 (.c (.int .i64 0)) .copy)])
    (.seq
     (.seq
      (.region [(6, 0, false)] [] [0, 3, 6, 7, 8] false [
        (none, .mv 6 (.v 0)),
        (none, .len 7 false (.v 6)),
        (none, .mv 8 (.c (.int .i64 0)))])
      (.block 0
       (.loop
        (.seq
         (.region [(6, 0, false)] [] [0, 3, 6, 7, 8, 9] false [
           (none, .bin 9 .lss (.v 8) (.v 7))])
         (.seq
          (.cond (.v 9)
           (.skip [0, 3, 6, 7, 8])
           (.exit 0 [3]))
          (.seq
           (.block 1
            (.seq
             (.region [(10, 0, false), (6, 0, false)] [] [0, 3, 5, 6, 7, 8] false [
               (none, .iadr 10 4 (.v 6) (.v 8)),
               (none, .load 11 true 4 (.v 10) none),
               (none, .new 5 (.agg [(.int .i64 0), (.int .i64 0), (.int .i64 0), (.int .i64 0)])),
               (none, .store 4 (.v 5) (.v 11) .copy)])
             (.region [(14, 5, false), (13, 0, false), (6, 0, false)] [] [0, 3, 6, 7, 8] false [
               (none, .mv 12 (.v 3)),
               (none, .mv 13 (.v 0)),
               (none, .fadr 14 0 1 (.v 5)),
               (none, .load 15 false 1 (.v 14) none),
               (none, .call (some 16) 272 false [((.v 13), false), ((.v 15), false)]),
               (none, .mm 17 true (.v 12) [(.v 16)]),
               (none, .asg 3 (.v 17) .copy)])))
           (.region [(6, 0, false)] [] [0, 3, 6, 7, 8] false [
             (none, .bin 18 .add (.v 8) (.c (.int .i64 1))),
             (none, .mv 8 (.v 18))])))))))
     (.seq
      (.region [] [] [2] false [
        (none, .mv 19 (.v 3)),
        (none, .asg 2 (.v 19) .copy)])
      (.ret [2])))))⟩
def F306 : PFunc :=
 ⟨[false, false], [.tmp 4],
  (.seq
   (.region [] [] [0, 1] false [
     (none, .asg 4 (.c (.sl true 4 [])) .copy)])
   (.seq
    (.region [(8, 0, false)] [] [1, 5] false [
      (none, .mv 8 (.v 0)),
      (none, .call (some 9) 786 false [((.v 8), false)]),
      (none, .asg 5 (.v 9) .move)])
    (.seq
     (.seq
      (.region [(10, 1, false)] [] [1, 5, 10, 11, 12] false [
        (none, .mv 10 (.v 1)),
        (none, .len 11 false (.v 10)),
        (none, .mv 12 (.c (.int .i64 0)))])
      (.block 0
       (.loop
        (.seq
         (.region [(10, 1, false)] [] [1, 5, 10, 11, 12, 13] false [
           (none, .bin 13 .lss (.v 12) (.v 11))])
         (.seq
          (.cond (.v 13)
           (.skip [1, 5, 10, 11, 12])
           (.exit 0 [5]))
          (.seq
           (.block 1
            (.seq
             (.region [(15, 1, false), (10, 1, false)] [] [1, 5, 6, 7, 10, 11, 12] false [
               (none, .mv 14 (.v 12)),
               (none, .iadr 15 1 (.v 10) (.v 12)),
               (none, .load 16 false 1 (.v 15) none),
               (none, .asg 6 (.v 14) .copy),
               (none, .asg 7 (.v 16) .copy)])
             (.seq
              (.region [(25, 5, false), (24, 5, false), (20, 5, false), (19, 5, false), (17, 5, false), (10, 1, false)] [] [1, 5, 6, 7, 10, 11, 12] false [
                (none, .mv 17 (.v 5)),
                (none, .mv 18 (.v 6)),
                (none, .iadr 19 4 (.v 17) (.v 18)),
                (none, .fadr 20 0 1 (.v 19)),
                (none, .load 21 false 1 (.v 20) none),
                (none, .mv 22 (.v 7)),
                (none, .bin 23 .add (.v 21) (.v 22)),
                (none, .iadr 24 4 (.v 17) (.v 18)),
                (none, .fadr 25 0 1 (.v 24)),
                (none, .store 1 (.v 25) (.v 23) .copy)])
              (.region [(34, 5, false), (33, 5, false), (29, 5, false), (28, 5, false), (26, 5, false), (10, 1, false)] [] [1, 5, 10, 11, 12] false [
                (none, .mv 26 (.v 5)),
                (none, .mv 27 (.v 6)),
                (none, .iadr 28 4 (.v 26) (.v 27)),
                (none, .fadr 29 3 1 (.v 28)),
                (none, .load 30 false 1 (.v 29) none),
                (none, .mv 31 (.v 7)),
                (none, .bin 32 .sub (.v 30) (.v 31)),
                (none, .iadr 33 4 (.v 26) (.v 27)),
                (none, .fadr 34 3 1 (.v 33)),
                (none, .store 1 (.v 34) (.v 32) .copy)]))))
           (.region [(10, 1, false)] [] [1, 5, 10, 11, 12] false [
             (none, .bin 35 .add (.v 12) (.c (.int .i64 1))),
             (none, .mv 12 (.v 35))])))))))
     (.seq
      (.region [(36, 5, false)] [] [4] false [
        (none, .mv 36 (.v 5)),
        (none, .asg 4 (.v 36) .move)])
      (.ret [4])))))⟩
def F113 : PFunc :=
 ⟨[false, true, true], [],
  (.region [(6, 0, false), (5, 2, true)] [] [1, 2] true [
    (none, .load 4 false 1 (.v 1) none),
    (none, .load 5 false 1 (.v 2) none),
    (none, .mv 6 (.v 0)),
    (none, .call (some 7) 306 false [((.v 5), false), ((.v 6), false)]),
    (none, .call (some 8) 293 false [((.v 7), false)]),
    (none, .mm 9 false (.v 4) [(.v 8)]),
    (none, .store 1 (.v 1) (.v 9) .copy)])⟩
def F326 : PFunc :=
 ⟨[false, false, false], [.tmp 6],
  (.seq
   (.region [] [] [0, 1, 2] false [
     (none, .asg 6 (.c (.bool false)) .copy)])
   (.seq
    (.region [] [] [6] false [
      (none, .mv 7 (.v 0)),
      (none, .mv 8 (.v 1)),
      (none, .bin 9 .geq (.v 7) (.v 8)),
      (none, .mv 10 (.v 9)),
      (some (10, true), .mv 11 (.v 0)),
      (some (10, true), .mv 12 (.v 2)),
      (some (10, true), .bin 13 .leq (.v 11) (.v 12)),
      (none, .pick 14 (.v 10) (.v 13) (.c (.bool false))),
      (none, .asg 6 (.v 14) .copy)])
    (.ret [6])))⟩
def F211 : PFunc :=
 ⟨[false], [.tmp 2],
  (.seq
   (.region [] [] [1] false [
     (none, .box 1 (.v 0) .copy),
     (none, .asg 2 (.c (.bool false)) .copy)])
   (.seq
    (.region [(20, 1, false), (14, 1, false), (8, 1, false), (3, 1, false)] [] [2] false [
      (none, .fadr 3 0 1 (.v 1)),
      (none, .load 4 false 1 (.v 3) none),
      (none, .call (some 5) 326 false [((.v 4), false), ((.c (.int .i64 0)), false), ((.c (.int .i64 10000)), false)]),
      (none, .un 6 .not (.v 5)),
      (none, .mv 7 (.v 6)),
      (some (7, false), .fadr 8 1 1 (.v 1)),
      (some (7, false), .load 9 false 1 (.v 8) none),
      (some (7, false), .call (some 10) 326 false [((.v 9), false), ((.c (.int .i64 1)), false), ((.c (.int .i64 1000)), false)]),
      (some (7, false), .un 11 .not (.v 10)),
      (none, .pick 12 (.v 7) (.c (.bool true)) (.v 11)),
      (none, .mv 13 (.v 12)),
      (some (13, false), .fadr 14 2 1 (.v 1)),
      (some (13, false), .load 15 false 1 (.v 14) none),
      (some (13, false), .call (some 16) 326 false [((.v 15), false), ((.c (.int .i64 1)), false), ((.c (.int .i64 4)), false)]),
      (some (13, false), .un 17 .not (.v 16)),
      (none, .pick 18 (.v 13) (.c (.bool true)) (.v 17)),
      (none, .mv 19 (.v 18)),
      (some (19, false), .fadr 20 3 1 (.v 1)),
      (some (19, false), .load 21 false 1 (.v 20) none),
      (some (19, false), .call (some 22) 326 false [((.v 21), false), ((.c (.int .i64 0)), false), ((.c (.int .i64 6)), false)]),
      (some (19, false), .un 23 .not (.v 22)),
      (none, .pick 24 (.v 19) (.c (.bool true)) (.v 23)),
      (none, .asg 2 (.v 24) .copy)])
    (.ret [2])))⟩
def F822 : PFunc :=
 ⟨[false, false], [.tmp 4],
  (.seq
   (.region [] [] [0, 1] false [
     (none, .asg 4 (.c (.int .i64 0)) .copy)])
   (.seq
    (.seq
     (.region [(6, 0, false)] [] [0, 1, 7, 8] false [
       (none, .mv 6 (.v 0)),
       (none, .len 7 false (.v 6)),
       (none, .mv 8 (.c (.int .i64 0)))])
     (.block 0
      (.loop
       (.seq
        (.region [] [] [0, 1, 7, 8, 9] false [
          (none, .bin 9 .lss (.v 8) (.v 7))])
        (.seq
         (.cond (.v 9)
          (.skip [0, 1, 7, 8])
          (.exit 0 []))
         (.seq
          (.block 1
           (.seq
            (.region [] [] [0, 1, 5, 7, 8] false [
              (none, .mv 10 (.v 8)),
              (none, .asg 5 (.v 10) .copy)])
            (.seq
             (.region [(14, 0, false), (12, 0, false), (11, 1, false)] [] [0, 1, 5, 7, 8, 16] false [
               (none, .mv 11 (.v 1)),
               (none, .mv 12 (.v 0)),
               (none, .mv 13 (.v 5)),
               (none, .iadr 14 4 (.v 12) (.v 13)),
               (none, .load 15 true 4 (.v 14) none),
               (none, .callv (some 16) (.v 11) [(.v 15)])])
             (.cond (.v 16)
              (.seq
               (.region [] [] [4] false [
                 (none, .mv 17 (.v 5)),
                 (none, .asg 4 (.v 17) .copy)])
               (.ret [4]))
              (.skip [0, 1, 7, 8])))))
          (.region [] [] [0, 1, 7, 8] false [
            (none, .bin 18 .add (.v 8) (.c (.int .i64 1))),
            (none, .mv 8 (.v 18))])))))))
    (.seq
     (.region [] [] [4] false [
       (none, .asg 4 (.c (.int .i64 (-1))) .copy)])
     (.ret [4]))))⟩
def F800 : PFunc :=
 ⟨[false, false], [.tmp 4],
  (.seq
   (.region [] [] [0, 1] false [
     (none, .asg 4 (.c (.bool false)) .copy)])
   (.seq
    (.region [(6, 1, false), (5, 0, false)] [] [4] false [
      (none, .mv 5 (.v 0)),
      (none, .mv 6 (.v 1)),
      (none, .call (some 7) 822 false [((.v 5), false), ((.v 6), false)]),
      (none, .bin 8 .geq (.v 7) (.c (.int .i64 0))),
      (none, .asg 4 (.v 8) .copy)])
    (.ret [4])))⟩
def F210 : PFunc :=
 ⟨[false], [.tmp 2],
  (.seq
   (.region [] [] [0] false [
     (none, .asg 2 (.c (.bool false)) .copy)])
   (.seq
    (.region [(7, 0, false), (3, 0, false)] [] [2] false [
      (none, .mv 3 (.v 0)),
      (none, .len 4 false (.v 3)),
      (none, .bin 5 .leq (.v 4) (.c (.int .i64 6))),
      (none, .mv 6 (.v 5)),
      (some (6, true), .mv 7 (.v 0)),
      (some (6, true), .call (some 8) 800 false [((.v 7), false), ((.c (.fn 211 [])), false)]),
      (some (6, true), .un 9 .not (.v 8)),
      (none, .pick 10 (.v 6) (.v 9) (.c (.bool false))),
      (none, .asg 2 (.v 10) .copy)])
    (.ret [2])))⟩
def F242 : PFunc :=
 ⟨[false, false, true], [],
  (.seq
   (.seq
    (.region [(9, 0, false), (7, 1, false)] [] [0, 1, 2, 11] false [
      (none, .mv 7 (.v 1)),
      (none, .len 8 false (.v 7)),
      (none, .mv 9 (.v 0)),
      (none, .len 10 false (.v 9)),
      (none, .bin 11 .eql (.v 8) (.v 10))])
    (.cond (.v 11)
     (.seq
      (.region [(13, 1, false), (12, 2, false)] [] [2] false [
        (none, .mv 12 (.v 2)),
        (none, .mv 13 (.v 1)),
        (none, .callo (some 14) 12 [(.v 13)])])
      (.ret [2]))
     (.skip [0, 1, 2])))
   (.seq
    (.region [] [] [0, 1, 2, 6] false [
      (none, .asg 6 (.c (.int .i64 0)) .copy)])
    (.block 0
     (.loop
      (.seq
       (.seq
        (.region [(20, 0, false), (19, 0, false), (17, 1, false), (16, 0, false)] [] [0, 1, 2, 6, 22] false [
          (none, .mv 15 (.v 6)),
          (none, .mv 16 (.v 0)),
          (none, .mv 17 (.v 1)),
          (none, .len 18 false (.v 17)),
          (none, .iadr 19 4 (.v 16) (.v 18)),
          (none, .fadr 20 3 1 (.v 19)),
          (none, .load 21 false 1 (.v 20) none),
          (none, .bin 22 .leq (.v 15) (.v 21))])
        (.cond (.v 22)
         (.skip [0, 1, 2, 6])
         (.exit 0 [2])))
       (.seq
        (.block 1
         (.region [(31, 2, false), (26, 1, false), (25, 0, false)] [] [0, 1, 2, 6] false [
           (none, .mv 25 (.v 0)),
           (none, .mv 26 (.v 1)),
           (none, .call (some 27) 784 false [((.v 26), false)]),
           (none, .mv 28 (.v 6)),
           (none, .mksl 29 1 (.int .i64 0) 1 [(0, (.v 28), .copy)]),
           (none, .app 30 1 (.v 27) (.v 29) .move),
           (none, .mv 31 (.v 2)),
           (none, .call (some 32) 242 true [((.v 25), false), ((.v 30), false), ((.v 31), true)])]))
        (.region [] [] [0, 1, 2, 6] false [
          (none, .mv 23 (.v 6)),
          (none, .bin 24 .add (.v 23) (.c (.int .i64 1))),
          (none, .asg 6 (.v 24) .copy)])))))))⟩
def F112 : PFunc :=
 ⟨[false], [.tmp 2, .tmp 3],
  (.seq
   (.region [] [4] [1] false [
     (none, .box 1 (.v 0) .move),
     (none, .asg 2 (.c (.int .i64 0)) .copy),
     (none, .asg 3 (.c (.int .i64 0)) .copy)])
   (.seq
    (.seq
     (.region [(5, 1, true)] [4, 1] [1, 7] false [
       (none, .load 5 false 1 (.v 1) none),
       (none, .call (some 6) 210 false [((.v 5), false)]),
       (none, .un 7 .not (.v 6))])
     (.cond (.v 7)
      (.seq
       (.region [] [4, 1] [2, 3] false [
         (none, .asg 2 (.c (.int .i64 0)) .copy),
         (none, .asg 3 (.c (.int .i64 1)) .copy)])
       (.ret [2, 3]))
      (.skip [1])))
    (.seq
     (.region [(8, 1, true)] [1] [1, 4] false [
       (none, .load 8 false 1 (.v 1) none),
       (none, .call (some 9) 293 false [((.v 8), false)]),
       (none, .new 4 (.int .i64 0)),
       (none, .store 1 (.v 4) (.v 9) .copy)])
     (.seq
      (.region [(10, 1, true)] [4, 1] [4] false [
        (none, .load 10 false 1 (.v 1) none),
        (none, .mkfn 11 113 [4, 1]),
        (none, .callc (some 12) 242 [(.v 10), (.c (.sl false 1 []))] 11 [4, 1])])
      (.seq
       (.region [] [4, 1] [2, 3] false [
         (none, .load 13 false 1 (.v 4) none),
         (none, .asg 2 (.v 13) .copy),
         (none, .asg 3 (.c (.int .i64 0)) .copy)])
       (.ret [2, 3]))))))⟩
def F315 : PFunc :=
 ⟨[false], [.tmp 2],
  (.seq
   (.region [] [] [0] false [
     (none, .asg 2 (.c (.int .i64 0)) .copy)])
   (.seq
    (.region [] [] [0, 3] false [
      (none, .asg 3 (.c (.int .i64 0)) .copy)])
    (.seq
     (.seq
      (.region [(6, 0, false)] [] [0, 3, 6, 7, 8] false [
        (none, .mv 6 (.v 0)),
        (none, .len 7 false (.v 6)),
        (none, .mv 8 (.c (.int .i64 0)))])
      (.block 0
       (.loop
        (.seq
         (.region [(6, 0, false)] [] [0, 3, 6, 7, 8, 9] false [
           (none, .bin 9 .lss (.v 8) (.v 7))])
         (.seq
          (.cond (.v 9)
           (.skip [0, 3, 6, 7, 8])
           (.exit 0 [3]))
          (.seq
           (.block 1
            (.seq
             (.region [(10, 0, false), (6, 0, false)] [] [0, 3, 5, 6, 7, 8] false [
               (none, .iadr 10 1 (.v 6) (.v 8)),
               (none, .load 11 false 1 (.v 10) none),
               (none, .asg 5 (.v 11) .copy)])
             (.region [(6, 0, false)] [] [0, 3, 6, 7, 8] false [
               (none, .mv 12 (.v 3)),
               (none, .mv 13 (.v 5)),
               (none, .bin 14 .add (.v 12) (.v 13)),
               (none, .asg 3 (.v 14) .copy)])))
           (.region [(6, 0, false)] [] [0, 3, 6, 7, 8] false [
             (none, .bin 15 .add (.v 8) (.c (.int .i64 1))),
             (none, .mv 8 (.v 15))])))))))
     (.seq
      (.region [] [] [2] false [
        (none, .mv 16 (.v 3)),
        (none, .asg 2 (.v 16) .copy)])
      (.ret [2])))))⟩
def F124 : PFunc :=
 ⟨[false, true, true, true, true], [],
  (.seq
   (.region [(7, 0, false)] [] [0, 1, 2, 3, 4, 6] false [
     (none, .mv 7 (.v 0)),
     (none, .call (some 8) 315 false [((.v 7), false)]),
     (none, .asg 6 (.v 8) .copy)])
   (.seq
    (.region [(18, 0, false), (17, 2, true)] [] [0, 1, 2, 3, 4, 6, 23] true [
      (none, .load 9 false 1 (.v 1) none),
      (none, .bin 10 .lss (.v 9) (.c (.int .i64 0))),
      (none, .mv 11 (.v 10)),
      (some (11, false), .mv 12 (.v 6)),
      (some (11, false), .load 13 false 1 (.v 1) none),
      (some (11, false), .bin 14 .lss (.v 12) (.v 13)),
      (none, .pick 15 (.v 11) (.c (.bool true)) (.v 14)),
      (none, .mv 16 (.v 15)),
      (some (16, true), .load 17 false 1 (.v 2) none),
      (some (16, true), .mv 18 (.v 0)),
      (some (16, true), .call (some 19) 306 false [((.v 17), false), ((.v 18), false)]),
      (some (16, true), .call (some 20) 293 false [((.v 19), false)]),
      (some (16, true), .load 21 false 1 (.v 3) none),
      (some (16, true), .bin 22 .leq (.v 20) (.v 21)),
      (none, .pick 23 (.v 16) (.v 22) (.c (.bool false)))])
    (.cond (.v 23)
     (.region [(24, 0, false)] [] [1, 2, 3, 4] false [
       (none, .mv 24 (.v 0)),
       (none, .call (some 25) 784 false [((.v 24), false)]),
       (none, .mv 26 (.v 6)),
       (none, .store 1 (.v 4) (.v 25) .move),
       (none, .store 1 (.v 1) (.v 26) .copy)])
     (.skip [1, 2, 3, 4]))))⟩
def F260 : PFunc :=
 ⟨[false, false], [.tmp 4],
  (.seq
   (.region [] [] [0, 1] false [
     (none, .asg 4 (.c (.int .i64 0)) .copy)])
   (.seq
    (.block 0
     (.seq
      (.region [(6, 0, false)] [] [1, 5] false [
        (none, .mv 6 (.v 0)),
        (none, .call (some 7) 210 false [((.v 6), false)]),
        (none, .un 8 .not (.v 7)),
        (none, .asg 5 (.v 8) .copy)])
      (.cond (.v 5)
       (.seq
        (.region [] [] [4] false [
          (none, .asg 4 (.c (.int .i64 1)) .copy)])
        (.ret [4]))
       (.seq
        (.region [] [] [9] false [
          (none, .mv 10 (.v 1)),
          (none, .call (some 11) 326 false [((.v 10), false), ((.c (.int .i64 0)), false), ((.c (.int .i64 24)), false)]),
          (none, .un 12 .not (.v 11)),
          (none, .asg 9 (.v 12) .copy)])
        (.cond (.v 9)
         (.seq
          (.region [] [] [4] false [
            (none, .asg 4 (.c (.int .i64 2)) .copy)])
          (.ret [4]))
         (.skip []))))))
    (.seq
     (.region [] [] [4] false [
       (none, .asg 4 (.c (.int .i64 0)) .copy)])
     (.ret [4]))))⟩
def F123 : PFunc :=
 ⟨[false, false], [.tmp 4, .tmp 5],
  (.seq
   (.region [] [8, 7] [2, 3] false [
     (none, .box 2 (.v 0) .move),
     (none, .box 3 (.v 1) .copy),
     (none, .asg 4 (.c (.sl true 1 [])) .copy),
     (none, .asg 5 (.c (.int .i64 0)) .copy)])
   (.seq
    (.seq
     (.region [(9, 2, true)] [8, 2, 3, 7] [2, 3, 6] false [
       (none, .load 9 false 1 (.v 2) none),
       (none, .load 10 false 1 (.v 3) none),
       (none, .call (some 11) 260 false [((.v 9), false), ((.v 10), false)]),
       (none, .asg 6 (.v 11) .copy)])
     (.seq
      (.region [] [8, 2, 3, 7] [2, 3, 6, 13] false [
        (none, .mv 12 (.v 6)),
        (none, .bin 13 .neq (.v 12) (.c (.int .i64 0)))])
      (.cond (.v 13)
       (.seq
        (.region [] [8, 2, 3, 7] [4, 5] false [
          (none, .mv 14 (.v 6)),
          (none, .asg 4 (.c (.sl true 1 [])) .copy),
          (none, .asg 5 (.v 14) .copy)])
        (.ret [4, 5]))
       (.skip [2, 3]))))
    (.seq
     (.region [] [2, 3] [2, 3, 7, 8] false [
       (none, .mksl 15 1 (.int .i64 0) 0 []),
       (none, .new 7 (.sl true 1 [])),
       (none, .new 8 (.int .i64 0)),
       (none, .store 1 (.v 7) (.v 15) .move),
       (none, .store 1 (.v 8) (.c (.int .i64 (-1))) .copy)])
     (.seq
      (.region [(16, 2, true)] [8, 2, 3, 7] [7, 8] false [
        (none, .load 16 false 1 (.v 2) none),
        (none, .mkfn 17 124 [8, 2, 3, 7]),
        (none, .callc (some 18) 242 [(.v 16), (.c (.sl false 1 []))] 17 [8, 2, 3, 7])])
      (.seq
       (.seq
        (.region [] [8, 2, 3, 7] [7, 20] false [
          (none, .load 19 false 1 (.v 8) none),
          (none, .bin 20 .lss (.v 19) (.c (.int .i64 0)))])
        (.cond (.v 20)
         (.seq
          (.region [] [8, 2, 3, 7] [4, 5] false [
            (none, .asg 4 (.c (.sl true 1 [])) .copy),
            (none, .asg 5 (.c (.int .i64 3)) .copy)])
          (.ret [4, 5]))
         (.skip [7])))
       (.seq
        (.region [(21, 7, true)] [8, 2, 3, 7] [4, 5] false [
          (none, .load 21 false 1 (.v 7) none),
          (none, .asg 4 (.v 21) .move),
          (none, .asg 5 (.c (.int .i64 0)) .copy)])
        (.ret [4, 5])))))))⟩
def F146 : PFunc :=
 ⟨[false], [.tmp 2, .tmp 3],
  (.seq
   (.region [] [] [0] false [
     (none, .asg 2 (.c (.int .i64 0)) .copy),
     (none, .asg 3 (.c (.int .i64 0)) .copy)])
   (.seq
    (.seq
     (.region [(4, 0, false)] [] [0, 6] false [
       (none, .mv 4 (.v 0)),
       (none, .call (some 5) 210 false [((.v 4), false)]),
       (none, .un 6 .not (.v 5))])
     (.cond (.v 6)
      (.seq
       (.region [] [] [2, 3] false [
         (none, .asg 2 (.c (.int .i64 0)) .copy),
         (none, .asg 3 (.c (.int .i64 1)) .copy)])
       (.ret [2, 3]))
      (.skip [0])))
    (.seq
     (.region [(7, 0, false)] [] [2, 3] false [
       (none, .mv 7 (.v 0)),
       (none, .call (some 8) 293 false [((.v 7), false)]),
       (none, .asg 2 (.v 8) .copy),
       (none, .asg 3 (.c (.int .i64 0)) .copy)])
     (.ret [2, 3]))))⟩
def F386 : PFunc :=
 ⟨[false, false], [.tmp 4],
  (.seq
   (.region [] [] [0, 1] false [
     (none, .asg 4 (.c (.bool false)) .copy)])
   (.seq
    (.region [(9, 1, false), (5, 0, false)] [] [4] false [
      (none, .mv 5 (.v 0)),
      (none, .len 6 false (.v 5)),
      (none, .bin 7 .gtr (.v 6) (.c (.int .i64 3000))),
      (none, .mv 8 (.v 7)),
      (some (8, false), .mv 9 (.v 1)),
      (some (8, false), .len 10 false (.v 9)),
      (some (8, false), .bin 11 .gtr (.v 10) (.c (.int .i64 3000))),
      (none, .pick 12 (.v 8) (.c (.bool true)) (.v 11)),
      (none, .asg 4 (.v 12) .copy)])
    (.ret [4])))⟩
def F390 : PFunc :=
 ⟨[false], [.tmp 2],
  (.seq
   (.region [] [] [0] false [
     (none, .asg 2 (.c (.int .i64 0)) .copy)])
   (.seq
    (.region [] [] [0, 3] false [
      (none, .asg 3 (.c (.int .i64 0)) .copy)])
    (.seq
     (.seq
      (.region [] [] [0, 3, 4] false [
        (none, .asg 4 (.c (.int .i64 0)) .copy)])
      (.block 0
       (.loop
        (.seq
         (.seq
          (.region [(6, 0, false)] [] [0, 3, 4, 8] false [
            (none, .mv 5 (.v 4)),
            (none, .mv 6 (.v 0)),
            (none, .len 7 false (.v 6)),
            (none, .bin 8 .lss (.v 5) (.v 7))])
          (.cond (.v 8)
           (.skip [0, 3, 4])
           (.exit 0 [3])))
         (.seq
          (.block 1
           (.region [(14, 0, false), (12, 0, false)] [] [0, 3, 4] false [
             (none, .mv 11 (.v 3)),
             (none, .mv 12 (.v 0)),
             (none, .mv 13 (.v 4)),
             (none, .iadr 14 1 (.v 12) (.v 13)),
             (none, .load 15 false 1 (.v 14) none),
             (none, .bin 16 .add (.v 11) (.v 15)),
             (none, .asg 3 (.v 16) .copy)]))
          (.region [] [] [0, 3, 4] false [
            (none, .mv 9 (.v 4)),
            (none, .bin 10 .add (.v 9) (.c (.int .i64 1))),
            (none, .asg 4 (.v 10) .copy)]))))))
     (.seq
      (.region [] [] [2] false [
        (none, .mv 17 (.v 3)),
        (none, .asg 2 (.v 17) .copy)])
      (.ret [2])))))⟩
def F603 : PFunc :=
 ⟨[false], [.tmp 2],
  (.seq
   (.region [] [] [0] false [
     (none, .asg 2 (.c .nilp) .copy)])
   (.seq
    (.region [(3, 0, false)] [] [2] false [
      (none, .mv 3 (.v 0)),
      (none, .build 4 [(.sl false 1 []), (.int .i64 0), (.int .u64 0)] [(0, 1, (.v 3), .move)]),
      (none, .box 5 (.v 4) .move),
      (none, .asg 2 (.v 5) .move)])
    (.ret [2])))⟩
def F5 : PFunc :=
 ⟨[true], [.tmp 2],
  (.seq
   (.region [] [] [0] false [
     (none, .asg 2 (.c (.int .i64 0)) .copy)])
   (.seq
    (.region [] [] [0, 3] false [
      (none, .asg 3 (.c (.int .i64 0)) .copy)])
    (.seq
     (.seq
      (.region [(11, 0, true), (10, 0, false), (9, 0, false), (8, 0, false), (6, 0, false), (5, 0, false), (4, 0, false)] [] [0, 3, 13] true [
        (none, .mvr 4 0),
        (none, .nchk 5 (.v 4)),
        (none, .fadr 6 1 1 (.v 5)),
        (none, .load 7 false 1 (.v 6) none),
        (none, .mvr 8 0),
        (none, .nchk 9 (.v 8)),
        (none, .fadr 10 0 1 (.v 9)),
        (none, .load 11 false 1 (.v 10) none),
        (none, .len 12 false (.v 11)),
        (none, .bin 13 .lss (.v 7) (.v 12))])
      (.cond (.v 13)
       (.region [(22, 0, true), (20, 0, false), (19, 0, false), (18, 0, false), (17, 0, true), (16, 0, false), (15, 0, false), (14, 0, false)] [] [0, 3] true [
         (none, .mvr 14 0),
         (none, .nchk 15 (.v 14)),
         (none, .fadr 16 0 1 (.v 15)),
         (none, .load 17 false 1 (.v 16) none),
         (none, .mvr 18 0),
         (none, .nchk 19 (.v 18)),
         (none, .fadr 20 1 1 (.v 19)),
         (none, .load 21 false 1 (.v 20) none),
         (none, .iadr 22 1 (.v 17) (.v 21)),
         (none, .load 23 false 1 (.v 22) none),
         (none, .conv 24 .i64 (.v 23)),
         (none, .asg 3 (.v 24) .copy)])
       (.skip [0, 3])))
     (.seq
      (.region [(31, 0, false), (30, 0, false), (27, 0, false), (26, 0, false), (25, 0, false)] [] [0, 3] false [
        (none, .mv 25 (.v 0)),
        (none, .nchk 26 (.v 25)),
        (none, .fadr 27 1 1 (.v 26)),
        (none, .load 28 false 1 (.v 27) none),
        (none, .bin 29 .add (.v 28) (.c (.int .i64 1))),
        (none, .nchk 30 (.v 25)),
        (none, .fadr 31 1 1 (.v 30)),
        (none, .store 1 (.v 31) (.v 29) .copy)])
      (.seq
       (.region [(43, 0, false), (42, 0, false), (35, 0, false), (34, 0, false), (33, 0, false), (32, 0, false)] [] [0, 3] false [
         (none, .mv 32 (.v 0)),
         (none, .mv 33 (.v 0)),
         (none, .nchk 34 (.v 33)),
         (none, .fadr 35 2 1 (.v 34)),
         (none, .load 36 false 1 (.v 35) none),
         (none, .bin 37 .mul (.v 36) (.c (.int .u64 6364136223846793005))),
         (none, .mv 38 (.v 3)),
         (none, .conv 39 .u64 (.v 38)),
         (none, .bin 40 .add (.v 37) (.v 39)),
         (none, .bin 41 .add (.v 40) (.c (.int .u64 1442695040888963407))),
         (none, .nchk 42 (.v 32)),
         (none, .fadr 43 2 1 (.v 42)),
         (none, .store 1 (.v 43) (.v 41) .copy)])
       (.seq
        (.seq
         (.region [(51, 0, true), (50, 0, false), (49, 0, false), (48, 0, false), (46, 0, false), (45, 0, false), (44, 0, false)] [] [0, 3, 53] true [
           (none, .mvr 44 0),
           (none, .nchk 45 (.v 44)),
           (none, .fadr 46 1 1 (.v 45)),
           (none, .load 47 false 1 (.v 46) none),
           (none, .mvr 48 0),
           (none, .nchk 49 (.v 48)),
           (none, .fadr 50 0 1 (.v 49)),
           (none, .load 51 false 1 (.v 50) none),
           (none, .len 52 false (.v 51)),
           (none, .bin 53 .leq (.v 47) (.v 52))])
         (.cond (.v 53)
          (.seq
           (.region [] [] [0, 2] false [
             (none, .mv 54 (.v 3)),
             (none, .asg 2 (.v 54) .copy)])
           (.ret [0, 2]))
          (.skip [0])))
        (.seq
         (.region [(57, 0, false), (56, 0, false), (55, 0, false)] [] [0, 2] false [
           (none, .mv 55 (.v 0)),
           (none, .nchk 56 (.v 55)),
           (none, .fadr 57 2 1 (.v 56)),
           (none, .load 58 false 1 (.v 57) none),
           (none, .bin 59 .shr (.v 58) (.c (.int .u64 40))),
           (none, .bin 60 .and (.v 59) (.c (.int .u64 255))),
           (none, .conv 61 .i64 (.v 60)),
           (none, .asg 2 (.v 61) .copy)])
         (.ret [0, 2]))))))))⟩
def F7 : PFunc :=
 ⟨[true, false], [.tmp 4],
  (.seq
   (.region [] [] [0, 1] false [
     (none, .asg 4 (.c (.int .i64 0)) .copy)])
   (.seq
    (.seq
     (.region [] [] [0, 1, 7] false [
       (none, .mv 6 (.v 1)),
       (none, .bin 7 .leq (.v 6) (.c (.int .i64 1)))])
     (.cond (.v 7)
      (.seq
       (.region [] [] [0, 4] false [
         (none, .asg 4 (.c (.int .i64 0)) .copy)])
       (.ret [0, 4]))
      (.skip [0, 1])))
    (.seq
     (.region [(8, 0, false)] [] [0, 1, 5] false [
       (none, .mv 8 (.v 0)),
       (none, .call (some 9) 5 true [((.v 8), true)]),
       (none, .asg 5 (.v 9) .copy)])
     (.seq
      (.seq
       (.region [] [] [0, 1, 5, 11] false [
         (none, .mv 10 (.v 1)),
         (none, .bin 11 .gtr (.v 10) (.c (.int .i64 200)))])
       (.cond (.v 11)
        (.region [(14, 0, false)] [] [0, 1, 5] false [
          (none, .mv 12 (.v 5)),
          (none, .bin 13 .mul (.v 12) (.c (.int .i64 256))),
          (none, .mv 14 (.v 0)),
          (none, .call (some 15) 5 true [((.v 14), true)]),
          (none, .bin 16 .add (.v 13) (.v 15)),
          (none, .asg 5 (.v 16) .copy)])
        (.skip [0, 1, 5])))
      (.seq
       (.region [] [] [0, 4] false [
         (none, .mv 17 (.v 5)),
         (none, .mv 18 (.v 1)),
         (none, .bin 19 .rem (.v 17) (.v 18)),
         (none, .asg 4 (.v 19) .copy)])
       (.ret [0, 4]))))))⟩
def F731 : PFunc :=
 ⟨[true], [.tmp 2],
  (.seq
   (.region [] [] [0] false [
     (none, .asg 2 (.c (.sl true 4 [])) .copy)])
   (.seq
    (.region [] [] [0, 3] false [
      (none, .mksl 6 4 (.agg [(.int .i64 0), (.int .i64 0), (.int .i64 0), (.int .i64 0)]) 0 []),
      (none, .asg 3 (.v 6) .move)])
    (.seq
     (.seq
      (.region [(7, 0, false)] [] [0, 3, 4] false [
        (none, .mv 7 (.v 0)),
        (none, .call (some 8) 7 true [((.v 7), true), ((.c (.int .i64 6)), false)]),
        (none, .asg 4 (.v 8) .copy)])
      (.block 0
       (.loop
        (.seq
         (.seq
          (.region [] [] [0, 3, 4, 10] false [
            (none, .mv 9 (.v 4)),
            (none, .bin 10 .gtr (.v 9) (.c (.int .i64 0)))])
          (.cond (.v 10)
           (.skip [0, 3, 4])
           (.exit 0 [0, 3])))
         (.seq
          (.block 1
           (.seq
            (.region [(13, 0, false)] [] [0, 3, 4, 5] false [
              (none, .mv 13 (.v 0)),
              (none, .call (some 14) 7 true [((.v 13), true), ((.c (.int .i64 20)), false)]),
              (none, .build 15 [(.int .i64 0), (.int .i64 0), (.int .i64 0), (.int .i64 0)] [(0, 1, (.v 14), .copy)]),
              (none, .new 5 (.agg [(.int .i64 0), (.int .i64 0), (.int .i64 0), (.int .i64 0)])),
              (none, .store 4 (.v 5) (.v 15) .copy)])
            (.seq
             (.region [(19, 5, false), (16, 0, false)] [] [0, 3, 4, 5] false [
               (none, .mv 16 (.v 0)),
               (none, .call (some 17) 7 true [((.v 16), true), ((.c (.int .i64 7)), false)]),
               (none, .bin 18 .add (.c (.int .i64 1)) (.v 17)),
               (none, .fadr 19 1 1 (.v 5)),
               (none, .store 1 (.v 19) (.v 18) .copy)])
             (.seq
              (.region [(23, 5, false), (20, 0, false)] [] [0, 3, 4, 5] false [
                (none, .mv 20 (.v 0)),
                (none, .call (some 21) 7 true [((.v 20), true), ((.c (.int .i64 2)), false)]),
                (none, .bin 22 .add (.c (.int .i64 1)) (.v 21)),
                (none, .fadr 23 2 1 (.v 5)),
                (none, .store 1 (.v 23) (.v 22) .copy)])
              (.seq
               (.region [(26, 5, false), (24, 0, false)] [] [0, 3, 4, 5] false [
                 (none, .mv 24 (.v 0)),
                 (none, .call (some 25) 7 true [((.v 24), true), ((.c (.int .i64 5)), false)]),
                 (none, .fadr 26 3 1 (.v 5)),
                 (none, .store 1 (.v 26) (.v 25) .copy)])
               (.region [(27, 3, false)] [] [0, 3, 4] false [
                 (none, .mv 27 (.v 3)),
                 (none, .load 28 true 4 (.v 5) none),
                 (none, .mksl 29 4 (.agg [(.int .i64 0), (.int .i64 0), (.int .i64 0), (.int .i64 0)]) 1 [(0, (.v 28), .copy)]),
                 (none, .app 30 4 (.v 27) (.v 29) .move),
                 (none, .asg 3 (.v 30) .move)]))))))
          (.region [] [] [0, 3, 4] false [
            (none, .mv 11 (.v 4)),
            (none, .bin 12 .sub (.v 11) (.c (.int .i64 1))),
            (none, .asg 4 (.v 12) .copy)]))))))
     (.seq
      (.region [(31, 3, false)] [] [0, 2] false [
        (none, .mv 31 (.v 3)),
        (none, .asg 2 (.v 31) .move)])
      (.ret [0, 2])))))⟩
def F424 : PFunc :=
 ⟨[false], [.tmp 2],
  (.seq
   (.region [] [] [0] false [
     (none, .asg 2 (.c (.sl true 4 [])) .copy)])
   (.seq
    (.region [(3, 0, false)] [] [2] false [
      (none, .mv 3 (.v 0)),
      (none, .call (some 4) 603 true [((.v 3), false)]),
      (none, .call (some 5) 731 true [((.v 4), true)]),
      (none, .asg 2 (.v 5) .move)])
    (.ret [2])))⟩
def F606 : PFunc :=
 ⟨[false, false], [.tmp 4],
  (.seq
   (.region [] [] [0, 1] false [
     (none, .asg 4 (.c (.int .i64 0)) .copy)])
   (.seq
    (.seq
     (.region [] [] [0, 1, 7] false [
       (none, .mv 5 (.v 0)),
       (none, .mv 6 (.v 1)),
       (none, .bin 7 .gtr (.v 5) (.v 6))])
     (.cond (.v 7)
      (.seq
       (.region [] [] [4] false [
         (none, .mv 8 (.v 0)),
         (none, .asg 4 (.v 8) .copy)])
       (.ret [4]))
      (.skip [1])))
    (.seq
     (.region [] [] [4] false [
       (none, .mv 9 (.v 1)),
       (none, .asg 4 (.v 9) .copy)])
     (.ret [4]))))⟩
def F605 : PFunc :=
 ⟨[false, false, false], [.tmp 6],
  (.seq
   (.region [] [] [0, 1, 2] false [
     (none, .asg 6 (.c (.bool false)) .copy)])
   (.seq
    (.region [] [] [6] false [
      (none, .mv 7 (.v 0)),
      (none, .mv 8 (.v 1)),
      (none, .bin 9 .geq (.v 7) (.v 8)),
      (none, .mv 10 (.v 9)),
      (some (10, true), .mv 11 (.v 0)),
      (some (10, true), .mv 12 (.v 2)),
      (some (10, true), .bin 13 .leq (.v 11) (.v 12)),
      (none, .pick 14 (.v 10) (.v 13) (.c (.bool false))),
      (none, .asg 6 (.v 14) .copy)])
    (.ret [6])))⟩
def F730 : PFunc :=
 ⟨[false, false], [.tmp 4],
  (.seq
   (.region [] [] [0, 1] false [
     (none, .asg 4 (.c (.int .i64 0)) .copy)])
   (.seq
    (.region [] [] [0, 1, 5] false [
      (none, .asg 5 (.c (.int .i64 0)) .copy)])
    (.seq
     (.seq
      (.region [] [] [0, 1, 5, 6] false [
        (none, .asg 6 (.c (.int .i64 0)) .copy)])
      (.block 0
       (.loop
        (.seq
         (.seq
          (.region [(8, 0, false)] [] [0, 1, 5, 6, 10] false [
            (none, .mv 7 (.v 6)),
            (none, .mv 8 (.v 0)),
            (none, .len 9 false (.v 8)),
            (none, .bin 10 .lss (.v 7) (.v 9))])
          (.cond (.v 10)
           (.skip [0, 1, 5, 6])
           (.exit 0 [5])))
         (.seq
          (.block 1
           (.seq
            (.region [(27, 0, false), (26, 0, false), (24, 0, false), (22, 0, false), (21, 0, false), (19, 0, false), (17, 0, false), (16, 0, false), (14, 0, false)] [] [0, 1, 5, 6, 31] true [
              (none, .mv 13 (.v 1)),
              (none, .mv 14 (.v 0)),
              (none, .mv 15 (.v 6)),
              (none, .iadr 16 4 (.v 14) (.v 15)),
              (none, .fadr 17 0 1 (.v 16)),
              (none, .load 18 false 1 (.v 17) none),
              (none, .mv 19 (.v 0)),
              (none, .mv 20 (.v 6)),
              (none, .iadr 21 4 (.v 19) (.v 20)),
              (none, .fadr 22 0 1 (.v 21)),
              (none, .load 23 false 1 (.v 22) none),
              (none, .mv 24 (.v 0)),
              (none, .mv 25 (.v 6)),
              (none, .iadr 26 4 (.v 24) (.v 25)),
              (none, .fadr 27 1 1 (.v 26)),
              (none, .load 28 false 1 (.v 27) none),
              (none, .bin 29 .add (.v 23) (.v 28)),
              (none, .bin 30 .sub (.v 29) (.c (.int .i64 1))),
              (none, .call (some 31) 605 false [((.v 13), false), ((.v 18), false), ((.v 30), false)])])
            (.cond (.v 31)
             (.region [(36, 0, false), (35, 0, false), (33, 0, false)] [] [0, 1, 5, 6] false [
               (none, .mv 32 (.v 5)),
               (none, .mv 33 (.v 0)),
               (none, .mv 34 (.v 6)),
               (none, .iadr 35 4 (.v 33) (.v 34)),
               (none, .fadr 36 2 1 (.v 35)),
               (none, .load 37 false 1 (.v 36) none),
               (none, .bin 38 .add (.v 32) (.v 37)),
               (none, .asg 5 (.v 38) .copy)])
             (.skip [0, 1, 5, 6]))))
          (.region [] [] [0, 1, 5, 6] false [
            (none, .mv 11 (.v 6)),
            (none, .bin 12 .add (.v 11) (.c (.int .i64 1))),
            (none, .asg 6 (.v 12) .copy)]))))))
     (.seq
      (.region [] [] [4] false [
        (none, .mv 39 (.v 5)),
        (none, .asg 4 (.v 39) .copy)])
      (.ret [4])))))⟩
def F732 : PFunc :=
 ⟨[false], [.tmp 2],
  (.seq
   (.region [] [] [0] false [
     (none, .asg 2 (.c (.int .i64 0)) .copy)])
   (.seq
    (.region [] [] [0, 3] false [
      (none, .asg 3 (.c (.int .i64 0)) .copy)])
    (.seq
     (.seq
      (.region [] [] [0, 3, 4] false [
        (none, .asg 4 (.c (.int .i64 0)) .copy)])
      (.block 0
       (.loop
        (.seq
         (.seq
          (.region [(6, 0, false)] [] [0, 3, 4, 8] false [
            (none, .mv 5 (.v 4)),
            (none, .mv 6 (.v 0)),
            (none, .len 7 false (.v 6)),
            (none, .bin 8 .lss (.v 5) (.v 7))])
          (.cond (.v 8)
           (.skip [0, 3, 4])
           (.exit 0 [3])))
         (.seq
          (.block 1
           (.region [(16, 0, false), (15, 0, false), (13, 0, false), (12, 0, false)] [] [0, 3, 4] false [
             (none, .mv 11 (.v 3)),
             (none, .mv 12 (.v 0)),
             (none, .mv 13 (.v 0)),
             (none, .mv 14 (.v 4)),
             (none, .iadr 15 4 (.v 13) (.v 14)),
             (none, .fadr 16 0 1 (.v 15)),
             (none, .load 17 false 1 (.v 16) none),
             (none, .call (some 18) 730 false [((.v 12), false), ((.v 17), false)]),
             (none, .call (some 19) 606 false [((.v 11), false), ((.v 18), false)]),
             (none, .asg 3 (.v 19) .copy)]))
          (.region [] [] [0, 3, 4] false [
            (none, .mv 9 (.v 4)),
            (none, .bin 10 .add (.v 9) (.c (.int .i64 1))),
            (none, .asg 4 (.v 10) .copy)]))))))
     (.seq
      (.region [] [] [2] false [
        (none, .mv 20 (.v 3)),
        (none, .asg 2 (.v 20) .copy)])
      (.ret [2])))))⟩
def F733 : PFunc :=
 ⟨[false], [.tmp 2],
  (.seq
   (.region [] [] [0] false [
     (none, .asg 2 (.c (.bool false)) .copy)])
   (.seq
    (.seq
     (.region [] [] [0, 3] false [
       (none, .asg 3 (.c (.int .i64 0)) .copy)])
     (.block 0
      (.loop
       (.seq
        (.seq
         (.region [(6, 0, false)] [] [0, 3, 8] false [
           (none, .mv 5 (.v 3)),
           (none, .mv 6 (.v 0)),
           (none, .len 7 false (.v 6)),
           (none, .bin 8 .lss (.v 5) (.v 7))])
         (.cond (.v 8)
          (.skip [0, 3])
          (.exit 0 [0])))
        (.seq
         (.block 1
          (.seq
           (.region [(13, 0, false), (11, 0, false)] [] [0, 3, 4] false [
             (none, .mv 11 (.v 0)),
             (none, .mv 12 (.v 3)),
             (none, .iadr 13 4 (.v 11) (.v 12)),
             (none, .load 14 true 4 (.v 13) none),
             (none, .new 4 (.agg [(.int .i64 0), (.int .i64 0), (.int .i64 0), (.int .i64 0)])),
             (none, .store 4 (.v 4) (.v 14) .copy)])
           (.seq
            (.region [(32, 4, false), (26, 4, false), (20, 4, false), (15, 4, false)] [] [0, 3, 36] false [
              (none, .fadr 15 0 1 (.v 4)),
              (none, .load 16 false 1 (.v 15) none),
              (none, .call (some 17) 605 false [((.v 16), false), ((.c (.int .i64 0)), false), ((.c (.int .i64 10000)), false)]),
              (none, .un 18 .not (.v 17)),
              (none, .mv 19 (.v 18)),
              (some (19, false), .fadr 20 1 1 (.v 4)),
              (some (19, false), .load 21 false 1 (.v 20) none),
              (some (19, false), .call (some 22) 605 false [((.v 21), false), ((.c (.int .i64 1)), false), ((.c (.int .i64 1000)), false)]),
              (some (19, false), .un 23 .not (.v 22)),
              (none, .pick 24 (.v 19) (.c (.bool true)) (.v 23)),
              (none, .mv 25 (.v 24)),
              (some (25, false), .fadr 26 2 1 (.v 4)),
              (some (25, false), .load 27 false 1 (.v 26) none),
              (some (25, false), .call (some 28) 605 false [((.v 27), false), ((.c (.int .i64 1)), false), ((.c (.int .i64 4)), false)]),
              (some (25, false), .un 29 .not (.v 28)),
              (none, .pick 30 (.v 25) (.c (.bool true)) (.v 29)),
              (none, .mv 31 (.v 30)),
              (some (31, false), .fadr 32 3 1 (.v 4)),
              (some (31, false), .load 33 false 1 (.v 32) none),
              (some (31, false), .call (some 34) 605 false [((.v 33), false), ((.c (.int .i64 0)), false), ((.c (.int .i64 6)), false)]),
              (some (31, false), .un 35 .not (.v 34)),
              (none, .pick 36 (.v 31) (.c (.bool true)) (.v 35))])
            (.cond (.v 36)
             (.seq
              (.region [] [] [2] false [
                (none, .asg 2 (.c (.bool false)) .copy)])
              (.ret [2]))
             (.skip [0, 3])))))
         (.region [] [] [0, 3] false [
           (none, .mv 9 (.v 3)),
           (none, .bin 10 .add (.v 9) (.c (.int .i64 1))),
           (none, .asg 3 (.v 10) .copy)]))))))
    (.seq
     (.region [(37, 0, false)] [] [2] false [
       (none, .mv 37 (.v 0)),
       (none, .len 38 false (.v 37)),
       (none, .bin 39 .leq (.v 38) (.c (.int .i64 6))),
       (none, .asg 2 (.v 39) .copy)])
     (.ret [2]))))⟩
def F547 : PFunc :=
 ⟨[false], [.tmp 2, .tmp 3],
  (.seq
   (.region [] [] [0] false [
     (none, .asg 2 (.c (.int .i64 0)) .copy),
     (none, .asg 3 (.c (.int .i64 0)) .copy)])
   (.seq
    (.seq
     (.region [(4, 0, false)] [] [0, 6] false [
       (none, .mv 4 (.v 0)),
       (none, .call (some 5) 733 false [((.v 4), false)]),
       (none, .un 6 .not (.v 5))])
     (.cond (.v 6)
      (.seq
       (.region [] [] [2, 3] false [
         (none, .asg 2 (.c (.int .i64 0)) .copy),
         (none, .asg 3 (.c (.int .i64 1)) .copy)])
       (.ret [2, 3]))
      (.skip [0])))
    (.seq
     (.region [(7, 0, false)] [] [2, 3] false [
       (none, .mv 7 (.v 0)),
       (none, .call (some 8) 732 false [((.v 7), false)]),
       (none, .asg 2 (.v 8) .copy),
       (none, .asg 3 (.c (.int .i64 0)) .copy)])
     (.ret [2, 3]))))⟩
def F734 : PFunc :=
 ⟨[false, false], [.cell 4 true 4],
  (.seq
   (.region [] [] [1, 2, 4] false [
     (none, .box 2 (.v 0) .copy),
     (none, .new 4 (.agg [(.int .i64 0), (.int .i64 0), (.int .i64 0), (.int .i64 0)]))])
   (.seq
    (.region [(13, 2, false), (11, 2, false), (9, 2, false), (5, 2, false)] [] [4] false [
      (none, .fadr 5 0 1 (.v 2)),
      (none, .load 6 false 1 (.v 5) none),
      (none, .mv 7 (.v 1)),
      (none, .bin 8 .add (.v 6) (.v 7)),
      (none, .fadr 9 1 1 (.v 2)),
      (none, .load 10 false 1 (.v 9) none),
      (none, .fadr 11 2 1 (.v 2)),
      (none, .load 12 false 1 (.v 11) none),
      (none, .fadr 13 3 1 (.v 2)),
      (none, .load 14 false 1 (.v 13) none),
      (none, .mv 15 (.v 1)),
      (none, .bin 16 .sub (.v 14) (.v 15)),
      (none, .build 17 [(.int .i64 0), (.int .i64 0), (.int .i64 0), (.int .i64 0)] [(0, 1, (.v 8), .copy), (1, 1, (.v 10), .copy), (2, 1, (.v 12), .copy), (3, 1, (.v 16), .copy)]),
      (none, .store 4 (.v 4) (.v 17) .copy)])
    (.ret [4])))⟩
def F568 : PFunc :=
 ⟨[false, false], [.tmp 4, .tmp 5],
  (.seq
   (.region [] [] [0, 1] false [
     (none, .asg 4 (.c (.sl true 4 [])) .copy),
     (none, .asg 5 (.c (.int .i64 0)) .copy)])
   (.seq
    (.seq
     (.region [(8, 0, false)] [] [0, 1, 10] false [
       (none, .mv 8 (.v 0)),
       (none, .call (some 9) 733 false [((.v 8), false)]),
       (none, .un 10 .not (.v 9))])
     (.cond (.v 10)
      (.seq
       (.region [] [] [4, 5] false [
         (none, .asg 4 (.c (.sl true 4 [])) .copy),
         (none, .asg 5 (.c (.int .i64 1)) .copy)])
       (.ret [4, 5]))
      (.skip [0, 1])))
    (.seq
     (.seq
      (.region [(13, 0, false), (11, 1, false)] [] [0, 1, 15] false [
        (none, .mv 11 (.v 1)),
        (none, .len 12 false (.v 11)),
        (none, .mv 13 (.v 0)),
        (none, .len 14 false (.v 13)),
        (none, .bin 15 .neq (.v 12) (.v 14))])
      (.cond (.v 15)
       (.seq
        (.region [] [] [4, 5] false [
          (none, .asg 4 (.c (.sl true 4 [])) .copy),
          (none, .asg 5 (.c (.int .i64 2)) .copy)])
        (.ret [4, 5]))
       (.skip [0, 1])))
     (.seq
      (.region [] [] [0, 1, 6] false [
        (none, .mksl 16 4 (.agg [(.int .i64 0), (.int .i64 0), (.int .i64 0), (.int .i64 0)]) 0 []),
        (none, .asg 6 (.v 16) .move)])
      (.seq
       (.seq
        (.region [] [] [0, 1, 6, 7] false [
          (none, .asg 7 (.c (.int .i64 0)) .copy)])
        (.block 0
         (.loop
          (.seq
           (.seq
            (.region [(18, 0, false)] [] [0, 1, 6, 7, 20] false [
              (none, .mv 17 (.v 7)),
              (none, .mv 18 (.v 0)),
              (none, .len 19 false (.v 18)),
              (none, .bin 20 .lss (.v 17) (.v 19))])
            (.cond (.v 20)
             (.skip [0, 1, 6, 7])
             (.exit 0 [6])))
           (.seq
            (.block 1
             (.seq
              (.seq
               (.region [(30, 0, false), (29, 0, false), (27, 0, false), (25, 1, false), (23, 1, false)] [] [0, 1, 6, 7, 33] true [
                 (none, .mv 23 (.v 1)),
                 (none, .mv 24 (.v 7)),
                 (none, .iadr 25 1 (.v 23) (.v 24)),
                 (none, .load 26 false 1 (.v 25) none),
                 (none, .mv 27 (.v 0)),
                 (none, .mv 28 (.v 7)),
                 (none, .iadr 29 4 (.v 27) (.v 28)),
                 (none, .fadr 30 3 1 (.v 29)),
                 (none, .load 31 false 1 (.v 30) none),
                 (none, .call (some 32) 605 false [((.v 26), false), ((.c (.int .i64 0)), false), ((.v 31), false)]),
                 (none, .un 33 .not (.v 32))])
               (.cond (.v 33)
                (.seq
                 (.region [] [] [4, 5] false [
                   (none, .asg 4 (.c (.sl true 4 [])) .copy),
                   (none, .asg 5 (.c (.int .i64 2)) .copy)])
                 (.ret [4, 5]))
                (.skip [0, 1, 6, 7])))
              (.region [(41, 1, false), (39, 1, false), (37, 0, false), (35, 0, false), (34, 6, false)] [] [0, 1, 6, 7] true [
                (none, .mvr 34 6),
                (none, .mv 35 (.v 0)),
                (none, .mv 36 (.v 7)),
                (none, .iadr 37 4 (.v 35) (.v 36)),
                (none, .load 38 true 4 (.v 37) none),
                (none, .mv 39 (.v 1)),
                (none, .mv 40 (.v 7)),
                (none, .iadr 41 1 (.v 39) (.v 40)),
                (none, .load 42 false 1 (.v 41) none),
                (none, .call (some 43) 734 false [((.v 38), false), ((.v 42), false)]),
                (none, .mksl 44 4 (.agg [(.int .i64 0), (.int .i64 0), (.int .i64 0), (.int .i64 0)]) 1 [(0, (.v 43), .copy)]),
                (none, .app 45 4 (.v 34) (.v 44) .move),
                (none, .asg 6 (.v 45) .move)])))
            (.region [] [] [0, 1, 6, 7] false [
              (none, .mv 21 (.v 7)),
              (none, .bin 22 .add (.v 21) (.c (.int .i64 1))),
              (none, .asg 7 (.v 22) .copy)]))))))
       (.seq
        (.seq
         (.region [(46, 6, false)] [] [6, 48] false [
           (none, .mv 46 (.v 6)),
           (none, .call (some 47) 733 false [((.v 46), false)]),
           (none, .un 48 .not (.v 47))])
         (.cond (.v 48)
          (.seq
           (.region [] [] [4, 5] false [
             (none, .asg 4 (.c (.sl true 4 [])) .copy),
             (none, .asg 5 (.c (.int .i64 5)) .copy)])
           (.ret [4, 5]))
          (.skip [6])))
        (.seq
         (.region [(49, 6, false)] [] [4, 5] false [
           (none, .mv 49 (.v 6)),
           (none, .asg 4 (.v 49) .move),
           (none, .asg 5 (.c (.int .i64 0)) .copy)])
         (.ret [4, 5]))))))))⟩
def F375 : PFunc :=
 ⟨[false], [.tmp 2],
  (.seq
   (.region [] [] [0] false [
     (none, .asg 2 (.c (.bool false)) .copy)])
   (.seq
    (.seq
     (.region [(18, 0, false)] [] [0, 19] false [
       (none, .mv 18 (.v 0)),
       (none, .call (some 19) 386 false [((.v 18), false), ((.c (.sl false 1 [])), false)])])
     (.cond (.v 19)
      (.seq
       (.region [] [] [2] false [
         (none, .asg 2 (.c (.bool true)) .copy)])
       (.ret [2]))
      (.skip [0])))
    (.seq
     (.region [(20, 0, false)] [] [3] false [
       (none, .mv 20 (.v 0)),
       (none, .call (some 21) 424 false [((.v 20), false)]),
       (none, .asg 3 (.v 21) .move)])
     (.seq
      (.region [(23, 3, false)] [] [3, 4, 5] false [
        (none, .mv 23 (.v 3)),
        (none, .call (some 24) 112 false [((.v 23), false)]),
        (none, .asg 22 (.v 24) .copy),
        (none, .extp 25 (.v 22) 0),
        (none, .extp 26 (.v 22) 1),
        (none, .asg 4 (.v 25) .copy),
        (none, .asg 5 (.v 26) .copy)])
      (.seq
       (.region [(28, 3, false)] [] [3, 4, 5, 6, 7] false [
         (none, .mv 28 (.v 3)),
         (none, .call (some 29) 146 false [((.v 28), false)]),
         (none, .asg 27 (.v 29) .copy),
         (none, .extp 30 (.v 27) 0),
         (none, .extp 31 (.v 27) 1),
         (none, .asg 6 (.v 30) .copy),
         (none, .asg 7 (.v 31) .copy)])
       (.seq
        (.seq
         (.region [(50, 3, false)] [] [3, 4, 6, 54] false [
           (none, .mv 32 (.v 5)),
           (none, .bin 33 .neq (.v 32) (.c (.int .i64 0))),
           (none, .mv 34 (.v 33)),
           (some (34, false), .mv 35 (.v 4)),
           (some (34, false), .bin 36 .lss (.v 35) (.c (.int .i64 0))),
           (none, .pick 37 (.v 34) (.c (.bool true)) (.v 36)),
           (none, .mv 38 (.v 37)),
           (some (38, false), .mv 39 (.v 7)),
           (some (38, false), .bin 40 .neq (.v 39) (.c (.int .i64 0))),
           (none, .pick 41 (.v 38) (.c (.bool true)) (.v 40)),
           (none, .mv 42 (.v 41)),
           (some (42, false), .mv 43 (.v 4)),
           (some (42, false), .mv 44 (.v 6)),
           (some (42, false), .bin 45 .gtr (.v 43) (.v 44)),
           (none, .pick 46 (.v 42) (.c (.bool true)) (.v 45)),
           (none, .mv 47 (.v 46)),
           (some (47, false), .mv 48 (.v 4)),
           (some (47, false), .bin 49 .eql (.v 48) (.c (.int .i64 0))),
           (some (47, false), .mv 50 (.v 3)),
           (some (47, false), .len 51 false (.v 50)),
           (some (47, false), .bin 52 .eql (.v 51) (.c (.int .i64 0))),
           (some (47, false), .eqb 53 true (.v 49) (.v 52)),
           (none, .pick 54 (.v 47) (.c (.bool true)) (.v 53))])
         (.cond (.v 54)
          (.seq
           (.region [] [] [2] false [
             (none, .asg 2 (.c (.bool false)) .copy)])
           (.ret [2]))
          (.skip [3, 4, 6])))
        (.seq
         (.region [(56, 3, false)] [] [3, 4, 6, 8, 9] false [
           (none, .mv 56 (.v 3)),
           (none, .mv 57 (.v 4)),
           (none, .call (some 58) 123 false [((.v 56), false), ((.v 57), false)]),
           (none, .asg 55 (.v 58) .move),
           (none, .ext 59 (.v 55) 0),
           (none, .extp 60 (.v 55) 1),
           (none, .asg 8 (.v 59) .move),
           (none, .asg 9 (.v 60) .copy)])
         (.seq
          (.region [(63, 8, false), (62, 3, false)] [] [3, 4, 6, 8, 9, 10, 11] false [
            (none, .mv 62 (.v 3)),
            (none, .mv 63 (.v 8)),
            (none, .call (some 64) 568 false [((.v 62), false), ((.v 63), false)]),
            (none, .asg 61 (.v 64) .move),
            (none, .ext 65 (.v 61) 0),
            (none, .extp 66 (.v 61) 1),
            (none, .asg 10 (.v 65) .move),
            (none, .asg 11 (.v 66) .copy)])
          (.seq
           (.region [(68, 10, false)] [] [3, 4, 6, 8, 9, 11, 12, 13] false [
             (none, .mv 68 (.v 10)),
             (none, .call (some 69) 547 false [((.v 68), false)]),
             (none, .asg 67 (.v 69) .copy),
             (none, .extp 70 (.v 67) 0),
             (none, .extp 71 (.v 67) 1),
             (none, .asg 12 (.v 70) .copy),
             (none, .asg 13 (.v 71) .copy)])
           (.seq
            (.region [(73, 3, false)] [] [3, 4, 6, 8, 9, 11, 12, 13, 14, 15] false [
              (none, .mv 73 (.v 3)),
              (none, .mv 74 (.v 6)),
              (none, .call (some 75) 123 false [((.v 73), false), ((.v 74), false)]),
              (none, .asg 72 (.v 75) .move),
              (none, .ext 76 (.v 72) 0),
              (none, .extp 77 (.v 72) 1),
              (none, .asg 14 (.v 76) .move),
              (none, .asg 15 (.v 77) .copy)])
            (.seq
             (.seq
              (.region [(110, 8, false), (105, 14, false), (100, 3, false), (98, 14, false)] [] [3, 4, 117] false [
                (none, .mv 78 (.v 9)),
                (none, .bin 79 .neq (.v 78) (.c (.int .i64 0))),
                (none, .mv 80 (.v 79)),
                (some (80, false), .mv 81 (.v 11)),
                (some (80, false), .bin 82 .neq (.v 81) (.c (.int .i64 0))),
                (none, .pick 83 (.v 80) (.c (.bool true)) (.v 82)),
                (none, .mv 84 (.v 83)),
                (some (84, false), .mv 85 (.v 13)),
                (some (84, false), .bin 86 .neq (.v 85) (.c (.int .i64 0))),
                (none, .pick 87 (.v 84) (.c (.bool true)) (.v 86)),
                (none, .mv 88 (.v 87)),
                (some (88, false), .mv 89 (.v 12)),
                (some (88, false), .mv 90 (.v 4)),
                (some (88, false), .bin 91 .gtr (.v 89) (.v 90)),
                (none, .pick 92 (.v 88) (.c (.bool true)) (.v 91)),
                (none, .mv 93 (.v 92)),
                (some (93, false), .mv 94 (.v 15)),
                (some (93, false), .bin 95 .neq (.v 94) (.c (.int .i64 0))),
                (none, .pick 96 (.v 93) (.c (.bool true)) (.v 95)),
                (none, .mv 97 (.v 96)),
                (some (97, false), .mv 98 (.v 14)),
                (some (97, false), .len 99 false (.v 98)),
                (some (97, false), .mv 100 (.v 3)),
                (some (97, false), .len 101 false (.v 100)),
                (some (97, false), .bin 102 .neq (.v 99) (.v 101)),
                (none, .pick 103 (.v 97) (.c (.bool true)) (.v 102)),
                (none, .mv 104 (.v 103)),
                (some (104, false), .mv 105 (.v 14)),
                (some (104, false), .call (some 106) 390 false [((.v 105), false)]),
                (some (104, false), .bin 107 .neq (.v 106) (.c (.int .i64 0))),
                (none, .pick 108 (.v 104) (.c (.bool true)) (.v 107)),
                (none, .mv 109 (.v 108)),
                (some (109, false), .mv 110 (.v 8)),
                (some (109, false), .call (some 111) 390 false [((.v 110), false)]),
                (some (109, false), .bin 112 .eql (.v 111) (.c (.int .i64 0))),
                (some (109, false), .mv 113 (.v 4)),
                (some (109, false), .mv 114 (.v 6)),
                (some (109, false), .bin 115 .eql (.v 113) (.v 114)),
                (some (109, false), .eqb 116 true (.v 112) (.v 115)),
                (none, .pick 117 (.v 109) (.c (.bool true)) (.v 116))])
              (.cond (.v 117)
               (.seq
                (.region [] [] [2] false [
                  (none, .asg 2 (.c (.bool false)) .copy)])
                (.ret [2]))
               (.skip [3, 4])))
             (.seq
              (.seq
               (.region [] [] [3, 4, 119] false [
                 (none, .mv 118 (.v 4)),
                 (none, .bin 119 .eql (.v 118) (.c (.int .i64 0)))])
               (.cond (.v 119)
                (.seq
                 (.region [] [] [2] false [
                   (none, .asg 2 (.c (.bool true)) .copy)])
                 (.ret [2]))
                (.skip [3, 4])))
              (.seq
               (.region [(121, 3, false)] [] [17] false [
                 (none, .mv 121 (.v 3)),
                 (none, .mv 122 (.v 4)),
                 (none, .bin 123 .sub (.v 122) (.c (.int .i64 1))),
                 (none, .call (some 124) 123 false [((.v 121), false), ((.v 123), false)]),
                 (none, .asg 120 (.v 124) .move),
                 (none, .ext 125 (.v 120) 0),
                 (none, .extp 126 (.v 120) 1),
                 (none, .asg 16 (.v 125) .move),
                 (none, .asg 17 (.v 126) .copy)])
               (.seq
                (.region [] [] [2] false [
                  (none, .mv 127 (.v 17)),
                  (none, .bin 128 .eql (.v 127) (.c (.int .i64 3))),
                  (none, .asg 2 (.v 128) .copy)])
                (.ret [2])))))))))))))))⟩
def tabl : List (Nat × PFunc) := [(272, F272), (293, F293), (306, F306), (113, F113), (326, F326), (211, F211), (822, F822), (800, F800), (210, F210), (242, F242), (112, F112), (315, F315), (124, F124), (260, F260), (123, F123), (146, F146), (386, F386), (390, F390), (603, F603), (5, F5), (7, F7), (731, F731), (424, F424), (606, F606), (605, F605), (730, F730), (732, F732), (733, F733), (547, F547), (734, F734), (568, F568), (375, F375)]
def T : Nat → Option PFunc := tabOf tabl
end Go.Vs.G
