/- The functions that the law reaches, in the small language, printed by program. No conditions. -/
import Derived.Test.YtolinhiimdajhaaDLDissolves
import Derived.Test.YtolinhiimdajhaaV4
set_option maxRecDepth 100000
open Go Go.Vs
namespace Go.Vs.G
def F19 : PFunc :=
 ⟨[false, false], [.tmp 4],
  (.seq
   (.region [] [] [1, 2] false [
     (none, .box 2 (.v 0) .copy),
     (none, .asg 4 (.c (.bool false)) .copy)])
   (.seq
    (.region [(11, 2, false), (5, 2, false)] [] [4] false [
      (none, .fadr 5 0 1 (.v 2)),
      (none, .load 6 false 1 (.v 5) none),
      (none, .mv 7 (.v 1)),
      (none, .bin 8 .leq (.v 6) (.v 7)),
      (none, .mv 9 (.v 8)),
      (some (9, true), .mv 10 (.v 1)),
      (some (9, true), .fadr 11 1 1 (.v 2)),
      (some (9, true), .load 12 false 1 (.v 11) none),
      (some (9, true), .bin 13 .lss (.v 10) (.v 12)),
      (none, .pick 14 (.v 9) (.v 13) (.c (.bool false))),
      (none, .asg 4 (.v 14) .copy)])
    (.ret [4])))⟩
def F20 : PFunc :=
 ⟨[false, false], [.tmp 4],
  (.seq
   (.region [] [] [1, 2] false [
     (none, .box 2 (.v 0) .copy),
     (none, .asg 4 (.c (.int .i64 0)) .copy)])
   (.seq
    (.block 0
     (.seq
      (.region [] [] [1, 2, 5] false [
        (none, .load 6 true 3 (.v 2) none),
        (none, .mv 7 (.v 1)),
        (none, .call (some 8) 19 false [((.v 6), false), ((.v 7), false)]),
        (none, .un 9 .not (.v 8)),
        (none, .asg 5 (.v 9) .copy)])
      (.cond (.v 5)
       (.seq
        (.region [] [] [4] false [
          (none, .asg 4 (.c (.int .i64 0)) .copy)])
        (.ret [4]))
       (.seq
        (.region [(11, 2, false)] [] [1, 2, 10] false [
          (none, .fadr 11 2 1 (.v 2)),
          (none, .load 12 false 1 (.v 11) none),
          (none, .bin 13 .eql (.v 12) (.c (.int .i64 0))),
          (none, .asg 10 (.v 13) .copy)])
        (.cond (.v 10)
         (.seq
          (.region [] [] [4] false [
            (none, .asg 4 (.c (.int .i64 100)) .copy)])
          (.ret [4]))
         (.skip [1, 2]))))))
    (.seq
     (.region [(27, 2, false), (22, 2, false), (19, 2, false), (15, 2, false)] [] [4] true [
       (none, .mv 14 (.v 1)),
       (none, .fadr 15 0 1 (.v 2)),
       (none, .load 16 false 1 (.v 15) none),
       (none, .bin 17 .sub (.v 14) (.v 16)),
       (none, .bin 18 .mul (.c (.int .i64 100)) (.v 17)),
       (none, .fadr 19 2 1 (.v 2)),
       (none, .load 20 false 1 (.v 19) none),
       (none, .bin 21 .quo (.v 18) (.v 20)),
       (none, .fadr 22 1 1 (.v 2)),
       (none, .load 23 false 1 (.v 22) none),
       (none, .mv 24 (.v 1)),
       (none, .bin 25 .sub (.v 23) (.v 24)),
       (none, .bin 26 .mul (.c (.int .i64 100)) (.v 25)),
       (none, .fadr 27 2 1 (.v 2)),
       (none, .load 28 false 1 (.v 27) none),
       (none, .bin 29 .quo (.v 26) (.v 28)),
       (none, .mm 30 false (.c (.int .i64 100)) [(.v 21), (.v 29)]),
       (none, .asg 4 (.v 30) .copy)])
     (.ret [4]))))⟩
def F289 : PFunc :=
 ⟨[false, false], [.tmp 4],
  (.seq
   (.region [] [] [0, 1] false [
     (none, .asg 4 (.c (.int .i64 0)) .copy)])
   (.seq
    (.region [] [] [0, 1, 5] false [
      (none, .asg 5 (.c (.int .i64 0)) .copy)])
    (.seq
     (.seq
      (.region [(8, 0, false)] [] [0, 1, 5, 8, 9, 10] false [
        (none, .mv 8 (.v 0)),
        (none, .len 9 false (.v 8)),
        (none, .mv 10 (.c (.int .i64 0)))])
      (.block 0
       (.loop
        (.seq
         (.region [(8, 0, false)] [] [0, 1, 5, 8, 9, 10, 11] false [
           (none, .bin 11 .lss (.v 10) (.v 9))])
         (.seq
          (.cond (.v 11)
           (.skip [0, 1, 5, 8, 9, 10])
           (.exit 0 [5]))
          (.seq
           (.block 1
            (.seq
             (.region [(12, 0, false), (8, 0, false)] [] [0, 1, 5, 7, 8, 9, 10] false [
               (none, .iadr 12 3 (.v 8) (.v 10)),
               (none, .load 13 true 3 (.v 12) none),
               (none, .new 7 (.agg [(.int .i64 0), (.int .i64 0), (.int .i64 0)])),
               (none, .store 3 (.v 7) (.v 13) .copy)])
             (.region [(8, 0, false)] [] [0, 1, 5, 8, 9, 10] false [
               (none, .mv 14 (.v 5)),
               (none, .load 15 true 3 (.v 7) none),
               (none, .mv 16 (.v 1)),
               (none, .call (some 17) 20 false [((.v 15), false), ((.v 16), false)]),
               (none, .bin 18 .add (.v 14) (.v 17)),
               (none, .asg 5 (.v 18) .copy)])))
           (.region [(8, 0, false)] [] [0, 1, 5, 8, 9, 10] false [
             (none, .bin 19 .add (.v 10) (.c (.int .i64 1))),
             (none, .mv 10 (.v 19))])))))))
     (.seq
      (.region [] [] [4] false [
        (none, .mv 20 (.v 5)),
        (none, .asg 4 (.v 20) .copy)])
      (.ret [4])))))⟩
def F326 : PFunc :=
 ⟨[false, false, false], [.tmp 6],
  (.seq
   (.region [] [] [0, 1, 2] false [
     (none, .asg 6 (.c (.bool false)) .copy)])
   (.seq
    (.region [] [] [6] false [
      (none, .mv 7 (.v 0)),
      (none, .mv 8 (.v 1)),
      (none, .bin 9 .geq (.v 7) (.v 8)),
      (none, .mv 10 (.v 9)),
      (some (10, true), .mv 11 (.v 0)),
      (some (10, true), .mv 12 (.v 2)),
      (some (10, true), .bin 13 .leq (.v 11) (.v 12)),
      (none, .pick 14 (.v 10) (.v 13) (.c (.bool false))),
      (none, .asg 6 (.v 14) .copy)])
    (.ret [6])))⟩
def F231 : PFunc :=
 ⟨[false], [.tmp 2],
  (.seq
   (.region [] [] [1] false [
     (none, .box 1 (.v 0) .copy),
     (none, .asg 2 (.c (.bool false)) .copy)])
   (.seq
    (.region [(17, 1, false), (10, 1, false), (8, 1, false), (3, 1, false)] [] [2] false [
      (none, .fadr 3 0 1 (.v 1)),
      (none, .load 4 false 1 (.v 3) none),
      (none, .call (some 5) 326 false [((.v 4), false), ((.c (.int .i64 0)), false), ((.c (.int .i64 10000)), false)]),
      (none, .un 6 .not (.v 5)),
      (none, .mv 7 (.v 6)),
      (some (7, false), .fadr 8 1 1 (.v 1)),
      (some (7, false), .load 9 false 1 (.v 8) none),
      (some (7, false), .fadr 10 0 1 (.v 1)),
      (some (7, false), .load 11 false 1 (.v 10) none),
      (some (7, false), .bin 12 .add (.v 11) (.c (.int .i64 1))),
      (some (7, false), .call (some 13) 326 false [((.v 9), false), ((.v 12), false), ((.c (.int .i64 20000)), false)]),
      (some (7, false), .un 14 .not (.v 13)),
      (none, .pick 15 (.v 7) (.c (.bool true)) (.v 14)),
      (none, .mv 16 (.v 15)),
      (some (16, false), .fadr 17 2 1 (.v 1)),
      (some (16, false), .load 18 false 1 (.v 17) none),
      (some (16, false), .call (some 19) 326 false [((.v 18), false), ((.c (.int .i64 0)), false), ((.c (.int .i64 500)), false)]),
      (some (16, false), .un 20 .not (.v 19)),
      (none, .pick 21 (.v 16) (.c (.bool true)) (.v 20)),
      (none, .asg 2 (.v 21) .copy)])
    (.ret [2])))⟩
def F828 : PFunc :=
 ⟨[false, false], [.tmp 4],
  (.seq
   (.region [] [] [0, 1] false [
     (none, .asg 4 (.c (.int .i64 0)) .copy)])
   (.seq
    (.seq
     (.region [(6, 0, false)] [] [0, 1, 7, 8] false [
       (none, .mv 6 (.v 0)),
       (none, .len 7 false (.v 6)),
       (none, .mv 8 (.c (.int .i64 0)))])
     (.block 0
      (.loop
       (.seq
        (.region [] [] [0, 1, 7, 8, 9] false [
          (none, .bin 9 .lss (.v 8) (.v 7))])
        (.seq
         (.cond (.v 9)
          (.skip [0, 1, 7, 8])
          (.exit 0 []))
         (.seq
          (.block 1
           (.seq
            (.region [] [] [0, 1, 5, 7, 8] false [
              (none, .mv 10 (.v 8)),
              (none, .asg 5 (.v 10) .copy)])
            (.seq
             (.region [(14, 0, false), (12, 0, false), (11, 1, false)] [] [0, 1, 5, 7, 8, 16] false [
               (none, .mv 11 (.v 1)),
               (none, .mv 12 (.v 0)),
               (none, .mv 13 (.v 5)),
               (none, .iadr 14 3 (.v 12) (.v 13)),
               (none, .load 15 true 3 (.v 14) none),
               (none, .callv (some 16) (.v 11) [(.v 15)])])
             (.cond (.v 16)
              (.seq
               (.region [] [] [4] false [
                 (none, .mv 17 (.v 5)),
                 (none, .asg 4 (.v 17) .copy)])
               (.ret [4]))
              (.skip [0, 1, 7, 8])))))
          (.region [] [] [0, 1, 7, 8] false [
            (none, .bin 18 .add (.v 8) (.c (.int .i64 1))),
            (none, .mv 8 (.v 18))])))))))
    (.seq
     (.region [] [] [4] false [
       (none, .asg 4 (.c (.int .i64 (-1))) .copy)])
     (.ret [4]))))⟩
def F806 : PFunc :=
 ⟨[false, false], [.tmp 4],
  (.seq
   (.region [] [] [0, 1] false [
     (none, .asg 4 (.c (.bool false)) .copy)])
   (.seq
    (.region [(6, 1, false), (5, 0, false)] [] [4] false [
      (none, .mv 5 (.v 0)),
      (none, .mv 6 (.v 1)),
      (none, .call (some 7) 828 false [((.v 5), false), ((.v 6), false)]),
      (none, .bin 8 .geq (.v 7) (.c (.int .i64 0))),
      (none, .asg 4 (.v 8) .copy)])
    (.ret [4])))⟩
def F230 : PFunc :=
 ⟨[false], [.tmp 2],
  (.seq
   (.region [] [] [0] false [
     (none, .asg 2 (.c (.bool false)) .copy)])
   (.seq
    (.region [(7, 0, false), (3, 0, false)] [] [2] false [
      (none, .mv 3 (.v 0)),
      (none, .len 4 false (.v 3)),
      (none, .bin 5 .leq (.v 4) (.c (.int .i64 12))),
      (none, .mv 6 (.v 5)),
      (some (6, true), .mv 7 (.v 0)),
      (some (6, true), .call (some 8) 806 false [((.v 7), false), ((.c (.fn 231 [])), false)]),
      (some (6, true), .un 9 .not (.v 8)),
      (none, .pick 10 (.v 6) (.v 9) (.c (.bool false))),
      (none, .asg 2 (.v 10) .copy)])
    (.ret [2])))⟩
def F316 : PFunc :=
 ⟨[false, false, false], [.tmp 6],
  (.seq
   (.region [] [] [0, 1, 2] false [
     (none, .asg 6 (.c (.int .i64 0)) .copy)])
   (.seq
    (.block 0
     (.seq
      (.region [(8, 0, false)] [] [1, 2, 7] false [
        (none, .mv 8 (.v 0)),
        (none, .call (some 9) 230 false [((.v 8), false)]),
        (none, .un 10 .not (.v 9)),
        (none, .asg 7 (.v 10) .copy)])
      (.cond (.v 7)
       (.seq
        (.region [] [] [6] false [
          (none, .asg 6 (.c (.int .i64 1)) .copy)])
        (.ret [6]))
       (.seq
        (.region [] [] [11] false [
          (none, .mv 12 (.v 1)),
          (none, .call (some 13) 326 false [((.v 12), false), ((.c (.int .i64 0)), false), ((.c (.int .i64 20000)), false)]),
          (none, .un 14 .not (.v 13)),
          (none, .mv 15 (.v 14)),
          (some (15, false), .mv 16 (.v 2)),
          (some (15, false), .mv 17 (.v 1)),
          (some (15, false), .call (some 18) 326 false [((.v 16), false), ((.v 17), false), ((.c (.int .i64 20000)), false)]),
          (some (15, false), .un 19 .not (.v 18)),
          (none, .pick 20 (.v 15) (.c (.bool true)) (.v 19)),
          (none, .asg 11 (.v 20) .copy)])
        (.cond (.v 11)
         (.seq
          (.region [] [] [6] false [
            (none, .asg 6 (.c (.int .i64 2)) .copy)])
          (.ret [6]))
         (.skip []))))))
    (.seq
     (.region [] [] [6] false [
       (none, .asg 6 (.c (.int .i64 0)) .copy)])
     (.ret [6]))))⟩
def F72 : PFunc :=
 ⟨[false, false, false], [.tmp 6, .tmp 7],
  (.seq
   (.region [] [] [0, 1, 2] false [
     (none, .asg 6 (.c (.int .i64 0)) .copy),
     (none, .asg 7 (.c (.int .i64 0)) .copy)])
   (.seq
    (.seq
     (.region [(11, 0, false)] [] [0, 1, 2, 8] false [
       (none, .mv 11 (.v 0)),
       (none, .mv 12 (.v 1)),
       (none, .mv 13 (.v 2)),
       (none, .call (some 14) 316 false [((.v 11), false), ((.v 12), false), ((.v 13), false)]),
       (none, .asg 8 (.v 14) .copy)])
     (.seq
      (.region [] [] [0, 1, 2, 8, 16] false [
        (none, .mv 15 (.v 8)),
        (none, .bin 16 .neq (.v 15) (.c (.int .i64 0)))])
      (.cond (.v 16)
       (.seq
        (.region [] [] [6, 7] false [
          (none, .mv 17 (.v 8)),
          (none, .asg 6 (.c (.int .i64 0)) .copy),
          (none, .asg 7 (.v 17) .copy)])
        (.ret [6, 7]))
       (.skip [0, 1, 2]))))
    (.seq
     (.region [] [] [0, 1, 2, 9] false [
       (none, .asg 9 (.c (.int .i64 0)) .copy)])
     (.seq
      (.seq
       (.region [] [] [0, 2, 9, 10] false [
         (none, .mv 18 (.v 1)),
         (none, .asg 10 (.v 18) .copy)])
       (.block 0
        (.loop
         (.seq
          (.seq
           (.region [] [] [0, 2, 9, 10, 21] false [
             (none, .mv 19 (.v 10)),
             (none, .mv 20 (.v 2)),
             (none, .bin 21 .lss (.v 19) (.v 20))])
           (.cond (.v 21)
            (.skip [0, 2, 9, 10])
            (.exit 0 [9])))
          (.seq
           (.block 1
            (.seq
             (.region [(24, 0, false)] [] [0, 2, 9, 10, 27] false [
               (none, .mv 24 (.v 0)),
               (none, .mv 25 (.v 10)),
               (none, .call (some 26) 289 false [((.v 24), false), ((.v 25), false)]),
               (none, .bin 27 .eql (.v 26) (.c (.int .i64 0)))])
             (.cond (.v 27)
              (.region [] [] [0, 2, 9, 10] false [
                (none, .mv 28 (.v 9)),
                (none, .bin 29 .add (.v 28) (.c (.int .i64 1))),
                (none, .asg 9 (.v 29) .copy)])
              (.skip [0, 2, 9, 10]))))
           (.region [] [] [0, 2, 9, 10] false [
             (none, .mv 22 (.v 10)),
             (none, .bin 23 .add (.v 22) (.c (.int .i64 1))),
             (none, .asg 10 (.v 23) .copy)]))))))
      (.seq
       (.region [] [] [6, 7] false [
         (none, .mv 30 (.v 9)),
         (none, .asg 6 (.v 30) .copy),
         (none, .asg 7 (.c (.int .i64 0)) .copy)])
       (.ret [6, 7]))))))⟩
def F92 : PFunc :=
 ⟨[false, false, false], [.tmp 6, .tmp 7],
  (.seq
   (.region [] [] [0, 1, 2] false [
     (none, .asg 6 (.c (.int .i64 0)) .copy),
     (none, .asg 7 (.c (.int .i64 0)) .copy)])
   (.seq
    (.seq
     (.region [(10, 0, false)] [] [0, 1, 2, 8] false [
       (none, .mv 10 (.v 0)),
       (none, .mv 11 (.v 1)),
       (none, .mv 12 (.v 2)),
       (none, .call (some 13) 316 false [((.v 10), false), ((.v 11), false), ((.v 12), false)]),
       (none, .asg 8 (.v 13) .copy)])
     (.seq
      (.region [] [] [0, 1, 2, 8, 15] false [
        (none, .mv 14 (.v 8)),
        (none, .bin 15 .neq (.v 14) (.c (.int .i64 0)))])
      (.cond (.v 15)
       (.seq
        (.region [] [] [6, 7] false [
          (none, .mv 16 (.v 8)),
          (none, .asg 6 (.c (.int .i64 0)) .copy),
          (none, .asg 7 (.v 16) .copy)])
        (.ret [6, 7]))
       (.skip [0, 1, 2]))))
    (.seq
     (.seq
      (.region [] [] [0, 2, 9] false [
        (none, .mv 17 (.v 1)),
        (none, .asg 9 (.v 17) .copy)])
      (.block 0
       (.loop
        (.seq
         (.seq
          (.region [] [] [0, 2, 9, 20] false [
            (none, .mv 18 (.v 9)),
            (none, .mv 19 (.v 2)),
            (none, .bin 20 .lss (.v 18) (.v 19))])
          (.cond (.v 20)
           (.skip [0, 2, 9])
           (.exit 0 [])))
         (.seq
          (.block 1
           (.seq
            (.region [(23, 0, false)] [] [0, 2, 9, 26] false [
              (none, .mv 23 (.v 0)),
              (none, .mv 24 (.v 9)),
              (none, .call (some 25) 289 false [((.v 23), false), ((.v 24), false)]),
              (none, .bin 26 .eql (.v 25) (.c (.int .i64 0)))])
            (.cond (.v 26)
             (.seq
              (.region [] [] [6, 7] false [
                (none, .mv 27 (.v 9)),
                (none, .asg 6 (.v 27) .copy),
                (none, .asg 7 (.c (.int .i64 0)) .copy)])
              (.ret [6, 7]))
             (.skip [0, 2, 9]))))
          (.region [] [] [0, 2, 9] false [
            (none, .mv 21 (.v 9)),
            (none, .bin 22 .add (.v 21) (.c (.int .i64 1))),
            (none, .asg 9 (.v 22) .copy)]))))))
     (.seq
      (.region [] [] [6, 7] false [
        (none, .asg 6 (.c (.int .i64 0)) .copy),
        (none, .asg 7 (.c (.int .i64 3)) .copy)])
      (.ret [6, 7])))))⟩
def F130 : PFunc :=
 ⟨[false, false], [.tmp 4, .tmp 5],
  (.seq
   (.region [] [] [0, 1] false [
     (none, .asg 4 (.c (.int .i64 0)) .copy),
     (none, .asg 5 (.c (.int .i64 0)) .copy)])
   (.seq
    (.block 0
     (.seq
      (.region [(7, 0, false)] [] [0, 1, 6] false [
        (none, .mv 7 (.v 0)),
        (none, .call (some 8) 230 false [((.v 7), false)]),
        (none, .un 9 .not (.v 8)),
        (none, .asg 6 (.v 9) .copy)])
      (.cond (.v 6)
       (.seq
        (.region [] [] [4, 5] false [
          (none, .asg 4 (.c (.int .i64 0)) .copy),
          (none, .asg 5 (.c (.int .i64 1)) .copy)])
        (.ret [4, 5]))
       (.seq
        (.region [] [] [0, 1, 10] false [
          (none, .mv 11 (.v 1)),
          (none, .call (some 12) 326 false [((.v 11), false), ((.c (.int .i64 0)), false), ((.c (.int .i64 20000)), false)]),
          (none, .un 13 .not (.v 12)),
          (none, .asg 10 (.v 13) .copy)])
        (.cond (.v 10)
         (.seq
          (.region [] [] [4, 5] false [
            (none, .asg 4 (.c (.int .i64 0)) .copy),
            (none, .asg 5 (.c (.int .i64 2)) .copy)])
          (.ret [4, 5]))
         (.skip [0, 1]))))))
    (.seq
     (.region [(14, 0, false)] [] [4, 5] false [
       (none, .mv 14 (.v 0)),
       (none, .mv 15 (.v 1)),
       (none, .call (some 16) 289 false [((.v 14), false), ((.v 15), false)]),
       (none, .asg 4 (.v 16) .copy),
       (none, .asg 5 (.c (.int .i64 0)) .copy)])
     (.ret [4, 5]))))⟩
def F129 : PFunc :=
 ⟨[false, false], [.tmp 4, .tmp 5],
  (.seq
   (.region [] [] [1, 2] false [
     (none, .box 2 (.v 0) .copy),
     (none, .asg 4 (.c (.int .i64 0)) .copy),
     (none, .asg 5 (.c (.int .i64 0)) .copy)])
   (.seq
    (.region [] [] [4, 5] false [
      (none, .load 6 true 3 (.v 2) none),
      (none, .mksl 7 3 (.agg [(.int .i64 0), (.int .i64 0), (.int .i64 0)]) 1 [(0, (.v 6), .copy)]),
      (none, .mv 8 (.v 1)),
      (none, .call (some 9) 130 false [((.v 7), false), ((.v 8), false)]),
      (none, .extp 10 (.v 9) 0),
      (none, .extp 11 (.v 9) 1),
      (none, .asg 4 (.v 10) .copy),
      (none, .asg 5 (.v 11) .copy)])
    (.ret [4, 5])))⟩
def F149 : PFunc :=
 ⟨[false, false, false], [.tmp 6, .tmp 7],
  (.seq
   (.region [] [] [0, 1, 2] false [
     (none, .asg 6 (.c (.sl true 3 [])) .copy),
     (none, .asg 7 (.c (.int .i64 0)) .copy)])
   (.seq
    (.block 0
     (.seq
      (.region [(10, 0, false)] [] [0, 1, 2, 9] false [
        (none, .mv 10 (.v 0)),
        (none, .call (some 11) 230 false [((.v 10), false)]),
        (none, .un 12 .not (.v 11)),
        (none, .asg 9 (.v 12) .copy)])
      (.cond (.v 9)
       (.seq
        (.region [] [] [6, 7] false [
          (none, .asg 6 (.c (.sl true 3 [])) .copy),
          (none, .asg 7 (.c (.int .i64 1)) .copy)])
        (.ret [6, 7]))
       (.seq
        (.region [(15, 0, false)] [] [0, 1, 2, 13] false [
          (none, .mv 14 (.v 1)),
          (none, .mv 15 (.v 0)),
          (none, .len 16 false (.v 15)),
          (none, .bin 17 .sub (.v 16) (.c (.int .i64 1))),
          (none, .call (some 18) 326 false [((.v 14), false), ((.c (.int .i64 0)), false), ((.v 17), false)]),
          (none, .un 19 .not (.v 18)),
          (none, .mv 20 (.v 19)),
          (some (20, false), .mv 21 (.v 2)),
          (some (20, false), .call (some 22) 326 false [((.v 21), false), ((.c (.int .i64 0)), false), ((.c (.int .i64 10000)), false)]),
          (some (20, false), .un 23 .not (.v 22)),
          (none, .pick 24 (.v 20) (.c (.bool true)) (.v 23)),
          (none, .asg 13 (.v 24) .copy)])
        (.cond (.v 13)
         (.seq
          (.region [] [] [6, 7] false [
            (none, .asg 6 (.c (.sl true 3 [])) .copy),
            (none, .asg 7 (.c (.int .i64 2)) .copy)])
          (.ret [6, 7]))
         (.skip [0, 1, 2]))))))
    (.seq
     (.region [(25, 0, false)] [] [1, 2, 8] false [
       (none, .mv 25 (.v 0)),
       (none, .call (some 26) 788 false [((.v 25), false)]),
       (none, .asg 8 (.v 26) .move)])
     (.seq
      (.region [(35, 8, false), (34, 8, false), (30, 8, false), (29, 8, false), (27, 8, false)] [] [1, 2, 8] false [
        (none, .mv 27 (.v 8)),
        (none, .mv 28 (.v 1)),
        (none, .iadr 29 3 (.v 27) (.v 28)),
        (none, .fadr 30 0 1 (.v 29)),
        (none, .load 31 false 1 (.v 30) none),
        (none, .mv 32 (.v 2)),
        (none, .bin 33 .add (.v 31) (.v 32)),
        (none, .iadr 34 3 (.v 27) (.v 28)),
        (none, .fadr 35 0 1 (.v 34)),
        (none, .store 1 (.v 35) (.v 33) .copy)])
      (.seq
       (.region [(44, 8, false), (43, 8, false), (39, 8, false), (38, 8, false), (36, 8, false)] [] [8] false [
         (none, .mv 36 (.v 8)),
         (none, .mv 37 (.v 1)),
         (none, .iadr 38 3 (.v 36) (.v 37)),
         (none, .fadr 39 1 1 (.v 38)),
         (none, .load 40 false 1 (.v 39) none),
         (none, .mv 41 (.v 2)),
         (none, .bin 42 .add (.v 40) (.v 41)),
         (none, .iadr 43 3 (.v 36) (.v 37)),
         (none, .fadr 44 1 1 (.v 43)),
         (none, .store 1 (.v 44) (.v 42) .copy)])
       (.seq
        (.seq
         (.region [(45, 8, false)] [] [8, 47] false [
           (none, .mv 45 (.v 8)),
           (none, .call (some 46) 230 false [((.v 45), false)]),
           (none, .un 47 .not (.v 46))])
         (.cond (.v 47)
          (.seq
           (.region [] [] [6, 7] false [
             (none, .asg 6 (.c (.sl true 3 [])) .copy),
             (none, .asg 7 (.c (.int .i64 5)) .copy)])
           (.ret [6, 7]))
          (.skip [8])))
        (.seq
         (.region [(48, 8, false)] [] [6, 7] false [
           (none, .mv 48 (.v 8)),
           (none, .asg 6 (.v 48) .move),
           (none, .asg 7 (.c (.int .i64 0)) .copy)])
         (.ret [6, 7]))))))))⟩
def F384 : PFunc :=
 ⟨[false, false, false], [.tmp 6],
  (.seq
   (.region [] [] [0, 1, 2] false [
     (none, .asg 6 (.c (.int .i64 0)) .copy)])
   (.seq
    (.seq
     (.region [(8, 0, false)] [] [0, 1, 2, 14] false [
       (none, .mv 7 (.v 1)),
       (none, .mv 8 (.v 0)),
       (none, .len 9 false (.v 8)),
       (none, .bin 10 .geq (.v 7) (.v 9)),
       (none, .mv 11 (.v 10)),
       (some (11, false), .mv 12 (.v 2)),
       (some (11, false), .bin 13 .lss (.v 12) (.c (.int .i64 1))),
       (none, .pick 14 (.v 11) (.c (.bool true)) (.v 13))])
     (.cond (.v 14)
      (.seq
       (.region [] [] [6] false [
         (none, .asg 6 (.c (.int .i64 0)) .copy)])
       (.ret [6]))
      (.skip [0, 1, 2])))
    (.seq
     (.region [(17, 0, false), (15, 0, false)] [] [6] false [
       (none, .mv 15 (.v 0)),
       (none, .mv 16 (.v 1)),
       (none, .iadr 17 1 (.v 15) (.v 16)),
       (none, .load 18 false 1 (.v 17) none),
       (none, .conv 19 .i64 (.v 18)),
       (none, .mv 20 (.v 2)),
       (none, .bin 21 .rem (.v 19) (.v 20)),
       (none, .asg 6 (.v 21) .copy)])
     (.ret [6]))))⟩
def F386 : PFunc :=
 ⟨[false, false], [.tmp 4],
  (.seq
   (.region [] [] [0, 1] false [
     (none, .asg 4 (.c (.bool false)) .copy)])
   (.seq
    (.region [(9, 1, false), (5, 0, false)] [] [4] false [
      (none, .mv 5 (.v 0)),
      (none, .len 6 false (.v 5)),
      (none, .bin 7 .gtr (.v 6) (.c (.int .i64 3000))),
      (none, .mv 8 (.v 7)),
      (some (8, false), .mv 9 (.v 1)),
      (some (8, false), .len 10 false (.v 9)),
      (some (8, false), .bin 11 .gtr (.v 10) (.c (.int .i64 3000))),
      (none, .pick 12 (.v 8) (.c (.bool true)) (.v 11)),
      (none, .asg 4 (.v 12) .copy)])
    (.ret [4])))⟩
def F603 : PFunc :=
 ⟨[false], [.tmp 2],
  (.seq
   (.region [] [] [0] false [
     (none, .asg 2 (.c .nilp) .copy)])
   (.seq
    (.region [(3, 0, false)] [] [2] false [
      (none, .mv 3 (.v 0)),
      (none, .build 4 [(.sl false 1 []), (.int .i64 0), (.int .u64 0)] [(0, 1, (.v 3), .move)]),
      (none, .box 5 (.v 4) .move),
      (none, .asg 2 (.v 5) .move)])
    (.ret [2])))⟩
def F5 : PFunc :=
 ⟨[true], [.tmp 2],
  (.seq
   (.region [] [] [0] false [
     (none, .asg 2 (.c (.int .i64 0)) .copy)])
   (.seq
    (.region [] [] [0, 3] false [
      (none, .asg 3 (.c (.int .i64 0)) .copy)])
    (.seq
     (.seq
      (.region [(11, 0, true), (10, 0, false), (9, 0, false), (8, 0, false), (6, 0, false), (5, 0, false), (4, 0, false)] [] [0, 3, 13] true [
        (none, .mv 4 (.v 0)),
        (none, .nchk 5 (.v 4)),
        (none, .fadr 6 1 1 (.v 5)),
        (none, .load 7 false 1 (.v 6) none),
        (none, .mv 8 (.v 0)),
        (none, .nchk 9 (.v 8)),
        (none, .fadr 10 0 1 (.v 9)),
        (none, .load 11 false 1 (.v 10) none),
        (none, .len 12 false (.v 11)),
        (none, .bin 13 .lss (.v 7) (.v 12))])
      (.cond (.v 13)
       (.region [(22, 0, true), (20, 0, false), (19, 0, false), (18, 0, false), (17, 0, true), (16, 0, false), (15, 0, false), (14, 0, false)] [] [0, 3] true [
         (none, .mv 14 (.v 0)),
         (none, .nchk 15 (.v 14)),
         (none, .fadr 16 0 1 (.v 15)),
         (none, .load 17 false 1 (.v 16) none),
         (none, .mv 18 (.v 0)),
         (none, .nchk 19 (.v 18)),
         (none, .fadr 20 1 1 (.v 19)),
         (none, .load 21 false 1 (.v 20) none),
         (none, .iadr 22 1 (.v 17) (.v 21)),
         (none, .load 23 false 1 (.v 22) none),
         (none, .conv 24 .i64 (.v 23)),
         (none, .asg 3 (.v 24) .copy)])
       (.skip [0, 3])))
     (.seq
      (.region [(31, 0, false), (30, 0, false), (27, 0, false), (26, 0, false), (25, 0, false)] [] [0, 3] false [
        (none, .mv 25 (.v 0)),
        (none, .nchk 26 (.v 25)),
        (none, .fadr 27 1 1 (.v 26)),
        (none, .load 28 false 1 (.v 27) none),
        (none, .bin 29 .add (.v 28) (.c (.int .i64 1))),
        (none, .nchk 30 (.v 25)),
        (none, .fadr 31 1 1 (.v 30)),
        (none, .store 1 (.v 31) (.v 29) .copy)])
      (.seq
       (.region [(43, 0, false), (42, 0, false), (35, 0, false), (34, 0, false), (33, 0, false), (32, 0, false)] [] [0, 3] false [
         (none, .mv 32 (.v 0)),
         (none, .mv 33 (.v 0)),
         (none, .nchk 34 (.v 33)),
         (none, .fadr 35 2 1 (.v 34)),
         (none, .load 36 false 1 (.v 35) none),
         (none, .bin 37 .mul (.v 36) (.c (.int .u64 6364136223846793005))),
         (none, .mv 38 (.v 3)),
         (none, .conv 39 .u64 (.v 38)),
         (none, .bin 40 .add (.v 37) (.v 39)),
         (none, .bin 41 .add (.v 40) (.c (.int .u64 1442695040888963407))),
         (none, .nchk 42 (.v 32)),
         (none, .fadr 43 2 1 (.v 42)),
         (none, .store 1 (.v 43) (.v 41) .copy)])
       (.seq
        (.seq
         (.region [(51, 0, true), (50, 0, false), (49, 0, false), (48, 0, false), (46, 0, false), (45, 0, false), (44, 0, false)] [] [0, 3, 53] true [
           (none, .mv 44 (.v 0)),
           (none, .nchk 45 (.v 44)),
           (none, .fadr 46 1 1 (.v 45)),
           (none, .load 47 false 1 (.v 46) none),
           (none, .mv 48 (.v 0)),
           (none, .nchk 49 (.v 48)),
           (none, .fadr 50 0 1 (.v 49)),
           (none, .load 51 false 1 (.v 50) none),
           (none, .len 52 false (.v 51)),
           (none, .bin 53 .leq (.v 47) (.v 52))])
         (.cond (.v 53)
          (.seq
           (.region [] [] [0, 2] false [
             (none, .mv 54 (.v 3)),
             (none, .asg 2 (.v 54) .copy)])
           (.ret [0, 2]))
          (.skip [0])))
        (.seq
         (.region [(57, 0, false), (56, 0, false), (55, 0, false)] [] [0, 2] false [
           (none, .mv 55 (.v 0)),
           (none, .nchk 56 (.v 55)),
           (none, .fadr 57 2 1 (.v 56)),
           (none, .load 58 false 1 (.v 57) none),
           (none, .bin 59 .shr (.v 58) (.c (.int .u64 40))),
           (none, .bin 60 .and (.v 59) (.c (.int .u64 255))),
           (none, .conv 61 .i64 (.v 60)),
           (none, .asg 2 (.v 61) .copy)])
         (.ret [0, 2]))))))))⟩
def F7 : PFunc :=
 ⟨[true, false], [.tmp 4],
  (.seq
   (.region [] [] [0, 1] false [
     (none, .asg 4 (.c (.int .i64 0)) .copy)])
   (.seq
    (.seq
     (.region [] [] [0, 1, 7] false [
       (none, .mv 6 (.v 1)),
       (none, .bin 7 .leq (.v 6) (.c (.int .i64 1)))])
     (.cond (.v 7)
      (.seq
       (.region [] [] [0, 4] false [
         (none, .asg 4 (.c (.int .i64 0)) .copy)])
       (.ret [0, 4]))
      (.skip [0, 1])))
    (.seq
     (.region [(8, 0, false)] [] [0, 1, 5] false [
       (none, .mv 8 (.v 0)),
       (none, .call (some 9) 5 true [((.v 8), true)]),
       (none, .asg 5 (.v 9) .copy)])
     (.seq
      (.seq
       (.region [] [] [0, 1, 5, 11] false [
         (none, .mv 10 (.v 1)),
         (none, .bin 11 .gtr (.v 10) (.c (.int .i64 200)))])
       (.cond (.v 11)
        (.region [(14, 0, false)] [] [0, 1, 5] false [
          (none, .mv 12 (.v 5)),
          (none, .bin 13 .mul (.v 12) (.c (.int .i64 256))),
          (none, .mv 14 (.v 0)),
          (none, .call (some 15) 5 true [((.v 14), true)]),
          (none, .bin 16 .add (.v 13) (.v 15)),
          (none, .asg 5 (.v 16) .copy)])
        (.skip [0, 1, 5])))
      (.seq
       (.region [] [] [0, 4] false [
         (none, .mv 17 (.v 5)),
         (none, .mv 18 (.v 1)),
         (none, .bin 19 .rem (.v 17) (.v 18)),
         (none, .asg 4 (.v 19) .copy)])
       (.ret [0, 4]))))))⟩
def F606 : PFunc :=
 ⟨[false, false], [.tmp 4],
  (.seq
   (.region [] [] [0, 1] false [
     (none, .asg 4 (.c (.int .i64 0)) .copy)])
   (.seq
    (.seq
     (.region [] [] [0, 1, 7] false [
       (none, .mv 5 (.v 0)),
       (none, .mv 6 (.v 1)),
       (none, .bin 7 .gtr (.v 5) (.v 6))])
     (.cond (.v 7)
      (.seq
       (.region [] [] [4] false [
         (none, .mv 8 (.v 0)),
         (none, .asg 4 (.v 8) .copy)])
       (.ret [4]))
      (.skip [1])))
    (.seq
     (.region [] [] [4] false [
       (none, .mv 9 (.v 1)),
       (none, .asg 4 (.v 9) .copy)])
     (.ret [4]))))⟩
def F717 : PFunc :=
 ⟨[true], [.tmp 2],
  (.seq
   (.region [] [] [0] false [
     (none, .asg 2 (.c (.sl true 3 [])) .copy)])
   (.seq
    (.region [] [] [0, 3] false [
      (none, .mksl 7 3 (.agg [(.int .i64 0), (.int .i64 0), (.int .i64 0)]) 0 []),
      (none, .asg 3 (.v 7) .move)])
    (.seq
     (.region [(8, 0, false)] [] [0, 3, 4] false [
       (none, .mv 8 (.v 0)),
       (none, .call (some 9) 7 true [((.v 8), true), ((.c (.int .i64 6)), false)]),
       (none, .asg 4 (.v 9) .copy)])
     (.seq
      (.seq
       (.region [(10, 0, false)] [] [0, 3, 4, 5] false [
         (none, .mv 10 (.v 0)),
         (none, .call (some 11) 7 true [((.v 10), true), ((.c (.int .i64 6)), false)]),
         (none, .asg 5 (.v 11) .copy)])
       (.block 0
        (.loop
         (.seq
          (.seq
           (.region [] [] [0, 3, 4, 5, 13] false [
             (none, .mv 12 (.v 5)),
             (none, .bin 13 .gtr (.v 12) (.c (.int .i64 0)))])
           (.cond (.v 13)
            (.skip [0, 3, 4, 5])
            (.exit 0 [0, 3])))
          (.seq
           (.block 1
            (.seq
             (.region [] [] [0, 3, 4, 5, 6] false [
               (none, .mv 16 (.v 4)),
               (none, .build 17 [(.int .i64 0), (.int .i64 0), (.int .i64 0)] [(0, 1, (.v 16), .copy)]),
               (none, .new 6 (.agg [(.int .i64 0), (.int .i64 0), (.int .i64 0)])),
               (none, .store 3 (.v 6) (.v 17) .copy)])
             (.seq
              (.region [(23, 6, false), (20, 0, false)] [] [0, 3, 4, 5, 6] false [
                (none, .mv 18 (.v 4)),
                (none, .bin 19 .add (.v 18) (.c (.int .i64 1))),
                (none, .mv 20 (.v 0)),
                (none, .call (some 21) 7 true [((.v 20), true), ((.c (.int .i64 20)), false)]),
                (none, .bin 22 .add (.v 19) (.v 21)),
                (none, .fadr 23 1 1 (.v 6)),
                (none, .store 1 (.v 23) (.v 22) .copy)])
              (.seq
               (.region [(26, 6, false), (24, 0, false)] [] [0, 3, 4, 5, 6] false [
                 (none, .mv 24 (.v 0)),
                 (none, .call (some 25) 7 true [((.v 24), true), ((.c (.int .i64 7)), false)]),
                 (none, .fadr 26 2 1 (.v 6)),
                 (none, .store 1 (.v 26) (.v 25) .copy)])
               (.seq
                (.region [(27, 3, false)] [] [0, 3, 4, 5] false [
                  (none, .mv 27 (.v 3)),
                  (none, .load 28 true 3 (.v 6) none),
                  (none, .mksl 29 3 (.agg [(.int .i64 0), (.int .i64 0), (.int .i64 0)]) 1 [(0, (.v 28), .copy)]),
                  (none, .app 30 3 (.v 27) (.v 29) .move),
                  (none, .asg 3 (.v 30) .move)])
                (.region [(32, 0, false)] [] [0, 3, 4, 5] false [
                  (none, .mv 31 (.v 4)),
                  (none, .mv 32 (.v 0)),
                  (none, .call (some 33) 7 true [((.v 32), true), ((.c (.int .i64 18)), false)]),
                  (none, .bin 34 .add (.v 31) (.v 33)),
                  (none, .bin 35 .sub (.v 34) (.c (.int .i64 3))),
                  (none, .call (some 36) 606 false [((.c (.int .i64 0)), false), ((.v 35), false)]),
                  (none, .asg 4 (.v 36) .copy)]))))))
           (.region [] [] [0, 3, 4, 5] false [
             (none, .mv 14 (.v 5)),
             (none, .bin 15 .sub (.v 14) (.c (.int .i64 1))),
             (none, .asg 5 (.v 15) .copy)]))))))
      (.seq
       (.region [(37, 3, false)] [] [0, 2] false [
         (none, .mv 37 (.v 3)),
         (none, .asg 2 (.v 37) .move)])
       (.ret [0, 2]))))))⟩
def F434 : PFunc :=
 ⟨[false], [.tmp 2],
  (.seq
   (.region [] [] [0] false [
     (none, .asg 2 (.c (.sl true 3 [])) .copy)])
   (.seq
    (.region [(3, 0, false)] [] [2] false [
      (none, .mv 3 (.v 0)),
      (none, .call (some 4) 603 true [((.v 3), false)]),
      (none, .call (some 5) 717 true [((.v 4), true)]),
      (none, .asg 2 (.v 5) .move)])
    (.ret [2])))⟩
def F333 : PFunc :=
 ⟨[false, false], [.tmp 4],
  (.seq
   (.region [] [] [0, 1] false [
     (none, .asg 4 (.c (.bool false)) .copy)])
   (.seq
    (.seq
     (.region [(31, 1, false), (30, 0, false)] [] [0, 1, 32] false [
       (none, .mv 30 (.v 0)),
       (none, .mv 31 (.v 1)),
       (none, .call (some 32) 386 false [((.v 30), false), ((.v 31), false)])])
     (.cond (.v 32)
      (.seq
       (.region [] [] [4] false [
         (none, .asg 4 (.c (.bool true)) .copy)])
       (.ret [4]))
      (.skip [0, 1])))
    (.seq
     (.region [(33, 0, false)] [] [1, 5] false [
       (none, .mv 33 (.v 0)),
       (none, .call (some 34) 434 false [((.v 33), false)]),
       (none, .asg 5 (.v 34) .move)])
     (.seq
      (.region [(35, 1, false)] [] [1, 5, 6] false [
        (none, .mv 35 (.v 1)),
        (none, .call (some 36) 384 false [((.v 35), false), ((.c (.int .i64 0)), false), ((.c (.int .i64 30)), false)]),
        (none, .asg 6 (.v 36) .copy)])
      (.seq
       (.region [(38, 1, false)] [] [1, 5, 6, 7] false [
         (none, .mv 37 (.v 6)),
         (none, .mv 38 (.v 1)),
         (none, .call (some 39) 384 false [((.v 38), false), ((.c (.int .i64 1)), false), ((.c (.int .i64 40)), false)]),
         (none, .bin 40 .add (.v 37) (.v 39)),
         (none, .asg 7 (.v 40) .copy)])
       (.seq
        (.region [(42, 5, false)] [] [1, 5, 6, 7, 8, 9] false [
          (none, .mv 42 (.v 5)),
          (none, .mv 43 (.v 6)),
          (none, .mv 44 (.v 7)),
          (none, .call (some 45) 72 false [((.v 42), false), ((.v 43), false), ((.v 44), false)]),
          (none, .asg 41 (.v 45) .copy),
          (none, .extp 46 (.v 41) 0),
          (none, .extp 47 (.v 41) 1),
          (none, .asg 8 (.v 46) .copy),
          (none, .asg 9 (.v 47) .copy)])
        (.seq
         (.region [(49, 5, false)] [] [1, 5, 6, 7, 8, 9, 10, 11] false [
           (none, .mv 49 (.v 5)),
           (none, .mv 50 (.v 6)),
           (none, .mv 51 (.v 7)),
           (none, .call (some 52) 92 false [((.v 49), false), ((.v 50), false), ((.v 51), false)]),
           (none, .asg 48 (.v 52) .copy),
           (none, .extp 53 (.v 48) 0),
           (none, .extp 54 (.v 48) 1),
           (none, .asg 10 (.v 53) .copy),
           (none, .asg 11 (.v 54) .copy)])
         (.seq
          (.region [] [] [1, 5, 6, 7, 8, 9, 10, 11, 12] false [
            (none, .asg 12 (.c (.int .i64 0)) .copy)])
          (.seq
           (.region [] [] [1, 5, 6, 7, 8, 9, 10, 11, 12, 13] false [
             (none, .asg 13 (.c (.int .i64 (-1))) .copy)])
           (.seq
            (.seq
             (.region [] [] [1, 5, 6, 7, 8, 9, 10, 11, 12, 13, 14] false [
               (none, .mv 55 (.v 6)),
               (none, .asg 14 (.v 55) .copy)])
             (.block 0
              (.loop
               (.seq
                (.seq
                 (.region [] [] [1, 5, 6, 7, 8, 9, 10, 11, 12, 13, 14, 58] false [
                   (none, .mv 56 (.v 14)),
                   (none, .mv 57 (.v 7)),
                   (none, .bin 58 .lss (.v 56) (.v 57))])
                 (.cond (.v 58)
                  (.skip [1, 5, 6, 7, 8, 9, 10, 11, 12, 13, 14])
                  (.exit 0 [1, 5, 6, 8, 9, 10, 11, 12, 13])))
                (.seq
                 (.block 1
                  (.seq
                   (.region [(62, 5, false)] [] [1, 5, 6, 7, 8, 9, 10, 11, 12, 13, 14, 15, 16] false [
                     (none, .mv 62 (.v 5)),
                     (none, .mv 63 (.v 14)),
                     (none, .call (some 64) 130 false [((.v 62), false), ((.v 63), false)]),
                     (none, .asg 61 (.v 64) .copy),
                     (none, .extp 65 (.v 61) 0),
                     (none, .extp 66 (.v 61) 1),
                     (none, .asg 15 (.v 65) .copy),
                     (none, .asg 16 (.v 66) .copy)])
                   (.seq
                    (.region [] [] [1, 5, 6, 7, 8, 9, 10, 11, 12, 13, 14, 15, 16, 17] false [
                      (none, .asg 17 (.c (.int .i64 0)) .copy)])
                    (.seq
                     (.seq
                      (.region [] [] [1, 5, 6, 7, 8, 9, 10, 11, 12, 13, 14, 15, 16, 17, 18] false [
                        (none, .asg 18 (.c (.int .i64 0)) .copy)])
                      (.block 2
                       (.loop
                        (.seq
                         (.seq
                          (.region [(68, 5, false)] [] [1, 5, 6, 7, 8, 9, 10, 11, 12, 13, 14, 15, 16, 17, 18, 70] false [
                            (none, .mv 67 (.v 18)),
                            (none, .mv 68 (.v 5)),
                            (none, .len 69 false (.v 68)),
                            (none, .bin 70 .lss (.v 67) (.v 69))])
                          (.cond (.v 70)
                           (.skip [1, 5, 6, 7, 8, 9, 10, 11, 12, 13, 14, 15, 16, 17, 18])
                           (.exit 2 [1, 5, 6, 7, 8, 9, 10, 11, 12, 13, 14, 15, 16, 17])))
                         (.seq
                          (.block 3
                           (.seq
                            (.region [(76, 5, false), (74, 5, false)] [] [1, 5, 6, 7, 8, 9, 10, 11, 12, 13, 14, 15, 16, 17, 18, 19, 20] false [
                              (none, .mv 74 (.v 5)),
                              (none, .mv 75 (.v 18)),
                              (none, .iadr 76 3 (.v 74) (.v 75)),
                              (none, .load 77 true 3 (.v 76) none),
                              (none, .mv 78 (.v 14)),
                              (none, .call (some 79) 129 false [((.v 77), false), ((.v 78), false)]),
                              (none, .asg 73 (.v 79) .copy),
                              (none, .extp 80 (.v 73) 0),
                              (none, .extp 81 (.v 73) 1),
                              (none, .asg 19 (.v 80) .copy),
                              (none, .asg 20 (.v 81) .copy)])
                            (.seq
                             (.region [(84, 5, false), (82, 5, false)] [] [1, 5, 6, 7, 8, 9, 10, 11, 12, 13, 14, 15, 16, 17, 18, 19, 20, 21] false [
                               (none, .mv 82 (.v 5)),
                               (none, .mv 83 (.v 18)),
                               (none, .iadr 84 3 (.v 82) (.v 83)),
                               (none, .load 85 true 3 (.v 84) none),
                               (none, .new 21 (.agg [(.int .i64 0), (.int .i64 0), (.int .i64 0)])),
                               (none, .store 3 (.v 21) (.v 85) .copy)])
                             (.seq
                              (.region [(92, 21, false), (87, 21, false)] [] [1, 5, 6, 7, 8, 9, 10, 11, 12, 13, 14, 15, 16, 17, 18, 19, 20, 21, 22] false [
                                (none, .mv 86 (.v 14)),
                                (none, .fadr 87 0 1 (.v 21)),
                                (none, .load 88 false 1 (.v 87) none),
                                (none, .bin 89 .geq (.v 86) (.v 88)),
                                (none, .mv 90 (.v 89)),
                                (some (90, true), .mv 91 (.v 14)),
                                (some (90, true), .fadr 92 1 1 (.v 21)),
                                (some (90, true), .load 93 false 1 (.v 92) none),
                                (some (90, true), .bin 94 .lss (.v 91) (.v 93)),
                                (none, .pick 95 (.v 90) (.v 94) (.c (.bool false))),
                                (none, .asg 22 (.v 95) .copy)])
                              (.seq
                               (.seq
                                (.region [(167, 21, false), (164, 21, false), (160, 21, false), (146, 21, false), (137, 21, false), (134, 21, false), (130, 21, false), (117, 21, false)] [] [1, 5, 6, 7, 8, 9, 10, 11, 12, 13, 14, 15, 16, 17, 18, 19, 175] false [
                                  (none, .mv 96 (.v 20)),
                                  (none, .bin 97 .neq (.v 96) (.c (.int .i64 0))),
                                  (none, .mv 98 (.v 97)),
                                  (some (98, false), .mv 99 (.v 19)),
                                  (some (98, false), .bin 100 .lss (.v 99) (.c (.int .i64 0))),
                                  (none, .pick 101 (.v 98) (.c (.bool true)) (.v 100)),
                                  (none, .mv 102 (.v 101)),
                                  (some (102, false), .mv 103 (.v 19)),
                                  (some (102, false), .bin 104 .gtr (.v 103) (.c (.int .i64 100))),
                                  (none, .pick 105 (.v 102) (.c (.bool true)) (.v 104)),
                                  (none, .mv 106 (.v 105)),
                                  (some (106, false), .mv 107 (.v 22)),
                                  (some (106, false), .un 108 .not (.v 107)),
                                  (some (106, false), .mv 109 (.v 108)),
                                  (some (109, true), .mv 110 (.v 19)),
                                  (some (109, true), .bin 111 .neq (.v 110) (.c (.int .i64 0))),
                                  (some (106, false), .pick 112 (.v 109) (.v 111) (.c (.bool false))),
                                  (none, .pick 113 (.v 106) (.c (.bool true)) (.v 112)),
                                  (none, .mv 114 (.v 113)),
                                  (some (114, false), .mv 115 (.v 22)),
                                  (some (114, false), .mv 116 (.v 115)),
                                  (some (116, true), .fadr 117 2 1 (.v 21)),
                                  (some (116, true), .load 118 false 1 (.v 117) none),
                                  (some (116, true), .bin 119 .eql (.v 118) (.c (.int .i64 0))),
                                  (some (114, false), .pick 120 (.v 116) (.v 119) (.c (.bool false))),
                                  (some (114, false), .mv 121 (.v 120)),
                                  (some (121, true), .mv 122 (.v 19)),
                                  (some (121, true), .bin 123 .neq (.v 122) (.c (.int .i64 100))),
                                  (some (114, false), .pick 124 (.v 121) (.v 123) (.c (.bool false))),
                                  (none, .pick 125 (.v 114) (.c (.bool true)) (.v 124)),
                                  (none, .mv 126 (.v 125)),
                                  (some (126, false), .mv 127 (.v 22)),
                                  (some (126, false), .mv 128 (.v 127)),
                                  (some (128, true), .mv 129 (.v 19)),
                                  (some (128, true), .fadr 130 2 1 (.v 21)),
                                  (some (128, true), .load 131 false 1 (.v 130) none),
                                  (some (128, true), .bin 132 .mul (.v 129) (.v 131)),
                                  (some (128, true), .mv 133 (.v 14)),
                                  (some (128, true), .fadr 134 0 1 (.v 21)),
                                  (some (128, true), .load 135 false 1 (.v 134) none),
                                  (some (128, true), .bin 136 .sub (.v 133) (.v 135)),
                                  (some (128, true), .fadr 137 1 1 (.v 21)),
                                  (some (128, true), .load 138 false 1 (.v 137) none),
                                  (some (128, true), .mv 139 (.v 14)),
                                  (some (128, true), .bin 140 .sub (.v 138) (.v 139)),
                                  (some (128, true), .mm 141 false (.v 136) [(.v 140)]),
                                  (some (128, true), .bin 142 .mul (.c (.int .i64 100)) (.v 141)),
                                  (some (128, true), .bin 143 .gtr (.v 132) (.v 142)),
                                  (some (126, false), .pick 144 (.v 128) (.v 143) (.c (.bool false))),
                                  (some (126, false), .mv 145 (.v 144)),
                                  (some (145, true), .fadr 146 2 1 (.v 21)),
                                  (some (145, true), .load 147 false 1 (.v 146) none),
                                  (some (145, true), .bin 148 .gtr (.v 147) (.c (.int .i64 0))),
                                  (some (126, false), .pick 149 (.v 145) (.v 148) (.c (.bool false))),
                                  (none, .pick 150 (.v 126) (.c (.bool true)) (.v 149)),
                                  (none, .mv 151 (.v 150)),
                                  (some (151, false), .mv 152 (.v 22)),
                                  (some (151, false), .mv 153 (.v 152)),
                                  (some (153, true), .mv 154 (.v 19)),
                                  (some (153, true), .bin 155 .lss (.v 154) (.c (.int .i64 100))),
                                  (some (151, false), .pick 156 (.v 153) (.v 155) (.c (.bool false))),
                                  (some (151, false), .mv 157 (.v 156)),
                                  (some (157, true), .mv 158 (.v 19)),
                                  (some (157, true), .bin 159 .add (.v 158) (.c (.int .i64 1))),
                                  (some (157, true), .fadr 160 2 1 (.v 21)),
                                  (some (157, true), .load 161 false 1 (.v 160) none),
                                  (some (157, true), .bin 162 .mul (.v 159) (.v 161)),
                                  (some (157, true), .mv 163 (.v 14)),
                                  (some (157, true), .fadr 164 0 1 (.v 21)),
                                  (some (157, true), .load 165 false 1 (.v 164) none),
                                  (some (157, true), .bin 166 .sub (.v 163) (.v 165)),
                                  (some (157, true), .fadr 167 1 1 (.v 21)),
                                  (some (157, true), .load 168 false 1 (.v 167) none),
                                  (some (157, true), .mv 169 (.v 14)),
                                  (some (157, true), .bin 170 .sub (.v 168) (.v 169)),
                                  (some (157, true), .mm 171 false (.v 166) [(.v 170)]),
                                  (some (157, true), .bin 172 .mul (.c (.int .i64 100)) (.v 171)),
                                  (some (157, true), .bin 173 .leq (.v 162) (.v 172)),
                                  (some (151, false), .pick 174 (.v 157) (.v 173) (.c (.bool false))),
                                  (none, .pick 175 (.v 151) (.c (.bool true)) (.v 174))])
                                (.cond (.v 175)
                                 (.seq
                                  (.region [] [] [4] false [
                                    (none, .asg 4 (.c (.bool false)) .copy)])
                                  (.ret [4]))
                                 (.skip [1, 5, 6, 7, 8, 9, 10, 11, 12, 13, 14, 15, 16, 17, 18, 19])))
                               (.region [] [] [1, 5, 6, 7, 8, 9, 10, 11, 12, 13, 14, 15, 16, 17, 18] false [
                                 (none, .mv 176 (.v 17)),
                                 (none, .mv 177 (.v 19)),
                                 (none, .bin 178 .add (.v 176) (.v 177)),
                                 (none, .asg 17 (.v 178) .copy)]))))))
                          (.region [] [] [1, 5, 6, 7, 8, 9, 10, 11, 12, 13, 14, 15, 16, 17, 18] false [
                            (none, .mv 71 (.v 18)),
                            (none, .bin 72 .add (.v 71) (.c (.int .i64 1))),
                            (none, .asg 18 (.v 72) .copy)]))))))
                     (.seq
                      (.seq
                       (.region [] [] [1, 5, 6, 7, 8, 9, 10, 11, 12, 13, 14, 17, 185] false [
                         (none, .mv 179 (.v 16)),
                         (none, .bin 180 .neq (.v 179) (.c (.int .i64 0))),
                         (none, .mv 181 (.v 180)),
                         (some (181, false), .mv 182 (.v 15)),
                         (some (181, false), .mv 183 (.v 17)),
                         (some (181, false), .bin 184 .neq (.v 182) (.v 183)),
                         (none, .pick 185 (.v 181) (.c (.bool true)) (.v 184))])
                       (.cond (.v 185)
                        (.seq
                         (.region [] [] [4] false [
                           (none, .asg 4 (.c (.bool false)) .copy)])
                         (.ret [4]))
                        (.skip [1, 5, 6, 7, 8, 9, 10, 11, 12, 13, 14, 17])))
                      (.seq
                       (.region [] [] [1, 5, 6, 7, 8, 9, 10, 11, 12, 13, 14, 187] false [
                         (none, .mv 186 (.v 17)),
                         (none, .bin 187 .eql (.v 186) (.c (.int .i64 0)))])
                       (.cond (.v 187)
                        (.seq
                         (.region [] [] [1, 5, 6, 7, 8, 9, 10, 11, 12, 13, 14] false [
                           (none, .mv 188 (.v 12)),
                           (none, .bin 189 .add (.v 188) (.c (.int .i64 1))),
                           (none, .asg 12 (.v 189) .copy)])
                         (.seq
                          (.region [] [] [1, 5, 6, 7, 8, 9, 10, 11, 12, 13, 14, 191] false [
                            (none, .mv 190 (.v 13)),
                            (none, .bin 191 .lss (.v 190) (.c (.int .i64 0)))])
                          (.cond (.v 191)
                           (.region [] [] [1, 5, 6, 7, 8, 9, 10, 11, 12, 13, 14] false [
                             (none, .mv 192 (.v 14)),
                             (none, .asg 13 (.v 192) .copy)])
                           (.skip [1, 5, 6, 7, 8, 9, 10, 11, 12, 13, 14]))))
                        (.skip [1, 5, 6, 7, 8, 9, 10, 11, 12, 13, 14]))))))))
                 (.region [] [] [1, 5, 6, 7, 8, 9, 10, 11, 12, 13, 14] false [
                   (none, .mv 59 (.v 14)),
                   (none, .bin 60 .add (.v 59) (.c (.int .i64 1))),
                   (none, .asg 14 (.v 60) .copy)]))))))
            (.seq
             (.seq
              (.region [] [] [1, 5, 6, 220] false [
                (none, .mv 193 (.v 9)),
                (none, .bin 194 .neq (.v 193) (.c (.int .i64 0))),
                (none, .mv 195 (.v 194)),
                (some (195, false), .mv 196 (.v 8)),
                (some (195, false), .mv 197 (.v 12)),
                (some (195, false), .bin 198 .neq (.v 196) (.v 197)),
                (none, .pick 199 (.v 195) (.c (.bool true)) (.v 198)),
                (none, .mv 200 (.v 199)),
                (some (200, false), .mv 201 (.v 13)),
                (some (200, false), .bin 202 .lss (.v 201) (.c (.int .i64 0))),
                (some (200, false), .mv 203 (.v 202)),
                (some (203, true), .mv 204 (.v 11)),
                (some (203, true), .bin 205 .neq (.v 204) (.c (.int .i64 3))),
                (some (200, false), .pick 206 (.v 203) (.v 205) (.c (.bool false))),
                (none, .pick 207 (.v 200) (.c (.bool true)) (.v 206)),
                (none, .mv 208 (.v 207)),
                (some (208, false), .mv 209 (.v 13)),
                (some (208, false), .bin 210 .geq (.v 209) (.c (.int .i64 0))),
                (some (208, false), .mv 211 (.v 210)),
                (some (211, true), .mv 212 (.v 11)),
                (some (211, true), .bin 213 .neq (.v 212) (.c (.int .i64 0))),
                (some (211, true), .mv 214 (.v 213)),
                (some (214, false), .mv 215 (.v 10)),
                (some (214, false), .mv 216 (.v 13)),
                (some (214, false), .bin 217 .neq (.v 215) (.v 216)),
                (some (211, true), .pick 218 (.v 214) (.c (.bool true)) (.v 217)),
                (some (208, false), .pick 219 (.v 211) (.v 218) (.c (.bool false))),
                (none, .pick 220 (.v 208) (.c (.bool true)) (.v 219))])
              (.cond (.v 220)
               (.seq
                (.region [] [] [4] false [
                  (none, .asg 4 (.c (.bool false)) .copy)])
                (.ret [4]))
               (.skip [1, 5, 6])))
             (.seq
              (.seq
               (.region [(221, 5, false)] [] [1, 5, 6, 223] false [
                 (none, .mv 221 (.v 5)),
                 (none, .len 222 false (.v 221)),
                 (none, .bin 223 .eql (.v 222) (.c (.int .i64 0)))])
               (.cond (.v 223)
                (.seq
                 (.region [] [] [4] false [
                   (none, .asg 4 (.c (.bool true)) .copy)])
                 (.ret [4]))
                (.skip [1, 5, 6])))
              (.seq
               (.region [(224, 1, false)] [] [5, 6, 23] false [
                 (none, .mv 224 (.v 1)),
                 (none, .call (some 225) 384 false [((.v 224), false), ((.c (.int .i64 2)), false), ((.c (.int .i64 20)), false)]),
                 (none, .asg 23 (.v 225) .copy)])
               (.seq
                (.region [(227, 5, false)] [] [5, 6, 23, 24, 25] false [
                  (none, .mv 227 (.v 5)),
                  (none, .mv 228 (.v 23)),
                  (none, .call (some 229) 149 false [((.v 227), false), ((.c (.int .i64 0)), false), ((.v 228), false)]),
                  (none, .asg 226 (.v 229) .move),
                  (none, .ext 230 (.v 226) 0),
                  (none, .extp 231 (.v 226) 1),
                  (none, .asg 24 (.v 230) .move),
                  (none, .asg 25 (.v 231) .copy)])
                (.seq
                 (.seq
                  (.region [(237, 5, false), (235, 24, false)] [] [5, 6, 23, 24, 240] false [
                    (none, .mv 232 (.v 25)),
                    (none, .bin 233 .neq (.v 232) (.c (.int .i64 0))),
                    (none, .mv 234 (.v 233)),
                    (some (234, false), .mv 235 (.v 24)),
                    (some (234, false), .len 236 false (.v 235)),
                    (some (234, false), .mv 237 (.v 5)),
                    (some (234, false), .len 238 false (.v 237)),
                    (some (234, false), .bin 239 .neq (.v 236) (.v 238)),
                    (none, .pick 240 (.v 234) (.c (.bool true)) (.v 239))])
                  (.cond (.v 240)
                   (.seq
                    (.region [] [] [4] false [
                      (none, .asg 4 (.c (.bool false)) .copy)])
                    (.ret [4]))
                   (.skip [5, 6, 23, 24])))
                 (.seq
                  (.region [(243, 5, false), (242, 5, false)] [] [6, 23, 24, 26, 27] false [
                    (none, .mv 242 (.v 5)),
                    (none, .iadr 243 3 (.v 242) (.c (.int .i64 0))),
                    (none, .load 244 true 3 (.v 243) none),
                    (none, .mv 245 (.v 6)),
                    (none, .call (some 246) 129 false [((.v 244), false), ((.v 245), false)]),
                    (none, .asg 241 (.v 246) .copy),
                    (none, .extp 247 (.v 241) 0),
                    (none, .extp 248 (.v 241) 1),
                    (none, .asg 26 (.v 247) .copy),
                    (none, .asg 27 (.v 248) .copy)])
                  (.seq
                   (.region [(251, 24, false), (250, 24, false)] [] [26, 27, 28, 29] false [
                     (none, .mv 250 (.v 24)),
                     (none, .iadr 251 3 (.v 250) (.c (.int .i64 0))),
                     (none, .load 252 true 3 (.v 251) none),
                     (none, .mv 253 (.v 6)),
                     (none, .mv 254 (.v 23)),
                     (none, .bin 255 .add (.v 253) (.v 254)),
                     (none, .call (some 256) 129 false [((.v 252), false), ((.v 255), false)]),
                     (none, .asg 249 (.v 256) .copy),
                     (none, .extp 257 (.v 249) 0),
                     (none, .extp 258 (.v 249) 1),
                     (none, .asg 28 (.v 257) .copy),
                     (none, .asg 29 (.v 258) .copy)])
                   (.seq
                    (.region [] [] [4] false [
                      (none, .mv 259 (.v 27)),
                      (none, .bin 260 .eql (.v 259) (.c (.int .i64 0))),
                      (none, .mv 261 (.v 260)),
                      (some (261, true), .mv 262 (.v 29)),
                      (some (261, true), .bin 263 .eql (.v 262) (.c (.int .i64 0))),
                      (none, .pick 264 (.v 261) (.v 263) (.c (.bool false))),
                      (none, .mv 265 (.v 264)),
                      (some (265, true), .mv 266 (.v 26)),
                      (some (265, true), .mv 267 (.v 28)),
                      (some (265, true), .bin 268 .eql (.v 266) (.v 267)),
                      (none, .pick 269 (.v 265) (.v 268) (.c (.bool false))),
                      (none, .asg 4 (.v 269) .copy)])
                    (.ret [4])))))))))))))))))))⟩
def tabl : List (Nat × PFunc) := [(19, F19), (20, F20), (289, F289), (326, F326), (231, F231), (828, F828), (806, F806), (230, F230), (316, F316), (72, F72), (92, F92), (130, F130), (129, F129), (149, F149), (384, F384), (386, F386), (603, F603), (5, F5), (7, F7), (606, F606), (717, F717), (434, F434), (333, F333)]
def T : Nat → Option PFunc := tabOf tabl
end Go.Vs.G
