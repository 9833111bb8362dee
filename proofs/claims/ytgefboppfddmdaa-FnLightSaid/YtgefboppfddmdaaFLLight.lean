/- The functions that the law reaches, in the small language, printed by program. No conditions. -/
import Derived.Test.YtgefboppfddmdaaDLLight
import Derived.Test.YtgefboppfddmdaaV4
set_option maxRecDepth 100000
open Go Go.Vs
namespace Go.Vs.G
def F269 : PFunc :=
 ⟨[false, false], [.tmp 4],
  (.seq
   (.region [] [] [0, 1] false [
     (none, .asg 4 (.c (.int .i64 0)) .copy)])
   (.seq
    (.block 0
     (.loop
      (.seq
       (.seq
        (.region [] [] [0, 1, 6] false [
          (none, .mv 5 (.v 1)),
          (none, .bin 6 .neq (.v 5) (.c (.int .i64 0)))])
        (.cond (.v 6)
         (.skip [0, 1])
         (.exit 0 [0])))
       (.block 1
        (.region [] [] [0, 1] true [
          (none, .mv 7 (.v 1)),
          (none, .mv 8 (.v 0)),
          (none, .mv 9 (.v 1)),
          (none, .bin 10 .rem (.v 8) (.v 9)),
          (none, .asg 0 (.v 7) .copy),
          (none, .asg 1 (.v 10) .copy)])))))
    (.seq
     (.region [] [] [4] false [
       (none, .mv 11 (.v 0)),
       (none, .mv 12 (.v 0)),
       (none, .un 13 .neg (.v 12)),
       (none, .mm 14 true (.v 11) [(.v 13)]),
       (none, .asg 4 (.v 14) .copy)])
     (.ret [4]))))⟩
def F326 : PFunc :=
 ⟨[false, false, false], [.tmp 6],
  (.seq
   (.region [] [] [0, 1, 2] false [
     (none, .asg 6 (.c (.bool false)) .copy)])
   (.seq
    (.region [] [] [6] false [
      (none, .mv 7 (.v 0)),
      (none, .mv 8 (.v 1)),
      (none, .bin 9 .geq (.v 7) (.v 8)),
      (none, .mv 10 (.v 9)),
      (some (10, true), .mv 11 (.v 0)),
      (some (10, true), .mv 12 (.v 2)),
      (some (10, true), .bin 13 .leq (.v 11) (.v 12)),
      (none, .pick 14 (.v 10) (.v 13) (.c (.bool false))),
      (none, .asg 6 (.v 14) .copy)])
    (.ret [6])))⟩
def F213 : PFunc :=
 ⟨[false], [.tmp 2],
  (.seq
   (.region [] [] [1] false [
     (none, .box 1 (.v 0) .copy),
     (none, .asg 2 (.c (.bool false)) .copy)])
   (.seq
    (.region [(14, 1, false), (12, 1, false), (7, 1, false), (3, 1, false)] [] [2] false [
      (none, .fadr 3 1 1 (.v 1)),
      (none, .load 4 false 1 (.v 3) none),
      (none, .call (some 5) 326 false [((.v 4), false), ((.c (.int .i64 1)), false), ((.c (.int .i64 1000000)), false)]),
      (none, .mv 6 (.v 5)),
      (some (6, true), .fadr 7 0 1 (.v 1)),
      (some (6, true), .load 8 false 1 (.v 7) none),
      (some (6, true), .call (some 9) 326 false [((.v 8), false), ((.c (.int .i64 (-1000000))), false), ((.c (.int .i64 1000000)), false)]),
      (none, .pick 10 (.v 6) (.v 9) (.c (.bool false))),
      (none, .mv 11 (.v 10)),
      (some (11, true), .fadr 12 0 1 (.v 1)),
      (some (11, true), .load 13 false 1 (.v 12) none),
      (some (11, true), .fadr 14 1 1 (.v 1)),
      (some (11, true), .load 15 false 1 (.v 14) none),
      (some (11, true), .call (some 16) 269 false [((.v 13), false), ((.v 15), false)]),
      (some (11, true), .bin 17 .eql (.v 16) (.c (.int .i64 1))),
      (none, .pick 18 (.v 11) (.v 17) (.c (.bool false))),
      (none, .asg 2 (.v 18) .copy)])
    (.ret [2])))⟩
def F292 : PFunc :=
 ⟨[false, false], [.cell 4 true 2],
  (.seq
   (.region [] [] [0, 1, 4] false [
     (none, .new 4 (.agg [(.int .i64 0), (.int .i64 0)]))])
   (.seq
    (.seq
     (.region [] [] [0, 1, 4, 7] false [
       (none, .mv 6 (.v 1)),
       (none, .bin 7 .lss (.v 6) (.c (.int .i64 0)))])
     (.cond (.v 7)
      (.region [] [] [0, 1, 4] false [
        (none, .mv 8 (.v 0)),
        (none, .un 9 .neg (.v 8)),
        (none, .mv 10 (.v 1)),
        (none, .un 11 .neg (.v 10)),
        (none, .asg 0 (.v 9) .copy),
        (none, .asg 1 (.v 11) .copy)])
      (.skip [0, 1, 4])))
    (.seq
     (.region [] [] [0, 1, 4, 5] false [
       (none, .mv 12 (.v 0)),
       (none, .mv 13 (.v 1)),
       (none, .call (some 14) 269 false [((.v 12), false), ((.v 13), false)]),
       (none, .asg 5 (.v 14) .copy)])
     (.seq
      (.region [] [] [4] true [
        (none, .mv 15 (.v 0)),
        (none, .mv 16 (.v 5)),
        (none, .bin 17 .quo (.v 15) (.v 16)),
        (none, .mv 18 (.v 1)),
        (none, .mv 19 (.v 5)),
        (none, .bin 20 .quo (.v 18) (.v 19)),
        (none, .build 21 [(.int .i64 0), (.int .i64 0)] [(0, 1, (.v 17), .copy), (1, 1, (.v 20), .copy)]),
        (none, .store 2 (.v 4) (.v 21) .copy)])
      (.ret [4])))))⟩
def F254 : PFunc :=
 ⟨[false, false, false], [.cell 6 true 2],
  (.seq
   (.region [] [] [1, 2, 3, 6] false [
     (none, .box 3 (.v 0) .copy),
     (none, .new 6 (.agg [(.int .i64 0), (.int .i64 0)]))])
   (.seq
    (.region [(13, 3, false), (7, 3, false)] [] [6] false [
      (none, .fadr 7 0 1 (.v 3)),
      (none, .load 8 false 1 (.v 7) none),
      (none, .mv 9 (.v 1)),
      (none, .bin 10 .mul (.v 8) (.v 9)),
      (none, .mv 11 (.v 1)),
      (none, .bin 12 .mul (.v 10) (.v 11)),
      (none, .fadr 13 1 1 (.v 3)),
      (none, .load 14 false 1 (.v 13) none),
      (none, .mv 15 (.v 2)),
      (none, .bin 16 .mul (.v 14) (.v 15)),
      (none, .mv 17 (.v 2)),
      (none, .bin 18 .mul (.v 16) (.v 17)),
      (none, .call (some 19) 292 false [((.v 12), false), ((.v 18), false)]),
      (none, .store 2 (.v 6) (.v 19) .copy)])
    (.ret [6])))⟩
def F274 : PFunc :=
 ⟨[false], [.tmp 2],
  (.seq
   (.region [] [] [1] false [
     (none, .box 1 (.v 0) .copy),
     (none, .asg 2 (.c (.bool false)) .copy)])
   (.seq
    (.region [(7, 1, false), (3, 1, false)] [] [2] false [
      (none, .fadr 3 0 1 (.v 1)),
      (none, .load 4 false 1 (.v 3) none),
      (none, .call (some 5) 326 false [((.v 4), false), ((.c (.int .i64 0)), false), ((.c (.int .i64 100000)), false)]),
      (none, .mv 6 (.v 5)),
      (some (6, true), .fadr 7 1 1 (.v 1)),
      (some (6, true), .load 8 false 1 (.v 7) none),
      (some (6, true), .bin 9 .leq (.v 8) (.c (.int .i64 100000))),
      (none, .pick 10 (.v 6) (.v 9) (.c (.bool false))),
      (none, .asg 2 (.v 10) .copy)])
    (.ret [2])))⟩
def F280 : PFunc :=
 ⟨[false], [.tmp 2],
  (.seq
   (.region [] [] [0] false [
     (none, .asg 2 (.c (.bool false)) .copy)])
   (.seq
    (.region [] [] [2] false [
      (none, .mv 3 (.v 0)),
      (none, .call (some 4) 326 false [((.v 3), false), ((.c (.int .i64 1)), false), ((.c (.int .i64 1000)), false)]),
      (none, .asg 2 (.v 4) .copy)])
    (.ret [2])))⟩
def F59 : PFunc :=
 ⟨[false, false, false], [.cell 6 true 2, .tmp 7],
  (.seq
   (.region [] [] [1, 2, 3, 6] false [
     (none, .box 3 (.v 0) .copy),
     (none, .new 6 (.agg [(.int .i64 0), (.int .i64 0)])),
     (none, .asg 7 (.c (.int .i64 0)) .copy)])
   (.seq
    (.block 0
     (.seq
      (.region [] [] [1, 2, 3, 6, 8] false [
        (none, .load 9 true 2 (.v 3) none),
        (none, .call (some 10) 213 false [((.v 9), false)]),
        (none, .un 11 .not (.v 10)),
        (none, .asg 8 (.v 11) .copy)])
      (.cond (.v 8)
       (.seq
        (.region [] [] [6, 7] false [
          (none, .build 12 [(.int .i64 0), (.int .i64 0)] []),
          (none, .store 2 (.v 6) (.v 12) .copy),
          (none, .asg 7 (.c (.int .i64 1)) .copy)])
        (.ret [6, 7]))
       (.seq
        (.region [] [] [1, 2, 3, 6, 13] false [
          (none, .load 14 true 2 (.v 3) none),
          (none, .call (some 15) 274 false [((.v 14), false)]),
          (none, .un 16 .not (.v 15)),
          (none, .mv 17 (.v 16)),
          (some (17, false), .mv 18 (.v 1)),
          (some (17, false), .call (some 19) 280 false [((.v 18), false)]),
          (some (17, false), .un 20 .not (.v 19)),
          (none, .pick 21 (.v 17) (.c (.bool true)) (.v 20)),
          (none, .mv 22 (.v 21)),
          (some (22, false), .mv 23 (.v 2)),
          (some (22, false), .call (some 24) 280 false [((.v 23), false)]),
          (some (22, false), .un 25 .not (.v 24)),
          (none, .pick 26 (.v 22) (.c (.bool true)) (.v 25)),
          (none, .asg 13 (.v 26) .copy)])
        (.cond (.v 13)
         (.seq
          (.region [] [] [6, 7] false [
            (none, .build 27 [(.int .i64 0), (.int .i64 0)] []),
            (none, .store 2 (.v 6) (.v 27) .copy),
            (none, .asg 7 (.c (.int .i64 2)) .copy)])
          (.ret [6, 7]))
         (.skip [1, 2, 3, 6]))))))
    (.seq
     (.region [] [] [6, 7] false [
       (none, .load 28 true 2 (.v 3) none),
       (none, .mv 29 (.v 1)),
       (none, .mv 30 (.v 2)),
       (none, .call (some 31) 254 false [((.v 28), false), ((.v 29), false), ((.v 30), false)]),
       (none, .store 2 (.v 6) (.v 31) .copy),
       (none, .asg 7 (.c (.int .i64 0)) .copy)])
     (.ret [6, 7]))))⟩
def F60 : PFunc :=
 ⟨[false, false, false], [.cell 6 true 2, .tmp 7],
  (.seq
   (.region [] [] [0, 1, 2, 6] false [
     (none, .new 6 (.agg [(.int .i64 0), (.int .i64 0)])),
     (none, .asg 7 (.c (.int .i64 0)) .copy)])
   (.seq
    (.seq
     (.region [] [] [0, 1, 2, 6, 20] false [
       (none, .mv 8 (.v 1)),
       (none, .call (some 9) 280 false [((.v 8), false)]),
       (none, .un 10 .not (.v 9)),
       (none, .mv 11 (.v 10)),
       (some (11, false), .mv 12 (.v 2)),
       (some (11, false), .call (some 13) 280 false [((.v 12), false)]),
       (some (11, false), .un 14 .not (.v 13)),
       (none, .pick 15 (.v 11) (.c (.bool true)) (.v 14)),
       (none, .mv 16 (.v 15)),
       (some (16, false), .mv 17 (.v 0)),
       (some (16, false), .call (some 18) 326 false [((.v 17), false), ((.c (.int .i64 0)), false), ((.c (.int .i64 100000)), false)]),
       (some (16, false), .un 19 .not (.v 18)),
       (none, .pick 20 (.v 16) (.c (.bool true)) (.v 19))])
     (.cond (.v 20)
      (.seq
       (.region [] [] [6, 7] false [
         (none, .build 21 [(.int .i64 0), (.int .i64 0)] []),
         (none, .store 2 (.v 6) (.v 21) .copy),
         (none, .asg 7 (.c (.int .i64 2)) .copy)])
       (.ret [6, 7]))
      (.skip [0, 1, 2, 6])))
    (.seq
     (.region [] [] [6, 7] false [
       (none, .mv 22 (.v 0)),
       (none, .mv 23 (.v 1)),
       (none, .mv 24 (.v 2)),
       (none, .bin 25 .mul (.v 23) (.v 24)),
       (none, .call (some 26) 292 false [((.v 22), false), ((.v 25), false)]),
       (none, .store 2 (.v 6) (.v 26) .copy),
       (none, .asg 7 (.c (.int .i64 0)) .copy)])
     (.ret [6, 7]))))⟩
def F68 : PFunc :=
 ⟨[false, false], [.cell 4 true 2, .tmp 5],
  (.seq
   (.region [] [] [0, 1, 4] false [
     (none, .new 4 (.agg [(.int .i64 0), (.int .i64 0)])),
     (none, .asg 5 (.c (.int .i64 0)) .copy)])
   (.seq
    (.seq
     (.region [] [] [0, 1, 4, 14] false [
       (none, .mv 7 (.v 0)),
       (none, .call (some 8) 280 false [((.v 7), false)]),
       (none, .un 9 .not (.v 8)),
       (none, .mv 10 (.v 9)),
       (some (10, false), .mv 11 (.v 1)),
       (some (10, false), .call (some 12) 326 false [((.v 11), false), ((.c (.int .i64 0)), false), ((.c (.int .i64 1000)), false)]),
       (some (10, false), .un 13 .not (.v 12)),
       (none, .pick 14 (.v 10) (.c (.bool true)) (.v 13))])
     (.cond (.v 14)
      (.seq
       (.region [] [] [4, 5] false [
         (none, .build 15 [(.int .i64 0), (.int .i64 0)] []),
         (none, .store 2 (.v 4) (.v 15) .copy),
         (none, .asg 5 (.c (.int .i64 2)) .copy)])
       (.ret [4, 5]))
      (.skip [0, 1, 4])))
    (.seq
     (.region [] [] [4, 6] false [
       (none, .mv 16 (.v 0)),
       (none, .mv 17 (.v 0)),
       (none, .bin 18 .mul (.v 16) (.v 17)),
       (none, .mv 19 (.v 0)),
       (none, .mv 20 (.v 0)),
       (none, .bin 21 .mul (.v 19) (.v 20)),
       (none, .mv 22 (.v 1)),
       (none, .mv 23 (.v 1)),
       (none, .bin 24 .mul (.v 22) (.v 23)),
       (none, .bin 25 .add (.v 21) (.v 24)),
       (none, .call (some 26) 292 false [((.v 18), false), ((.v 25), false)]),
       (none, .new 6 (.agg [(.int .i64 0), (.int .i64 0)])),
       (none, .store 2 (.v 6) (.v 26) .copy)])
     (.seq
      (.region [(34, 6, false), (32, 6, false), (29, 6, false), (27, 6, false)] [] [4, 5] false [
        (none, .fadr 27 0 1 (.v 6)),
        (none, .load 28 false 1 (.v 27) none),
        (none, .fadr 29 0 1 (.v 6)),
        (none, .load 30 false 1 (.v 29) none),
        (none, .bin 31 .mul (.v 28) (.v 30)),
        (none, .fadr 32 1 1 (.v 6)),
        (none, .load 33 false 1 (.v 32) none),
        (none, .fadr 34 1 1 (.v 6)),
        (none, .load 35 false 1 (.v 34) none),
        (none, .bin 36 .mul (.v 33) (.v 35)),
        (none, .call (some 37) 292 false [((.v 31), false), ((.v 36), false)]),
        (none, .store 2 (.v 4) (.v 37) .copy),
        (none, .asg 5 (.c (.int .i64 0)) .copy)])
      (.ret [4, 5])))))⟩
def F83 : PFunc :=
 ⟨[false, false, false], [.tmp 6, .tmp 7],
  (.seq
   (.region [] [] [1, 3, 5] false [
     (none, .box 3 (.v 0) .copy),
     (none, .box 5 (.v 2) .copy),
     (none, .asg 6 (.c (.int .i64 0)) .copy),
     (none, .asg 7 (.c (.int .i64 0)) .copy)])
   (.seq
    (.block 0
     (.seq
      (.region [] [] [1, 3, 5, 9] false [
        (none, .load 10 true 2 (.v 3) none),
        (none, .call (some 11) 213 false [((.v 10), false)]),
        (none, .un 12 .not (.v 11)),
        (none, .mv 13 (.v 12)),
        (some (13, false), .load 14 true 2 (.v 5) none),
        (some (13, false), .call (some 15) 213 false [((.v 14), false)]),
        (some (13, false), .un 16 .not (.v 15)),
        (none, .pick 17 (.v 13) (.c (.bool true)) (.v 16)),
        (none, .asg 9 (.v 17) .copy)])
      (.cond (.v 9)
       (.seq
        (.region [] [] [6, 7] false [
          (none, .asg 6 (.c (.int .i64 0)) .copy),
          (none, .asg 7 (.c (.int .i64 1)) .copy)])
        (.ret [6, 7]))
       (.seq
        (.region [] [] [1, 3, 5, 18] false [
          (none, .load 19 true 2 (.v 3) none),
          (none, .call (some 20) 274 false [((.v 19), false)]),
          (none, .un 21 .not (.v 20)),
          (none, .mv 22 (.v 21)),
          (some (22, false), .mv 23 (.v 1)),
          (some (22, false), .call (some 24) 280 false [((.v 23), false)]),
          (some (22, false), .un 25 .not (.v 24)),
          (none, .pick 26 (.v 22) (.c (.bool true)) (.v 25)),
          (none, .mv 27 (.v 26)),
          (some (27, false), .load 28 true 2 (.v 5) none),
          (some (27, false), .call (some 29) 274 false [((.v 28), false)]),
          (some (27, false), .un 30 .not (.v 29)),
          (none, .pick 31 (.v 27) (.c (.bool true)) (.v 30)),
          (none, .asg 18 (.v 31) .copy)])
        (.cond (.v 18)
         (.seq
          (.region [] [] [6, 7] false [
            (none, .asg 6 (.c (.int .i64 0)) .copy),
            (none, .asg 7 (.c (.int .i64 2)) .copy)])
          (.ret [6, 7]))
         (.skip [1, 3, 5]))))))
    (.seq
     (.seq
      (.region [] [] [1, 3, 5, 8] false [
        (none, .asg 8 (.c (.int .i64 1000)) .copy)])
      (.block 1
       (.loop
        (.seq
         (.seq
          (.region [] [] [1, 3, 5, 8, 33] false [
            (none, .mv 32 (.v 8)),
            (none, .bin 33 .geq (.v 32) (.c (.int .i64 1)))])
          (.cond (.v 33)
           (.skip [1, 3, 5, 8])
           (.exit 1 [])))
         (.seq
          (.block 2
           (.seq
            (.region [(47, 3, false), (45, 5, false), (42, 5, false), (36, 3, false)] [] [1, 3, 5, 8, 54] false [
              (none, .fadr 36 0 1 (.v 3)),
              (none, .load 37 false 1 (.v 36) none),
              (none, .mv 38 (.v 1)),
              (none, .bin 39 .mul (.v 37) (.v 38)),
              (none, .mv 40 (.v 1)),
              (none, .bin 41 .mul (.v 39) (.v 40)),
              (none, .fadr 42 1 1 (.v 5)),
              (none, .load 43 false 1 (.v 42) none),
              (none, .bin 44 .mul (.v 41) (.v 43)),
              (none, .fadr 45 0 1 (.v 5)),
              (none, .load 46 false 1 (.v 45) none),
              (none, .fadr 47 1 1 (.v 3)),
              (none, .load 48 false 1 (.v 47) none),
              (none, .bin 49 .mul (.v 46) (.v 48)),
              (none, .mv 50 (.v 8)),
              (none, .bin 51 .mul (.v 49) (.v 50)),
              (none, .mv 52 (.v 8)),
              (none, .bin 53 .mul (.v 51) (.v 52)),
              (none, .bin 54 .geq (.v 44) (.v 53))])
            (.cond (.v 54)
             (.seq
              (.region [] [] [6, 7] false [
                (none, .mv 55 (.v 8)),
                (none, .asg 6 (.v 55) .copy),
                (none, .asg 7 (.c (.int .i64 0)) .copy)])
              (.ret [6, 7]))
             (.skip [1, 3, 5, 8]))))
          (.region [] [] [1, 3, 5, 8] false [
            (none, .mv 34 (.v 8)),
            (none, .bin 35 .sub (.v 34) (.c (.int .i64 1))),
            (none, .asg 8 (.v 35) .copy)]))))))
     (.seq
      (.region [] [] [6, 7] false [
        (none, .asg 6 (.c (.int .i64 0)) .copy),
        (none, .asg 7 (.c (.int .i64 3)) .copy)])
      (.ret [6, 7])))))⟩
def F133 : PFunc :=
 ⟨[false], [.tmp 2],
  (.seq
   (.region [] [] [0] false [
     (none, .asg 2 (.c (.bool false)) .copy)])
   (.seq
    (.region [] [] [2] false [
      (none, .mv 3 (.v 0)),
      (none, .call (some 4) 326 false [((.v 3), false), ((.c (.int .i64 0)), false), ((.c (.int .i64 1000)), false)]),
      (none, .un 5 .not (.v 4)),
      (none, .asg 2 (.v 5) .copy)])
    (.ret [2])))⟩
def F818 : PFunc :=
 ⟨[false, false], [.tmp 4],
  (.seq
   (.region [] [] [0, 1] false [
     (none, .asg 4 (.c (.int .i64 0)) .copy)])
   (.seq
    (.seq
     (.region [(6, 0, false)] [] [0, 1, 7, 8] false [
       (none, .mv 6 (.v 0)),
       (none, .len 7 false (.v 6)),
       (none, .mv 8 (.c (.int .i64 0)))])
     (.block 0
      (.loop
       (.seq
        (.region [] [] [0, 1, 7, 8, 9] false [
          (none, .bin 9 .lss (.v 8) (.v 7))])
        (.seq
         (.cond (.v 9)
          (.skip [0, 1, 7, 8])
          (.exit 0 []))
         (.seq
          (.block 1
           (.seq
            (.region [] [] [0, 1, 5, 7, 8] false [
              (none, .mv 10 (.v 8)),
              (none, .asg 5 (.v 10) .copy)])
            (.seq
             (.region [(14, 0, false), (12, 0, false), (11, 1, false)] [] [0, 1, 5, 7, 8, 16] false [
               (none, .mv 11 (.v 1)),
               (none, .mv 12 (.v 0)),
               (none, .mv 13 (.v 5)),
               (none, .iadr 14 1 (.v 12) (.v 13)),
               (none, .load 15 false 1 (.v 14) none),
               (none, .callv (some 16) (.v 11) [(.v 15)])])
             (.cond (.v 16)
              (.seq
               (.region [] [] [4] false [
                 (none, .mv 17 (.v 5)),
                 (none, .asg 4 (.v 17) .copy)])
               (.ret [4]))
              (.skip [0, 1, 7, 8])))))
          (.region [] [] [0, 1, 7, 8] false [
            (none, .bin 18 .add (.v 8) (.c (.int .i64 1))),
            (none, .mv 8 (.v 18))])))))))
    (.seq
     (.region [] [] [4] false [
       (none, .asg 4 (.c (.int .i64 (-1))) .copy)])
     (.ret [4]))))⟩
def F796 : PFunc :=
 ⟨[false, false], [.tmp 4],
  (.seq
   (.region [] [] [0, 1] false [
     (none, .asg 4 (.c (.bool false)) .copy)])
   (.seq
    (.region [(6, 1, false), (5, 0, false)] [] [4] false [
      (none, .mv 5 (.v 0)),
      (none, .mv 6 (.v 1)),
      (none, .call (some 7) 818 false [((.v 5), false), ((.v 6), false)]),
      (none, .bin 8 .geq (.v 7) (.c (.int .i64 0))),
      (none, .asg 4 (.v 8) .copy)])
    (.ret [4])))⟩
def F132 : PFunc :=
 ⟨[false, false], [.cell 4 true 2, .tmp 5],
  (.seq
   (.region [] [] [0, 1, 4] false [
     (none, .new 4 (.agg [(.int .i64 0), (.int .i64 0)])),
     (none, .asg 5 (.c (.int .i64 0)) .copy)])
   (.seq
    (.seq
     (.region [(19, 1, false), (14, 1, false)] [] [0, 1, 4, 21] false [
       (none, .mv 10 (.v 0)),
       (none, .call (some 11) 326 false [((.v 10), false), ((.c (.int .i64 0)), false), ((.c (.int .i64 100000)), false)]),
       (none, .un 12 .not (.v 11)),
       (none, .mv 13 (.v 12)),
       (some (13, false), .mv 14 (.v 1)),
       (some (13, false), .len 15 false (.v 14)),
       (some (13, false), .bin 16 .gtr (.v 15) (.c (.int .i64 4))),
       (none, .pick 17 (.v 13) (.c (.bool true)) (.v 16)),
       (none, .mv 18 (.v 17)),
       (some (18, false), .mv 19 (.v 1)),
       (some (18, false), .call (some 20) 796 false [((.v 19), false), ((.c (.fn 133 [])), false)]),
       (none, .pick 21 (.v 18) (.c (.bool true)) (.v 20))])
     (.cond (.v 21)
      (.seq
       (.region [] [] [4, 5] false [
         (none, .build 22 [(.int .i64 0), (.int .i64 0)] []),
         (none, .store 2 (.v 4) (.v 22) .copy),
         (none, .asg 5 (.c (.int .i64 2)) .copy)])
       (.ret [4, 5]))
      (.skip [0, 1, 4])))
    (.seq
     (.region [] [] [1, 4, 6, 7] false [
       (none, .mv 23 (.v 0)),
       (none, .asg 6 (.v 23) .copy),
       (none, .asg 7 (.c (.int .i64 1)) .copy)])
     (.seq
      (.seq
       (.region [(24, 1, false)] [] [1, 4, 6, 7, 24, 25, 26] false [
         (none, .mv 24 (.v 1)),
         (none, .len 25 false (.v 24)),
         (none, .mv 26 (.c (.int .i64 0)))])
       (.block 0
        (.loop
         (.seq
          (.region [(24, 1, false)] [] [1, 4, 6, 7, 24, 25, 26, 27] false [
            (none, .bin 27 .lss (.v 26) (.v 25))])
          (.seq
           (.cond (.v 27)
            (.skip [1, 4, 6, 7, 24, 25, 26])
            (.exit 0 [4, 6, 7]))
           (.seq
            (.block 1
             (.seq
              (.region [(28, 1, false), (24, 1, false)] [] [1, 4, 6, 7, 9, 24, 25, 26] false [
                (none, .iadr 28 1 (.v 24) (.v 26)),
                (none, .load 29 false 1 (.v 28) none),
                (none, .asg 9 (.v 29) .copy)])
              (.region [(24, 1, false)] [] [1, 4, 6, 7, 24, 25, 26] false [
                (none, .mv 30 (.v 6)),
                (none, .mv 31 (.v 9)),
                (none, .bin 32 .sub (.c (.int .i64 1000)) (.v 31)),
                (none, .bin 33 .mul (.v 30) (.v 32)),
                (none, .mv 34 (.v 7)),
                (none, .bin 35 .mul (.v 34) (.c (.int .i64 1000))),
                (none, .asg 6 (.v 33) .copy),
                (none, .asg 7 (.v 35) .copy)])))
            (.region [(24, 1, false)] [] [1, 4, 6, 7, 24, 25, 26] false [
              (none, .bin 36 .add (.v 26) (.c (.int .i64 1))),
              (none, .mv 26 (.v 36))])))))))
      (.seq
       (.region [] [] [4, 5] false [
         (none, .mv 37 (.v 6)),
         (none, .mv 38 (.v 7)),
         (none, .call (some 39) 292 false [((.v 37), false), ((.v 38), false)]),
         (none, .store 2 (.v 4) (.v 39) .copy),
         (none, .asg 5 (.c (.int .i64 0)) .copy)])
       (.ret [4, 5]))))))⟩
def F175 : PFunc :=
 ⟨[false, false], [.tmp 4, .tmp 5],
  (.seq
   (.region [] [] [0, 1] false [
     (none, .asg 4 (.c (.int .i64 0)) .copy),
     (none, .asg 5 (.c (.int .i64 0)) .copy)])
   (.seq
    (.seq
     (.region [] [] [0, 1, 13] false [
       (none, .mv 6 (.v 0)),
       (none, .call (some 7) 280 false [((.v 6), false)]),
       (none, .un 8 .not (.v 7)),
       (none, .mv 9 (.v 8)),
       (some (9, false), .mv 10 (.v 1)),
       (some (9, false), .call (some 11) 280 false [((.v 10), false)]),
       (some (9, false), .un 12 .not (.v 11)),
       (none, .pick 13 (.v 9) (.c (.bool true)) (.v 12))])
     (.cond (.v 13)
      (.seq
       (.region [] [] [4, 5] false [
         (none, .asg 4 (.c (.int .i64 0)) .copy),
         (none, .asg 5 (.c (.int .i64 2)) .copy)])
       (.ret [4, 5]))
      (.skip [0, 1])))
    (.seq
     (.region [] [] [4, 5] false [
       (none, .mv 14 (.v 0)),
       (none, .mv 15 (.v 1)),
       (none, .bin 16 .mul (.v 14) (.v 15)),
       (none, .asg 4 (.v 16) .copy),
       (none, .asg 5 (.c (.int .i64 0)) .copy)])
     (.ret [4, 5]))))⟩
def F398 : PFunc :=
 ⟨[false], [.tmp 2],
  (.seq
   (.region [] [] [0] false [
     (none, .asg 2 (.c (.bool false)) .copy)])
   (.seq
    (.region [(3, 0, false)] [] [2] false [
      (none, .mv 3 (.v 0)),
      (none, .len 4 false (.v 3)),
      (none, .bin 5 .gtr (.v 4) (.c (.int .i64 4096))),
      (none, .asg 2 (.v 5) .copy)])
    (.ret [2])))⟩
def F604 : PFunc :=
 ⟨[false, false], [.tmp 4],
  (.seq
   (.region [] [] [0, 1] false [
     (none, .asg 4 (.c (.int .i64 0)) .copy)])
   (.seq
    (.block 0
     (.loop
      (.seq
       (.seq
        (.region [] [] [0, 1, 7] false [
          (none, .mv 6 (.v 1)),
          (none, .bin 7 .neq (.v 6) (.c (.int .i64 0)))])
        (.cond (.v 7)
         (.skip [0, 1])
         (.exit 0 [0])))
       (.block 1
        (.seq
         (.region [] [] [1, 5] false [
           (none, .mv 8 (.v 0)),
           (none, .mv 9 (.v 1)),
           (none, .bin 10 .rem (.v 8) (.v 9)),
           (none, .asg 5 (.v 10) .copy)])
         (.seq
          (.region [] [] [0, 5] false [
            (none, .mv 11 (.v 1)),
            (none, .asg 0 (.v 11) .copy)])
          (.region [] [] [0, 1] false [
            (none, .mv 12 (.v 5)),
            (none, .asg 1 (.v 12) .copy)])))))))
    (.seq
     (.region [] [] [4] false [
       (none, .mv 13 (.v 0)),
       (none, .asg 4 (.v 13) .copy)])
     (.ret [4]))))⟩
def F611 : PFunc :=
 ⟨[false], [.tmp 2],
  (.seq
   (.region [] [] [0] false [
     (none, .asg 2 (.c (.int .i64 0)) .copy)])
   (.seq
    (.seq
     (.region [] [] [0, 4] false [
       (none, .mv 3 (.v 0)),
       (none, .bin 4 .lss (.v 3) (.c (.int .i64 0)))])
     (.cond (.v 4)
      (.seq
       (.region [] [] [2] false [
         (none, .mv 5 (.v 0)),
         (none, .un 6 .neg (.v 5)),
         (none, .asg 2 (.v 6) .copy)])
       (.ret [2]))
      (.skip [0])))
    (.seq
     (.region [] [] [2] false [
       (none, .mv 7 (.v 0)),
       (none, .asg 2 (.v 7) .copy)])
     (.ret [2]))))⟩
def F616 : PFunc :=
 ⟨[false, false], [.cell 4 true 2],
  (.seq
   (.region [] [] [0, 1, 4] false [
     (none, .new 4 (.agg [(.int .i64 0), (.int .i64 0)]))])
   (.seq
    (.region [] [] [0, 1, 4, 5] false [
      (none, .mv 6 (.v 0)),
      (none, .call (some 7) 611 false [((.v 6), false)]),
      (none, .mv 8 (.v 1)),
      (none, .call (some 9) 604 false [((.v 7), false), ((.v 8), false)]),
      (none, .asg 5 (.v 9) .copy)])
    (.seq
     (.region [] [] [4] true [
       (none, .mv 10 (.v 0)),
       (none, .mv 11 (.v 5)),
       (none, .bin 12 .quo (.v 10) (.v 11)),
       (none, .mv 13 (.v 1)),
       (none, .mv 14 (.v 5)),
       (none, .bin 15 .quo (.v 13) (.v 14)),
       (none, .build 16 [(.int .i64 0), (.int .i64 0)] [(0, 1, (.v 12), .copy), (1, 1, (.v 15), .copy)]),
       (none, .store 2 (.v 4) (.v 16) .copy)])
     (.ret [4]))))⟩
def F605 : PFunc :=
 ⟨[false, false, false], [.tmp 6],
  (.seq
   (.region [] [] [0, 1, 2] false [
     (none, .asg 6 (.c (.bool false)) .copy)])
   (.seq
    (.region [] [] [6] false [
      (none, .mv 7 (.v 0)),
      (none, .mv 8 (.v 1)),
      (none, .bin 9 .geq (.v 7) (.v 8)),
      (none, .mv 10 (.v 9)),
      (some (10, true), .mv 11 (.v 0)),
      (some (10, true), .mv 12 (.v 2)),
      (some (10, true), .bin 13 .leq (.v 11) (.v 12)),
      (none, .pick 14 (.v 10) (.v 13) (.c (.bool false))),
      (none, .asg 6 (.v 14) .copy)])
    (.ret [6])))⟩
def F617 : PFunc :=
 ⟨[false], [.tmp 2],
  (.seq
   (.region [] [] [1] false [
     (none, .box 1 (.v 0) .copy),
     (none, .asg 2 (.c (.bool false)) .copy)])
   (.seq
    (.region [(15, 1, false), (12, 1, false), (7, 1, false), (3, 1, false)] [] [2] true [
      (none, .fadr 3 1 1 (.v 1)),
      (none, .load 4 false 1 (.v 3) none),
      (none, .call (some 5) 605 false [((.v 4), false), ((.c (.int .i64 1)), false), ((.c (.int .i64 1000000)), false)]),
      (none, .mv 6 (.v 5)),
      (some (6, true), .fadr 7 0 1 (.v 1)),
      (some (6, true), .load 8 false 1 (.v 7) none),
      (some (6, true), .call (some 9) 605 false [((.v 8), false), ((.c (.int .i64 (-1000000))), false), ((.c (.int .i64 1000000)), false)]),
      (none, .pick 10 (.v 6) (.v 9) (.c (.bool false))),
      (none, .mv 11 (.v 10)),
      (some (11, true), .fadr 12 0 1 (.v 1)),
      (some (11, true), .load 13 false 1 (.v 12) none),
      (some (11, true), .call (some 14) 611 false [((.v 13), false)]),
      (some (11, true), .fadr 15 1 1 (.v 1)),
      (some (11, true), .load 16 false 1 (.v 15) none),
      (some (11, true), .call (some 17) 604 false [((.v 14), false), ((.v 16), false)]),
      (some (11, true), .bin 18 .eql (.v 17) (.c (.int .i64 1))),
      (none, .pick 19 (.v 11) (.v 18) (.c (.bool false))),
      (none, .asg 2 (.v 19) .copy)])
    (.ret [2])))⟩
def F686 : PFunc :=
 ⟨[false], [.tmp 2],
  (.seq
   (.region [] [] [1] false [
     (none, .box 1 (.v 0) .copy),
     (none, .asg 2 (.c (.bool false)) .copy)])
   (.seq
    (.region [(11, 1, false), (6, 1, false)] [] [2] false [
      (none, .load 3 true 2 (.v 1) none),
      (none, .call (some 4) 617 false [((.v 3), false)]),
      (none, .mv 5 (.v 4)),
      (some (5, true), .fadr 6 0 1 (.v 1)),
      (some (5, true), .load 7 false 1 (.v 6) none),
      (some (5, true), .call (some 8) 605 false [((.v 7), false), ((.c (.int .i64 0)), false), ((.c (.int .i64 100000)), false)]),
      (none, .pick 9 (.v 5) (.v 8) (.c (.bool false))),
      (none, .mv 10 (.v 9)),
      (some (10, true), .fadr 11 1 1 (.v 1)),
      (some (10, true), .load 12 false 1 (.v 11) none),
      (some (10, true), .bin 13 .leq (.v 12) (.c (.int .i64 100000))),
      (none, .pick 14 (.v 10) (.v 13) (.c (.bool false))),
      (none, .asg 2 (.v 14) .copy)])
    (.ret [2])))⟩
def F694 : PFunc :=
 ⟨[false], [.tmp 2],
  (.seq
   (.region [] [] [0] false [
     (none, .asg 2 (.c (.bool false)) .copy)])
   (.seq
    (.region [] [] [2] false [
      (none, .mv 3 (.v 0)),
      (none, .call (some 4) 605 false [((.v 3), false), ((.c (.int .i64 1)), false), ((.c (.int .i64 1000)), false)]),
      (none, .asg 2 (.v 4) .copy)])
    (.ret [2])))⟩
def F444 : PFunc :=
 ⟨[false, false, false], [.cell 6 true 2, .tmp 7],
  (.seq
   (.region [] [] [1, 2, 3, 6] false [
     (none, .box 3 (.v 0) .copy),
     (none, .new 6 (.agg [(.int .i64 0), (.int .i64 0)])),
     (none, .asg 7 (.c (.int .i64 0)) .copy)])
   (.seq
    (.seq
     (.region [] [] [1, 2, 3, 6, 10] false [
       (none, .load 8 true 2 (.v 3) none),
       (none, .call (some 9) 617 false [((.v 8), false)]),
       (none, .un 10 .not (.v 9))])
     (.cond (.v 10)
      (.seq
       (.region [] [] [6, 7] false [
         (none, .build 11 [(.int .i64 0), (.int .i64 0)] []),
         (none, .store 2 (.v 6) (.v 11) .copy),
         (none, .asg 7 (.c (.int .i64 1)) .copy)])
       (.ret [6, 7]))
      (.skip [1, 2, 3, 6])))
    (.seq
     (.seq
      (.region [] [] [1, 2, 3, 6, 24] false [
        (none, .load 12 true 2 (.v 3) none),
        (none, .call (some 13) 686 false [((.v 12), false)]),
        (none, .un 14 .not (.v 13)),
        (none, .mv 15 (.v 14)),
        (some (15, false), .mv 16 (.v 1)),
        (some (15, false), .call (some 17) 694 false [((.v 16), false)]),
        (some (15, false), .un 18 .not (.v 17)),
        (none, .pick 19 (.v 15) (.c (.bool true)) (.v 18)),
        (none, .mv 20 (.v 19)),
        (some (20, false), .mv 21 (.v 2)),
        (some (20, false), .call (some 22) 694 false [((.v 21), false)]),
        (some (20, false), .un 23 .not (.v 22)),
        (none, .pick 24 (.v 20) (.c (.bool true)) (.v 23))])
      (.cond (.v 24)
       (.seq
        (.region [] [] [6, 7] false [
          (none, .build 25 [(.int .i64 0), (.int .i64 0)] []),
          (none, .store 2 (.v 6) (.v 25) .copy),
          (none, .asg 7 (.c (.int .i64 2)) .copy)])
        (.ret [6, 7]))
       (.skip [1, 2, 3, 6])))
     (.seq
      (.region [(32, 3, false), (26, 3, false)] [] [6, 7] false [
        (none, .fadr 26 0 1 (.v 3)),
        (none, .load 27 false 1 (.v 26) none),
        (none, .mv 28 (.v 1)),
        (none, .bin 29 .mul (.v 27) (.v 28)),
        (none, .mv 30 (.v 1)),
        (none, .bin 31 .mul (.v 29) (.v 30)),
        (none, .fadr 32 1 1 (.v 3)),
        (none, .load 33 false 1 (.v 32) none),
        (none, .mv 34 (.v 2)),
        (none, .bin 35 .mul (.v 33) (.v 34)),
        (none, .mv 36 (.v 2)),
        (none, .bin 37 .mul (.v 35) (.v 36)),
        (none, .call (some 38) 616 false [((.v 31), false), ((.v 37), false)]),
        (none, .store 2 (.v 6) (.v 38) .copy),
        (none, .asg 7 (.c (.int .i64 0)) .copy)])
      (.ret [6, 7])))))⟩
def F697 : PFunc :=
 ⟨[false], [.tmp 2],
  (.seq
   (.region [] [] [0] false [
     (none, .asg 2 (.c (.bool false)) .copy)])
   (.seq
    (.region [] [] [2] false [
      (none, .mv 3 (.v 0)),
      (none, .call (some 4) 605 false [((.v 3), false), ((.c (.int .i64 1)), false), ((.c (.int .i64 1000)), false)]),
      (none, .asg 2 (.v 4) .copy)])
    (.ret [2])))⟩
def F445 : PFunc :=
 ⟨[false, false, false], [.cell 6 true 2, .tmp 7],
  (.seq
   (.region [] [] [0, 1, 2, 6] false [
     (none, .new 6 (.agg [(.int .i64 0), (.int .i64 0)])),
     (none, .asg 7 (.c (.int .i64 0)) .copy)])
   (.seq
    (.seq
     (.region [] [] [0, 1, 2, 6, 20] false [
       (none, .mv 8 (.v 0)),
       (none, .call (some 9) 605 false [((.v 8), false), ((.c (.int .i64 0)), false), ((.c (.int .i64 100000)), false)]),
       (none, .un 10 .not (.v 9)),
       (none, .mv 11 (.v 10)),
       (some (11, false), .mv 12 (.v 1)),
       (some (11, false), .call (some 13) 697 false [((.v 12), false)]),
       (some (11, false), .un 14 .not (.v 13)),
       (none, .pick 15 (.v 11) (.c (.bool true)) (.v 14)),
       (none, .mv 16 (.v 15)),
       (some (16, false), .mv 17 (.v 2)),
       (some (16, false), .call (some 18) 697 false [((.v 17), false)]),
       (some (16, false), .un 19 .not (.v 18)),
       (none, .pick 20 (.v 16) (.c (.bool true)) (.v 19))])
     (.cond (.v 20)
      (.seq
       (.region [] [] [6, 7] false [
         (none, .build 21 [(.int .i64 0), (.int .i64 0)] []),
         (none, .store 2 (.v 6) (.v 21) .copy),
         (none, .asg 7 (.c (.int .i64 2)) .copy)])
       (.ret [6, 7]))
      (.skip [0, 1, 2, 6])))
    (.seq
     (.region [] [] [6, 7] false [
       (none, .mv 22 (.v 0)),
       (none, .mv 23 (.v 1)),
       (none, .mv 24 (.v 2)),
       (none, .bin 25 .mul (.v 23) (.v 24)),
       (none, .call (some 26) 616 false [((.v 22), false), ((.v 25), false)]),
       (none, .store 2 (.v 6) (.v 26) .copy),
       (none, .asg 7 (.c (.int .i64 0)) .copy)])
     (.ret [6, 7]))))⟩
def F450 : PFunc :=
 ⟨[false, false], [.cell 4 true 2, .tmp 5],
  (.seq
   (.region [] [] [0, 1, 4] false [
     (none, .new 4 (.agg [(.int .i64 0), (.int .i64 0)])),
     (none, .asg 5 (.c (.int .i64 0)) .copy)])
   (.seq
    (.seq
     (.region [] [] [0, 1, 4, 15] false [
       (none, .mv 8 (.v 0)),
       (none, .call (some 9) 694 false [((.v 8), false)]),
       (none, .un 10 .not (.v 9)),
       (none, .mv 11 (.v 10)),
       (some (11, false), .mv 12 (.v 1)),
       (some (11, false), .call (some 13) 605 false [((.v 12), false), ((.c (.int .i64 0)), false), ((.c (.int .i64 1000)), false)]),
       (some (11, false), .un 14 .not (.v 13)),
       (none, .pick 15 (.v 11) (.c (.bool true)) (.v 14))])
     (.cond (.v 15)
      (.seq
       (.region [] [] [4, 5] false [
         (none, .build 16 [(.int .i64 0), (.int .i64 0)] []),
         (none, .store 2 (.v 4) (.v 16) .copy),
         (none, .asg 5 (.c (.int .i64 2)) .copy)])
       (.ret [4, 5]))
      (.skip [0, 1, 4])))
    (.seq
     (.region [] [] [1, 4, 6] false [
       (none, .mv 17 (.v 0)),
       (none, .mv 18 (.v 0)),
       (none, .bin 19 .mul (.v 17) (.v 18)),
       (none, .asg 6 (.v 19) .copy)])
     (.seq
      (.region [] [] [4, 6, 7] false [
        (none, .mv 20 (.v 6)),
        (none, .mv 21 (.v 1)),
        (none, .mv 22 (.v 1)),
        (none, .bin 23 .mul (.v 21) (.v 22)),
        (none, .bin 24 .add (.v 20) (.v 23)),
        (none, .asg 7 (.v 24) .copy)])
      (.seq
       (.region [] [] [4, 5] false [
         (none, .mv 25 (.v 6)),
         (none, .mv 26 (.v 6)),
         (none, .bin 27 .mul (.v 25) (.v 26)),
         (none, .mv 28 (.v 7)),
         (none, .mv 29 (.v 7)),
         (none, .bin 30 .mul (.v 28) (.v 29)),
         (none, .call (some 31) 616 false [((.v 27), false), ((.v 30), false)]),
         (none, .store 2 (.v 4) (.v 31) .copy),
         (none, .asg 5 (.c (.int .i64 0)) .copy)])
       (.ret [4, 5]))))))⟩
def F603 : PFunc :=
 ⟨[false], [.tmp 2],
  (.seq
   (.region [] [] [0] false [
     (none, .asg 2 (.c .nilp) .copy)])
   (.seq
    (.region [(3, 0, false)] [] [2] false [
      (none, .mv 3 (.v 0)),
      (none, .build 4 [(.sl false 1 []), (.int .i64 0), (.int .u64 0)] [(0, 1, (.v 3), .move)]),
      (none, .box 5 (.v 4) .move),
      (none, .asg 2 (.v 5) .move)])
    (.ret [2])))⟩
def F5 : PFunc :=
 ⟨[true], [.tmp 2],
  (.seq
   (.region [] [] [0] false [
     (none, .asg 2 (.c (.int .i64 0)) .copy)])
   (.seq
    (.region [] [] [0, 3] false [
      (none, .asg 3 (.c (.int .i64 0)) .copy)])
    (.seq
     (.seq
      (.region [(11, 0, true), (10, 0, false), (9, 0, false), (8, 0, false), (6, 0, false), (5, 0, false), (4, 0, false)] [] [0, 3, 13] true [
        (none, .mv 4 (.v 0)),
        (none, .nchk 5 (.v 4)),
        (none, .fadr 6 1 1 (.v 5)),
        (none, .load 7 false 1 (.v 6) none),
        (none, .mv 8 (.v 0)),
        (none, .nchk 9 (.v 8)),
        (none, .fadr 10 0 1 (.v 9)),
        (none, .load 11 false 1 (.v 10) none),
        (none, .len 12 false (.v 11)),
        (none, .bin 13 .lss (.v 7) (.v 12))])
      (.cond (.v 13)
       (.region [(22, 0, true), (20, 0, false), (19, 0, false), (18, 0, false), (17, 0, true), (16, 0, false), (15, 0, false), (14, 0, false)] [] [0, 3] true [
         (none, .mv 14 (.v 0)),
         (none, .nchk 15 (.v 14)),
         (none, .fadr 16 0 1 (.v 15)),
         (none, .load 17 false 1 (.v 16) none),
         (none, .mv 18 (.v 0)),
         (none, .nchk 19 (.v 18)),
         (none, .fadr 20 1 1 (.v 19)),
         (none, .load 21 false 1 (.v 20) none),
         (none, .iadr 22 1 (.v 17) (.v 21)),
         (none, .load 23 false 1 (.v 22) none),
         (none, .conv 24 .i64 (.v 23)),
         (none, .asg 3 (.v 24) .copy)])
       (.skip [0, 3])))
     (.seq
      (.region [(31, 0, false), (30, 0, false), (27, 0, false), (26, 0, false), (25, 0, false)] [] [0, 3] false [
        (none, .mv 25 (.v 0)),
        (none, .nchk 26 (.v 25)),
        (none, .fadr 27 1 1 (.v 26)),
        (none, .load 28 false 1 (.v 27) none),
        (none, .bin 29 .add (.v 28) (.c (.int .i64 1))),
        (none, .nchk 30 (.v 25)),
        (none, .fadr 31 1 1 (.v 30)),
        (none, .store 1 (.v 31) (.v 29) .copy)])
      (.seq
       (.region [(43, 0, false), (42, 0, false), (35, 0, false), (34, 0, false), (33, 0, false), (32, 0, false)] [] [0, 3] false [
         (none, .mv 32 (.v 0)),
         (none, .mv 33 (.v 0)),
         (none, .nchk 34 (.v 33)),
         (none, .fadr 35 2 1 (.v 34)),
         (none, .load 36 false 1 (.v 35) none),
         (none, .bin 37 .mul (.v 36) (.c (.int .u64 6364136223846793005))),
         (none, .mv 38 (.v 3)),
         (none, .conv 39 .u64 (.v 38)),
         (none, .bin 40 .add (.v 37) (.v 39)),
         (none, .bin 41 .add (.v 40) (.c (.int .u64 1442695040888963407))),
         (none, .nchk 42 (.v 32)),
         (none, .fadr 43 2 1 (.v 42)),
         (none, .store 1 (.v 43) (.v 41) .copy)])
       (.seq
        (.seq
         (.region [(51, 0, true), (50, 0, false), (49, 0, false), (48, 0, false), (46, 0, false), (45, 0, false), (44, 0, false)] [] [0, 3, 53] true [
           (none, .mv 44 (.v 0)),
           (none, .nchk 45 (.v 44)),
           (none, .fadr 46 1 1 (.v 45)),
           (none, .load 47 false 1 (.v 46) none),
           (none, .mv 48 (.v 0)),
           (none, .nchk 49 (.v 48)),
           (none, .fadr 50 0 1 (.v 49)),
           (none, .load 51 false 1 (.v 50) none),
           (none, .len 52 false (.v 51)),
           (none, .bin 53 .leq (.v 47) (.v 52))])
         (.cond (.v 53)
          (.seq
           (.region [] [] [0, 2] false [
             (none, .mv 54 (.v 3)),
             (none, .asg 2 (.v 54) .copy)])
           (.ret [0, 2]))
          (.skip [0])))
        (.seq
         (.region [(57, 0, false), (56, 0, false), (55, 0, false)] [] [0, 2] false [
           (none, .mv 55 (.v 0)),
           (none, .nchk 56 (.v 55)),
           (none, .fadr 57 2 1 (.v 56)),
           (none, .load 58 false 1 (.v 57) none),
           (none, .bin 59 .shr (.v 58) (.c (.int .u64 40))),
           (none, .bin 60 .and (.v 59) (.c (.int .u64 255))),
           (none, .conv 61 .i64 (.v 60)),
           (none, .asg 2 (.v 61) .copy)])
         (.ret [0, 2]))))))))⟩
def F7 : PFunc :=
 ⟨[true, false], [.tmp 4],
  (.seq
   (.region [] [] [0, 1] false [
     (none, .asg 4 (.c (.int .i64 0)) .copy)])
   (.seq
    (.seq
     (.region [] [] [0, 1, 7] false [
       (none, .mv 6 (.v 1)),
       (none, .bin 7 .leq (.v 6) (.c (.int .i64 1)))])
     (.cond (.v 7)
      (.seq
       (.region [] [] [0, 4] false [
         (none, .asg 4 (.c (.int .i64 0)) .copy)])
       (.ret [0, 4]))
      (.skip [0, 1])))
    (.seq
     (.region [(8, 0, false)] [] [0, 1, 5] false [
       (none, .mv 8 (.v 0)),
       (none, .call (some 9) 5 true [((.v 8), true)]),
       (none, .asg 5 (.v 9) .copy)])
     (.seq
      (.seq
       (.region [] [] [0, 1, 5, 11] false [
         (none, .mv 10 (.v 1)),
         (none, .bin 11 .gtr (.v 10) (.c (.int .i64 200)))])
       (.cond (.v 11)
        (.region [(14, 0, false)] [] [0, 1, 5] false [
          (none, .mv 12 (.v 5)),
          (none, .bin 13 .mul (.v 12) (.c (.int .i64 256))),
          (none, .mv 14 (.v 0)),
          (none, .call (some 15) 5 true [((.v 14), true)]),
          (none, .bin 16 .add (.v 13) (.v 15)),
          (none, .asg 5 (.v 16) .copy)])
        (.skip [0, 1, 5])))
      (.seq
       (.region [] [] [0, 4] false [
         (none, .mv 17 (.v 5)),
         (none, .mv 18 (.v 1)),
         (none, .bin 19 .rem (.v 17) (.v 18)),
         (none, .asg 4 (.v 19) .copy)])
       (.ret [0, 4]))))))⟩
def F4 : PFunc :=
 ⟨[true, false], [.tmp 4],
  (.seq
   (.region [] [] [0, 1] false [
     (none, .asg 4 (.c (.int .i64 0)) .copy)])
   (.seq
    (.region [(10, 1, false), (7, 1, false), (6, 0, false), (5, 1, false)] [] [0, 4] false [
      (none, .mv 5 (.v 1)),
      (none, .mv 6 (.v 0)),
      (none, .mv 7 (.v 1)),
      (none, .len 8 false (.v 7)),
      (none, .call (some 9) 7 true [((.v 6), true), ((.v 8), false)]),
      (none, .iadr 10 1 (.v 5) (.v 9)),
      (none, .load 11 false 1 (.v 10) none),
      (none, .asg 4 (.v 11) .copy)])
    (.ret [0, 4])))⟩
def F615 : PFunc :=
 ⟨[true], [.cell 2 true 2],
  (.seq
   (.region [] [] [0, 2] false [
     (none, .new 2 (.agg [(.int .i64 0), (.int .i64 0)]))])
   (.seq
    (.region [(4, 0, false)] [] [0, 2, 3] false [
      (none, .mv 4 (.v 0)),
      (none, .call (some 5) 7 true [((.v 4), true), ((.c (.int .i64 60)), false)]),
      (none, .bin 6 .sub (.v 5) (.c (.int .i64 15))),
      (none, .asg 3 (.v 6) .copy)])
    (.seq
     (.region [(8, 0, false)] [] [0, 2] false [
       (none, .mv 7 (.v 3)),
       (none, .mv 8 (.v 0)),
       (none, .call (some 9) 7 true [((.v 8), true), ((.c (.int .i64 20)), false)]),
       (none, .bin 10 .add (.c (.int .i64 1)) (.v 9)),
       (none, .call (some 11) 616 false [((.v 7), false), ((.v 10), false)]),
       (none, .store 2 (.v 2) (.v 11) .copy)])
     (.ret [0, 2]))))⟩
def F614 : PFunc :=
 ⟨[true], [.cell 2 true 2],
  (.seq
   (.region [] [] [0, 2] false [
     (none, .new 2 (.agg [(.int .i64 0), (.int .i64 0)]))])
   (.seq
    (.region [(4, 0, false)] [] [0, 2, 3] false [
      (none, .mv 4 (.v 0)),
      (none, .call (some 5) 615 true [((.v 4), true)]),
      (none, .new 3 (.agg [(.int .i64 0), (.int .i64 0)])),
      (none, .store 2 (.v 3) (.v 5) .copy)])
    (.seq
     (.seq
      (.region [(6, 0, false)] [] [0, 2, 3, 7] false [
        (none, .mv 6 (.v 0)),
        (none, .call (some 7) 7 true [((.v 6), true), ((.c (.int .i64 20)), false)])])
      (.block 0
       (.seq
        (.region [] [] [0, 2, 3, 7, 8] false [
          (none, .bin 9 .eql (.v 7) (.c (.int .i64 0))),
          (none, .asg 8 (.v 9) .copy)])
        (.cond (.v 8)
         (.region [(13, 3, false), (10, 0, false)] [] [0, 2, 3] false [
           (none, .mv 10 (.v 0)),
           (none, .mksl 11 1 (.int .i64 0) 5 [(0, (.c (.int .i64 (-1))), .copy), (1, (.c (.int .i64 0)), .copy), (2, (.c (.int .i64 1)), .copy), (3, (.c (.int .i64 1000000)), .copy), (4, (.c (.int .i64 1000001)), .copy)]),
           (none, .call (some 12) 4 true [((.v 10), true), ((.v 11), false)]),
           (none, .fadr 13 1 1 (.v 3)),
           (none, .store 1 (.v 13) (.v 12) .copy)])
         (.seq
          (.region [] [] [0, 2, 3, 7, 14] false [
            (none, .bin 15 .eql (.v 7) (.c (.int .i64 1))),
            (none, .asg 14 (.v 15) .copy)])
          (.cond (.v 14)
           (.region [(19, 3, false), (16, 0, false)] [] [0, 2, 3] false [
             (none, .mv 16 (.v 0)),
             (none, .mksl 17 1 (.int .i64 0) 5 [(0, (.c (.int .i64 (-1000001))), .copy), (1, (.c (.int .i64 (-1000000))), .copy), (2, (.c (.int .i64 1000000)), .copy), (3, (.c (.int .i64 1000001)), .copy), (4, (.c (.int .i64 (-9223372036854775808))), .copy)]),
             (none, .call (some 18) 4 true [((.v 16), true), ((.v 17), false)]),
             (none, .fadr 19 0 1 (.v 3)),
             (none, .store 1 (.v 19) (.v 18) .copy)])
           (.seq
            (.region [] [] [0, 2, 3, 7, 20] false [
              (none, .bin 21 .eql (.v 7) (.c (.int .i64 2))),
              (none, .asg 20 (.v 21) .copy)])
            (.cond (.v 20)
             (.region [(22, 0, false)] [] [0, 2, 3] false [
               (none, .mv 22 (.v 0)),
               (none, .call (some 23) 7 true [((.v 22), true), ((.c (.int .i64 5)), false)]),
               (none, .bin 24 .mul (.c (.int .i64 2)) (.v 23)),
               (none, .build 25 [(.int .i64 0), (.int .i64 0)] [(0, 1, (.v 24), .copy), (1, 1, (.c (.int .i64 4)), .copy)]),
               (none, .store 2 (.v 3) (.v 25) .copy)])
             (.seq
              (.region [] [] [0, 2, 3, 26] false [
                (none, .bin 27 .eql (.v 7) (.c (.int .i64 3))),
                (none, .asg 26 (.v 27) .copy)])
              (.cond (.v 26)
               (.region [(28, 0, false)] [] [0, 2, 3] false [
                 (none, .mv 28 (.v 0)),
                 (none, .call (some 29) 7 true [((.v 28), true), ((.c (.int .i64 3)), false)]),
                 (none, .bin 30 .sub (.c (.int .i64 999983)) (.v 29)),
                 (none, .build 31 [(.int .i64 0), (.int .i64 0)] [(0, 1, (.v 30), .copy), (1, 1, (.c (.int .i64 1000000)), .copy)]),
                 (none, .store 2 (.v 3) (.v 31) .copy)])
               (.skip [0, 2, 3])))))))))))
     (.seq
      (.region [] [] [0, 2] false [
        (none, .load 32 true 2 (.v 3) none),
        (none, .store 2 (.v 2) (.v 32) .copy)])
      (.ret [0, 2])))))⟩
def F687 : PFunc :=
 ⟨[true], [.cell 2 true 2],
  (.seq
   (.region [] [] [0, 2] false [
     (none, .new 2 (.agg [(.int .i64 0), (.int .i64 0)]))])
   (.seq
    (.seq
     (.region [(3, 0, false)] [] [0, 2, 4] false [
       (none, .mv 3 (.v 0)),
       (none, .call (some 4) 7 true [((.v 3), true), ((.c (.int .i64 12)), false)])])
     (.block 0
      (.seq
       (.region [] [] [0, 2, 4, 5] false [
         (none, .bin 6 .eql (.v 4) (.c (.int .i64 0))),
         (none, .asg 5 (.v 6) .copy)])
       (.cond (.v 5)
        (.seq
         (.region [(7, 0, false)] [] [0, 2] false [
           (none, .mv 7 (.v 0)),
           (none, .call (some 8) 614 true [((.v 7), true)]),
           (none, .store 2 (.v 2) (.v 8) .copy)])
         (.ret [0, 2]))
        (.seq
         (.region [] [] [0, 2, 4, 9] false [
           (none, .bin 10 .eql (.v 4) (.c (.int .i64 1))),
           (none, .asg 9 (.v 10) .copy)])
         (.cond (.v 9)
          (.seq
           (.region [(11, 0, false)] [] [0, 2] false [
             (none, .mv 11 (.v 0)),
             (none, .mksl 12 1 (.int .i64 0) 5 [(0, (.c (.int .i64 (-1))), .copy), (1, (.c (.int .i64 0)), .copy), (2, (.c (.int .i64 1)), .copy), (3, (.c (.int .i64 100000)), .copy), (4, (.c (.int .i64 100001)), .copy)]),
             (none, .call (some 13) 4 true [((.v 11), true), ((.v 12), false)]),
             (none, .build 14 [(.int .i64 0), (.int .i64 0)] [(0, 1, (.v 13), .copy), (1, 1, (.c (.int .i64 1)), .copy)]),
             (none, .store 2 (.v 2) (.v 14) .copy)])
           (.ret [0, 2]))
          (.seq
           (.region [] [] [0, 2, 15] false [
             (none, .bin 16 .eql (.v 4) (.c (.int .i64 2))),
             (none, .asg 15 (.v 16) .copy)])
           (.cond (.v 15)
            (.seq
             (.region [(17, 0, false)] [] [0, 2] false [
               (none, .mv 17 (.v 0)),
               (none, .mksl 18 1 (.int .i64 0) 3 [(0, (.c (.int .i64 1)), .copy), (1, (.c (.int .i64 100000)), .copy), (2, (.c (.int .i64 100001)), .copy)]),
               (none, .call (some 19) 4 true [((.v 17), true), ((.v 18), false)]),
               (none, .build 20 [(.int .i64 0), (.int .i64 0)] [(0, 1, (.c (.int .i64 1)), .copy), (1, 1, (.v 19), .copy)]),
               (none, .store 2 (.v 2) (.v 20) .copy)])
             (.ret [0, 2]))
            (.skip [0, 2])))))))))
    (.seq
     (.region [(24, 0, false), (21, 0, false)] [] [0, 2] false [
       (none, .mv 21 (.v 0)),
       (none, .call (some 22) 7 true [((.v 21), true), ((.c (.int .i64 300)), false)]),
       (none, .bin 23 .add (.c (.int .i64 1)) (.v 22)),
       (none, .mv 24 (.v 0)),
       (none, .call (some 25) 7 true [((.v 24), true), ((.c (.int .i64 40)), false)]),
       (none, .bin 26 .add (.c (.int .i64 1)) (.v 25)),
       (none, .call (some 27) 616 false [((.v 23), false), ((.v 26), false)]),
       (none, .store 2 (.v 2) (.v 27) .copy)])
     (.ret [0, 2]))))⟩
def F6 : PFunc :=
 ⟨[true, false], [.tmp 4],
  (.seq
   (.region [] [] [0, 1] false [
     (none, .asg 4 (.c (.bool false)) .copy)])
   (.seq
    (.region [(5, 0, false)] [] [0, 4] false [
      (none, .mv 5 (.v 0)),
      (none, .mv 6 (.v 1)),
      (none, .call (some 7) 7 true [((.v 5), true), ((.v 6), false)]),
      (none, .bin 8 .eql (.v 7) (.c (.int .i64 0))),
      (none, .asg 4 (.v 8) .copy)])
    (.ret [0, 4])))⟩
def F688 : PFunc :=
 ⟨[true], [.tmp 2],
  (.seq
   (.region [] [] [0] false [
     (none, .asg 2 (.c (.int .i64 0)) .copy)])
   (.seq
    (.seq
     (.region [(3, 0, false)] [] [0, 4] false [
       (none, .mv 3 (.v 0)),
       (none, .call (some 4) 6 true [((.v 3), true), ((.c (.int .i64 10)), false)])])
     (.cond (.v 4)
      (.seq
       (.region [(5, 0, false)] [] [0, 2] false [
         (none, .mv 5 (.v 0)),
         (none, .mksl 6 1 (.int .i64 0) 5 [(0, (.c (.int .i64 (-1))), .copy), (1, (.c (.int .i64 0)), .copy), (2, (.c (.int .i64 1)), .copy), (3, (.c (.int .i64 1000)), .copy), (4, (.c (.int .i64 1001)), .copy)]),
         (none, .call (some 7) 4 true [((.v 5), true), ((.v 6), false)]),
         (none, .asg 2 (.v 7) .copy)])
       (.ret [0, 2]))
      (.skip [0])))
    (.seq
     (.region [(8, 0, false)] [] [0, 2] false [
       (none, .mv 8 (.v 0)),
       (none, .call (some 9) 7 true [((.v 8), true), ((.c (.int .i64 60)), false)]),
       (none, .bin 10 .add (.c (.int .i64 5)) (.v 9)),
       (none, .asg 2 (.v 10) .copy)])
     (.ret [0, 2]))))⟩
def F459 : PFunc :=
 ⟨[false], [.cell 2 true 2, .tmp 3, .tmp 4],
  (.seq
   (.region [] [] [0, 2] false [
     (none, .new 2 (.agg [(.int .i64 0), (.int .i64 0)])),
     (none, .asg 3 (.c (.int .i64 0)) .copy),
     (none, .asg 4 (.c (.int .i64 0)) .copy)])
   (.seq
    (.region [(8, 0, false)] [] [2, 5] false [
      (none, .mv 8 (.v 0)),
      (none, .call (some 9) 603 true [((.v 8), false)]),
      (none, .asg 5 (.v 9) .move)])
    (.seq
     (.region [(10, 5, false)] [] [2, 5, 6] false [
       (none, .mv 10 (.v 5)),
       (none, .call (some 11) 687 true [((.v 10), true)]),
       (none, .new 6 (.agg [(.int .i64 0), (.int .i64 0)])),
       (none, .store 2 (.v 6) (.v 11) .copy)])
     (.seq
      (.region [(12, 5, false)] [] [2, 5, 6, 7] false [
        (none, .mv 12 (.v 5)),
        (none, .call (some 13) 688 true [((.v 12), true)]),
        (none, .asg 7 (.v 13) .copy)])
      (.seq
       (.region [(16, 5, false)] [] [2, 3, 4] true [
         (none, .load 14 true 2 (.v 6) none),
         (none, .mv 15 (.v 7)),
         (none, .mv 16 (.v 5)),
         (none, .call (some 17) 688 true [((.v 16), true)]),
         (none, .store 2 (.v 2) (.v 14) .copy),
         (none, .asg 3 (.v 15) .copy),
         (none, .asg 4 (.v 17) .copy)])
       (.ret [2, 3, 4]))))))⟩
def F690 : PFunc :=
 ⟨[true], [.tmp 2],
  (.seq
   (.region [] [] [0] false [
     (none, .asg 2 (.c (.int .i64 0)) .copy)])
   (.seq
    (.seq
     (.region [(3, 0, false)] [] [0, 4] false [
       (none, .mv 3 (.v 0)),
       (none, .call (some 4) 6 true [((.v 3), true), ((.c (.int .i64 10)), false)])])
     (.cond (.v 4)
      (.seq
       (.region [(5, 0, false)] [] [0, 2] false [
         (none, .mv 5 (.v 0)),
         (none, .mksl 6 1 (.int .i64 0) 5 [(0, (.c (.int .i64 (-1))), .copy), (1, (.c (.int .i64 0)), .copy), (2, (.c (.int .i64 1)), .copy), (3, (.c (.int .i64 100000)), .copy), (4, (.c (.int .i64 100001)), .copy)]),
         (none, .call (some 7) 4 true [((.v 5), true), ((.v 6), false)]),
         (none, .asg 2 (.v 7) .copy)])
       (.ret [0, 2]))
      (.skip [0])))
    (.seq
     (.region [(8, 0, false)] [] [0, 2] false [
       (none, .mv 8 (.v 0)),
       (none, .call (some 9) 7 true [((.v 8), true), ((.c (.int .i64 200)), false)]),
       (none, .bin 10 .mul (.c (.int .i64 50)) (.v 9)),
       (none, .asg 2 (.v 10) .copy)])
     (.ret [0, 2]))))⟩
def F692 : PFunc :=
 ⟨[true], [.tmp 2],
  (.seq
   (.region [] [] [0] false [
     (none, .asg 2 (.c (.int .i64 0)) .copy)])
   (.seq
    (.seq
     (.region [(3, 0, false)] [] [0, 4] false [
       (none, .mv 3 (.v 0)),
       (none, .call (some 4) 6 true [((.v 3), true), ((.c (.int .i64 10)), false)])])
     (.cond (.v 4)
      (.seq
       (.region [(5, 0, false)] [] [0, 2] false [
         (none, .mv 5 (.v 0)),
         (none, .mksl 6 1 (.int .i64 0) 6 [(0, (.c (.int .i64 (-1))), .copy), (1, (.c (.int .i64 0)), .copy), (2, (.c (.int .i64 1)), .copy), (3, (.c (.int .i64 1000)), .copy), (4, (.c (.int .i64 1001)), .copy), (5, (.c (.int .i64 (-9223372036854775808))), .copy)]),
         (none, .call (some 7) 4 true [((.v 5), true), ((.v 6), false)]),
         (none, .asg 2 (.v 7) .copy)])
       (.ret [0, 2]))
      (.skip [0])))
    (.seq
     (.region [(8, 0, false)] [] [0, 2] false [
       (none, .mv 8 (.v 0)),
       (none, .call (some 9) 7 true [((.v 8), true), ((.c (.int .i64 90)), false)]),
       (none, .bin 10 .add (.c (.int .i64 10)) (.v 9)),
       (none, .asg 2 (.v 10) .copy)])
     (.ret [0, 2]))))⟩
def F460 : PFunc :=
 ⟨[false], [.tmp 2, .tmp 3, .tmp 4],
  (.seq
   (.region [] [] [0] false [
     (none, .asg 2 (.c (.int .i64 0)) .copy),
     (none, .asg 3 (.c (.int .i64 0)) .copy),
     (none, .asg 4 (.c (.int .i64 0)) .copy)])
   (.seq
    (.region [(8, 0, false)] [] [5] false [
      (none, .mv 8 (.v 0)),
      (none, .call (some 9) 603 true [((.v 8), false)]),
      (none, .asg 5 (.v 9) .move)])
    (.seq
     (.region [(10, 5, false)] [] [5, 6] false [
       (none, .mv 10 (.v 5)),
       (none, .call (some 11) 690 true [((.v 10), true)]),
       (none, .asg 6 (.v 11) .copy)])
     (.seq
      (.region [(12, 5, false)] [] [5, 6, 7] false [
        (none, .mv 12 (.v 5)),
        (none, .call (some 13) 692 true [((.v 12), true)]),
        (none, .asg 7 (.v 13) .copy)])
      (.seq
       (.region [(16, 5, false)] [] [2, 3, 4] false [
         (none, .mv 14 (.v 6)),
         (none, .mv 15 (.v 7)),
         (none, .mv 16 (.v 5)),
         (none, .call (some 17) 692 true [((.v 16), true)]),
         (none, .asg 2 (.v 14) .copy),
         (none, .asg 3 (.v 15) .copy),
         (none, .asg 4 (.v 17) .copy)])
       (.ret [2, 3, 4]))))))⟩
def F464 : PFunc :=
 ⟨[false], [.tmp 2, .tmp 3],
  (.seq
   (.region [] [] [0] false [
     (none, .asg 2 (.c (.int .i64 0)) .copy),
     (none, .asg 3 (.c (.int .i64 0)) .copy)])
   (.seq
    (.region [(6, 0, false)] [] [4] false [
      (none, .mv 6 (.v 0)),
      (none, .call (some 7) 603 true [((.v 6), false)]),
      (none, .asg 4 (.v 7) .move)])
    (.seq
     (.region [(8, 4, false)] [] [4, 5] false [
       (none, .mv 8 (.v 4)),
       (none, .call (some 9) 688 true [((.v 8), true)]),
       (none, .asg 5 (.v 9) .copy)])
     (.seq
      (.seq
       (.region [(10, 4, false)] [] [4, 5, 11] false [
         (none, .mv 10 (.v 4)),
         (none, .call (some 11) 6 true [((.v 10), true), ((.c (.int .i64 8)), false)])])
       (.cond (.v 11)
        (.seq
         (.region [(13, 4, false)] [] [2, 3] false [
           (none, .mv 12 (.v 5)),
           (none, .mv 13 (.v 4)),
           (none, .mksl 14 1 (.int .i64 0) 4 [(0, (.c (.int .i64 (-1))), .copy), (1, (.c (.int .i64 0)), .copy), (2, (.c (.int .i64 1000)), .copy), (3, (.c (.int .i64 1001)), .copy)]),
           (none, .call (some 15) 4 true [((.v 13), true), ((.v 14), false)]),
           (none, .asg 2 (.v 12) .copy),
           (none, .asg 3 (.v 15) .copy)])
         (.ret [2, 3]))
        (.skip [4, 5])))
      (.seq
       (.region [(17, 4, false)] [] [2, 3] false [
         (none, .mv 16 (.v 5)),
         (none, .mv 17 (.v 4)),
         (none, .call (some 18) 7 true [((.v 17), true), ((.c (.int .i64 60)), false)]),
         (none, .asg 2 (.v 16) .copy),
         (none, .asg 3 (.v 18) .copy)])
       (.ret [2, 3]))))))⟩
def F467 : PFunc :=
 ⟨[false], [.cell 2 true 2, .tmp 3, .cell 4 true 2],
  (.seq
   (.region [] [] [0, 2, 4] false [
     (none, .new 2 (.agg [(.int .i64 0), (.int .i64 0)])),
     (none, .asg 3 (.c (.int .i64 0)) .copy),
     (none, .new 4 (.agg [(.int .i64 0), (.int .i64 0)]))])
   (.seq
    (.region [(8, 0, false)] [] [2, 4, 5] false [
      (none, .mv 8 (.v 0)),
      (none, .call (some 9) 603 true [((.v 8), false)]),
      (none, .asg 5 (.v 9) .move)])
    (.seq
     (.region [(10, 5, false)] [] [2, 4, 5, 6] false [
       (none, .mv 10 (.v 5)),
       (none, .call (some 11) 687 true [((.v 10), true)]),
       (none, .new 6 (.agg [(.int .i64 0), (.int .i64 0)])),
       (none, .store 2 (.v 6) (.v 11) .copy)])
     (.seq
      (.region [(12, 5, false)] [] [2, 4, 5, 6, 7] false [
        (none, .mv 12 (.v 5)),
        (none, .call (some 13) 688 true [((.v 12), true)]),
        (none, .asg 7 (.v 13) .copy)])
      (.seq
       (.region [(16, 5, false)] [] [2, 3, 4] true [
         (none, .load 14 true 2 (.v 6) none),
         (none, .mv 15 (.v 7)),
         (none, .mv 16 (.v 5)),
         (none, .call (some 17) 687 true [((.v 16), true)]),
         (none, .store 2 (.v 2) (.v 14) .copy),
         (none, .asg 3 (.v 15) .copy),
         (none, .store 2 (.v 4) (.v 17) .copy)])
       (.ret [2, 3, 4]))))))⟩
def F481 : PFunc :=
 ⟨[false], [.tmp 2, .tmp 3],
  (.seq
   (.region [] [] [0] false [
     (none, .asg 2 (.c (.int .i64 0)) .copy),
     (none, .asg 3 (.c (.sl true 1 [])) .copy)])
   (.seq
    (.region [(9, 0, false)] [] [4] false [
      (none, .mv 9 (.v 0)),
      (none, .call (some 10) 603 true [((.v 9), false)]),
      (none, .asg 4 (.v 10) .move)])
    (.seq
     (.region [(11, 4, false)] [] [4, 5] false [
       (none, .mv 11 (.v 4)),
       (none, .call (some 12) 690 true [((.v 11), true)]),
       (none, .asg 5 (.v 12) .copy)])
     (.seq
      (.region [] [] [4, 5, 6] false [
        (none, .mksl 13 1 (.int .i64 0) 0 []),
        (none, .asg 6 (.v 13) .move)])
      (.seq
       (.region [(14, 4, false)] [] [4, 5, 6, 7] false [
         (none, .mv 14 (.v 4)),
         (none, .call (some 15) 7 true [((.v 14), true), ((.c (.int .i64 4)), false)]),
         (none, .asg 7 (.v 15) .copy)])
       (.seq
        (.seq
         (.region [(16, 4, false)] [] [4, 5, 6, 7, 17] false [
           (none, .mv 16 (.v 4)),
           (none, .call (some 17) 6 true [((.v 16), true), ((.c (.int .i64 12)), false)])])
         (.cond (.v 17)
          (.region [(18, 4, false)] [] [4, 5, 6, 7] false [
            (none, .mv 18 (.v 4)),
            (none, .call (some 19) 7 true [((.v 18), true), ((.c (.int .i64 2)), false)]),
            (none, .bin 20 .add (.c (.int .i64 4)) (.v 19)),
            (none, .asg 7 (.v 20) .copy)])
          (.skip [4, 5, 6, 7])))
        (.seq
         (.seq
          (.region [] [] [4, 5, 6, 7, 8] false [
            (none, .mv 21 (.v 7)),
            (none, .asg 8 (.v 21) .copy)])
          (.block 0
           (.loop
            (.seq
             (.seq
              (.region [] [] [4, 5, 6, 7, 8, 23] false [
                (none, .mv 22 (.v 8)),
                (none, .bin 23 .gtr (.v 22) (.c (.int .i64 0)))])
              (.cond (.v 23)
               (.skip [4, 5, 6, 7, 8])
               (.exit 0 [4, 5, 6, 7])))
             (.seq
              (.block 1
               (.region [(27, 4, false), (26, 6, false)] [] [4, 5, 6, 7, 8] false [
                 (none, .mv 26 (.v 6)),
                 (none, .mv 27 (.v 4)),
                 (none, .call (some 28) 7 true [((.v 27), true), ((.c (.int .i64 20)), false)]),
                 (none, .bin 29 .mul (.c (.int .i64 50)) (.v 28)),
                 (none, .mksl 30 1 (.int .i64 0) 1 [(0, (.v 29), .copy)]),
                 (none, .app 31 1 (.v 26) (.v 30) .move),
                 (none, .asg 6 (.v 31) .move)]))
              (.region [] [] [4, 5, 6, 7, 8] false [
                (none, .mv 24 (.v 8)),
                (none, .bin 25 .sub (.v 24) (.c (.int .i64 1))),
                (none, .asg 8 (.v 25) .copy)]))))))
         (.seq
          (.seq
           (.region [(35, 4, false)] [] [4, 5, 6, 37] false [
             (none, .mv 32 (.v 7)),
             (none, .bin 33 .gtr (.v 32) (.c (.int .i64 0))),
             (none, .mv 34 (.v 33)),
             (some (34, true), .mv 35 (.v 4)),
             (some (34, true), .call (some 36) 6 true [((.v 35), true), ((.c (.int .i64 10)), false)]),
             (none, .pick 37 (.v 34) (.v 36) (.c (.bool false)))])
           (.cond (.v 37)
            (.region [(42, 6, false), (39, 4, false), (38, 6, false)] [] [5, 6] false [
              (none, .mv 38 (.v 6)),
              (none, .mv 39 (.v 4)),
              (none, .mksl 40 1 (.int .i64 0) 4 [(0, (.c (.int .i64 (-1))), .copy), (1, (.c (.int .i64 0)), .copy), (2, (.c (.int .i64 1000)), .copy), (3, (.c (.int .i64 1001)), .copy)]),
              (none, .call (some 41) 4 true [((.v 39), true), ((.v 40), false)]),
              (none, .iadr 42 1 (.v 38) (.c (.int .i64 0))),
              (none, .store 1 (.v 42) (.v 41) .copy)])
            (.skip [5, 6])))
          (.seq
           (.region [(44, 6, false)] [] [2, 3] false [
             (none, .mv 43 (.v 5)),
             (none, .mv 44 (.v 6)),
             (none, .asg 2 (.v 43) .copy),
             (none, .asg 3 (.v 44) .move)])
           (.ret [2, 3]))))))))))⟩
def F492 : PFunc :=
 ⟨[false], [.tmp 2, .tmp 3],
  (.seq
   (.region [] [] [0] false [
     (none, .asg 2 (.c (.int .i64 0)) .copy),
     (none, .asg 3 (.c (.int .i64 0)) .copy)])
   (.seq
    (.region [(6, 0, false)] [] [4] false [
      (none, .mv 6 (.v 0)),
      (none, .call (some 7) 603 true [((.v 6), false)]),
      (none, .asg 4 (.v 7) .move)])
    (.seq
     (.region [(8, 4, false)] [] [4, 5] false [
       (none, .mv 8 (.v 4)),
       (none, .call (some 9) 692 true [((.v 8), true)]),
       (none, .asg 5 (.v 9) .copy)])
     (.seq
      (.region [(11, 4, false)] [] [2, 3] false [
        (none, .mv 10 (.v 5)),
        (none, .mv 11 (.v 4)),
        (none, .call (some 12) 692 true [((.v 11), true)]),
        (none, .asg 2 (.v 10) .copy),
        (none, .asg 3 (.v 12) .copy)])
      (.ret [2, 3])))))⟩
def F606 : PFunc :=
 ⟨[false, false], [.tmp 4],
  (.seq
   (.region [] [] [0, 1] false [
     (none, .asg 4 (.c (.int .i64 0)) .copy)])
   (.seq
    (.seq
     (.region [] [] [0, 1, 7] false [
       (none, .mv 5 (.v 0)),
       (none, .mv 6 (.v 1)),
       (none, .bin 7 .gtr (.v 5) (.v 6))])
     (.cond (.v 7)
      (.seq
       (.region [] [] [4] false [
         (none, .mv 8 (.v 0)),
         (none, .asg 4 (.v 8) .copy)])
       (.ret [4]))
      (.skip [1])))
    (.seq
     (.region [] [] [4] false [
       (none, .mv 9 (.v 1)),
       (none, .asg 4 (.v 9) .copy)])
     (.ret [4]))))⟩
def F693 : PFunc :=
 ⟨[false, false, false, false], [.tmp 8],
  (.seq
   (.region [] [] [0, 1, 2, 3] false [
     (none, .asg 8 (.c (.bool false)) .copy)])
   (.seq
    (.region [] [] [8] false [
      (none, .mv 9 (.v 0)),
      (none, .mv 10 (.v 2)),
      (none, .mv 11 (.v 2)),
      (none, .bin 12 .mul (.v 10) (.v 11)),
      (none, .bin 13 .mul (.v 9) (.v 12)),
      (none, .mv 14 (.v 1)),
      (none, .mv 15 (.v 3)),
      (none, .mv 16 (.v 3)),
      (none, .bin 17 .mul (.v 15) (.v 16)),
      (none, .bin 18 .mul (.v 14) (.v 17)),
      (none, .bin 19 .geq (.v 13) (.v 18)),
      (none, .asg 8 (.v 19) .copy)])
    (.ret [8])))⟩
def F515 : PFunc :=
 ⟨[false, false, false], [.tmp 6, .tmp 7],
  (.seq
   (.region [] [] [1, 3, 5] false [
     (none, .box 3 (.v 0) .copy),
     (none, .box 5 (.v 2) .copy),
     (none, .asg 6 (.c (.int .i64 0)) .copy),
     (none, .asg 7 (.c (.int .i64 0)) .copy)])
   (.seq
    (.seq
     (.region [] [] [1, 3, 5, 19] false [
       (none, .load 12 true 2 (.v 3) none),
       (none, .call (some 13) 617 false [((.v 12), false)]),
       (none, .un 14 .not (.v 13)),
       (none, .mv 15 (.v 14)),
       (some (15, false), .load 16 true 2 (.v 5) none),
       (some (15, false), .call (some 17) 617 false [((.v 16), false)]),
       (some (15, false), .un 18 .not (.v 17)),
       (none, .pick 19 (.v 15) (.c (.bool true)) (.v 18))])
     (.cond (.v 19)
      (.seq
       (.region [] [] [6, 7] false [
         (none, .asg 6 (.c (.int .i64 0)) .copy),
         (none, .asg 7 (.c (.int .i64 1)) .copy)])
       (.ret [6, 7]))
      (.skip [1, 3, 5])))
    (.seq
     (.seq
      (.region [] [] [1, 3, 5, 32] false [
        (none, .load 20 true 2 (.v 3) none),
        (none, .call (some 21) 686 false [((.v 20), false)]),
        (none, .un 22 .not (.v 21)),
        (none, .mv 23 (.v 22)),
        (some (23, false), .load 24 true 2 (.v 5) none),
        (some (23, false), .call (some 25) 686 false [((.v 24), false)]),
        (some (23, false), .un 26 .not (.v 25)),
        (none, .pick 27 (.v 23) (.c (.bool true)) (.v 26)),
        (none, .mv 28 (.v 27)),
        (some (28, false), .mv 29 (.v 1)),
        (some (28, false), .call (some 30) 694 false [((.v 29), false)]),
        (some (28, false), .un 31 .not (.v 30)),
        (none, .pick 32 (.v 28) (.c (.bool true)) (.v 31))])
      (.cond (.v 32)
       (.seq
        (.region [] [] [6, 7] false [
          (none, .asg 6 (.c (.int .i64 0)) .copy),
          (none, .asg 7 (.c (.int .i64 2)) .copy)])
        (.ret [6, 7]))
       (.skip [1, 3, 5])))
     (.seq
      (.region [(35, 5, false), (33, 3, false)] [] [1, 3, 5, 8] false [
        (none, .fadr 33 0 1 (.v 3)),
        (none, .load 34 false 1 (.v 33) none),
        (none, .fadr 35 1 1 (.v 5)),
        (none, .load 36 false 1 (.v 35) none),
        (none, .bin 37 .mul (.v 34) (.v 36)),
        (none, .asg 8 (.v 37) .copy)])
      (.seq
       (.region [(40, 3, false), (38, 5, false)] [] [1, 8, 9] false [
         (none, .fadr 38 0 1 (.v 5)),
         (none, .load 39 false 1 (.v 38) none),
         (none, .fadr 40 1 1 (.v 3)),
         (none, .load 41 false 1 (.v 40) none),
         (none, .bin 42 .mul (.v 39) (.v 41)),
         (none, .asg 9 (.v 42) .copy)])
       (.seq
        (.region [] [] [1, 8, 9, 10] false [
          (none, .mv 43 (.v 8)),
          (none, .mv 44 (.v 9)),
          (none, .call (some 45) 604 false [((.v 43), false), ((.v 44), false)]),
          (none, .call (some 46) 606 false [((.c (.int .i64 1)), false), ((.v 45), false)]),
          (none, .asg 10 (.v 46) .copy)])
        (.seq
         (.region [] [] [1, 8, 9, 10] false [
           (none, .mv 47 (.v 8)),
           (none, .mv 48 (.v 10)),
           (none, .bin 49 .quo (.v 47) (.v 48)),
           (none, .asg 8 (.v 49) .copy)])
         (.seq
          (.region [] [] [1, 8, 9] false [
            (none, .mv 50 (.v 9)),
            (none, .mv 51 (.v 10)),
            (none, .bin 52 .quo (.v 50) (.v 51)),
            (none, .asg 9 (.v 52) .copy)])
          (.seq
           (.seq
            (.region [] [] [1, 8, 9, 11] false [
              (none, .asg 11 (.c (.int .i64 1000)) .copy)])
            (.block 0
             (.loop
              (.seq
               (.seq
                (.region [] [] [1, 8, 9, 11, 54] false [
                  (none, .mv 53 (.v 11)),
                  (none, .bin 54 .geq (.v 53) (.c (.int .i64 1)))])
                (.cond (.v 54)
                 (.skip [1, 8, 9, 11])
                 (.exit 0 [])))
               (.seq
                (.block 1
                 (.seq
                  (.region [] [] [1, 8, 9, 11, 61] false [
                    (none, .mv 57 (.v 8)),
                    (none, .mv 58 (.v 9)),
                    (none, .mv 59 (.v 1)),
                    (none, .mv 60 (.v 11)),
                    (none, .call (some 61) 693 false [((.v 57), false), ((.v 58), false), ((.v 59), false), ((.v 60), false)])])
                  (.cond (.v 61)
                   (.seq
                    (.region [] [] [6, 7] false [
                      (none, .mv 62 (.v 11)),
                      (none, .asg 6 (.v 62) .copy),
                      (none, .asg 7 (.c (.int .i64 0)) .copy)])
                    (.ret [6, 7]))
                   (.skip [1, 8, 9, 11]))))
                (.region [] [] [1, 8, 9, 11] false [
                  (none, .mv 55 (.v 11)),
                  (none, .bin 56 .sub (.v 55) (.c (.int .i64 1))),
                  (none, .asg 11 (.v 56) .copy)]))))))
           (.seq
            (.region [] [] [6, 7] false [
              (none, .asg 6 (.c (.int .i64 0)) .copy),
              (none, .asg 7 (.c (.int .i64 3)) .copy)])
            (.ret [6, 7])))))))))))⟩
def F542 : PFunc :=
 ⟨[false, false], [.cell 4 true 2, .tmp 5],
  (.seq
   (.region [] [] [0, 1, 4] false [
     (none, .new 4 (.agg [(.int .i64 0), (.int .i64 0)])),
     (none, .asg 5 (.c (.int .i64 0)) .copy)])
   (.seq
    (.seq
     (.region [] [] [0, 1, 4, 12] false [
       (none, .mv 10 (.v 0)),
       (none, .call (some 11) 605 false [((.v 10), false), ((.c (.int .i64 0)), false), ((.c (.int .i64 100000)), false)]),
       (none, .un 12 .not (.v 11))])
     (.cond (.v 12)
      (.seq
       (.region [] [] [4, 5] false [
         (none, .build 13 [(.int .i64 0), (.int .i64 0)] []),
         (none, .store 2 (.v 4) (.v 13) .copy),
         (none, .asg 5 (.c (.int .i64 2)) .copy)])
       (.ret [4, 5]))
      (.skip [0, 1, 4])))
    (.seq
     (.seq
      (.region [] [] [0, 1, 4, 6] false [
        (none, .asg 6 (.c (.int .i64 0)) .copy)])
      (.block 0
       (.loop
        (.seq
         (.seq
          (.region [(15, 1, false)] [] [0, 1, 4, 6, 17] false [
            (none, .mv 14 (.v 6)),
            (none, .mv 15 (.v 1)),
            (none, .len 16 false (.v 15)),
            (none, .bin 17 .lss (.v 14) (.v 16))])
          (.cond (.v 17)
           (.skip [0, 1, 4, 6])
           (.exit 0 [0, 1, 4])))
         (.seq
          (.block 1
           (.seq
            (.region [(22, 1, false), (20, 1, false)] [] [0, 1, 4, 6, 25] false [
              (none, .mv 20 (.v 1)),
              (none, .mv 21 (.v 6)),
              (none, .iadr 22 1 (.v 20) (.v 21)),
              (none, .load 23 false 1 (.v 22) none),
              (none, .call (some 24) 605 false [((.v 23), false), ((.c (.int .i64 0)), false), ((.c (.int .i64 1000)), false)]),
              (none, .un 25 .not (.v 24))])
            (.cond (.v 25)
             (.seq
              (.region [] [] [4, 5] false [
                (none, .build 26 [(.int .i64 0), (.int .i64 0)] []),
                (none, .store 2 (.v 4) (.v 26) .copy),
                (none, .asg 5 (.c (.int .i64 2)) .copy)])
              (.ret [4, 5]))
             (.skip [0, 1, 4, 6]))))
          (.region [] [] [0, 1, 4, 6] false [
            (none, .mv 18 (.v 6)),
            (none, .bin 19 .add (.v 18) (.c (.int .i64 1))),
            (none, .asg 6 (.v 19) .copy)]))))))
     (.seq
      (.seq
       (.region [(27, 1, false)] [] [0, 1, 4, 29] false [
         (none, .mv 27 (.v 1)),
         (none, .len 28 false (.v 27)),
         (none, .bin 29 .gtr (.v 28) (.c (.int .i64 4)))])
       (.cond (.v 29)
        (.seq
         (.region [] [] [4, 5] false [
           (none, .build 30 [(.int .i64 0), (.int .i64 0)] []),
           (none, .store 2 (.v 4) (.v 30) .copy),
           (none, .asg 5 (.c (.int .i64 2)) .copy)])
         (.ret [4, 5]))
        (.skip [0, 1, 4])))
      (.seq
       (.region [] [] [1, 4, 7] false [
         (none, .mv 31 (.v 0)),
         (none, .asg 7 (.v 31) .copy)])
       (.seq
        (.region [] [] [1, 4, 7, 8] false [
          (none, .asg 8 (.c (.int .i64 1)) .copy)])
        (.seq
         (.seq
          (.region [] [] [1, 4, 7, 8, 9] false [
            (none, .asg 9 (.c (.int .i64 0)) .copy)])
          (.block 2
           (.loop
            (.seq
             (.seq
              (.region [(33, 1, false)] [] [1, 4, 7, 8, 9, 35] false [
                (none, .mv 32 (.v 9)),
                (none, .mv 33 (.v 1)),
                (none, .len 34 false (.v 33)),
                (none, .bin 35 .lss (.v 32) (.v 34))])
              (.cond (.v 35)
               (.skip [1, 4, 7, 8, 9])
               (.exit 2 [4, 7, 8])))
             (.seq
              (.block 3
               (.seq
                (.region [(41, 1, false), (39, 1, false)] [] [1, 4, 7, 8, 9] false [
                  (none, .mv 38 (.v 7)),
                  (none, .mv 39 (.v 1)),
                  (none, .mv 40 (.v 9)),
                  (none, .iadr 41 1 (.v 39) (.v 40)),
                  (none, .load 42 false 1 (.v 41) none),
                  (none, .bin 43 .sub (.c (.int .i64 1000)) (.v 42)),
                  (none, .bin 44 .mul (.v 38) (.v 43)),
                  (none, .asg 7 (.v 44) .copy)])
                (.region [] [] [1, 4, 7, 8, 9] false [
                  (none, .mv 45 (.v 8)),
                  (none, .bin 46 .mul (.v 45) (.c (.int .i64 1000))),
                  (none, .asg 8 (.v 46) .copy)])))
              (.region [] [] [1, 4, 7, 8, 9] false [
                (none, .mv 36 (.v 9)),
                (none, .bin 37 .add (.v 36) (.c (.int .i64 1))),
                (none, .asg 9 (.v 37) .copy)]))))))
         (.seq
          (.region [] [] [4, 5] false [
            (none, .mv 47 (.v 7)),
            (none, .mv 48 (.v 8)),
            (none, .call (some 49) 616 false [((.v 47), false), ((.v 48), false)]),
            (none, .store 2 (.v 4) (.v 49) .copy),
            (none, .asg 5 (.c (.int .i64 0)) .copy)])
          (.ret [4, 5])))))))))⟩
def F565 : PFunc :=
 ⟨[false, false], [.tmp 4, .tmp 5],
  (.seq
   (.region [] [] [0, 1] false [
     (none, .asg 4 (.c (.int .i64 0)) .copy),
     (none, .asg 5 (.c (.int .i64 0)) .copy)])
   (.seq
    (.seq
     (.region [] [] [0, 1, 13] false [
       (none, .mv 6 (.v 0)),
       (none, .call (some 7) 697 false [((.v 6), false)]),
       (none, .un 8 .not (.v 7)),
       (none, .mv 9 (.v 8)),
       (some (9, false), .mv 10 (.v 1)),
       (some (9, false), .call (some 11) 697 false [((.v 10), false)]),
       (some (9, false), .un 12 .not (.v 11)),
       (none, .pick 13 (.v 9) (.c (.bool true)) (.v 12))])
     (.cond (.v 13)
      (.seq
       (.region [] [] [4, 5] false [
         (none, .asg 4 (.c (.int .i64 0)) .copy),
         (none, .asg 5 (.c (.int .i64 2)) .copy)])
       (.ret [4, 5]))
      (.skip [0, 1])))
    (.seq
     (.region [] [] [4, 5] false [
       (none, .mv 14 (.v 0)),
       (none, .mv 15 (.v 1)),
       (none, .bin 16 .mul (.v 14) (.v 15)),
       (none, .asg 4 (.v 16) .copy),
       (none, .asg 5 (.c (.int .i64 0)) .copy)])
     (.ret [4, 5]))))⟩
def F363 : PFunc :=
 ⟨[false], [.tmp 2],
  (.seq
   (.region [] [] [0] false [
     (none, .asg 2 (.c (.bool false)) .copy)])
   (.seq
    (.seq
     (.region [(44, 0, false)] [] [0, 45] false [
       (none, .mv 44 (.v 0)),
       (none, .call (some 45) 398 false [((.v 44), false)])])
     (.cond (.v 45)
      (.seq
       (.region [] [] [2] false [
         (none, .asg 2 (.c (.bool true)) .copy)])
       (.ret [2]))
      (.skip [0])))
    (.seq
     (.region [(47, 0, false)] [] [0, 3, 4] false [
       (none, .mv 47 (.v 0)),
       (none, .call (some 48) 481 false [((.v 47), false)]),
       (none, .asg 46 (.v 48) .move),
       (none, .extp 49 (.v 46) 0),
       (none, .ext 50 (.v 46) 1),
       (none, .asg 3 (.v 49) .copy),
       (none, .asg 4 (.v 50) .move)])
     (.seq
      (.region [(53, 4, false)] [] [0, 3, 4, 5, 6] false [
        (none, .mv 52 (.v 3)),
        (none, .mv 53 (.v 4)),
        (none, .call (some 54) 132 false [((.v 52), false), ((.v 53), false)]),
        (none, .asg 51 (.v 54) .copy),
        (none, .extp 55 (.v 51) 0),
        (none, .extp 56 (.v 51) 1),
        (none, .new 5 (.agg [(.int .i64 0), (.int .i64 0)])),
        (none, .store 2 (.v 5) (.v 55) .copy),
        (none, .asg 6 (.v 56) .copy)])
      (.seq
       (.region [(59, 4, false)] [] [0, 3, 5, 6, 7, 8] false [
         (none, .mv 58 (.v 3)),
         (none, .mv 59 (.v 4)),
         (none, .call (some 60) 542 false [((.v 58), false), ((.v 59), false)]),
         (none, .asg 57 (.v 60) .copy),
         (none, .extp 61 (.v 57) 0),
         (none, .extp 62 (.v 57) 1),
         (none, .new 7 (.agg [(.int .i64 0), (.int .i64 0)])),
         (none, .store 2 (.v 7) (.v 61) .copy),
         (none, .asg 8 (.v 62) .copy)])
       (.seq
        (.region [(64, 0, false)] [] [0, 3, 5, 6, 7, 8, 9, 10, 11] false [
          (none, .mv 64 (.v 0)),
          (none, .call (some 65) 459 false [((.v 64), false)]),
          (none, .asg 63 (.v 65) .copy),
          (none, .extp 66 (.v 63) 0),
          (none, .extp 67 (.v 63) 1),
          (none, .extp 68 (.v 63) 2),
          (none, .new 9 (.agg [(.int .i64 0), (.int .i64 0)])),
          (none, .store 2 (.v 9) (.v 66) .copy),
          (none, .asg 10 (.v 67) .copy),
          (none, .asg 11 (.v 68) .copy)])
        (.seq
         (.region [] [] [0, 3, 5, 6, 7, 8, 9, 10, 11, 12, 13] false [
           (none, .load 70 true 2 (.v 9) none),
           (none, .mv 71 (.v 10)),
           (none, .mv 72 (.v 11)),
           (none, .call (some 73) 59 false [((.v 70), false), ((.v 71), false), ((.v 72), false)]),
           (none, .asg 69 (.v 73) .copy),
           (none, .extp 74 (.v 69) 0),
           (none, .extp 75 (.v 69) 1),
           (none, .new 12 (.agg [(.int .i64 0), (.int .i64 0)])),
           (none, .store 2 (.v 12) (.v 74) .copy),
           (none, .asg 13 (.v 75) .copy)])
         (.seq
          (.region [] [] [0, 3, 5, 6, 7, 8, 12, 13, 14, 15] false [
            (none, .load 77 true 2 (.v 9) none),
            (none, .mv 78 (.v 10)),
            (none, .mv 79 (.v 11)),
            (none, .call (some 80) 444 false [((.v 77), false), ((.v 78), false), ((.v 79), false)]),
            (none, .asg 76 (.v 80) .copy),
            (none, .extp 81 (.v 76) 0),
            (none, .extp 82 (.v 76) 1),
            (none, .new 14 (.agg [(.int .i64 0), (.int .i64 0)])),
            (none, .store 2 (.v 14) (.v 81) .copy),
            (none, .asg 15 (.v 82) .copy)])
          (.seq
           (.region [(84, 0, false)] [] [0, 3, 5, 6, 7, 8, 12, 13, 14, 15, 16, 17, 18] false [
             (none, .mv 84 (.v 0)),
             (none, .call (some 85) 467 false [((.v 84), false)]),
             (none, .asg 83 (.v 85) .copy),
             (none, .extp 86 (.v 83) 0),
             (none, .extp 87 (.v 83) 1),
             (none, .extp 88 (.v 83) 2),
             (none, .new 16 (.agg [(.int .i64 0), (.int .i64 0)])),
             (none, .new 18 (.agg [(.int .i64 0), (.int .i64 0)])),
             (none, .store 2 (.v 16) (.v 86) .copy),
             (none, .asg 17 (.v 87) .copy),
             (none, .store 2 (.v 18) (.v 88) .copy)])
           (.seq
            (.region [] [] [0, 3, 5, 6, 7, 8, 12, 13, 14, 15, 16, 17, 18, 19, 20] false [
              (none, .load 90 true 2 (.v 16) none),
              (none, .mv 91 (.v 17)),
              (none, .load 92 true 2 (.v 18) none),
              (none, .call (some 93) 83 false [((.v 90), false), ((.v 91), false), ((.v 92), false)]),
              (none, .asg 89 (.v 93) .copy),
              (none, .extp 94 (.v 89) 0),
              (none, .extp 95 (.v 89) 1),
              (none, .asg 19 (.v 94) .copy),
              (none, .asg 20 (.v 95) .copy)])
            (.seq
             (.region [] [] [0, 3, 5, 6, 7, 8, 12, 13, 14, 15, 16, 17, 18, 19, 20, 21, 22] false [
               (none, .load 97 true 2 (.v 16) none),
               (none, .mv 98 (.v 17)),
               (none, .load 99 true 2 (.v 18) none),
               (none, .call (some 100) 515 false [((.v 97), false), ((.v 98), false), ((.v 99), false)]),
               (none, .asg 96 (.v 100) .copy),
               (none, .extp 101 (.v 96) 0),
               (none, .extp 102 (.v 96) 1),
               (none, .asg 21 (.v 101) .copy),
               (none, .asg 22 (.v 102) .copy)])
             (.seq
              (.region [(104, 0, false)] [] [0, 3, 5, 6, 7, 8, 12, 13, 14, 15, 16, 17, 18, 19, 20, 21, 22, 23, 24, 25] false [
                (none, .mv 104 (.v 0)),
                (none, .call (some 105) 460 false [((.v 104), false)]),
                (none, .asg 103 (.v 105) .copy),
                (none, .extp 106 (.v 103) 0),
                (none, .extp 107 (.v 103) 1),
                (none, .extp 108 (.v 103) 2),
                (none, .asg 23 (.v 106) .copy),
                (none, .asg 24 (.v 107) .copy),
                (none, .asg 25 (.v 108) .copy)])
              (.seq
               (.region [] [] [0, 3, 5, 6, 7, 8, 12, 13, 14, 15, 16, 17, 18, 19, 20, 21, 22, 23, 24, 25, 26, 27] false [
                 (none, .mv 110 (.v 23)),
                 (none, .mv 111 (.v 24)),
                 (none, .mv 112 (.v 25)),
                 (none, .call (some 113) 60 false [((.v 110), false), ((.v 111), false), ((.v 112), false)]),
                 (none, .asg 109 (.v 113) .copy),
                 (none, .extp 114 (.v 109) 0),
                 (none, .extp 115 (.v 109) 1),
                 (none, .new 26 (.agg [(.int .i64 0), (.int .i64 0)])),
                 (none, .store 2 (.v 26) (.v 114) .copy),
                 (none, .asg 27 (.v 115) .copy)])
               (.seq
                (.region [] [] [0, 3, 5, 6, 7, 8, 12, 13, 14, 15, 16, 17, 18, 19, 20, 21, 22, 23, 24, 25, 26, 27, 28, 29] false [
                  (none, .mv 117 (.v 23)),
                  (none, .mv 118 (.v 24)),
                  (none, .mv 119 (.v 25)),
                  (none, .call (some 120) 445 false [((.v 117), false), ((.v 118), false), ((.v 119), false)]),
                  (none, .asg 116 (.v 120) .copy),
                  (none, .extp 121 (.v 116) 0),
                  (none, .extp 122 (.v 116) 1),
                  (none, .new 28 (.agg [(.int .i64 0), (.int .i64 0)])),
                  (none, .store 2 (.v 28) (.v 121) .copy),
                  (none, .asg 29 (.v 122) .copy)])
                (.seq
                 (.region [(124, 0, false)] [] [0, 3, 5, 6, 7, 8, 12, 13, 14, 15, 16, 17, 18, 19, 20, 21, 22, 23, 24, 25, 26, 27, 28, 29, 30, 31] false [
                   (none, .mv 124 (.v 0)),
                   (none, .call (some 125) 464 false [((.v 124), false)]),
                   (none, .asg 123 (.v 125) .copy),
                   (none, .extp 126 (.v 123) 0),
                   (none, .extp 127 (.v 123) 1),
                   (none, .asg 30 (.v 126) .copy),
                   (none, .asg 31 (.v 127) .copy)])
                 (.seq
                  (.region [] [] [0, 3, 5, 6, 7, 8, 12, 13, 14, 15, 16, 17, 18, 19, 20, 21, 22, 23, 24, 25, 26, 27, 28, 29, 30, 31, 32, 33] false [
                    (none, .mv 129 (.v 30)),
                    (none, .mv 130 (.v 31)),
                    (none, .call (some 131) 68 false [((.v 129), false), ((.v 130), false)]),
                    (none, .asg 128 (.v 131) .copy),
                    (none, .extp 132 (.v 128) 0),
                    (none, .extp 133 (.v 128) 1),
                    (none, .new 32 (.agg [(.int .i64 0), (.int .i64 0)])),
                    (none, .store 2 (.v 32) (.v 132) .copy),
                    (none, .asg 33 (.v 133) .copy)])
                  (.seq
                   (.region [] [] [0, 3, 5, 6, 7, 8, 12, 13, 14, 15, 16, 17, 18, 19, 20, 21, 22, 23, 24, 25, 26, 27, 28, 29, 32, 33, 34, 35] false [
                     (none, .mv 135 (.v 30)),
                     (none, .mv 136 (.v 31)),
                     (none, .call (some 137) 450 false [((.v 135), false), ((.v 136), false)]),
                     (none, .asg 134 (.v 137) .copy),
                     (none, .extp 138 (.v 134) 0),
                     (none, .extp 139 (.v 134) 1),
                     (none, .new 34 (.agg [(.int .i64 0), (.int .i64 0)])),
                     (none, .store 2 (.v 34) (.v 138) .copy),
                     (none, .asg 35 (.v 139) .copy)])
                   (.seq
                    (.region [(141, 0, false)] [] [3, 5, 6, 7, 8, 12, 13, 14, 15, 16, 17, 18, 19, 20, 21, 22, 23, 24, 25, 26, 27, 28, 29, 32, 33, 34, 35, 36, 37] false [
                      (none, .mv 141 (.v 0)),
                      (none, .call (some 142) 492 false [((.v 141), false)]),
                      (none, .asg 140 (.v 142) .copy),
                      (none, .extp 143 (.v 140) 0),
                      (none, .extp 144 (.v 140) 1),
                      (none, .asg 36 (.v 143) .copy),
                      (none, .asg 37 (.v 144) .copy)])
                    (.seq
                     (.region [] [] [3, 5, 6, 7, 8, 12, 13, 14, 15, 16, 17, 18, 19, 20, 21, 22, 23, 24, 25, 26, 27, 28, 29, 32, 33, 34, 35, 36, 37, 38, 39] false [
                       (none, .mv 146 (.v 36)),
                       (none, .mv 147 (.v 37)),
                       (none, .call (some 148) 175 false [((.v 146), false), ((.v 147), false)]),
                       (none, .asg 145 (.v 148) .copy),
                       (none, .extp 149 (.v 145) 0),
                       (none, .extp 150 (.v 145) 1),
                       (none, .asg 38 (.v 149) .copy),
                       (none, .asg 39 (.v 150) .copy)])
                     (.seq
                      (.region [] [] [3, 5, 6, 7, 8, 12, 13, 14, 15, 16, 17, 18, 19, 20, 21, 22, 23, 24, 25, 26, 27, 28, 29, 32, 33, 34, 35, 38, 39, 40, 41] false [
                        (none, .mv 152 (.v 36)),
                        (none, .mv 153 (.v 37)),
                        (none, .call (some 154) 565 false [((.v 152), false), ((.v 153), false)]),
                        (none, .asg 151 (.v 154) .copy),
                        (none, .extp 155 (.v 151) 0),
                        (none, .extp 156 (.v 151) 1),
                        (none, .asg 40 (.v 155) .copy),
                        (none, .asg 41 (.v 156) .copy)])
                      (.seq
                       (.seq
                        (.region [] [] [3, 6, 7, 16, 17, 18, 20, 21, 23, 24, 25, 27, 28, 33, 34, 214] false [
                          (none, .mv 157 (.v 6)),
                          (none, .mv 158 (.v 8)),
                          (none, .bin 159 .neq (.v 157) (.v 158)),
                          (none, .mv 160 (.v 159)),
                          (some (160, false), .load 161 true 2 (.v 5) none),
                          (some (160, false), .load 162 true 2 (.v 7) none),
                          (some (160, false), .eqv 163 true [.i, .i] (.v 161) (.v 162)),
                          (none, .pick 164 (.v 160) (.c (.bool true)) (.v 163)),
                          (none, .mv 165 (.v 164)),
                          (some (165, false), .mv 166 (.v 13)),
                          (some (165, false), .mv 167 (.v 15)),
                          (some (165, false), .bin 168 .neq (.v 166) (.v 167)),
                          (none, .pick 169 (.v 165) (.c (.bool true)) (.v 168)),
                          (none, .mv 170 (.v 169)),
                          (some (170, false), .load 171 true 2 (.v 12) none),
                          (some (170, false), .load 172 true 2 (.v 14) none),
                          (some (170, false), .eqv 173 true [.i, .i] (.v 171) (.v 172)),
                          (none, .pick 174 (.v 170) (.c (.bool true)) (.v 173)),
                          (none, .mv 175 (.v 174)),
                          (some (175, false), .mv 176 (.v 20)),
                          (some (175, false), .mv 177 (.v 22)),
                          (some (175, false), .bin 178 .neq (.v 176) (.v 177)),
                          (none, .pick 179 (.v 175) (.c (.bool true)) (.v 178)),
                          (none, .mv 180 (.v 179)),
                          (some (180, false), .mv 181 (.v 19)),
                          (some (180, false), .mv 182 (.v 21)),
                          (some (180, false), .bin 183 .neq (.v 181) (.v 182)),
                          (none, .pick 184 (.v 180) (.c (.bool true)) (.v 183)),
                          (none, .mv 185 (.v 184)),
                          (some (185, false), .mv 186 (.v 27)),
                          (some (185, false), .mv 187 (.v 29)),
                          (some (185, false), .bin 188 .neq (.v 186) (.v 187)),
                          (none, .pick 189 (.v 185) (.c (.bool true)) (.v 188)),
                          (none, .mv 190 (.v 189)),
                          (some (190, false), .load 191 true 2 (.v 26) none),
                          (some (190, false), .load 192 true 2 (.v 28) none),
                          (some (190, false), .eqv 193 true [.i, .i] (.v 191) (.v 192)),
                          (none, .pick 194 (.v 190) (.c (.bool true)) (.v 193)),
                          (none, .mv 195 (.v 194)),
                          (some (195, false), .mv 196 (.v 33)),
                          (some (195, false), .mv 197 (.v 35)),
                          (some (195, false), .bin 198 .neq (.v 196) (.v 197)),
                          (none, .pick 199 (.v 195) (.c (.bool true)) (.v 198)),
                          (none, .mv 200 (.v 199)),
                          (some (200, false), .load 201 true 2 (.v 32) none),
                          (some (200, false), .load 202 true 2 (.v 34) none),
                          (some (200, false), .eqv 203 true [.i, .i] (.v 201) (.v 202)),
                          (none, .pick 204 (.v 200) (.c (.bool true)) (.v 203)),
                          (none, .mv 205 (.v 204)),
                          (some (205, false), .mv 206 (.v 39)),
                          (some (205, false), .mv 207 (.v 41)),
                          (some (205, false), .bin 208 .neq (.v 206) (.v 207)),
                          (none, .pick 209 (.v 205) (.c (.bool true)) (.v 208)),
                          (none, .mv 210 (.v 209)),
                          (some (210, false), .mv 211 (.v 38)),
                          (some (210, false), .mv 212 (.v 40)),
                          (some (210, false), .bin 213 .neq (.v 211) (.v 212)),
                          (none, .pick 214 (.v 210) (.c (.bool true)) (.v 213))])
                        (.cond (.v 214)
                         (.seq
                          (.region [] [] [2] false [
                            (none, .asg 2 (.c (.bool false)) .copy)])
                          (.ret [2]))
                         (.skip [3, 6, 7, 16, 17, 18, 20, 21, 23, 24, 25, 27, 28, 33, 34])))
                       (.seq
                        (.seq
                         (.region [(226, 7, false), (221, 7, false), (218, 7, false)] [] [16, 17, 18, 20, 21, 23, 24, 25, 27, 28, 33, 34, 230] false [
                           (none, .mv 215 (.v 6)),
                           (none, .bin 216 .eql (.v 215) (.c (.int .i64 0))),
                           (none, .mv 217 (.v 216)),
                           (some (217, true), .fadr 218 0 1 (.v 7)),
                           (some (217, true), .load 219 false 1 (.v 218) none),
                           (some (217, true), .mv 220 (.v 3)),
                           (some (217, true), .fadr 221 1 1 (.v 7)),
                           (some (217, true), .load 222 false 1 (.v 221) none),
                           (some (217, true), .bin 223 .mul (.v 220) (.v 222)),
                           (some (217, true), .bin 224 .gtr (.v 219) (.v 223)),
                           (some (217, true), .mv 225 (.v 224)),
                           (some (225, false), .fadr 226 0 1 (.v 7)),
                           (some (225, false), .load 227 false 1 (.v 226) none),
                           (some (225, false), .bin 228 .lss (.v 227) (.c (.int .i64 0))),
                           (some (217, true), .pick 229 (.v 225) (.c (.bool true)) (.v 228)),
                           (none, .pick 230 (.v 217) (.v 229) (.c (.bool false)))])
                         (.cond (.v 230)
                          (.seq
                           (.region [] [] [2] false [
                             (none, .asg 2 (.c (.bool false)) .copy)])
                           (.ret [2]))
                          (.skip [16, 17, 18, 20, 21, 23, 24, 25, 27, 28, 33, 34])))
                        (.seq
                         (.seq
                          (.region [(240, 34, false), (236, 34, false), (234, 34, false)] [] [16, 17, 18, 20, 21, 23, 24, 25, 27, 28, 244] false [
                            (none, .mv 231 (.v 33)),
                            (none, .bin 232 .eql (.v 231) (.c (.int .i64 0))),
                            (none, .mv 233 (.v 232)),
                            (some (233, true), .fadr 234 0 1 (.v 34)),
                            (some (233, true), .load 235 false 1 (.v 234) none),
                            (some (233, true), .fadr 236 1 1 (.v 34)),
                            (some (233, true), .load 237 false 1 (.v 236) none),
                            (some (233, true), .bin 238 .gtr (.v 235) (.v 237)),
                            (some (233, true), .mv 239 (.v 238)),
                            (some (239, false), .fadr 240 0 1 (.v 34)),
                            (some (239, false), .load 241 false 1 (.v 240) none),
                            (some (239, false), .bin 242 .lss (.v 241) (.c (.int .i64 1))),
                            (some (233, true), .pick 243 (.v 239) (.c (.bool true)) (.v 242)),
                            (none, .pick 244 (.v 233) (.v 243) (.c (.bool false)))])
                          (.cond (.v 244)
                           (.seq
                            (.region [] [] [2] false [
                              (none, .asg 2 (.c (.bool false)) .copy)])
                            (.ret [2]))
                           (.skip [16, 17, 18, 20, 21, 23, 24, 25, 27, 28])))
                         (.seq
                          (.seq
                           (.region [(255, 28, false), (248, 28, false)] [] [16, 17, 18, 20, 21, 259] false [
                             (none, .mv 245 (.v 27)),
                             (none, .bin 246 .eql (.v 245) (.c (.int .i64 0))),
                             (none, .mv 247 (.v 246)),
                             (some (247, true), .fadr 248 0 1 (.v 28)),
                             (some (247, true), .load 249 false 1 (.v 248) none),
                             (some (247, true), .mv 250 (.v 24)),
                             (some (247, true), .bin 251 .mul (.v 249) (.v 250)),
                             (some (247, true), .mv 252 (.v 25)),
                             (some (247, true), .bin 253 .mul (.v 251) (.v 252)),
                             (some (247, true), .mv 254 (.v 23)),
                             (some (247, true), .fadr 255 1 1 (.v 28)),
                             (some (247, true), .load 256 false 1 (.v 255) none),
                             (some (247, true), .bin 257 .mul (.v 254) (.v 256)),
                             (some (247, true), .bin 258 .neq (.v 253) (.v 257)),
                             (none, .pick 259 (.v 247) (.v 258) (.c (.bool false)))])
                           (.cond (.v 259)
                            (.seq
                             (.region [] [] [2] false [
                               (none, .asg 2 (.c (.bool false)) .copy)])
                             (.ret [2]))
                            (.skip [16, 17, 18, 20, 21])))
                          (.seq
                           (.seq
                            (.region [] [] [16, 17, 18, 21, 265] false [
                              (none, .mv 260 (.v 20)),
                              (none, .bin 261 .eql (.v 260) (.c (.int .i64 0))),
                              (none, .mv 262 (.v 261)),
                              (some (262, true), .mv 263 (.v 21)),
                              (some (262, true), .bin 264 .lss (.v 263) (.c (.int .i64 1000))),
                              (none, .pick 265 (.v 262) (.v 264) (.c (.bool false)))])
                            (.cond (.v 265)
                             (.seq
                              (.region [] [] [18, 42, 43] false [
                                (none, .load 267 true 2 (.v 16) none),
                                (none, .mv 268 (.v 17)),
                                (none, .mv 269 (.v 21)),
                                (none, .bin 270 .add (.v 269) (.c (.int .i64 1))),
                                (none, .call (some 271) 59 false [((.v 267), false), ((.v 268), false), ((.v 270), false)]),
                                (none, .asg 266 (.v 271) .copy),
                                (none, .extp 272 (.v 266) 0),
                                (none, .extp 273 (.v 266) 1),
                                (none, .new 42 (.agg [(.int .i64 0), (.int .i64 0)])),
                                (none, .store 2 (.v 42) (.v 272) .copy),
                                (none, .asg 43 (.v 273) .copy)])
                              (.seq
                               (.seq
                                (.region [(297, 18, false), (292, 42, false), (287, 42, false), (282, 42, false), (277, 42, false)] [] [18, 42, 300] false [
                                  (none, .mv 274 (.v 43)),
                                  (none, .bin 275 .neq (.v 274) (.c (.int .i64 0))),
                                  (none, .mv 276 (.v 275)),
                                  (some (276, false), .fadr 277 0 1 (.v 42)),
                                  (some (276, false), .load 278 false 1 (.v 277) none),
                                  (some (276, false), .bin 279 .lss (.v 278) (.c (.int .i64 0))),
                                  (none, .pick 280 (.v 276) (.c (.bool true)) (.v 279)),
                                  (none, .mv 281 (.v 280)),
                                  (some (281, false), .fadr 282 0 1 (.v 42)),
                                  (some (281, false), .load 283 false 1 (.v 282) none),
                                  (some (281, false), .bin 284 .gtr (.v 283) (.c (.int .i64 1000000000000))),
                                  (none, .pick 285 (.v 281) (.c (.bool true)) (.v 284)),
                                  (none, .mv 286 (.v 285)),
                                  (some (286, false), .fadr 287 1 1 (.v 42)),
                                  (some (286, false), .load 288 false 1 (.v 287) none),
                                  (some (286, false), .bin 289 .lss (.v 288) (.c (.int .i64 1))),
                                  (none, .pick 290 (.v 286) (.c (.bool true)) (.v 289)),
                                  (none, .mv 291 (.v 290)),
                                  (some (291, false), .fadr 292 1 1 (.v 42)),
                                  (some (291, false), .load 293 false 1 (.v 292) none),
                                  (some (291, false), .bin 294 .gtr (.v 293) (.c (.int .i64 1000000000000))),
                                  (none, .pick 295 (.v 291) (.c (.bool true)) (.v 294)),
                                  (none, .mv 296 (.v 295)),
                                  (some (296, false), .fadr 297 1 1 (.v 18)),
                                  (some (296, false), .load 298 false 1 (.v 297) none),
                                  (some (296, false), .bin 299 .gtr (.v 298) (.c (.int .i64 100000))),
                                  (none, .pick 300 (.v 296) (.c (.bool true)) (.v 299))])
                                (.cond (.v 300)
                                 (.seq
                                  (.region [] [] [2] false [
                                    (none, .asg 2 (.c (.bool false)) .copy)])
                                  (.ret [2]))
                                 (.skip [18, 42])))
                               (.seq
                                (.region [(308, 18, false), (306, 18, false), (303, 42, false), (301, 42, false)] [] [311] true [
                                  (none, .fadr 301 0 1 (.v 42)),
                                  (none, .load 302 false 1 (.v 301) none),
                                  (none, .fadr 303 1 1 (.v 42)),
                                  (none, .load 304 false 1 (.v 303) none),
                                  (none, .bin 305 .quo (.v 302) (.v 304)),
                                  (none, .fadr 306 0 1 (.v 18)),
                                  (none, .load 307 false 1 (.v 306) none),
                                  (none, .fadr 308 1 1 (.v 18)),
                                  (none, .load 309 false 1 (.v 308) none),
                                  (none, .bin 310 .quo (.v 307) (.v 309)),
                                  (none, .bin 311 .gtr (.v 305) (.v 310))])
                                (.cond (.v 311)
                                 (.seq
                                  (.region [] [] [2] false [
                                    (none, .asg 2 (.c (.bool false)) .copy)])
                                  (.ret [2]))
                                 (.skip [])))))
                             (.skip [])))
                           (.seq
                            (.region [] [] [2] false [
                              (none, .asg 2 (.c (.bool true)) .copy)])
                            (.ret [2])))))))))))))))))))))))))))⟩
def tabl : List (Nat × PFunc) := [(269, F269), (326, F326), (213, F213), (292, F292), (254, F254), (274, F274), (280, F280), (59, F59), (60, F60), (68, F68), (83, F83), (133, F133), (818, F818), (796, F796), (132, F132), (175, F175), (398, F398), (604, F604), (611, F611), (616, F616), (605, F605), (617, F617), (686, F686), (694, F694), (444, F444), (697, F697), (445, F445), (450, F450), (603, F603), (5, F5), (7, F7), (4, F4), (615, F615), (614, F614), (687, F687), (6, F6), (688, F688), (459, F459), (690, F690), (692, F692), (460, F460), (464, F464), (467, F467), (481, F481), (492, F492), (606, F606), (693, F693), (515, F515), (542, F542), (565, F565), (363, F363)]
def T : Nat → Option PFunc := tabOf tabl
end Go.Vs.G
