/- The functions that the law reaches, in the small language, printed by program. No conditions. -/
import Derived.Test.YtcodbjmlhojbkaaDLDrifts
import Derived.Test.YtcodbjmlhojbkaaV4
set_option maxRecDepth 100000
open Go Go.Vs
namespace Go.Vs.G
def F269 : PFunc :=
 ⟨[false, false], [.tmp 4],
  (.seq
   (.region [] [] [0, 1] false [
     (none, .asg 4 (.c (.int .i64 0)) .copy)])
   (.seq
    (.block 0
     (.loop
      (.seq
       (.seq
        (.region [] [] [0, 1, 6] false [
          (none, .mv 5 (.v 1)),
          (none, .bin 6 .neq (.v 5) (.c (.int .i64 0)))])
        (.cond (.v 6)
         (.skip [0, 1])
         (.exit 0 [0])))
       (.block 1
        (.region [] [] [0, 1] true [
          (none, .mv 7 (.v 1)),
          (none, .mv 8 (.v 0)),
          (none, .mv 9 (.v 1)),
          (none, .bin 10 .rem (.v 8) (.v 9)),
          (none, .asg 0 (.v 7) .copy),
          (none, .asg 1 (.v 10) .copy)])))))
    (.seq
     (.region [] [] [4] false [
       (none, .mv 11 (.v 0)),
       (none, .mv 12 (.v 0)),
       (none, .un 13 .neg (.v 12)),
       (none, .mm 14 true (.v 11) [(.v 13)]),
       (none, .asg 4 (.v 14) .copy)])
     (.ret [4]))))⟩
def F326 : PFunc :=
 ⟨[false, false, false], [.tmp 6],
  (.seq
   (.region [] [] [0, 1, 2] false [
     (none, .asg 6 (.c (.bool false)) .copy)])
   (.seq
    (.region [] [] [6] false [
      (none, .mv 7 (.v 0)),
      (none, .mv 8 (.v 1)),
      (none, .bin 9 .geq (.v 7) (.v 8)),
      (none, .mv 10 (.v 9)),
      (some (10, true), .mv 11 (.v 0)),
      (some (10, true), .mv 12 (.v 2)),
      (some (10, true), .bin 13 .leq (.v 11) (.v 12)),
      (none, .pick 14 (.v 10) (.v 13) (.c (.bool false))),
      (none, .asg 6 (.v 14) .copy)])
    (.ret [6])))⟩
def F213 : PFunc :=
 ⟨[false], [.tmp 2],
  (.seq
   (.region [] [] [1] false [
     (none, .box 1 (.v 0) .copy),
     (none, .asg 2 (.c (.bool false)) .copy)])
   (.seq
    (.region [(14, 1, false), (12, 1, false), (7, 1, false), (3, 1, false)] [] [2] false [
      (none, .fadr 3 1 1 (.v 1)),
      (none, .load 4 false 1 (.v 3) none),
      (none, .call (some 5) 326 false [((.v 4), false), ((.c (.int .i64 1)), false), ((.c (.int .i64 1000000)), false)]),
      (none, .mv 6 (.v 5)),
      (some (6, true), .fadr 7 0 1 (.v 1)),
      (some (6, true), .load 8 false 1 (.v 7) none),
      (some (6, true), .call (some 9) 326 false [((.v 8), false), ((.c (.int .i64 (-1000000))), false), ((.c (.int .i64 1000000)), false)]),
      (none, .pick 10 (.v 6) (.v 9) (.c (.bool false))),
      (none, .mv 11 (.v 10)),
      (some (11, true), .fadr 12 0 1 (.v 1)),
      (some (11, true), .load 13 false 1 (.v 12) none),
      (some (11, true), .fadr 14 1 1 (.v 1)),
      (some (11, true), .load 15 false 1 (.v 14) none),
      (some (11, true), .call (some 16) 269 false [((.v 13), false), ((.v 15), false)]),
      (some (11, true), .bin 17 .eql (.v 16) (.c (.int .i64 1))),
      (none, .pick 18 (.v 11) (.v 17) (.c (.bool false))),
      (none, .asg 2 (.v 18) .copy)])
    (.ret [2])))⟩
def F257 : PFunc :=
 ⟨[false], [.cell 2 true 2, .tmp 3],
  (.seq
   (.region [] [] [1, 2] false [
     (none, .box 1 (.v 0) .copy),
     (none, .new 2 (.agg [(.int .i64 0), (.int .i64 0)])),
     (none, .asg 3 (.c (.int .i64 0)) .copy)])
   (.seq
    (.seq
     (.region [] [] [1, 2, 6] false [
       (none, .load 4 true 2 (.v 1) none),
       (none, .call (some 5) 213 false [((.v 4), false)]),
       (none, .un 6 .not (.v 5))])
     (.cond (.v 6)
      (.seq
       (.region [] [] [2, 3] false [
         (none, .build 7 [(.int .i64 0), (.int .i64 0)] []),
         (none, .store 2 (.v 2) (.v 7) .copy),
         (none, .asg 3 (.c (.int .i64 5)) .copy)])
       (.ret [2, 3]))
      (.skip [1, 2])))
    (.seq
     (.region [] [] [2, 3] false [
       (none, .load 8 true 2 (.v 1) none),
       (none, .store 2 (.v 2) (.v 8) .copy),
       (none, .asg 3 (.c (.int .i64 0)) .copy)])
     (.ret [2, 3]))))⟩
def F262 : PFunc :=
 ⟨[false, false], [.tmp 4],
  (.seq
   (.region [] [] [0, 1] false [
     (none, .asg 4 (.c (.bool false)) .copy)])
   (.seq
    (.region [] [] [4] false [
      (none, .mv 5 (.v 0)),
      (none, .call (some 6) 326 false [((.v 5), false), ((.c (.int .i64 1)), false), ((.c (.int .i64 48)), false)]),
      (none, .mv 7 (.v 6)),
      (some (7, true), .mv 8 (.v 1)),
      (some (7, true), .call (some 9) 326 false [((.v 8), false), ((.c (.int .i64 1)), false), ((.c (.int .i64 48)), false)]),
      (none, .pick 10 (.v 7) (.v 9) (.c (.bool false))),
      (none, .asg 4 (.v 10) .copy)])
    (.ret [4])))⟩
def F292 : PFunc :=
 ⟨[false, false], [.cell 4 true 2],
  (.seq
   (.region [] [] [0, 1, 4] false [
     (none, .new 4 (.agg [(.int .i64 0), (.int .i64 0)]))])
   (.seq
    (.seq
     (.region [] [] [0, 1, 4, 7] false [
       (none, .mv 6 (.v 1)),
       (none, .bin 7 .lss (.v 6) (.c (.int .i64 0)))])
     (.cond (.v 7)
      (.region [] [] [0, 1, 4] false [
        (none, .mv 8 (.v 0)),
        (none, .un 9 .neg (.v 8)),
        (none, .mv 10 (.v 1)),
        (none, .un 11 .neg (.v 10)),
        (none, .asg 0 (.v 9) .copy),
        (none, .asg 1 (.v 11) .copy)])
      (.skip [0, 1, 4])))
    (.seq
     (.region [] [] [0, 1, 4, 5] false [
       (none, .mv 12 (.v 0)),
       (none, .mv 13 (.v 1)),
       (none, .call (some 14) 269 false [((.v 12), false), ((.v 13), false)]),
       (none, .asg 5 (.v 14) .copy)])
     (.seq
      (.region [] [] [4] true [
        (none, .mv 15 (.v 0)),
        (none, .mv 16 (.v 5)),
        (none, .bin 17 .quo (.v 15) (.v 16)),
        (none, .mv 18 (.v 1)),
        (none, .mv 19 (.v 5)),
        (none, .bin 20 .quo (.v 18) (.v 19)),
        (none, .build 21 [(.int .i64 0), (.int .i64 0)] [(0, 1, (.v 17), .copy), (1, 1, (.v 20), .copy)]),
        (none, .store 2 (.v 4) (.v 21) .copy)])
      (.ret [4])))))⟩
def F263 : PFunc :=
 ⟨[false, false], [.cell 4 true 2],
  (.seq
   (.region [] [] [0, 1, 4] false [
     (none, .new 4 (.agg [(.int .i64 0), (.int .i64 0)]))])
   (.seq
    (.region [] [] [0, 1, 4, 5] false [
      (none, .mv 6 (.v 0)),
      (none, .bin 7 .mul (.c (.int .i64 2)) (.v 6)),
      (none, .mv 8 (.v 1)),
      (none, .bin 9 .add (.v 7) (.v 8)),
      (none, .bin 10 .sub (.v 9) (.c (.int .i64 1))),
      (none, .mv 11 (.v 1)),
      (none, .bin 12 .mul (.c (.int .i64 2)) (.v 11)),
      (none, .bin 13 .quo (.v 10) (.v 12)),
      (none, .asg 5 (.v 13) .copy)])
    (.seq
     (.region [] [] [4] false [
       (none, .mv 14 (.v 0)),
       (none, .mv 15 (.v 5)),
       (none, .mv 16 (.v 1)),
       (none, .bin 17 .mul (.v 15) (.v 16)),
       (none, .bin 18 .sub (.v 14) (.v 17)),
       (none, .mv 19 (.v 1)),
       (none, .call (some 20) 292 false [((.v 18), false), ((.v 19), false)]),
       (none, .store 2 (.v 4) (.v 20) .copy)])
     (.ret [4]))))⟩
def F74 : PFunc :=
 ⟨[false, false], [.cell 4 true 2, .tmp 5],
  (.seq
   (.region [] [] [0, 1, 4] false [
     (none, .new 4 (.agg [(.int .i64 0), (.int .i64 0)])),
     (none, .asg 5 (.c (.int .i64 0)) .copy)])
   (.seq
    (.seq
     (.region [] [] [0, 1, 4, 9] false [
       (none, .mv 6 (.v 0)),
       (none, .mv 7 (.v 1)),
       (none, .call (some 8) 262 false [((.v 6), false), ((.v 7), false)]),
       (none, .un 9 .not (.v 8))])
     (.cond (.v 9)
      (.seq
       (.region [] [] [4, 5] false [
         (none, .build 10 [(.int .i64 0), (.int .i64 0)] []),
         (none, .store 2 (.v 4) (.v 10) .copy),
         (none, .asg 5 (.c (.int .i64 2)) .copy)])
       (.ret [4, 5]))
      (.skip [0, 1, 4])))
    (.seq
     (.region [] [] [4, 5] false [
       (none, .mv 11 (.v 0)),
       (none, .mv 12 (.v 1)),
       (none, .call (some 13) 263 false [((.v 11), false), ((.v 12), false)]),
       (none, .call (some 14) 257 false [((.v 13), false)]),
       (none, .extp 15 (.v 14) 0),
       (none, .extp 16 (.v 14) 1),
       (none, .store 2 (.v 4) (.v 15) .copy),
       (none, .asg 5 (.v 16) .copy)])
     (.ret [4, 5]))))⟩
def F75 : PFunc :=
 ⟨[false, false, false], [.cell 6 true 2, .tmp 7],
  (.seq
   (.region [] [] [1, 2, 3, 6] false [
     (none, .box 3 (.v 0) .copy),
     (none, .new 6 (.agg [(.int .i64 0), (.int .i64 0)])),
     (none, .asg 7 (.c (.int .i64 0)) .copy)])
   (.seq
    (.block 0
     (.seq
      (.region [] [] [1, 2, 3, 6, 9] false [
        (none, .load 10 true 2 (.v 3) none),
        (none, .call (some 11) 213 false [((.v 10), false)]),
        (none, .un 12 .not (.v 11)),
        (none, .asg 9 (.v 12) .copy)])
      (.cond (.v 9)
       (.seq
        (.region [] [] [6, 7] false [
          (none, .build 13 [(.int .i64 0), (.int .i64 0)] []),
          (none, .store 2 (.v 6) (.v 13) .copy),
          (none, .asg 7 (.c (.int .i64 1)) .copy)])
        (.ret [6, 7]))
       (.seq
        (.region [] [] [1, 2, 3, 6, 14] false [
          (none, .mv 15 (.v 1)),
          (none, .mv 16 (.v 2)),
          (none, .call (some 17) 262 false [((.v 15), false), ((.v 16), false)]),
          (none, .un 18 .not (.v 17)),
          (none, .asg 14 (.v 18) .copy)])
        (.cond (.v 14)
         (.seq
          (.region [] [] [6, 7] false [
            (none, .build 19 [(.int .i64 0), (.int .i64 0)] []),
            (none, .store 2 (.v 6) (.v 19) .copy),
            (none, .asg 7 (.c (.int .i64 2)) .copy)])
          (.ret [6, 7]))
         (.skip [1, 2, 3, 6]))))))
    (.seq
     (.region [] [] [1, 2, 3, 6, 8] false [
       (none, .mv 20 (.v 1)),
       (none, .mv 21 (.v 2)),
       (none, .call (some 22) 263 false [((.v 20), false), ((.v 21), false)]),
       (none, .new 8 (.agg [(.int .i64 0), (.int .i64 0)])),
       (none, .store 2 (.v 8) (.v 22) .copy)])
     (.seq
      (.region [(32, 8, false), (30, 3, false), (27, 8, false), (23, 3, false)] [] [6, 7] false [
        (none, .fadr 23 0 1 (.v 3)),
        (none, .load 24 false 1 (.v 23) none),
        (none, .mv 25 (.v 2)),
        (none, .bin 26 .mul (.v 24) (.v 25)),
        (none, .fadr 27 0 1 (.v 8)),
        (none, .load 28 false 1 (.v 27) none),
        (none, .bin 29 .mul (.v 26) (.v 28)),
        (none, .fadr 30 1 1 (.v 3)),
        (none, .load 31 false 1 (.v 30) none),
        (none, .fadr 32 1 1 (.v 8)),
        (none, .load 33 false 1 (.v 32) none),
        (none, .bin 34 .mul (.v 31) (.v 33)),
        (none, .mv 35 (.v 1)),
        (none, .bin 36 .mul (.v 34) (.v 35)),
        (none, .call (some 37) 292 false [((.v 29), false), ((.v 36), false)]),
        (none, .call (some 38) 257 false [((.v 37), false)]),
        (none, .extp 39 (.v 38) 0),
        (none, .extp 40 (.v 38) 1),
        (none, .store 2 (.v 6) (.v 39) .copy),
        (none, .asg 7 (.v 40) .copy)])
      (.ret [6, 7])))))⟩
def F107 : PFunc :=
 ⟨[false, false], [.tmp 4, .tmp 5],
  (.seq
   (.region [] [] [0, 1] false [
     (none, .asg 4 (.c (.int .i64 0)) .copy),
     (none, .asg 5 (.c (.int .i64 0)) .copy)])
   (.seq
    (.seq
     (.region [] [] [0, 1, 9] false [
       (none, .mv 6 (.v 0)),
       (none, .mv 7 (.v 1)),
       (none, .call (some 8) 262 false [((.v 6), false), ((.v 7), false)]),
       (none, .un 9 .not (.v 8))])
     (.cond (.v 9)
      (.seq
       (.region [] [] [4, 5] false [
         (none, .asg 4 (.c (.int .i64 0)) .copy),
         (none, .asg 5 (.c (.int .i64 2)) .copy)])
       (.ret [4, 5]))
      (.skip [0, 1])))
    (.seq
     (.region [] [] [4, 5] false [
       (none, .mv 10 (.v 1)),
       (none, .mv 11 (.v 0)),
       (none, .mv 12 (.v 1)),
       (none, .call (some 13) 269 false [((.v 11), false), ((.v 12), false)]),
       (none, .bin 14 .quo (.v 10) (.v 13)),
       (none, .asg 4 (.v 14) .copy),
       (none, .asg 5 (.c (.int .i64 0)) .copy)])
     (.ret [4, 5]))))⟩
def F161 : PFunc :=
 ⟨[false, false], [.cell 4 true 2, .tmp 5],
  (.seq
   (.region [] [] [1, 2, 4] false [
     (none, .box 2 (.v 0) .copy),
     (none, .new 4 (.agg [(.int .i64 0), (.int .i64 0)])),
     (none, .asg 5 (.c (.int .i64 0)) .copy)])
   (.seq
    (.block 0
     (.seq
      (.region [] [] [1, 2, 4, 6] false [
        (none, .load 7 true 2 (.v 2) none),
        (none, .call (some 8) 213 false [((.v 7), false)]),
        (none, .un 9 .not (.v 8)),
        (none, .asg 6 (.v 9) .copy)])
      (.cond (.v 6)
       (.seq
        (.region [] [] [4, 5] false [
          (none, .build 10 [(.int .i64 0), (.int .i64 0)] []),
          (none, .store 2 (.v 4) (.v 10) .copy),
          (none, .asg 5 (.c (.int .i64 1)) .copy)])
        (.ret [4, 5]))
       (.seq
        (.region [] [] [1, 2, 4, 11] false [
          (none, .mv 12 (.v 1)),
          (none, .call (some 13) 262 false [((.c (.int .i64 1)), false), ((.v 12), false)]),
          (none, .un 14 .not (.v 13)),
          (none, .asg 11 (.v 14) .copy)])
        (.cond (.v 11)
         (.seq
          (.region [] [] [4, 5] false [
            (none, .build 15 [(.int .i64 0), (.int .i64 0)] []),
            (none, .store 2 (.v 4) (.v 15) .copy),
            (none, .asg 5 (.c (.int .i64 2)) .copy)])
          (.ret [4, 5]))
         (.skip [1, 2, 4]))))))
    (.seq
     (.region [(20, 2, false), (16, 2, false)] [] [4, 5] false [
       (none, .fadr 16 0 1 (.v 2)),
       (none, .load 17 false 1 (.v 16) none),
       (none, .mv 18 (.v 1)),
       (none, .bin 19 .mul (.v 17) (.v 18)),
       (none, .fadr 20 1 1 (.v 2)),
       (none, .load 21 false 1 (.v 20) none),
       (none, .call (some 22) 292 false [((.v 19), false), ((.v 21), false)]),
       (none, .call (some 23) 257 false [((.v 22), false)]),
       (none, .extp 24 (.v 23) 0),
       (none, .extp 25 (.v 23) 1),
       (none, .store 2 (.v 4) (.v 24) .copy),
       (none, .asg 5 (.v 25) .copy)])
     (.ret [4, 5]))))⟩
def F187 : PFunc :=
 ⟨[false, false], [.tmp 4, .tmp 5],
  (.seq
   (.region [] [] [0, 3] false [
     (none, .box 3 (.v 1) .copy),
     (none, .asg 4 (.c (.sl true 1 [])) .copy),
     (none, .asg 5 (.c (.int .i64 0)) .copy)])
   (.seq
    (.block 0
     (.seq
      (.region [] [] [0, 3, 8] false [
        (none, .load 9 true 2 (.v 3) none),
        (none, .call (some 10) 213 false [((.v 9), false)]),
        (none, .un 11 .not (.v 10)),
        (none, .asg 8 (.v 11) .copy)])
      (.cond (.v 8)
       (.seq
        (.region [] [] [4, 5] false [
          (none, .asg 4 (.c (.sl true 1 [])) .copy),
          (none, .asg 5 (.c (.int .i64 1)) .copy)])
        (.ret [4, 5]))
       (.seq
        (.region [] [] [0, 3, 12] false [
          (none, .mv 13 (.v 0)),
          (none, .call (some 14) 262 false [((.v 13), false), ((.c (.int .i64 1)), false)]),
          (none, .un 15 .not (.v 14)),
          (none, .asg 12 (.v 15) .copy)])
        (.cond (.v 12)
         (.seq
          (.region [] [] [4, 5] false [
            (none, .asg 4 (.c (.sl true 1 [])) .copy),
            (none, .asg 5 (.c (.int .i64 2)) .copy)])
          (.ret [4, 5]))
         (.skip [0, 3]))))))
    (.seq
     (.region [] [] [0, 3, 6] false [
       (none, .mksl 16 1 (.int .i64 0) 0 []),
       (none, .asg 6 (.v 16) .move)])
     (.seq
      (.seq
       (.region [] [] [0, 3, 6, 7] false [
         (none, .asg 7 (.c (.int .i64 1)) .copy)])
       (.block 1
        (.loop
         (.seq
          (.seq
           (.region [] [] [0, 3, 6, 7, 18] false [
             (none, .mv 17 (.v 7)),
             (none, .bin 18 .leq (.v 17) (.c (.int .i64 48)))])
           (.cond (.v 18)
            (.skip [0, 3, 6, 7])
            (.exit 1 [6])))
          (.seq
           (.block 2
            (.seq
             (.region [] [] [0, 3, 6, 7, 25] true [
               (none, .mv 21 (.v 0)),
               (none, .mv 22 (.v 7)),
               (none, .call (some 23) 263 false [((.v 21), false), ((.v 22), false)]),
               (none, .load 24 true 2 (.v 3) none),
               (none, .eqv 25 false [.i, .i] (.v 23) (.v 24))])
             (.cond (.v 25)
              (.region [(26, 6, false)] [] [0, 3, 6, 7] false [
                (none, .mv 26 (.v 6)),
                (none, .mv 27 (.v 7)),
                (none, .mksl 28 1 (.int .i64 0) 1 [(0, (.v 27), .copy)]),
                (none, .app 29 1 (.v 26) (.v 28) .move),
                (none, .asg 6 (.v 29) .move)])
              (.skip [0, 3, 6, 7]))))
           (.region [] [] [0, 3, 6, 7] false [
             (none, .mv 19 (.v 7)),
             (none, .bin 20 .add (.v 19) (.c (.int .i64 1))),
             (none, .asg 7 (.v 20) .copy)]))))))
      (.seq
       (.region [(30, 6, false)] [] [4, 5] false [
         (none, .mv 30 (.v 6)),
         (none, .asg 4 (.v 30) .move),
         (none, .asg 5 (.c (.int .i64 0)) .copy)])
       (.ret [4, 5]))))))⟩
def F189 : PFunc :=
 ⟨[false, false], [.tmp 4, .tmp 5],
  (.seq
   (.region [] [] [0, 1] false [
     (none, .asg 4 (.c (.bool false)) .copy),
     (none, .asg 5 (.c (.int .i64 0)) .copy)])
   (.seq
    (.seq
     (.region [] [] [0, 1, 9] false [
       (none, .mv 6 (.v 0)),
       (none, .mv 7 (.v 1)),
       (none, .call (some 8) 262 false [((.v 6), false), ((.v 7), false)]),
       (none, .un 9 .not (.v 8))])
     (.cond (.v 9)
      (.seq
       (.region [] [] [4, 5] false [
         (none, .asg 4 (.c (.bool false)) .copy),
         (none, .asg 5 (.c (.int .i64 2)) .copy)])
       (.ret [4, 5]))
      (.skip [0, 1])))
    (.seq
     (.region [] [] [4, 5] false [
       (none, .mv 10 (.v 0)),
       (none, .mv 11 (.v 1)),
       (none, .bin 12 .rem (.v 10) (.v 11)),
       (none, .bin 13 .eql (.v 12) (.c (.int .i64 0))),
       (none, .asg 4 (.v 13) .copy),
       (none, .asg 5 (.c (.int .i64 0)) .copy)])
     (.ret [4, 5]))))⟩
def F385 : PFunc :=
 ⟨[false, false], [.tmp 4],
  (.seq
   (.region [] [] [0, 1] false [
     (none, .asg 4 (.c (.bool false)) .copy)])
   (.seq
    (.seq
     (.region [] [] [0, 1, 5] false [
       (none, .asg 5 (.c (.int .i64 0)) .copy)])
     (.block 0
      (.loop
       (.seq
        (.seq
         (.region [(7, 0, false)] [] [0, 1, 5, 9] false [
           (none, .mv 6 (.v 5)),
           (none, .mv 7 (.v 0)),
           (none, .len 8 false (.v 7)),
           (none, .bin 9 .lss (.v 6) (.v 8))])
         (.cond (.v 9)
          (.skip [0, 1, 5])
          (.exit 0 [])))
        (.seq
         (.block 1
          (.seq
           (.region [(14, 0, false), (12, 0, false)] [] [0, 1, 5, 17] false [
             (none, .mv 12 (.v 0)),
             (none, .mv 13 (.v 5)),
             (none, .iadr 14 1 (.v 12) (.v 13)),
             (none, .load 15 false 1 (.v 14) none),
             (none, .mv 16 (.v 1)),
             (none, .bin 17 .eql (.v 15) (.v 16))])
           (.cond (.v 17)
            (.seq
             (.region [] [] [4] false [
               (none, .asg 4 (.c (.bool true)) .copy)])
             (.ret [4]))
            (.skip [0, 1, 5]))))
         (.region [] [] [0, 1, 5] false [
           (none, .mv 10 (.v 5)),
           (none, .bin 11 .add (.v 10) (.c (.int .i64 1))),
           (none, .asg 5 (.v 11) .copy)]))))))
    (.seq
     (.region [] [] [4] false [
       (none, .asg 4 (.c (.bool false)) .copy)])
     (.ret [4]))))⟩
def F386 : PFunc :=
 ⟨[false, false], [.tmp 4],
  (.seq
   (.region [] [] [0, 1] false [
     (none, .asg 4 (.c (.bool false)) .copy)])
   (.seq
    (.region [(9, 1, false), (5, 0, false)] [] [4] false [
      (none, .mv 5 (.v 0)),
      (none, .len 6 false (.v 5)),
      (none, .bin 7 .gtr (.v 6) (.c (.int .i64 3000))),
      (none, .mv 8 (.v 7)),
      (some (8, false), .mv 9 (.v 1)),
      (some (8, false), .len 10 false (.v 9)),
      (some (8, false), .bin 11 .gtr (.v 10) (.c (.int .i64 3000))),
      (none, .pick 12 (.v 8) (.c (.bool true)) (.v 11)),
      (none, .asg 4 (.v 12) .copy)])
    (.ret [4])))⟩
def F5 : PFunc :=
 ⟨[true], [.tmp 2],
  (.seq
   (.region [] [] [0] false [
     (none, .asg 2 (.c (.int .i64 0)) .copy)])
   (.seq
    (.region [] [] [0, 3] false [
      (none, .asg 3 (.c (.int .i64 0)) .copy)])
    (.seq
     (.seq
      (.region [(11, 0, true), (10, 0, false), (9, 0, false), (8, 0, false), (6, 0, false), (5, 0, false), (4, 0, false)] [] [0, 3, 13] true [
        (none, .mv 4 (.v 0)),
        (none, .nchk 5 (.v 4)),
        (none, .fadr 6 1 1 (.v 5)),
        (none, .load 7 false 1 (.v 6) none),
        (none, .mv 8 (.v 0)),
        (none, .nchk 9 (.v 8)),
        (none, .fadr 10 0 1 (.v 9)),
        (none, .load 11 false 1 (.v 10) none),
        (none, .len 12 false (.v 11)),
        (none, .bin 13 .lss (.v 7) (.v 12))])
      (.cond (.v 13)
       (.region [(22, 0, true), (20, 0, false), (19, 0, false), (18, 0, false), (17, 0, true), (16, 0, false), (15, 0, false), (14, 0, false)] [] [0, 3] true [
         (none, .mv 14 (.v 0)),
         (none, .nchk 15 (.v 14)),
         (none, .fadr 16 0 1 (.v 15)),
         (none, .load 17 false 1 (.v 16) none),
         (none, .mv 18 (.v 0)),
         (none, .nchk 19 (.v 18)),
         (none, .fadr 20 1 1 (.v 19)),
         (none, .load 21 false 1 (.v 20) none),
         (none, .iadr 22 1 (.v 17) (.v 21)),
         (none, .load 23 false 1 (.v 22) none),
         (none, .conv 24 .i64 (.v 23)),
         (none, .asg 3 (.v 24) .copy)])
       (.skip [0, 3])))
     (.seq
      (.region [(31, 0, false), (30, 0, false), (27, 0, false), (26, 0, false), (25, 0, false)] [] [0, 3] false [
        (none, .mv 25 (.v 0)),
        (none, .nchk 26 (.v 25)),
        (none, .fadr 27 1 1 (.v 26)),
        (none, .load 28 false 1 (.v 27) none),
        (none, .bin 29 .add (.v 28) (.c (.int .i64 1))),
        (none, .nchk 30 (.v 25)),
        (none, .fadr 31 1 1 (.v 30)),
        (none, .store 1 (.v 31) (.v 29) .copy)])
      (.seq
       (.region [(43, 0, false), (42, 0, false), (35, 0, false), (34, 0, false), (33, 0, false), (32, 0, false)] [] [0, 3] false [
         (none, .mv 32 (.v 0)),
         (none, .mv 33 (.v 0)),
         (none, .nchk 34 (.v 33)),
         (none, .fadr 35 2 1 (.v 34)),
         (none, .load 36 false 1 (.v 35) none),
         (none, .bin 37 .mul (.v 36) (.c (.int .u64 6364136223846793005))),
         (none, .mv 38 (.v 3)),
         (none, .conv 39 .u64 (.v 38)),
         (none, .bin 40 .add (.v 37) (.v 39)),
         (none, .bin 41 .add (.v 40) (.c (.int .u64 1442695040888963407))),
         (none, .nchk 42 (.v 32)),
         (none, .fadr 43 2 1 (.v 42)),
         (none, .store 1 (.v 43) (.v 41) .copy)])
       (.seq
        (.seq
         (.region [(51, 0, true), (50, 0, false), (49, 0, false), (48, 0, false), (46, 0, false), (45, 0, false), (44, 0, false)] [] [0, 3, 53] true [
           (none, .mv 44 (.v 0)),
           (none, .nchk 45 (.v 44)),
           (none, .fadr 46 1 1 (.v 45)),
           (none, .load 47 false 1 (.v 46) none),
           (none, .mv 48 (.v 0)),
           (none, .nchk 49 (.v 48)),
           (none, .fadr 50 0 1 (.v 49)),
           (none, .load 51 false 1 (.v 50) none),
           (none, .len 52 false (.v 51)),
           (none, .bin 53 .leq (.v 47) (.v 52))])
         (.cond (.v 53)
          (.seq
           (.region [] [] [0, 2] false [
             (none, .mv 54 (.v 3)),
             (none, .asg 2 (.v 54) .copy)])
           (.ret [0, 2]))
          (.skip [0])))
        (.seq
         (.region [(57, 0, false), (56, 0, false), (55, 0, false)] [] [0, 2] false [
           (none, .mv 55 (.v 0)),
           (none, .nchk 56 (.v 55)),
           (none, .fadr 57 2 1 (.v 56)),
           (none, .load 58 false 1 (.v 57) none),
           (none, .bin 59 .shr (.v 58) (.c (.int .u64 40))),
           (none, .bin 60 .and (.v 59) (.c (.int .u64 255))),
           (none, .conv 61 .i64 (.v 60)),
           (none, .asg 2 (.v 61) .copy)])
         (.ret [0, 2]))))))))⟩
def F7 : PFunc :=
 ⟨[true, false], [.tmp 4],
  (.seq
   (.region [] [] [0, 1] false [
     (none, .asg 4 (.c (.int .i64 0)) .copy)])
   (.seq
    (.seq
     (.region [] [] [0, 1, 7] false [
       (none, .mv 6 (.v 1)),
       (none, .bin 7 .leq (.v 6) (.c (.int .i64 1)))])
     (.cond (.v 7)
      (.seq
       (.region [] [] [0, 4] false [
         (none, .asg 4 (.c (.int .i64 0)) .copy)])
       (.ret [0, 4]))
      (.skip [0, 1])))
    (.seq
     (.region [(8, 0, false)] [] [0, 1, 5] false [
       (none, .mv 8 (.v 0)),
       (none, .call (some 9) 5 true [((.v 8), true)]),
       (none, .asg 5 (.v 9) .copy)])
     (.seq
      (.seq
       (.region [] [] [0, 1, 5, 11] false [
         (none, .mv 10 (.v 1)),
         (none, .bin 11 .gtr (.v 10) (.c (.int .i64 200)))])
       (.cond (.v 11)
        (.region [(14, 0, false)] [] [0, 1, 5] false [
          (none, .mv 12 (.v 5)),
          (none, .bin 13 .mul (.v 12) (.c (.int .i64 256))),
          (none, .mv 14 (.v 0)),
          (none, .call (some 15) 5 true [((.v 14), true)]),
          (none, .bin 16 .add (.v 13) (.v 15)),
          (none, .asg 5 (.v 16) .copy)])
        (.skip [0, 1, 5])))
      (.seq
       (.region [] [] [0, 4] false [
         (none, .mv 17 (.v 5)),
         (none, .mv 18 (.v 1)),
         (none, .bin 19 .rem (.v 17) (.v 18)),
         (none, .asg 4 (.v 19) .copy)])
       (.ret [0, 4]))))))⟩
def F603 : PFunc :=
 ⟨[false], [.tmp 2],
  (.seq
   (.region [] [] [0] false [
     (none, .asg 2 (.c .nilp) .copy)])
   (.seq
    (.region [(3, 0, false)] [] [2] false [
      (none, .mv 3 (.v 0)),
      (none, .build 4 [(.sl false 1 []), (.int .i64 0), (.int .u64 0)] [(0, 1, (.v 3), .move)]),
      (none, .box 5 (.v 4) .move),
      (none, .asg 2 (.v 5) .move)])
    (.ret [2])))⟩
def F606 : PFunc :=
 ⟨[false, false], [.tmp 4],
  (.seq
   (.region [] [] [0, 1] false [
     (none, .asg 4 (.c (.int .i64 0)) .copy)])
   (.seq
    (.seq
     (.region [] [] [0, 1, 7] false [
       (none, .mv 5 (.v 0)),
       (none, .mv 6 (.v 1)),
       (none, .bin 7 .gtr (.v 5) (.v 6))])
     (.cond (.v 7)
      (.seq
       (.region [] [] [4] false [
         (none, .mv 8 (.v 0)),
         (none, .asg 4 (.v 8) .copy)])
       (.ret [4]))
      (.skip [1])))
    (.seq
     (.region [] [] [4] false [
       (none, .mv 9 (.v 1)),
       (none, .asg 4 (.v 9) .copy)])
     (.ret [4]))))⟩
def F425 : PFunc :=
 ⟨[false], [.tmp 2, .tmp 3],
  (.seq
   (.region [] [] [0] false [
     (none, .asg 2 (.c (.int .i64 0)) .copy),
     (none, .asg 3 (.c (.int .i64 0)) .copy)])
   (.seq
    (.region [(6, 0, false)] [] [4] false [
      (none, .mv 6 (.v 0)),
      (none, .call (some 7) 603 true [((.v 6), false)]),
      (none, .asg 4 (.v 7) .move)])
    (.seq
     (.region [(8, 4, false)] [] [4, 5] false [
       (none, .mv 8 (.v 4)),
       (none, .call (some 9) 7 true [((.v 8), true), ((.c (.int .i64 16)), false)]),
       (none, .bin 10 .add (.c (.int .i64 1)) (.v 9)),
       (none, .asg 5 (.v 10) .copy)])
     (.seq
      (.region [(13, 4, false)] [] [2, 3] false [
        (none, .mv 11 (.v 5)),
        (none, .mv 12 (.v 5)),
        (none, .mv 13 (.v 4)),
        (none, .call (some 14) 7 true [((.v 13), true), ((.c (.int .i64 9)), false)]),
        (none, .bin 15 .add (.v 12) (.v 14)),
        (none, .bin 16 .sub (.v 15) (.c (.int .i64 4))),
        (none, .call (some 17) 606 false [((.c (.int .i64 1)), false), ((.v 16), false)]),
        (none, .asg 2 (.v 11) .copy),
        (none, .asg 3 (.v 17) .copy)])
      (.ret [2, 3])))))⟩
def F604 : PFunc :=
 ⟨[false, false], [.tmp 4],
  (.seq
   (.region [] [] [0, 1] false [
     (none, .asg 4 (.c (.int .i64 0)) .copy)])
   (.seq
    (.block 0
     (.loop
      (.seq
       (.seq
        (.region [] [] [0, 1, 7] false [
          (none, .mv 6 (.v 1)),
          (none, .bin 7 .neq (.v 6) (.c (.int .i64 0)))])
        (.cond (.v 7)
         (.skip [0, 1])
         (.exit 0 [0])))
       (.block 1
        (.seq
         (.region [] [] [1, 5] false [
           (none, .mv 8 (.v 0)),
           (none, .mv 9 (.v 1)),
           (none, .bin 10 .rem (.v 8) (.v 9)),
           (none, .asg 5 (.v 10) .copy)])
         (.seq
          (.region [] [] [0, 5] false [
            (none, .mv 11 (.v 1)),
            (none, .asg 0 (.v 11) .copy)])
          (.region [] [] [0, 1] false [
            (none, .mv 12 (.v 5)),
            (none, .asg 1 (.v 12) .copy)])))))))
    (.seq
     (.region [] [] [4] false [
       (none, .mv 13 (.v 0)),
       (none, .asg 4 (.v 13) .copy)])
     (.ret [4]))))⟩
def F611 : PFunc :=
 ⟨[false], [.tmp 2],
  (.seq
   (.region [] [] [0] false [
     (none, .asg 2 (.c (.int .i64 0)) .copy)])
   (.seq
    (.seq
     (.region [] [] [0, 4] false [
       (none, .mv 3 (.v 0)),
       (none, .bin 4 .lss (.v 3) (.c (.int .i64 0)))])
     (.cond (.v 4)
      (.seq
       (.region [] [] [2] false [
         (none, .mv 5 (.v 0)),
         (none, .un 6 .neg (.v 5)),
         (none, .asg 2 (.v 6) .copy)])
       (.ret [2]))
      (.skip [0])))
    (.seq
     (.region [] [] [2] false [
       (none, .mv 7 (.v 0)),
       (none, .asg 2 (.v 7) .copy)])
     (.ret [2]))))⟩
def F616 : PFunc :=
 ⟨[false, false], [.cell 4 true 2],
  (.seq
   (.region [] [] [0, 1, 4] false [
     (none, .new 4 (.agg [(.int .i64 0), (.int .i64 0)]))])
   (.seq
    (.region [] [] [0, 1, 4, 5] false [
      (none, .mv 6 (.v 0)),
      (none, .call (some 7) 611 false [((.v 6), false)]),
      (none, .mv 8 (.v 1)),
      (none, .call (some 9) 604 false [((.v 7), false), ((.v 8), false)]),
      (none, .asg 5 (.v 9) .copy)])
    (.seq
     (.region [] [] [4] true [
       (none, .mv 10 (.v 0)),
       (none, .mv 11 (.v 5)),
       (none, .bin 12 .quo (.v 10) (.v 11)),
       (none, .mv 13 (.v 1)),
       (none, .mv 14 (.v 5)),
       (none, .bin 15 .quo (.v 13) (.v 14)),
       (none, .build 16 [(.int .i64 0), (.int .i64 0)] [(0, 1, (.v 12), .copy), (1, 1, (.v 15), .copy)]),
       (none, .store 2 (.v 4) (.v 16) .copy)])
     (.ret [4]))))⟩
def F615 : PFunc :=
 ⟨[true], [.cell 2 true 2],
  (.seq
   (.region [] [] [0, 2] false [
     (none, .new 2 (.agg [(.int .i64 0), (.int .i64 0)]))])
   (.seq
    (.region [(4, 0, false)] [] [0, 2, 3] false [
      (none, .mv 4 (.v 0)),
      (none, .call (some 5) 7 true [((.v 4), true), ((.c (.int .i64 60)), false)]),
      (none, .bin 6 .sub (.v 5) (.c (.int .i64 15))),
      (none, .asg 3 (.v 6) .copy)])
    (.seq
     (.region [(8, 0, false)] [] [0, 2] false [
       (none, .mv 7 (.v 3)),
       (none, .mv 8 (.v 0)),
       (none, .call (some 9) 7 true [((.v 8), true), ((.c (.int .i64 20)), false)]),
       (none, .bin 10 .add (.c (.int .i64 1)) (.v 9)),
       (none, .call (some 11) 616 false [((.v 7), false), ((.v 10), false)]),
       (none, .store 2 (.v 2) (.v 11) .copy)])
     (.ret [0, 2]))))⟩
def F426 : PFunc :=
 ⟨[false], [.cell 2 true 2],
  (.seq
   (.region [] [] [0, 2] false [
     (none, .new 2 (.agg [(.int .i64 0), (.int .i64 0)]))])
   (.seq
    (.region [(3, 0, false)] [] [2] false [
      (none, .mv 3 (.v 0)),
      (none, .call (some 4) 603 true [((.v 3), false)]),
      (none, .call (some 5) 615 true [((.v 4), true)]),
      (none, .store 2 (.v 2) (.v 5) .copy)])
    (.ret [2])))⟩
def F605 : PFunc :=
 ⟨[false, false, false], [.tmp 6],
  (.seq
   (.region [] [] [0, 1, 2] false [
     (none, .asg 6 (.c (.bool false)) .copy)])
   (.seq
    (.region [] [] [6] false [
      (none, .mv 7 (.v 0)),
      (none, .mv 8 (.v 1)),
      (none, .bin 9 .geq (.v 7) (.v 8)),
      (none, .mv 10 (.v 9)),
      (some (10, true), .mv 11 (.v 0)),
      (some (10, true), .mv 12 (.v 2)),
      (some (10, true), .bin 13 .leq (.v 11) (.v 12)),
      (none, .pick 14 (.v 10) (.v 13) (.c (.bool false))),
      (none, .asg 6 (.v 14) .copy)])
    (.ret [6])))⟩
def F620 : PFunc :=
 ⟨[false], [.tmp 2],
  (.seq
   (.region [] [] [0] false [
     (none, .asg 2 (.c (.bool false)) .copy)])
   (.seq
    (.region [] [] [2] false [
      (none, .mv 3 (.v 0)),
      (none, .call (some 4) 605 false [((.v 3), false), ((.c (.int .i64 1)), false), ((.c (.int .i64 48)), false)]),
      (none, .asg 2 (.v 4) .copy)])
    (.ret [2])))⟩
def F618 : PFunc :=
 ⟨[false, false], [.tmp 4],
  (.seq
   (.region [] [] [0, 1] false [
     (none, .asg 4 (.c (.int .i64 0)) .copy)])
   (.seq
    (.seq
     (.region [] [] [12] false [
       (none, .mv 5 (.v 0)),
       (none, .call (some 6) 620 false [((.v 5), false)]),
       (none, .un 7 .not (.v 6)),
       (none, .mv 8 (.v 7)),
       (some (8, false), .mv 9 (.v 1)),
       (some (8, false), .call (some 10) 620 false [((.v 9), false)]),
       (some (8, false), .un 11 .not (.v 10)),
       (none, .pick 12 (.v 8) (.c (.bool true)) (.v 11))])
     (.cond (.v 12)
      (.seq
       (.region [] [] [4] false [
         (none, .asg 4 (.c (.int .i64 2)) .copy)])
       (.ret [4]))
      (.skip [])))
    (.seq
     (.region [] [] [4] false [
       (none, .asg 4 (.c (.int .i64 0)) .copy)])
     (.ret [4]))))⟩
def F619 : PFunc :=
 ⟨[false, false], [.cell 4 true 2],
  (.seq
   (.region [] [] [0, 1, 4] false [
     (none, .new 4 (.agg [(.int .i64 0), (.int .i64 0)]))])
   (.seq
    (.region [] [] [1, 4, 5] false [
      (none, .mv 6 (.v 0)),
      (none, .mv 7 (.v 1)),
      (none, .bin 8 .rem (.v 6) (.v 7)),
      (none, .asg 5 (.v 8) .copy)])
    (.seq
     (.seq
      (.region [] [] [1, 4, 5, 12] false [
        (none, .mv 9 (.v 5)),
        (none, .bin 10 .mul (.c (.int .i64 2)) (.v 9)),
        (none, .mv 11 (.v 1)),
        (none, .bin 12 .gtr (.v 10) (.v 11))])
      (.cond (.v 12)
       (.region [] [] [1, 4, 5] false [
         (none, .mv 13 (.v 5)),
         (none, .mv 14 (.v 1)),
         (none, .bin 15 .sub (.v 13) (.v 14)),
         (none, .asg 5 (.v 15) .copy)])
       (.skip [1, 4, 5])))
     (.seq
      (.region [] [] [4] false [
        (none, .mv 16 (.v 5)),
        (none, .mv 17 (.v 1)),
        (none, .call (some 18) 616 false [((.v 16), false), ((.v 17), false)]),
        (none, .store 2 (.v 4) (.v 18) .copy)])
      (.ret [4])))))⟩
def F512 : PFunc :=
 ⟨[false, false], [.cell 4 true 2, .tmp 5],
  (.seq
   (.region [] [] [0, 1, 4] false [
     (none, .new 4 (.agg [(.int .i64 0), (.int .i64 0)])),
     (none, .asg 5 (.c (.int .i64 0)) .copy)])
   (.seq
    (.region [] [] [0, 1, 4, 6] false [
      (none, .mv 7 (.v 0)),
      (none, .mv 8 (.v 1)),
      (none, .call (some 9) 618 false [((.v 7), false), ((.v 8), false)]),
      (none, .asg 6 (.v 9) .copy)])
    (.seq
     (.seq
      (.region [] [] [0, 1, 4, 6, 11] false [
        (none, .mv 10 (.v 6)),
        (none, .bin 11 .neq (.v 10) (.c (.int .i64 0)))])
      (.cond (.v 11)
       (.seq
        (.region [] [] [4, 5] false [
          (none, .build 12 [(.int .i64 0), (.int .i64 0)] []),
          (none, .mv 13 (.v 6)),
          (none, .store 2 (.v 4) (.v 12) .copy),
          (none, .asg 5 (.v 13) .copy)])
        (.ret [4, 5]))
       (.skip [0, 1, 4])))
     (.seq
      (.region [] [] [4, 5] false [
        (none, .mv 14 (.v 0)),
        (none, .mv 15 (.v 1)),
        (none, .call (some 16) 619 false [((.v 14), false), ((.v 15), false)]),
        (none, .store 2 (.v 4) (.v 16) .copy),
        (none, .asg 5 (.c (.int .i64 0)) .copy)])
      (.ret [4, 5])))))⟩
def F334 : PFunc :=
 ⟨[false, false], [.tmp 4],
  (.seq
   (.region [] [] [0, 1] false [
     (none, .asg 4 (.c (.bool false)) .copy)])
   (.seq
    (.seq
     (.region [(24, 1, false), (23, 0, false)] [] [0, 1, 25] false [
       (none, .mv 23 (.v 0)),
       (none, .mv 24 (.v 1)),
       (none, .call (some 25) 386 false [((.v 23), false), ((.v 24), false)])])
     (.cond (.v 25)
      (.seq
       (.region [] [] [4] false [
         (none, .asg 4 (.c (.bool true)) .copy)])
       (.ret [4]))
      (.skip [0, 1])))
    (.seq
     (.region [(27, 0, false)] [] [1, 5, 6] false [
       (none, .mv 27 (.v 0)),
       (none, .call (some 28) 425 false [((.v 27), false)]),
       (none, .asg 26 (.v 28) .copy),
       (none, .extp 29 (.v 26) 0),
       (none, .extp 30 (.v 26) 1),
       (none, .asg 5 (.v 29) .copy),
       (none, .asg 6 (.v 30) .copy)])
     (.seq
      (.region [] [] [1, 5, 6, 7, 8] false [
        (none, .mv 32 (.v 5)),
        (none, .mv 33 (.v 6)),
        (none, .call (some 34) 74 false [((.v 32), false), ((.v 33), false)]),
        (none, .asg 31 (.v 34) .copy),
        (none, .extp 35 (.v 31) 0),
        (none, .extp 36 (.v 31) 1),
        (none, .new 7 (.agg [(.int .i64 0), (.int .i64 0)])),
        (none, .store 2 (.v 7) (.v 35) .copy),
        (none, .asg 8 (.v 36) .copy)])
      (.seq
       (.region [] [] [1, 5, 6, 7, 8, 9, 10] false [
         (none, .mv 38 (.v 5)),
         (none, .mv 39 (.v 6)),
         (none, .call (some 40) 189 false [((.v 38), false), ((.v 39), false)]),
         (none, .asg 37 (.v 40) .copy),
         (none, .extp 41 (.v 37) 0),
         (none, .extp 42 (.v 37) 1),
         (none, .asg 9 (.v 41) .copy),
         (none, .asg 10 (.v 42) .copy)])
       (.seq
        (.region [] [] [1, 5, 6, 7, 8, 9, 10, 11, 12] false [
          (none, .mv 44 (.v 5)),
          (none, .mv 45 (.v 6)),
          (none, .call (some 46) 107 false [((.v 44), false), ((.v 45), false)]),
          (none, .asg 43 (.v 46) .copy),
          (none, .extp 47 (.v 43) 0),
          (none, .extp 48 (.v 43) 1),
          (none, .asg 11 (.v 47) .copy),
          (none, .asg 12 (.v 48) .copy)])
        (.seq
         (.region [] [] [1, 5, 6, 7, 8, 9, 10, 11, 12, 13, 14] false [
           (none, .mv 50 (.v 5)),
           (none, .load 51 true 2 (.v 7) none),
           (none, .call (some 52) 187 false [((.v 50), false), ((.v 51), false)]),
           (none, .asg 49 (.v 52) .move),
           (none, .ext 53 (.v 49) 0),
           (none, .extp 54 (.v 49) 1),
           (none, .asg 13 (.v 53) .move),
           (none, .asg 14 (.v 54) .copy)])
         (.seq
          (.seq
           (.region [(128, 13, false), (119, 7, false), (108, 7, false), (96, 7, false), (90, 7, false), (87, 7, false), (80, 7, false), (77, 7, false), (72, 7, false), (69, 7, false), (63, 7, false), (58, 7, false)] [] [1, 5, 6, 7, 13, 132] false [
             (none, .mv 55 (.v 8)),
             (none, .bin 56 .neq (.v 55) (.c (.int .i64 0))),
             (none, .mv 57 (.v 56)),
             (some (57, false), .fadr 58 1 1 (.v 7)),
             (some (57, false), .load 59 false 1 (.v 58) none),
             (some (57, false), .bin 60 .lss (.v 59) (.c (.int .i64 1))),
             (none, .pick 61 (.v 57) (.c (.bool true)) (.v 60)),
             (none, .mv 62 (.v 61)),
             (some (62, false), .fadr 63 1 1 (.v 7)),
             (some (62, false), .load 64 false 1 (.v 63) none),
             (some (62, false), .mv 65 (.v 6)),
             (some (62, false), .bin 66 .gtr (.v 64) (.v 65)),
             (none, .pick 67 (.v 62) (.c (.bool true)) (.v 66)),
             (none, .mv 68 (.v 67)),
             (some (68, false), .fadr 69 0 1 (.v 7)),
             (some (68, false), .load 70 false 1 (.v 69) none),
             (some (68, false), .bin 71 .mul (.c (.int .i64 2)) (.v 70)),
             (some (68, false), .fadr 72 1 1 (.v 7)),
             (some (68, false), .load 73 false 1 (.v 72) none),
             (some (68, false), .bin 74 .gtr (.v 71) (.v 73)),
             (none, .pick 75 (.v 68) (.c (.bool true)) (.v 74)),
             (none, .mv 76 (.v 75)),
             (some (76, false), .fadr 77 0 1 (.v 7)),
             (some (76, false), .load 78 false 1 (.v 77) none),
             (some (76, false), .bin 79 .mul (.c (.int .i64 2)) (.v 78)),
             (some (76, false), .fadr 80 1 1 (.v 7)),
             (some (76, false), .load 81 false 1 (.v 80) none),
             (some (76, false), .un 82 .neg (.v 81)),
             (some (76, false), .bin 83 .leq (.v 79) (.v 82)),
             (none, .pick 84 (.v 76) (.c (.bool true)) (.v 83)),
             (none, .mv 85 (.v 84)),
             (some (85, false), .mv 86 (.v 5)),
             (some (85, false), .fadr 87 1 1 (.v 7)),
             (some (85, false), .load 88 false 1 (.v 87) none),
             (some (85, false), .bin 89 .mul (.v 86) (.v 88)),
             (some (85, false), .fadr 90 0 1 (.v 7)),
             (some (85, false), .load 91 false 1 (.v 90) none),
             (some (85, false), .mv 92 (.v 6)),
             (some (85, false), .bin 93 .mul (.v 91) (.v 92)),
             (some (85, false), .bin 94 .sub (.v 89) (.v 93)),
             (some (85, false), .mv 95 (.v 6)),
             (some (85, false), .fadr 96 1 1 (.v 7)),
             (some (85, false), .load 97 false 1 (.v 96) none),
             (some (85, false), .bin 98 .mul (.v 95) (.v 97)),
             (some (85, false), .bin 99 .rem (.v 94) (.v 98)),
             (some (85, false), .bin 100 .neq (.v 99) (.c (.int .i64 0))),
             (none, .pick 101 (.v 85) (.c (.bool true)) (.v 100)),
             (none, .mv 102 (.v 101)),
             (some (102, false), .mv 103 (.v 10)),
             (some (102, false), .bin 104 .neq (.v 103) (.c (.int .i64 0))),
             (none, .pick 105 (.v 102) (.c (.bool true)) (.v 104)),
             (none, .mv 106 (.v 105)),
             (some (106, false), .mv 107 (.v 9)),
             (some (106, false), .fadr 108 0 1 (.v 7)),
             (some (106, false), .load 109 false 1 (.v 108) none),
             (some (106, false), .bin 110 .eql (.v 109) (.c (.int .i64 0))),
             (some (106, false), .eqb 111 true (.v 107) (.v 110)),
             (none, .pick 112 (.v 106) (.c (.bool true)) (.v 111)),
             (none, .mv 113 (.v 112)),
             (some (113, false), .mv 114 (.v 12)),
             (some (113, false), .bin 115 .neq (.v 114) (.c (.int .i64 0))),
             (none, .pick 116 (.v 113) (.c (.bool true)) (.v 115)),
             (none, .mv 117 (.v 116)),
             (some (117, false), .mv 118 (.v 11)),
             (some (117, false), .fadr 119 1 1 (.v 7)),
             (some (117, false), .load 120 false 1 (.v 119) none),
             (some (117, false), .bin 121 .neq (.v 118) (.v 120)),
             (none, .pick 122 (.v 117) (.c (.bool true)) (.v 121)),
             (none, .mv 123 (.v 122)),
             (some (123, false), .mv 124 (.v 14)),
             (some (123, false), .bin 125 .neq (.v 124) (.c (.int .i64 0))),
             (none, .pick 126 (.v 123) (.c (.bool true)) (.v 125)),
             (none, .mv 127 (.v 126)),
             (some (127, false), .mv 128 (.v 13)),
             (some (127, false), .mv 129 (.v 6)),
             (some (127, false), .call (some 130) 385 false [((.v 128), false), ((.v 129), false)]),
             (some (127, false), .un 131 .not (.v 130)),
             (none, .pick 132 (.v 127) (.c (.bool true)) (.v 131))])
           (.cond (.v 132)
            (.seq
             (.region [] [] [4] false [
               (none, .asg 4 (.c (.bool false)) .copy)])
             (.ret [4]))
            (.skip [1, 5, 6, 7, 13])))
          (.seq
           (.seq
            (.region [] [] [1, 5, 6, 7, 13, 15] false [
              (none, .asg 15 (.c (.int .i64 0)) .copy)])
            (.block 0
             (.loop
              (.seq
               (.seq
                (.region [(134, 13, false)] [] [1, 5, 6, 7, 13, 15, 136] false [
                  (none, .mv 133 (.v 15)),
                  (none, .mv 134 (.v 13)),
                  (none, .len 135 false (.v 134)),
                  (none, .bin 136 .lss (.v 133) (.v 135))])
                (.cond (.v 136)
                 (.skip [1, 5, 6, 7, 13, 15])
                 (.exit 0 [1, 5, 6, 7])))
               (.seq
                (.block 1
                 (.seq
                  (.region [(143, 13, false), (141, 13, false)] [] [1, 5, 6, 7, 13, 15, 16, 17] false [
                    (none, .mv 140 (.v 5)),
                    (none, .mv 141 (.v 13)),
                    (none, .mv 142 (.v 15)),
                    (none, .iadr 143 1 (.v 141) (.v 142)),
                    (none, .load 144 false 1 (.v 143) none),
                    (none, .call (some 145) 512 false [((.v 140), false), ((.v 144), false)]),
                    (none, .asg 139 (.v 145) .copy),
                    (none, .extp 146 (.v 139) 0),
                    (none, .extp 147 (.v 139) 1),
                    (none, .new 16 (.agg [(.int .i64 0), (.int .i64 0)])),
                    (none, .store 2 (.v 16) (.v 146) .copy),
                    (none, .asg 17 (.v 147) .copy)])
                  (.seq
                   (.region [(166, 13, false), (164, 13, false), (162, 13, false), (159, 13, false)] [] [1, 5, 6, 7, 13, 15, 170] true [
                     (none, .mv 148 (.v 17)),
                     (none, .bin 149 .neq (.v 148) (.c (.int .i64 0))),
                     (none, .mv 150 (.v 149)),
                     (some (150, false), .load 151 true 2 (.v 16) none),
                     (some (150, false), .load 152 true 2 (.v 7) none),
                     (some (150, false), .eqv 153 true [.i, .i] (.v 151) (.v 152)),
                     (none, .pick 154 (.v 150) (.c (.bool true)) (.v 153)),
                     (none, .mv 155 (.v 154)),
                     (some (155, false), .mv 156 (.v 15)),
                     (some (155, false), .bin 157 .gtr (.v 156) (.c (.int .i64 0))),
                     (some (155, false), .mv 158 (.v 157)),
                     (some (158, true), .mv 159 (.v 13)),
                     (some (158, true), .mv 160 (.v 15)),
                     (some (158, true), .bin 161 .sub (.v 160) (.c (.int .i64 1))),
                     (some (158, true), .iadr 162 1 (.v 159) (.v 161)),
                     (some (158, true), .load 163 false 1 (.v 162) none),
                     (some (158, true), .mv 164 (.v 13)),
                     (some (158, true), .mv 165 (.v 15)),
                     (some (158, true), .iadr 166 1 (.v 164) (.v 165)),
                     (some (158, true), .load 167 false 1 (.v 166) none),
                     (some (158, true), .bin 168 .geq (.v 163) (.v 167)),
                     (some (155, false), .pick 169 (.v 158) (.v 168) (.c (.bool false))),
                     (none, .pick 170 (.v 155) (.c (.bool true)) (.v 169))])
                   (.cond (.v 170)
                    (.seq
                     (.region [] [] [4] false [
                       (none, .asg 4 (.c (.bool false)) .copy)])
                     (.ret [4]))
                    (.skip [1, 5, 6, 7, 13, 15])))))
                (.region [] [] [1, 5, 6, 7, 13, 15] false [
                  (none, .mv 137 (.v 15)),
                  (none, .bin 138 .add (.v 137) (.c (.int .i64 1))),
                  (none, .asg 15 (.v 138) .copy)]))))))
           (.seq
            (.region [(171, 1, false)] [] [5, 6, 7, 18] false [
              (none, .mv 171 (.v 1)),
              (none, .call (some 172) 426 false [((.v 171), false)]),
              (none, .new 18 (.agg [(.int .i64 0), (.int .i64 0)])),
              (none, .store 2 (.v 18) (.v 172) .copy)])
            (.seq
             (.region [] [] [5, 6, 7, 18, 19, 20] false [
               (none, .load 174 true 2 (.v 18) none),
               (none, .mv 175 (.v 6)),
               (none, .call (some 176) 161 false [((.v 174), false), ((.v 175), false)]),
               (none, .asg 173 (.v 176) .copy),
               (none, .extp 177 (.v 173) 0),
               (none, .extp 178 (.v 173) 1),
               (none, .new 19 (.agg [(.int .i64 0), (.int .i64 0)])),
               (none, .store 2 (.v 19) (.v 177) .copy),
               (none, .asg 20 (.v 178) .copy)])
             (.seq
              (.region [] [] [5, 6, 7, 18, 19, 20, 21, 22] false [
                (none, .load 180 true 2 (.v 18) none),
                (none, .mv 181 (.v 5)),
                (none, .mv 182 (.v 6)),
                (none, .call (some 183) 75 false [((.v 180), false), ((.v 181), false), ((.v 182), false)]),
                (none, .asg 179 (.v 183) .copy),
                (none, .extp 184 (.v 179) 0),
                (none, .extp 185 (.v 179) 1),
                (none, .new 21 (.agg [(.int .i64 0), (.int .i64 0)])),
                (none, .store 2 (.v 21) (.v 184) .copy),
                (none, .asg 22 (.v 185) .copy)])
              (.seq
               (.region [(233, 21, false), (230, 7, false), (228, 19, false), (223, 7, false), (220, 19, false), (218, 21, false), (213, 21, false), (203, 19, false), (199, 18, false), (196, 18, false), (194, 19, false), (189, 19, false)] [] [4] false [
                 (none, .mv 186 (.v 20)),
                 (none, .bin 187 .eql (.v 186) (.c (.int .i64 0))),
                 (none, .mv 188 (.v 187)),
                 (some (188, true), .fadr 189 1 1 (.v 19)),
                 (some (188, true), .load 190 false 1 (.v 189) none),
                 (some (188, true), .bin 191 .geq (.v 190) (.c (.int .i64 1))),
                 (none, .pick 192 (.v 188) (.v 191) (.c (.bool false))),
                 (none, .mv 193 (.v 192)),
                 (some (193, true), .fadr 194 0 1 (.v 19)),
                 (some (193, true), .load 195 false 1 (.v 194) none),
                 (some (193, true), .fadr 196 1 1 (.v 18)),
                 (some (193, true), .load 197 false 1 (.v 196) none),
                 (some (193, true), .bin 198 .mul (.v 195) (.v 197)),
                 (some (193, true), .fadr 199 0 1 (.v 18)),
                 (some (193, true), .load 200 false 1 (.v 199) none),
                 (some (193, true), .mv 201 (.v 6)),
                 (some (193, true), .bin 202 .mul (.v 200) (.v 201)),
                 (some (193, true), .fadr 203 1 1 (.v 19)),
                 (some (193, true), .load 204 false 1 (.v 203) none),
                 (some (193, true), .bin 205 .mul (.v 202) (.v 204)),
                 (some (193, true), .bin 206 .eql (.v 198) (.v 205)),
                 (none, .pick 207 (.v 193) (.v 206) (.c (.bool false))),
                 (none, .mv 208 (.v 207)),
                 (some (208, true), .mv 209 (.v 22)),
                 (some (208, true), .bin 210 .eql (.v 209) (.c (.int .i64 0))),
                 (none, .pick 211 (.v 208) (.v 210) (.c (.bool false))),
                 (none, .mv 212 (.v 211)),
                 (some (212, true), .fadr 213 1 1 (.v 21)),
                 (some (212, true), .load 214 false 1 (.v 213) none),
                 (some (212, true), .bin 215 .geq (.v 214) (.c (.int .i64 1))),
                 (none, .pick 216 (.v 212) (.v 215) (.c (.bool false))),
                 (none, .mv 217 (.v 216)),
                 (some (217, true), .fadr 218 0 1 (.v 21)),
                 (some (217, true), .load 219 false 1 (.v 218) none),
                 (some (217, true), .fadr 220 1 1 (.v 19)),
                 (some (217, true), .load 221 false 1 (.v 220) none),
                 (some (217, true), .bin 222 .mul (.v 219) (.v 221)),
                 (some (217, true), .fadr 223 1 1 (.v 7)),
                 (some (217, true), .load 224 false 1 (.v 223) none),
                 (some (217, true), .bin 225 .mul (.v 222) (.v 224)),
                 (some (217, true), .mv 226 (.v 5)),
                 (some (217, true), .bin 227 .mul (.v 225) (.v 226)),
                 (some (217, true), .fadr 228 0 1 (.v 19)),
                 (some (217, true), .load 229 false 1 (.v 228) none),
                 (some (217, true), .fadr 230 0 1 (.v 7)),
                 (some (217, true), .load 231 false 1 (.v 230) none),
                 (some (217, true), .bin 232 .mul (.v 229) (.v 231)),
                 (some (217, true), .fadr 233 1 1 (.v 21)),
                 (some (217, true), .load 234 false 1 (.v 233) none),
                 (some (217, true), .bin 235 .mul (.v 232) (.v 234)),
                 (some (217, true), .bin 236 .eql (.v 227) (.v 235)),
                 (none, .pick 237 (.v 217) (.v 236) (.c (.bool false))),
                 (none, .asg 4 (.v 237) .copy)])
               (.ret [4]))))))))))))))⟩
def tabl : List (Nat × PFunc) := [(269, F269), (326, F326), (213, F213), (257, F257), (262, F262), (292, F292), (263, F263), (74, F74), (75, F75), (107, F107), (161, F161), (187, F187), (189, F189), (385, F385), (386, F386), (5, F5), (7, F7), (603, F603), (606, F606), (425, F425), (604, F604), (611, F611), (616, F616), (615, F615), (426, F426), (605, F605), (620, F620), (618, F618), (619, F619), (512, F512), (334, F334)]
def T : Nat → Option PFunc := tabOf tabl
end Go.Vs.G
