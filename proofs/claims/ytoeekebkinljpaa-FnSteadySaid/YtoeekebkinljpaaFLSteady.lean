/- The functions that the law reaches, in the small language, printed by program. No conditions. -/
import Derived.Test.YtoeekebkinljpaaDLSteady
import Derived.Test.YtoeekebkinljpaaV4
set_option maxRecDepth 100000
open Go Go.Vs
namespace Go.Vs.G
def F269 : PFunc :=
 ⟨[false, false], [.tmp 4],
  (.seq
   (.region [] [] [0, 1] false [
     (none, .asg 4 (.c (.int .i64 0)) .copy)])
   (.seq
    (.block 0
     (.loop
      (.seq
       (.seq
        (.region [] [] [0, 1, 6] false [
          (none, .mv 5 (.v 1)),
          (none, .bin 6 .neq (.v 5) (.c (.int .i64 0)))])
        (.cond (.v 6)
         (.skip [0, 1])
         (.exit 0 [0])))
       (.block 1
        (.region [] [] [0, 1] true [
          (none, .mv 7 (.v 1)),
          (none, .mv 8 (.v 0)),
          (none, .mv 9 (.v 1)),
          (none, .bin 10 .rem (.v 8) (.v 9)),
          (none, .asg 0 (.v 7) .copy),
          (none, .asg 1 (.v 10) .copy)])))))
    (.seq
     (.region [] [] [4] false [
       (none, .mv 11 (.v 0)),
       (none, .mv 12 (.v 0)),
       (none, .un 13 .neg (.v 12)),
       (none, .mm 14 true (.v 11) [(.v 13)]),
       (none, .asg 4 (.v 14) .copy)])
     (.ret [4]))))⟩
def F326 : PFunc :=
 ⟨[false, false, false], [.tmp 6],
  (.seq
   (.region [] [] [0, 1, 2] false [
     (none, .asg 6 (.c (.bool false)) .copy)])
   (.seq
    (.region [] [] [6] false [
      (none, .mv 7 (.v 0)),
      (none, .mv 8 (.v 1)),
      (none, .bin 9 .geq (.v 7) (.v 8)),
      (none, .mv 10 (.v 9)),
      (some (10, true), .mv 11 (.v 0)),
      (some (10, true), .mv 12 (.v 2)),
      (some (10, true), .bin 13 .leq (.v 11) (.v 12)),
      (none, .pick 14 (.v 10) (.v 13) (.c (.bool false))),
      (none, .asg 6 (.v 14) .copy)])
    (.ret [6])))⟩
def F213 : PFunc :=
 ⟨[false], [.tmp 2],
  (.seq
   (.region [] [] [1] false [
     (none, .box 1 (.v 0) .copy),
     (none, .asg 2 (.c (.bool false)) .copy)])
   (.seq
    (.region [(14, 1, false), (12, 1, false), (7, 1, false), (3, 1, false)] [] [2] false [
      (none, .fadr 3 1 1 (.v 1)),
      (none, .load 4 false 1 (.v 3) none),
      (none, .call (some 5) 326 false [((.v 4), false), ((.c (.int .i64 1)), false), ((.c (.int .i64 1000000)), false)]),
      (none, .mv 6 (.v 5)),
      (some (6, true), .fadr 7 0 1 (.v 1)),
      (some (6, true), .load 8 false 1 (.v 7) none),
      (some (6, true), .call (some 9) 326 false [((.v 8), false), ((.c (.int .i64 (-1000000))), false), ((.c (.int .i64 1000000)), false)]),
      (none, .pick 10 (.v 6) (.v 9) (.c (.bool false))),
      (none, .mv 11 (.v 10)),
      (some (11, true), .fadr 12 0 1 (.v 1)),
      (some (11, true), .load 13 false 1 (.v 12) none),
      (some (11, true), .fadr 14 1 1 (.v 1)),
      (some (11, true), .load 15 false 1 (.v 14) none),
      (some (11, true), .call (some 16) 269 false [((.v 13), false), ((.v 15), false)]),
      (some (11, true), .bin 17 .eql (.v 16) (.c (.int .i64 1))),
      (none, .pick 18 (.v 11) (.v 17) (.c (.bool false))),
      (none, .asg 2 (.v 18) .copy)])
    (.ret [2])))⟩
def F278 : PFunc :=
 ⟨[false], [.tmp 2],
  (.seq
   (.region [] [] [1] false [
     (none, .box 1 (.v 0) .copy),
     (none, .asg 2 (.c (.bool false)) .copy)])
   (.seq
    (.region [(7, 1, false), (3, 1, false)] [] [2] false [
      (none, .fadr 3 0 1 (.v 1)),
      (none, .load 4 false 1 (.v 3) none),
      (none, .call (some 5) 326 false [((.v 4), false), ((.c (.int .i64 1)), false), ((.c (.int .i64 1000)), false)]),
      (none, .mv 6 (.v 5)),
      (some (6, true), .fadr 7 1 1 (.v 1)),
      (some (6, true), .load 8 false 1 (.v 7) none),
      (some (6, true), .bin 9 .leq (.v 8) (.c (.int .i64 1000))),
      (none, .pick 10 (.v 6) (.v 9) (.c (.bool false))),
      (none, .asg 2 (.v 10) .copy)])
    (.ret [2])))⟩
def F298 : PFunc :=
 ⟨[false, false, false], [.tmp 6],
  (.seq
   (.region [] [] [0, 2, 4] false [
     (none, .box 4 (.v 1) .copy),
     (none, .asg 6 (.c (.int .i64 0)) .copy)])
   (.seq
    (.block 0
     (.seq
      (.region [] [] [2, 4, 7] false [
        (none, .mv 8 (.v 0)),
        (none, .un 9 .not (.v 8)),
        (none, .mv 10 (.v 9)),
        (some (10, false), .load 11 true 2 (.v 4) none),
        (some (10, false), .call (some 12) 213 false [((.v 11), false)]),
        (some (10, false), .un 13 .not (.v 12)),
        (none, .pick 14 (.v 10) (.c (.bool true)) (.v 13)),
        (none, .asg 7 (.v 14) .copy)])
      (.cond (.v 7)
       (.seq
        (.region [] [] [6] false [
          (none, .asg 6 (.c (.int .i64 1)) .copy)])
        (.ret [6]))
       (.seq
        (.region [] [] [15] false [
          (none, .load 16 true 2 (.v 4) none),
          (none, .call (some 17) 278 false [((.v 16), false)]),
          (none, .un 18 .not (.v 17)),
          (none, .mv 19 (.v 18)),
          (some (19, false), .mv 20 (.v 2)),
          (some (19, false), .call (some 21) 326 false [((.v 20), false), ((.c (.int .i64 1)), false), ((.c (.int .i64 200)), false)]),
          (some (19, false), .un 22 .not (.v 21)),
          (none, .pick 23 (.v 19) (.c (.bool true)) (.v 22)),
          (none, .asg 15 (.v 23) .copy)])
        (.cond (.v 15)
         (.seq
          (.region [] [] [6] false [
            (none, .asg 6 (.c (.int .i64 2)) .copy)])
          (.ret [6]))
         (.skip []))))))
    (.seq
     (.region [] [] [6] false [
       (none, .asg 6 (.c (.int .i64 0)) .copy)])
     (.ret [6]))))⟩
def F312 : PFunc :=
 ⟨[false, false, false], [.tmp 6],
  (.seq
   (.region [] [] [0, 2, 4] false [
     (none, .box 4 (.v 1) .copy),
     (none, .asg 6 (.c (.bool false)) .copy)])
   (.seq
    (.region [(12, 4, false), (7, 4, false)] [] [6] false [
      (none, .fadr 7 0 1 (.v 4)),
      (none, .load 8 false 1 (.v 7) none),
      (none, .mv 9 (.v 0)),
      (none, .bin 10 .mul (.v 8) (.v 9)),
      (none, .mv 11 (.v 2)),
      (none, .fadr 12 1 1 (.v 4)),
      (none, .load 13 false 1 (.v 12) none),
      (none, .bin 14 .mul (.v 11) (.v 13)),
      (none, .bin 15 .geq (.v 10) (.v 14)),
      (none, .asg 6 (.v 15) .copy)])
    (.ret [6])))⟩
def F84 : PFunc :=
 ⟨[false, false], [.tmp 4, .tmp 5],
  (.seq
   (.region [] [] [1, 2] false [
     (none, .box 2 (.v 0) .copy),
     (none, .asg 4 (.c (.int .i64 0)) .copy),
     (none, .asg 5 (.c (.int .i64 0)) .copy)])
   (.seq
    (.seq
     (.region [] [] [1, 2, 6] false [
       (none, .load 8 true 2 (.v 2) none),
       (none, .mv 9 (.v 1)),
       (none, .call (some 10) 298 false [((.c (.bool true)), false), ((.v 8), false), ((.v 9), false)]),
       (none, .asg 6 (.v 10) .copy)])
     (.seq
      (.region [] [] [1, 2, 6, 12] false [
        (none, .mv 11 (.v 6)),
        (none, .bin 12 .neq (.v 11) (.c (.int .i64 0)))])
      (.cond (.v 12)
       (.seq
        (.region [] [] [4, 5] false [
          (none, .mv 13 (.v 6)),
          (none, .asg 4 (.c (.int .i64 0)) .copy),
          (none, .asg 5 (.v 13) .copy)])
        (.ret [4, 5]))
       (.skip [1, 2]))))
    (.seq
     (.seq
      (.region [] [] [1, 2, 7] false [
        (none, .asg 7 (.c (.int .i64 1)) .copy)])
      (.block 0
       (.loop
        (.seq
         (.seq
          (.region [] [] [1, 2, 7, 15] false [
            (none, .mv 14 (.v 7)),
            (none, .bin 15 .leq (.v 14) (.c (.int .i64 12)))])
          (.cond (.v 15)
           (.skip [1, 2, 7])
           (.exit 0 [])))
         (.seq
          (.block 1
           (.seq
            (.region [] [] [1, 2, 7, 26] false [
              (none, .mv 18 (.v 7)),
              (none, .bin 19 .rem (.c (.int .i64 1000)) (.v 18)),
              (none, .bin 20 .eql (.v 19) (.c (.int .i64 0))),
              (none, .mv 21 (.v 20)),
              (some (21, true), .mv 22 (.v 7)),
              (some (21, true), .load 23 true 2 (.v 2) none),
              (some (21, true), .mv 24 (.v 1)),
              (some (21, true), .call (some 25) 312 false [((.v 22), false), ((.v 23), false), ((.v 24), false)]),
              (none, .pick 26 (.v 21) (.v 25) (.c (.bool false)))])
            (.cond (.v 26)
             (.seq
              (.region [] [] [4, 5] false [
                (none, .mv 27 (.v 7)),
                (none, .asg 4 (.v 27) .copy),
                (none, .asg 5 (.c (.int .i64 0)) .copy)])
              (.ret [4, 5]))
             (.skip [1, 2, 7]))))
          (.region [] [] [1, 2, 7] false [
            (none, .mv 16 (.v 7)),
            (none, .bin 17 .add (.v 16) (.c (.int .i64 1))),
            (none, .asg 7 (.v 17) .copy)]))))))
     (.seq
      (.region [] [] [4, 5] false [
        (none, .asg 4 (.c (.int .i64 0)) .copy),
        (none, .asg 5 (.c (.int .i64 3)) .copy)])
      (.ret [4, 5])))))⟩
def F206 : PFunc :=
 ⟨[false], [.tmp 2],
  (.seq
   (.region [] [] [1] false [
     (none, .box 1 (.v 0) .copy),
     (none, .asg 2 (.c (.bool false)) .copy)])
   (.seq
    (.region [(20, 1, false), (18, 1, false), (13, 1, false), (7, 1, false), (3, 1, false)] [] [2] false [
      (none, .fadr 3 0 1 (.v 1)),
      (none, .load 4 false 1 (.v 3) none),
      (none, .call (some 5) 326 false [((.v 4), false), ((.c (.int .i64 1)), false), ((.c (.int .i64 12)), false)]),
      (none, .mv 6 (.v 5)),
      (some (6, true), .fadr 7 0 1 (.v 1)),
      (some (6, true), .load 8 false 1 (.v 7) none),
      (some (6, true), .bin 9 .rem (.c (.int .i64 1000)) (.v 8)),
      (some (6, true), .bin 10 .eql (.v 9) (.c (.int .i64 0))),
      (none, .pick 11 (.v 6) (.v 10) (.c (.bool false))),
      (none, .mv 12 (.v 11)),
      (some (12, true), .fadr 13 1 1 (.v 1)),
      (some (12, true), .load 14 false 1 (.v 13) none),
      (some (12, true), .call (some 15) 326 false [((.v 14), false), ((.c (.int .i64 1)), false), ((.c (.int .i64 999)), false)]),
      (none, .pick 16 (.v 12) (.v 15) (.c (.bool false))),
      (none, .mv 17 (.v 16)),
      (some (17, true), .fadr 18 1 1 (.v 1)),
      (some (17, true), .load 19 false 1 (.v 18) none),
      (some (17, true), .fadr 20 0 1 (.v 1)),
      (some (17, true), .load 21 false 1 (.v 20) none),
      (some (17, true), .bin 22 .rem (.v 19) (.v 21)),
      (some (17, true), .bin 23 .eql (.v 22) (.c (.int .i64 0))),
      (none, .pick 24 (.v 17) (.v 23) (.c (.bool false))),
      (none, .asg 2 (.v 24) .copy)])
    (.ret [2])))⟩
def F292 : PFunc :=
 ⟨[false, false], [.cell 4 true 2],
  (.seq
   (.region [] [] [0, 1, 4] false [
     (none, .new 4 (.agg [(.int .i64 0), (.int .i64 0)]))])
   (.seq
    (.seq
     (.region [] [] [0, 1, 4, 7] false [
       (none, .mv 6 (.v 1)),
       (none, .bin 7 .lss (.v 6) (.c (.int .i64 0)))])
     (.cond (.v 7)
      (.region [] [] [0, 1, 4] false [
        (none, .mv 8 (.v 0)),
        (none, .un 9 .neg (.v 8)),
        (none, .mv 10 (.v 1)),
        (none, .un 11 .neg (.v 10)),
        (none, .asg 0 (.v 9) .copy),
        (none, .asg 1 (.v 11) .copy)])
      (.skip [0, 1, 4])))
    (.seq
     (.region [] [] [0, 1, 4, 5] false [
       (none, .mv 12 (.v 0)),
       (none, .mv 13 (.v 1)),
       (none, .call (some 14) 269 false [((.v 12), false), ((.v 13), false)]),
       (none, .asg 5 (.v 14) .copy)])
     (.seq
      (.region [] [] [4] true [
        (none, .mv 15 (.v 0)),
        (none, .mv 16 (.v 5)),
        (none, .bin 17 .quo (.v 15) (.v 16)),
        (none, .mv 18 (.v 1)),
        (none, .mv 19 (.v 5)),
        (none, .bin 20 .quo (.v 18) (.v 19)),
        (none, .build 21 [(.int .i64 0), (.int .i64 0)] [(0, 1, (.v 17), .copy), (1, 1, (.v 20), .copy)]),
        (none, .store 2 (.v 4) (.v 21) .copy)])
      (.ret [4])))))⟩
def F100 : PFunc :=
 ⟨[false, false], [.cell 4 true 2, .tmp 5],
  (.seq
   (.region [] [] [2, 3, 4] false [
     (none, .box 2 (.v 0) .copy),
     (none, .box 3 (.v 1) .copy),
     (none, .new 4 (.agg [(.int .i64 0), (.int .i64 0)])),
     (none, .asg 5 (.c (.int .i64 0)) .copy)])
   (.seq
    (.seq
     (.region [] [] [2, 3, 4, 6] true [
       (none, .load 7 true 2 (.v 2) none),
       (none, .call (some 8) 206 false [((.v 7), false)]),
       (none, .load 9 true 2 (.v 3) none),
       (none, .call (some 10) 298 false [((.v 8), false), ((.v 9), false), ((.c (.int .i64 1)), false)]),
       (none, .asg 6 (.v 10) .copy)])
     (.seq
      (.region [] [] [2, 3, 4, 6, 12] false [
        (none, .mv 11 (.v 6)),
        (none, .bin 12 .neq (.v 11) (.c (.int .i64 0)))])
      (.cond (.v 12)
       (.seq
        (.region [] [] [4, 5] false [
          (none, .build 13 [(.int .i64 0), (.int .i64 0)] []),
          (none, .mv 14 (.v 6)),
          (none, .store 2 (.v 4) (.v 13) .copy),
          (none, .asg 5 (.v 14) .copy)])
        (.ret [4, 5]))
       (.skip [2, 3, 4]))))
    (.seq
     (.region [(20, 3, false), (17, 2, false), (15, 3, false)] [] [4, 5] false [
       (none, .fadr 15 0 1 (.v 3)),
       (none, .load 16 false 1 (.v 15) none),
       (none, .fadr 17 0 1 (.v 2)),
       (none, .load 18 false 1 (.v 17) none),
       (none, .bin 19 .mul (.v 16) (.v 18)),
       (none, .fadr 20 1 1 (.v 3)),
       (none, .load 21 false 1 (.v 20) none),
       (none, .call (some 22) 292 false [((.v 19), false), ((.v 21), false)]),
       (none, .store 2 (.v 4) (.v 22) .copy),
       (none, .asg 5 (.c (.int .i64 0)) .copy)])
     (.ret [4, 5]))))⟩
def F17 : PFunc :=
 ⟨[false, false], [.tmp 4],
  (.seq
   (.region [] [] [1, 2] false [
     (none, .box 2 (.v 0) .copy),
     (none, .asg 4 (.c (.bool false)) .copy)])
   (.seq
    (.region [(12, 2, false), (10, 2, false), (6, 2, false)] [] [4] true [
      (none, .mv 5 (.v 1)),
      (none, .fadr 6 0 1 (.v 2)),
      (none, .load 7 false 1 (.v 6) none),
      (none, .bin 8 .quo (.c (.int .i64 1000)) (.v 7)),
      (none, .bin 9 .rem (.v 5) (.v 8)),
      (none, .fadr 10 1 1 (.v 2)),
      (none, .load 11 false 1 (.v 10) none),
      (none, .fadr 12 0 1 (.v 2)),
      (none, .load 13 false 1 (.v 12) none),
      (none, .bin 14 .quo (.v 11) (.v 13)),
      (none, .bin 15 .lss (.v 9) (.v 14)),
      (none, .asg 4 (.v 15) .copy)])
    (.ret [4])))⟩
def F117 : PFunc :=
 ⟨[false, false], [.tmp 4, .tmp 5],
  (.seq
   (.region [] [] [1, 2] false [
     (none, .box 2 (.v 0) .copy),
     (none, .asg 4 (.c (.bool false)) .copy),
     (none, .asg 5 (.c (.int .i64 0)) .copy)])
   (.seq
    (.block 0
     (.seq
      (.region [] [] [1, 2, 6] false [
        (none, .load 7 true 2 (.v 2) none),
        (none, .call (some 8) 206 false [((.v 7), false)]),
        (none, .un 9 .not (.v 8)),
        (none, .asg 6 (.v 9) .copy)])
      (.cond (.v 6)
       (.seq
        (.region [] [] [4, 5] false [
          (none, .asg 4 (.c (.bool false)) .copy),
          (none, .asg 5 (.c (.int .i64 1)) .copy)])
        (.ret [4, 5]))
       (.seq
        (.region [] [] [1, 2, 10] false [
          (none, .mv 11 (.v 1)),
          (none, .call (some 12) 326 false [((.v 11), false), ((.c (.int .i64 0)), false), ((.c (.int .i64 999)), false)]),
          (none, .un 13 .not (.v 12)),
          (none, .asg 10 (.v 13) .copy)])
        (.cond (.v 10)
         (.seq
          (.region [] [] [4, 5] false [
            (none, .asg 4 (.c (.bool false)) .copy),
            (none, .asg 5 (.c (.int .i64 2)) .copy)])
          (.ret [4, 5]))
         (.skip [1, 2]))))))
    (.seq
     (.region [] [] [4, 5] false [
       (none, .load 14 true 2 (.v 2) none),
       (none, .mv 15 (.v 1)),
       (none, .call (some 16) 17 false [((.v 14), false), ((.v 15), false)]),
       (none, .asg 4 (.v 16) .copy),
       (none, .asg 5 (.c (.int .i64 0)) .copy)])
     (.ret [4, 5]))))⟩
def F118 : PFunc :=
 ⟨[false, false, false], [.tmp 6, .tmp 7],
  (.seq
   (.region [] [] [2, 3, 4] false [
     (none, .box 3 (.v 0) .copy),
     (none, .box 4 (.v 1) .copy),
     (none, .asg 6 (.c (.bool false)) .copy),
     (none, .asg 7 (.c (.int .i64 0)) .copy)])
   (.seq
    (.seq
     (.region [] [] [2, 3, 4, 8] true [
       (none, .load 9 true 2 (.v 3) none),
       (none, .call (some 10) 206 false [((.v 9), false)]),
       (none, .load 11 true 2 (.v 4) none),
       (none, .mv 12 (.v 2)),
       (none, .call (some 13) 298 false [((.v 10), false), ((.v 11), false), ((.v 12), false)]),
       (none, .asg 8 (.v 13) .copy)])
     (.seq
      (.region [] [] [2, 3, 4, 8, 15] false [
        (none, .mv 14 (.v 8)),
        (none, .bin 15 .neq (.v 14) (.c (.int .i64 0)))])
      (.cond (.v 15)
       (.seq
        (.region [] [] [6, 7] false [
          (none, .mv 16 (.v 8)),
          (none, .asg 6 (.c (.bool false)) .copy),
          (none, .asg 7 (.v 16) .copy)])
        (.ret [6, 7]))
       (.skip [2, 3, 4]))))
    (.seq
     (.region [(17, 3, false)] [] [6, 7] false [
       (none, .fadr 17 0 1 (.v 3)),
       (none, .load 18 false 1 (.v 17) none),
       (none, .load 19 true 2 (.v 4) none),
       (none, .mv 20 (.v 2)),
       (none, .call (some 21) 312 false [((.v 18), false), ((.v 19), false), ((.v 20), false)]),
       (none, .asg 6 (.v 21) .copy),
       (none, .asg 7 (.c (.int .i64 0)) .copy)])
     (.ret [6, 7]))))⟩
def F158 : PFunc :=
 ⟨[false, false, false], [.tmp 6, .tmp 7],
  (.seq
   (.region [] [] [1, 2, 3] false [
     (none, .box 3 (.v 0) .copy),
     (none, .asg 6 (.c (.int .i64 0)) .copy),
     (none, .asg 7 (.c (.int .i64 0)) .copy)])
   (.seq
    (.block 0
     (.seq
      (.region [] [] [1, 2, 3, 10] false [
        (none, .load 11 true 2 (.v 3) none),
        (none, .call (some 12) 206 false [((.v 11), false)]),
        (none, .un 13 .not (.v 12)),
        (none, .asg 10 (.v 13) .copy)])
      (.cond (.v 10)
       (.seq
        (.region [] [] [6, 7] false [
          (none, .asg 6 (.c (.int .i64 0)) .copy),
          (none, .asg 7 (.c (.int .i64 1)) .copy)])
        (.ret [6, 7]))
       (.seq
        (.region [] [] [1, 2, 3, 14] false [
          (none, .mv 15 (.v 1)),
          (none, .bin 16 .leq (.c (.int .i64 0)) (.v 15)),
          (none, .mv 17 (.v 16)),
          (some (17, true), .mv 18 (.v 1)),
          (some (17, true), .mv 19 (.v 2)),
          (some (17, true), .bin 20 .leq (.v 18) (.v 19)),
          (none, .pick 21 (.v 17) (.v 20) (.c (.bool false))),
          (none, .mv 22 (.v 21)),
          (some (22, true), .mv 23 (.v 2)),
          (some (22, true), .bin 24 .leq (.v 23) (.c (.int .i64 1000))),
          (none, .pick 25 (.v 22) (.v 24) (.c (.bool false))),
          (none, .un 26 .not (.v 25)),
          (none, .asg 14 (.v 26) .copy)])
        (.cond (.v 14)
         (.seq
          (.region [] [] [6, 7] false [
            (none, .asg 6 (.c (.int .i64 0)) .copy),
            (none, .asg 7 (.c (.int .i64 2)) .copy)])
          (.ret [6, 7]))
         (.skip [1, 2, 3]))))))
    (.seq
     (.region [] [] [1, 2, 3, 8] false [
       (none, .asg 8 (.c (.int .i64 0)) .copy)])
     (.seq
      (.seq
       (.region [] [] [2, 3, 8, 9] false [
         (none, .mv 27 (.v 1)),
         (none, .asg 9 (.v 27) .copy)])
       (.block 1
        (.loop
         (.seq
          (.seq
           (.region [] [] [2, 3, 8, 9, 30] false [
             (none, .mv 28 (.v 9)),
             (none, .mv 29 (.v 2)),
             (none, .bin 30 .lss (.v 28) (.v 29))])
           (.cond (.v 30)
            (.skip [2, 3, 8, 9])
            (.exit 1 [8])))
          (.seq
           (.block 2
            (.seq
             (.region [] [] [2, 3, 8, 9, 35] false [
               (none, .load 33 true 2 (.v 3) none),
               (none, .mv 34 (.v 9)),
               (none, .call (some 35) 17 false [((.v 33), false), ((.v 34), false)])])
             (.cond (.v 35)
              (.region [] [] [2, 3, 8, 9] false [
                (none, .mv 36 (.v 8)),
                (none, .bin 37 .add (.v 36) (.c (.int .i64 1))),
                (none, .asg 8 (.v 37) .copy)])
              (.skip [2, 3, 8, 9]))))
           (.region [] [] [2, 3, 8, 9] false [
             (none, .mv 31 (.v 9)),
             (none, .bin 32 .add (.v 31) (.c (.int .i64 1))),
             (none, .asg 9 (.v 32) .copy)]))))))
      (.seq
       (.region [] [] [6, 7] false [
         (none, .mv 38 (.v 8)),
         (none, .asg 6 (.v 38) .copy),
         (none, .asg 7 (.c (.int .i64 0)) .copy)])
       (.ret [6, 7]))))))⟩
def F188 : PFunc :=
 ⟨[false, false], [.cell 4 true 2, .tmp 5],
  (.seq
   (.region [] [] [1, 2, 4] false [
     (none, .box 2 (.v 0) .copy),
     (none, .new 4 (.agg [(.int .i64 0), (.int .i64 0)])),
     (none, .asg 5 (.c (.int .i64 0)) .copy)])
   (.seq
    (.block 0
     (.seq
      (.region [] [] [1, 2, 4, 6] false [
        (none, .load 7 true 2 (.v 2) none),
        (none, .call (some 8) 206 false [((.v 7), false)]),
        (none, .un 9 .not (.v 8)),
        (none, .asg 6 (.v 9) .copy)])
      (.cond (.v 6)
       (.seq
        (.region [] [] [4, 5] false [
          (none, .build 10 [(.int .i64 0), (.int .i64 0)] []),
          (none, .store 2 (.v 4) (.v 10) .copy),
          (none, .asg 5 (.c (.int .i64 1)) .copy)])
        (.ret [4, 5]))
       (.seq
        (.region [] [] [1, 2, 4, 11] false [
          (none, .mv 12 (.v 1)),
          (none, .call (some 13) 326 false [((.v 12), false), ((.c (.int .i64 1)), false), ((.c (.int .i64 200)), false)]),
          (none, .un 14 .not (.v 13)),
          (none, .asg 11 (.v 14) .copy)])
        (.cond (.v 11)
         (.seq
          (.region [] [] [4, 5] false [
            (none, .build 15 [(.int .i64 0), (.int .i64 0)] []),
            (none, .store 2 (.v 4) (.v 15) .copy),
            (none, .asg 5 (.c (.int .i64 2)) .copy)])
          (.ret [4, 5]))
         (.skip [1, 2, 4]))))))
    (.seq
     (.region [(17, 2, false)] [] [4, 5] false [
       (none, .mv 16 (.v 1)),
       (none, .fadr 17 0 1 (.v 2)),
       (none, .load 18 false 1 (.v 17) none),
       (none, .call (some 19) 292 false [((.v 16), false), ((.v 18), false)]),
       (none, .store 2 (.v 4) (.v 19) .copy),
       (none, .asg 5 (.c (.int .i64 0)) .copy)])
     (.ret [4, 5]))))⟩
def F398 : PFunc :=
 ⟨[false], [.tmp 2],
  (.seq
   (.region [] [] [0] false [
     (none, .asg 2 (.c (.bool false)) .copy)])
   (.seq
    (.region [(3, 0, false)] [] [2] false [
      (none, .mv 3 (.v 0)),
      (none, .len 4 false (.v 3)),
      (none, .bin 5 .gtr (.v 4) (.c (.int .i64 4096))),
      (none, .asg 2 (.v 5) .copy)])
    (.ret [2])))⟩
def F603 : PFunc :=
 ⟨[false], [.tmp 2],
  (.seq
   (.region [] [] [0] false [
     (none, .asg 2 (.c .nilp) .copy)])
   (.seq
    (.region [(3, 0, false)] [] [2] false [
      (none, .mv 3 (.v 0)),
      (none, .build 4 [(.sl false 1 []), (.int .i64 0), (.int .u64 0)] [(0, 1, (.v 3), .move)]),
      (none, .box 5 (.v 4) .move),
      (none, .asg 2 (.v 5) .move)])
    (.ret [2])))⟩
def F5 : PFunc :=
 ⟨[true], [.tmp 2],
  (.seq
   (.region [] [] [0] false [
     (none, .asg 2 (.c (.int .i64 0)) .copy)])
   (.seq
    (.region [] [] [0, 3] false [
      (none, .asg 3 (.c (.int .i64 0)) .copy)])
    (.seq
     (.seq
      (.region [(11, 0, true), (10, 0, false), (9, 0, false), (8, 0, false), (6, 0, false), (5, 0, false), (4, 0, false)] [] [0, 3, 13] true [
        (none, .mv 4 (.v 0)),
        (none, .nchk 5 (.v 4)),
        (none, .fadr 6 1 1 (.v 5)),
        (none, .load 7 false 1 (.v 6) none),
        (none, .mv 8 (.v 0)),
        (none, .nchk 9 (.v 8)),
        (none, .fadr 10 0 1 (.v 9)),
        (none, .load 11 false 1 (.v 10) none),
        (none, .len 12 false (.v 11)),
        (none, .bin 13 .lss (.v 7) (.v 12))])
      (.cond (.v 13)
       (.region [(22, 0, true), (20, 0, false), (19, 0, false), (18, 0, false), (17, 0, true), (16, 0, false), (15, 0, false), (14, 0, false)] [] [0, 3] true [
         (none, .mv 14 (.v 0)),
         (none, .nchk 15 (.v 14)),
         (none, .fadr 16 0 1 (.v 15)),
         (none, .load 17 false 1 (.v 16) none),
         (none, .mv 18 (.v 0)),
         (none, .nchk 19 (.v 18)),
         (none, .fadr 20 1 1 (.v 19)),
         (none, .load 21 false 1 (.v 20) none),
         (none, .iadr 22 1 (.v 17) (.v 21)),
         (none, .load 23 false 1 (.v 22) none),
         (none, .conv 24 .i64 (.v 23)),
         (none, .asg 3 (.v 24) .copy)])
       (.skip [0, 3])))
     (.seq
      (.region [(31, 0, false), (30, 0, false), (27, 0, false), (26, 0, false), (25, 0, false)] [] [0, 3] false [
        (none, .mv 25 (.v 0)),
        (none, .nchk 26 (.v 25)),
        (none, .fadr 27 1 1 (.v 26)),
        (none, .load 28 false 1 (.v 27) none),
        (none, .bin 29 .add (.v 28) (.c (.int .i64 1))),
        (none, .nchk 30 (.v 25)),
        (none, .fadr 31 1 1 (.v 30)),
        (none, .store 1 (.v 31) (.v 29) .copy)])
      (.seq
       (.region [(43, 0, false), (42, 0, false), (35, 0, false), (34, 0, false), (33, 0, false), (32, 0, false)] [] [0, 3] false [
         (none, .mv 32 (.v 0)),
         (none, .mv 33 (.v 0)),
         (none, .nchk 34 (.v 33)),
         (none, .fadr 35 2 1 (.v 34)),
         (none, .load 36 false 1 (.v 35) none),
         (none, .bin 37 .mul (.v 36) (.c (.int .u64 6364136223846793005))),
         (none, .mv 38 (.v 3)),
         (none, .conv 39 .u64 (.v 38)),
         (none, .bin 40 .add (.v 37) (.v 39)),
         (none, .bin 41 .add (.v 40) (.c (.int .u64 1442695040888963407))),
         (none, .nchk 42 (.v 32)),
         (none, .fadr 43 2 1 (.v 42)),
         (none, .store 1 (.v 43) (.v 41) .copy)])
       (.seq
        (.seq
         (.region [(51, 0, true), (50, 0, false), (49, 0, false), (48, 0, false), (46, 0, false), (45, 0, false), (44, 0, false)] [] [0, 3, 53] true [
           (none, .mv 44 (.v 0)),
           (none, .nchk 45 (.v 44)),
           (none, .fadr 46 1 1 (.v 45)),
           (none, .load 47 false 1 (.v 46) none),
           (none, .mv 48 (.v 0)),
           (none, .nchk 49 (.v 48)),
           (none, .fadr 50 0 1 (.v 49)),
           (none, .load 51 false 1 (.v 50) none),
           (none, .len 52 false (.v 51)),
           (none, .bin 53 .leq (.v 47) (.v 52))])
         (.cond (.v 53)
          (.seq
           (.region [] [] [0, 2] false [
             (none, .mv 54 (.v 3)),
             (none, .asg 2 (.v 54) .copy)])
           (.ret [0, 2]))
          (.skip [0])))
        (.seq
         (.region [(57, 0, false), (56, 0, false), (55, 0, false)] [] [0, 2] false [
           (none, .mv 55 (.v 0)),
           (none, .nchk 56 (.v 55)),
           (none, .fadr 57 2 1 (.v 56)),
           (none, .load 58 false 1 (.v 57) none),
           (none, .bin 59 .shr (.v 58) (.c (.int .u64 40))),
           (none, .bin 60 .and (.v 59) (.c (.int .u64 255))),
           (none, .conv 61 .i64 (.v 60)),
           (none, .asg 2 (.v 61) .copy)])
         (.ret [0, 2]))))))))⟩
def F7 : PFunc :=
 ⟨[true, false], [.tmp 4],
  (.seq
   (.region [] [] [0, 1] false [
     (none, .asg 4 (.c (.int .i64 0)) .copy)])
   (.seq
    (.seq
     (.region [] [] [0, 1, 7] false [
       (none, .mv 6 (.v 1)),
       (none, .bin 7 .leq (.v 6) (.c (.int .i64 1)))])
     (.cond (.v 7)
      (.seq
       (.region [] [] [0, 4] false [
         (none, .asg 4 (.c (.int .i64 0)) .copy)])
       (.ret [0, 4]))
      (.skip [0, 1])))
    (.seq
     (.region [(8, 0, false)] [] [0, 1, 5] false [
       (none, .mv 8 (.v 0)),
       (none, .call (some 9) 5 true [((.v 8), true)]),
       (none, .asg 5 (.v 9) .copy)])
     (.seq
      (.seq
       (.region [] [] [0, 1, 5, 11] false [
         (none, .mv 10 (.v 1)),
         (none, .bin 11 .gtr (.v 10) (.c (.int .i64 200)))])
       (.cond (.v 11)
        (.region [(14, 0, false)] [] [0, 1, 5] false [
          (none, .mv 12 (.v 5)),
          (none, .bin 13 .mul (.v 12) (.c (.int .i64 256))),
          (none, .mv 14 (.v 0)),
          (none, .call (some 15) 5 true [((.v 14), true)]),
          (none, .bin 16 .add (.v 13) (.v 15)),
          (none, .asg 5 (.v 16) .copy)])
        (.skip [0, 1, 5])))
      (.seq
       (.region [] [] [0, 4] false [
         (none, .mv 17 (.v 5)),
         (none, .mv 18 (.v 1)),
         (none, .bin 19 .rem (.v 17) (.v 18)),
         (none, .asg 4 (.v 19) .copy)])
       (.ret [0, 4]))))))⟩
def F4 : PFunc :=
 ⟨[true, false], [.tmp 4],
  (.seq
   (.region [] [] [0, 1] false [
     (none, .asg 4 (.c (.int .i64 0)) .copy)])
   (.seq
    (.region [(10, 1, false), (7, 1, false), (6, 0, false), (5, 1, false)] [] [0, 4] false [
      (none, .mv 5 (.v 1)),
      (none, .mv 6 (.v 0)),
      (none, .mv 7 (.v 1)),
      (none, .len 8 false (.v 7)),
      (none, .call (some 9) 7 true [((.v 6), true), ((.v 8), false)]),
      (none, .iadr 10 1 (.v 5) (.v 9)),
      (none, .load 11 false 1 (.v 10) none),
      (none, .asg 4 (.v 11) .copy)])
    (.ret [0, 4])))⟩
def F6 : PFunc :=
 ⟨[true, false], [.tmp 4],
  (.seq
   (.region [] [] [0, 1] false [
     (none, .asg 4 (.c (.bool false)) .copy)])
   (.seq
    (.region [(5, 0, false)] [] [0, 4] false [
      (none, .mv 5 (.v 0)),
      (none, .mv 6 (.v 1)),
      (none, .call (some 7) 7 true [((.v 5), true), ((.v 6), false)]),
      (none, .bin 8 .eql (.v 7) (.c (.int .i64 0))),
      (none, .asg 4 (.v 8) .copy)])
    (.ret [0, 4])))⟩
def F661 : PFunc :=
 ⟨[true], [.tmp 2],
  (.seq
   (.region [] [] [0] false [
     (none, .asg 2 (.c (.int .i64 0)) .copy)])
   (.seq
    (.seq
     (.region [(3, 0, false)] [] [0, 4] false [
       (none, .mv 3 (.v 0)),
       (none, .call (some 4) 6 true [((.v 3), true), ((.c (.int .i64 10)), false)])])
     (.cond (.v 4)
      (.seq
       (.region [(5, 0, false)] [] [0, 2] false [
         (none, .mv 5 (.v 0)),
         (none, .mksl 6 1 (.int .i64 0) 6 [(0, (.c (.int .i64 (-1))), .copy), (1, (.c (.int .i64 0)), .copy), (2, (.c (.int .i64 1)), .copy), (3, (.c (.int .i64 200)), .copy), (4, (.c (.int .i64 201)), .copy), (5, (.c (.int .i64 (-9223372036854775808))), .copy)]),
         (none, .call (some 7) 4 true [((.v 5), true), ((.v 6), false)]),
         (none, .asg 2 (.v 7) .copy)])
       (.ret [0, 2]))
      (.skip [0])))
    (.seq
     (.region [(8, 0, false)] [] [0, 2] false [
       (none, .mv 8 (.v 0)),
       (none, .call (some 9) 7 true [((.v 8), true), ((.c (.int .i64 60)), false)]),
       (none, .bin 10 .add (.c (.int .i64 5)) (.v 9)),
       (none, .asg 2 (.v 10) .copy)])
     (.ret [0, 2]))))⟩
def F604 : PFunc :=
 ⟨[false, false], [.tmp 4],
  (.seq
   (.region [] [] [0, 1] false [
     (none, .asg 4 (.c (.int .i64 0)) .copy)])
   (.seq
    (.block 0
     (.loop
      (.seq
       (.seq
        (.region [] [] [0, 1, 7] false [
          (none, .mv 6 (.v 1)),
          (none, .bin 7 .neq (.v 6) (.c (.int .i64 0)))])
        (.cond (.v 7)
         (.skip [0, 1])
         (.exit 0 [0])))
       (.block 1
        (.seq
         (.region [] [] [1, 5] false [
           (none, .mv 8 (.v 0)),
           (none, .mv 9 (.v 1)),
           (none, .bin 10 .rem (.v 8) (.v 9)),
           (none, .asg 5 (.v 10) .copy)])
         (.seq
          (.region [] [] [0, 5] false [
            (none, .mv 11 (.v 1)),
            (none, .asg 0 (.v 11) .copy)])
          (.region [] [] [0, 1] false [
            (none, .mv 12 (.v 5)),
            (none, .asg 1 (.v 12) .copy)])))))))
    (.seq
     (.region [] [] [4] false [
       (none, .mv 13 (.v 0)),
       (none, .asg 4 (.v 13) .copy)])
     (.ret [4]))))⟩
def F611 : PFunc :=
 ⟨[false], [.tmp 2],
  (.seq
   (.region [] [] [0] false [
     (none, .asg 2 (.c (.int .i64 0)) .copy)])
   (.seq
    (.seq
     (.region [] [] [0, 4] false [
       (none, .mv 3 (.v 0)),
       (none, .bin 4 .lss (.v 3) (.c (.int .i64 0)))])
     (.cond (.v 4)
      (.seq
       (.region [] [] [2] false [
         (none, .mv 5 (.v 0)),
         (none, .un 6 .neg (.v 5)),
         (none, .asg 2 (.v 6) .copy)])
       (.ret [2]))
      (.skip [0])))
    (.seq
     (.region [] [] [2] false [
       (none, .mv 7 (.v 0)),
       (none, .asg 2 (.v 7) .copy)])
     (.ret [2]))))⟩
def F616 : PFunc :=
 ⟨[false, false], [.cell 4 true 2],
  (.seq
   (.region [] [] [0, 1, 4] false [
     (none, .new 4 (.agg [(.int .i64 0), (.int .i64 0)]))])
   (.seq
    (.region [] [] [0, 1, 4, 5] false [
      (none, .mv 6 (.v 0)),
      (none, .call (some 7) 611 false [((.v 6), false)]),
      (none, .mv 8 (.v 1)),
      (none, .call (some 9) 604 false [((.v 7), false), ((.v 8), false)]),
      (none, .asg 5 (.v 9) .copy)])
    (.seq
     (.region [] [] [4] true [
       (none, .mv 10 (.v 0)),
       (none, .mv 11 (.v 5)),
       (none, .bin 12 .quo (.v 10) (.v 11)),
       (none, .mv 13 (.v 1)),
       (none, .mv 14 (.v 5)),
       (none, .bin 15 .quo (.v 13) (.v 14)),
       (none, .build 16 [(.int .i64 0), (.int .i64 0)] [(0, 1, (.v 12), .copy), (1, 1, (.v 15), .copy)]),
       (none, .store 2 (.v 4) (.v 16) .copy)])
     (.ret [4]))))⟩
def F615 : PFunc :=
 ⟨[true], [.cell 2 true 2],
  (.seq
   (.region [] [] [0, 2] false [
     (none, .new 2 (.agg [(.int .i64 0), (.int .i64 0)]))])
   (.seq
    (.region [(4, 0, false)] [] [0, 2, 3] false [
      (none, .mv 4 (.v 0)),
      (none, .call (some 5) 7 true [((.v 4), true), ((.c (.int .i64 60)), false)]),
      (none, .bin 6 .sub (.v 5) (.c (.int .i64 15))),
      (none, .asg 3 (.v 6) .copy)])
    (.seq
     (.region [(8, 0, false)] [] [0, 2] false [
       (none, .mv 7 (.v 3)),
       (none, .mv 8 (.v 0)),
       (none, .call (some 9) 7 true [((.v 8), true), ((.c (.int .i64 20)), false)]),
       (none, .bin 10 .add (.c (.int .i64 1)) (.v 9)),
       (none, .call (some 11) 616 false [((.v 7), false), ((.v 10), false)]),
       (none, .store 2 (.v 2) (.v 11) .copy)])
     (.ret [0, 2]))))⟩
def F614 : PFunc :=
 ⟨[true], [.cell 2 true 2],
  (.seq
   (.region [] [] [0, 2] false [
     (none, .new 2 (.agg [(.int .i64 0), (.int .i64 0)]))])
   (.seq
    (.region [(4, 0, false)] [] [0, 2, 3] false [
      (none, .mv 4 (.v 0)),
      (none, .call (some 5) 615 true [((.v 4), true)]),
      (none, .new 3 (.agg [(.int .i64 0), (.int .i64 0)])),
      (none, .store 2 (.v 3) (.v 5) .copy)])
    (.seq
     (.seq
      (.region [(6, 0, false)] [] [0, 2, 3, 7] false [
        (none, .mv 6 (.v 0)),
        (none, .call (some 7) 7 true [((.v 6), true), ((.c (.int .i64 20)), false)])])
      (.block 0
       (.seq
        (.region [] [] [0, 2, 3, 7, 8] false [
          (none, .bin 9 .eql (.v 7) (.c (.int .i64 0))),
          (none, .asg 8 (.v 9) .copy)])
        (.cond (.v 8)
         (.region [(13, 3, false), (10, 0, false)] [] [0, 2, 3] false [
           (none, .mv 10 (.v 0)),
           (none, .mksl 11 1 (.int .i64 0) 5 [(0, (.c (.int .i64 (-1))), .copy), (1, (.c (.int .i64 0)), .copy), (2, (.c (.int .i64 1)), .copy), (3, (.c (.int .i64 1000000)), .copy), (4, (.c (.int .i64 1000001)), .copy)]),
           (none, .call (some 12) 4 true [((.v 10), true), ((.v 11), false)]),
           (none, .fadr 13 1 1 (.v 3)),
           (none, .store 1 (.v 13) (.v 12) .copy)])
         (.seq
          (.region [] [] [0, 2, 3, 7, 14] false [
            (none, .bin 15 .eql (.v 7) (.c (.int .i64 1))),
            (none, .asg 14 (.v 15) .copy)])
          (.cond (.v 14)
           (.region [(19, 3, false), (16, 0, false)] [] [0, 2, 3] false [
             (none, .mv 16 (.v 0)),
             (none, .mksl 17 1 (.int .i64 0) 5 [(0, (.c (.int .i64 (-1000001))), .copy), (1, (.c (.int .i64 (-1000000))), .copy), (2, (.c (.int .i64 1000000)), .copy), (3, (.c (.int .i64 1000001)), .copy), (4, (.c (.int .i64 (-9223372036854775808))), .copy)]),
             (none, .call (some 18) 4 true [((.v 16), true), ((.v 17), false)]),
             (none, .fadr 19 0 1 (.v 3)),
             (none, .store 1 (.v 19) (.v 18) .copy)])
           (.seq
            (.region [] [] [0, 2, 3, 7, 20] false [
              (none, .bin 21 .eql (.v 7) (.c (.int .i64 2))),
              (none, .asg 20 (.v 21) .copy)])
            (.cond (.v 20)
             (.region [(22, 0, false)] [] [0, 2, 3] false [
               (none, .mv 22 (.v 0)),
               (none, .call (some 23) 7 true [((.v 22), true), ((.c (.int .i64 5)), false)]),
               (none, .bin 24 .mul (.c (.int .i64 2)) (.v 23)),
               (none, .build 25 [(.int .i64 0), (.int .i64 0)] [(0, 1, (.v 24), .copy), (1, 1, (.c (.int .i64 4)), .copy)]),
               (none, .store 2 (.v 3) (.v 25) .copy)])
             (.seq
              (.region [] [] [0, 2, 3, 26] false [
                (none, .bin 27 .eql (.v 7) (.c (.int .i64 3))),
                (none, .asg 26 (.v 27) .copy)])
              (.cond (.v 26)
               (.region [(28, 0, false)] [] [0, 2, 3] false [
                 (none, .mv 28 (.v 0)),
                 (none, .call (some 29) 7 true [((.v 28), true), ((.c (.int .i64 3)), false)]),
                 (none, .bin 30 .sub (.c (.int .i64 999983)) (.v 29)),
                 (none, .build 31 [(.int .i64 0), (.int .i64 0)] [(0, 1, (.v 30), .copy), (1, 1, (.c (.int .i64 1000000)), .copy)]),
                 (none, .store 2 (.v 3) (.v 31) .copy)])
               (.skip [0, 2, 3])))))))))))
     (.seq
      (.region [] [] [0, 2] false [
        (none, .load 32 true 2 (.v 3) none),
        (none, .store 2 (.v 2) (.v 32) .copy)])
      (.ret [0, 2])))))⟩
def F662 : PFunc :=
 ⟨[true], [.cell 2 true 2],
  (.seq
   (.region [] [] [0, 2] false [
     (none, .new 2 (.agg [(.int .i64 0), (.int .i64 0)]))])
   (.seq
    (.seq
     (.region [(3, 0, false)] [] [0, 2, 4] false [
       (none, .mv 3 (.v 0)),
       (none, .call (some 4) 7 true [((.v 3), true), ((.c (.int .i64 12)), false)])])
     (.block 0
      (.seq
       (.region [] [] [0, 2, 4, 5] false [
         (none, .bin 6 .eql (.v 4) (.c (.int .i64 0))),
         (none, .asg 5 (.v 6) .copy)])
       (.cond (.v 5)
        (.seq
         (.region [(7, 0, false)] [] [0, 2] false [
           (none, .mv 7 (.v 0)),
           (none, .call (some 8) 614 true [((.v 7), true)]),
           (none, .store 2 (.v 2) (.v 8) .copy)])
         (.ret [0, 2]))
        (.seq
         (.region [] [] [0, 2, 4, 9] false [
           (none, .bin 10 .eql (.v 4) (.c (.int .i64 1))),
           (none, .asg 9 (.v 10) .copy)])
         (.cond (.v 9)
          (.seq
           (.region [(11, 0, false)] [] [0, 2] false [
             (none, .mv 11 (.v 0)),
             (none, .mksl 12 1 (.int .i64 0) 5 [(0, (.c (.int .i64 (-1))), .copy), (1, (.c (.int .i64 1)), .copy), (2, (.c (.int .i64 999)), .copy), (3, (.c (.int .i64 1000)), .copy), (4, (.c (.int .i64 1001)), .copy)]),
             (none, .call (some 13) 4 true [((.v 11), true), ((.v 12), false)]),
             (none, .build 14 [(.int .i64 0), (.int .i64 0)] [(0, 1, (.v 13), .copy), (1, 1, (.c (.int .i64 1)), .copy)]),
             (none, .store 2 (.v 2) (.v 14) .copy)])
           (.ret [0, 2]))
          (.seq
           (.region [] [] [0, 2, 15] false [
             (none, .bin 16 .eql (.v 4) (.c (.int .i64 2))),
             (none, .asg 15 (.v 16) .copy)])
           (.cond (.v 15)
            (.seq
             (.region [(17, 0, false)] [] [0, 2] false [
               (none, .mv 17 (.v 0)),
               (none, .mksl 18 1 (.int .i64 0) 3 [(0, (.c (.int .i64 1)), .copy), (1, (.c (.int .i64 1000)), .copy), (2, (.c (.int .i64 1001)), .copy)]),
               (none, .call (some 19) 4 true [((.v 17), true), ((.v 18), false)]),
               (none, .build 20 [(.int .i64 0), (.int .i64 0)] [(0, 1, (.c (.int .i64 1)), .copy), (1, 1, (.v 19), .copy)]),
               (none, .store 2 (.v 2) (.v 20) .copy)])
             (.ret [0, 2]))
            (.skip [0, 2])))))))))
    (.seq
     (.region [(24, 0, false), (21, 0, false)] [] [0, 2] false [
       (none, .mv 21 (.v 0)),
       (none, .call (some 22) 7 true [((.v 21), true), ((.c (.int .i64 90)), false)]),
       (none, .bin 23 .add (.c (.int .i64 1)) (.v 22)),
       (none, .mv 24 (.v 0)),
       (none, .call (some 25) 7 true [((.v 24), true), ((.c (.int .i64 9)), false)]),
       (none, .bin 26 .add (.c (.int .i64 1)) (.v 25)),
       (none, .call (some 27) 616 false [((.v 23), false), ((.v 26), false)]),
       (none, .store 2 (.v 2) (.v 27) .copy)])
     (.ret [0, 2]))))⟩
def F468 : PFunc :=
 ⟨[false], [.cell 2 true 2, .tmp 3],
  (.seq
   (.region [] [] [0, 2] false [
     (none, .new 2 (.agg [(.int .i64 0), (.int .i64 0)])),
     (none, .asg 3 (.c (.int .i64 0)) .copy)])
   (.seq
    (.region [(6, 0, false)] [] [2, 4] false [
      (none, .mv 6 (.v 0)),
      (none, .call (some 7) 603 true [((.v 6), false)]),
      (none, .asg 4 (.v 7) .move)])
    (.seq
     (.region [(8, 4, false)] [] [2, 4, 5] false [
       (none, .mv 8 (.v 4)),
       (none, .call (some 9) 662 true [((.v 8), true)]),
       (none, .new 5 (.agg [(.int .i64 0), (.int .i64 0)])),
       (none, .store 2 (.v 5) (.v 9) .copy)])
     (.seq
      (.region [(11, 4, false)] [] [2, 3] true [
        (none, .load 10 true 2 (.v 5) none),
        (none, .mv 11 (.v 4)),
        (none, .call (some 12) 661 true [((.v 11), true)]),
        (none, .store 2 (.v 2) (.v 10) .copy),
        (none, .asg 3 (.v 12) .copy)])
      (.ret [2, 3])))))⟩
def F660 : PFunc :=
 ⟨[true], [.cell 2 true 2],
  (.seq
   (.region [] [] [0, 2] false [
     (none, .new 2 (.agg [(.int .i64 0), (.int .i64 0)]))])
   (.seq
    (.region [(4, 0, false)] [] [0, 2, 3] false [
      (none, .mv 4 (.v 0)),
      (none, .mksl 5 1 (.int .i64 0) 7 [(0, (.c (.int .i64 1)), .copy), (1, (.c (.int .i64 2)), .copy), (2, (.c (.int .i64 2)), .copy), (3, (.c (.int .i64 4)), .copy), (4, (.c (.int .i64 5)), .copy), (5, (.c (.int .i64 8)), .copy), (6, (.c (.int .i64 10)), .copy)]),
      (none, .call (some 6) 4 true [((.v 4), true), ((.v 5), false)]),
      (none, .build 7 [(.int .i64 0), (.int .i64 0)] [(0, 1, (.v 6), .copy)]),
      (none, .new 3 (.agg [(.int .i64 0), (.int .i64 0)])),
      (none, .store 2 (.v 3) (.v 7) .copy)])
    (.seq
     (.region [(18, 3, false), (11, 3, false), (10, 0, false), (8, 3, false)] [] [0, 2, 3] true [
       (none, .fadr 8 0 1 (.v 3)),
       (none, .load 9 false 1 (.v 8) none),
       (none, .mv 10 (.v 0)),
       (none, .fadr 11 0 1 (.v 3)),
       (none, .load 12 false 1 (.v 11) none),
       (none, .bin 13 .quo (.c (.int .i64 1000)) (.v 12)),
       (none, .bin 14 .sub (.v 13) (.c (.int .i64 1))),
       (none, .call (some 15) 7 true [((.v 10), true), ((.v 14), false)]),
       (none, .bin 16 .add (.c (.int .i64 1)) (.v 15)),
       (none, .bin 17 .mul (.v 9) (.v 16)),
       (none, .fadr 18 1 1 (.v 3)),
       (none, .store 1 (.v 18) (.v 17) .copy)])
     (.seq
      (.seq
       (.region [(19, 0, false)] [] [0, 2, 3, 20] false [
         (none, .mv 19 (.v 0)),
         (none, .call (some 20) 7 true [((.v 19), true), ((.c (.int .i64 16)), false)])])
       (.block 0
        (.seq
         (.region [] [] [0, 2, 3, 20, 21] false [
           (none, .bin 22 .eql (.v 20) (.c (.int .i64 0))),
           (none, .asg 21 (.v 22) .copy)])
         (.cond (.v 21)
          (.region [(26, 3, false), (23, 0, false)] [] [0, 2, 3] false [
            (none, .mv 23 (.v 0)),
            (none, .mksl 24 1 (.int .i64 0) 6 [(0, (.c (.int .i64 (-1))), .copy), (1, (.c (.int .i64 0)), .copy), (2, (.c (.int .i64 3)), .copy), (3, (.c (.int .i64 12)), .copy), (4, (.c (.int .i64 13)), .copy), (5, (.c (.int .i64 (-9223372036854775808))), .copy)]),
            (none, .call (some 25) 4 true [((.v 23), true), ((.v 24), false)]),
            (none, .fadr 26 0 1 (.v 3)),
            (none, .store 1 (.v 26) (.v 25) .copy)])
          (.seq
           (.region [] [] [0, 2, 3, 27] false [
             (none, .bin 28 .eql (.v 20) (.c (.int .i64 1))),
             (none, .asg 27 (.v 28) .copy)])
           (.cond (.v 27)
            (.region [(32, 3, false), (29, 0, false)] [] [0, 2, 3] false [
              (none, .mv 29 (.v 0)),
              (none, .mksl 30 1 (.int .i64 0) 6 [(0, (.c (.int .i64 (-1))), .copy), (1, (.c (.int .i64 0)), .copy), (2, (.c (.int .i64 1)), .copy), (3, (.c (.int .i64 7)), .copy), (4, (.c (.int .i64 999)), .copy), (5, (.c (.int .i64 1000)), .copy)]),
              (none, .call (some 31) 4 true [((.v 29), true), ((.v 30), false)]),
              (none, .fadr 32 1 1 (.v 3)),
              (none, .store 1 (.v 32) (.v 31) .copy)])
            (.skip [0, 2, 3])))))))
      (.seq
       (.region [] [] [0, 2] false [
         (none, .load 33 true 2 (.v 3) none),
         (none, .store 2 (.v 2) (.v 33) .copy)])
       (.ret [0, 2]))))))⟩
def F478 : PFunc :=
 ⟨[false], [.cell 2 true 2, .cell 3 true 2, .tmp 4],
  (.seq
   (.region [] [] [0, 2, 3] false [
     (none, .new 2 (.agg [(.int .i64 0), (.int .i64 0)])),
     (none, .new 3 (.agg [(.int .i64 0), (.int .i64 0)])),
     (none, .asg 4 (.c (.int .i64 0)) .copy)])
   (.seq
    (.region [(8, 0, false)] [] [2, 3, 5] false [
      (none, .mv 8 (.v 0)),
      (none, .call (some 9) 603 true [((.v 8), false)]),
      (none, .asg 5 (.v 9) .move)])
    (.seq
     (.region [(10, 5, false)] [] [2, 3, 5, 6] false [
       (none, .mv 10 (.v 5)),
       (none, .call (some 11) 660 true [((.v 10), true)]),
       (none, .new 6 (.agg [(.int .i64 0), (.int .i64 0)])),
       (none, .store 2 (.v 6) (.v 11) .copy)])
     (.seq
      (.region [(12, 5, false)] [] [2, 3, 5, 6, 7] false [
        (none, .mv 12 (.v 5)),
        (none, .call (some 13) 662 true [((.v 12), true)]),
        (none, .new 7 (.agg [(.int .i64 0), (.int .i64 0)])),
        (none, .store 2 (.v 7) (.v 13) .copy)])
      (.seq
       (.region [(16, 5, false)] [] [2, 3, 4] true [
         (none, .load 14 true 2 (.v 6) none),
         (none, .load 15 true 2 (.v 7) none),
         (none, .mv 16 (.v 5)),
         (none, .call (some 17) 661 true [((.v 16), true)]),
         (none, .store 2 (.v 2) (.v 14) .copy),
         (none, .store 2 (.v 3) (.v 15) .copy),
         (none, .asg 4 (.v 17) .copy)])
       (.ret [2, 3, 4]))))))⟩
def F607 : PFunc :=
 ⟨[false, false], [.tmp 4],
  (.seq
   (.region [] [] [0, 1] false [
     (none, .asg 4 (.c (.int .i64 0)) .copy)])
   (.seq
    (.seq
     (.region [] [] [0, 1, 7] false [
       (none, .mv 5 (.v 0)),
       (none, .mv 6 (.v 1)),
       (none, .bin 7 .lss (.v 5) (.v 6))])
     (.cond (.v 7)
      (.seq
       (.region [] [] [4] false [
         (none, .mv 8 (.v 0)),
         (none, .asg 4 (.v 8) .copy)])
       (.ret [4]))
      (.skip [1])))
    (.seq
     (.region [] [] [4] false [
       (none, .mv 9 (.v 1)),
       (none, .asg 4 (.v 9) .copy)])
     (.ret [4]))))⟩
def F666 : PFunc :=
 ⟨[true], [.tmp 2],
  (.seq
   (.region [] [] [0] false [
     (none, .asg 2 (.c (.int .i64 0)) .copy)])
   (.seq
    (.seq
     (.region [(3, 0, false)] [] [0, 4] false [
       (none, .mv 3 (.v 0)),
       (none, .call (some 4) 6 true [((.v 3), true), ((.c (.int .i64 10)), false)])])
     (.cond (.v 4)
      (.seq
       (.region [(5, 0, false)] [] [0, 2] false [
         (none, .mv 5 (.v 0)),
         (none, .mksl 6 1 (.int .i64 0) 5 [(0, (.c (.int .i64 (-1))), .copy), (1, (.c (.int .i64 0)), .copy), (2, (.c (.int .i64 999)), .copy), (3, (.c (.int .i64 1000)), .copy), (4, (.c (.int .i64 1001)), .copy)]),
         (none, .call (some 7) 4 true [((.v 5), true), ((.v 6), false)]),
         (none, .asg 2 (.v 7) .copy)])
       (.ret [0, 2]))
      (.skip [0])))
    (.seq
     (.region [(8, 0, false)] [] [0, 2] false [
       (none, .mv 8 (.v 0)),
       (none, .call (some 9) 7 true [((.v 8), true), ((.c (.int .i64 1000)), false)]),
       (none, .asg 2 (.v 9) .copy)])
     (.ret [0, 2]))))⟩
def F486 : PFunc :=
 ⟨[false], [.cell 2 true 2, .tmp 3, .tmp 4],
  (.seq
   (.region [] [] [0, 2] false [
     (none, .new 2 (.agg [(.int .i64 0), (.int .i64 0)])),
     (none, .asg 3 (.c (.int .i64 0)) .copy),
     (none, .asg 4 (.c (.int .i64 0)) .copy)])
   (.seq
    (.region [(8, 0, false)] [] [2, 5] false [
      (none, .mv 8 (.v 0)),
      (none, .call (some 9) 603 true [((.v 8), false)]),
      (none, .asg 5 (.v 9) .move)])
    (.seq
     (.region [(10, 5, false)] [] [2, 5, 6] false [
       (none, .mv 10 (.v 5)),
       (none, .call (some 11) 660 true [((.v 10), true)]),
       (none, .new 6 (.agg [(.int .i64 0), (.int .i64 0)])),
       (none, .store 2 (.v 6) (.v 11) .copy)])
     (.seq
      (.region [(12, 5, false)] [] [2, 5, 6, 7] false [
        (none, .mv 12 (.v 5)),
        (none, .call (some 13) 666 true [((.v 12), true)]),
        (none, .asg 7 (.v 13) .copy)])
      (.seq
       (.seq
        (.region [(14, 5, false)] [] [2, 5, 6, 7, 15] false [
          (none, .mv 14 (.v 5)),
          (none, .call (some 15) 6 true [((.v 14), true), ((.c (.int .i64 8)), false)])])
        (.cond (.v 15)
         (.seq
          (.region [(18, 5, false)] [] [2, 3, 4] true [
            (none, .load 16 true 2 (.v 6) none),
            (none, .mv 17 (.v 7)),
            (none, .mv 18 (.v 5)),
            (none, .call (some 19) 666 true [((.v 18), true)]),
            (none, .store 2 (.v 2) (.v 16) .copy),
            (none, .asg 3 (.v 17) .copy),
            (none, .asg 4 (.v 19) .copy)])
          (.ret [2, 3, 4]))
         (.skip [2, 5, 6, 7])))
       (.seq
        (.region [(23, 5, false)] [] [2, 3, 4] true [
          (none, .load 20 true 2 (.v 6) none),
          (none, .mv 21 (.v 7)),
          (none, .mv 22 (.v 7)),
          (none, .mv 23 (.v 5)),
          (none, .call (some 24) 7 true [((.v 23), true), ((.c (.int .i64 300)), false)]),
          (none, .bin 25 .add (.v 22) (.v 24)),
          (none, .call (some 26) 607 false [((.c (.int .i64 1000)), false), ((.v 25), false)]),
          (none, .store 2 (.v 2) (.v 20) .copy),
          (none, .asg 3 (.v 21) .copy),
          (none, .asg 4 (.v 26) .copy)])
        (.ret [2, 3, 4])))))))⟩
def F498 : PFunc :=
 ⟨[false], [.cell 2 true 2, .tmp 3],
  (.seq
   (.region [] [] [0, 2] false [
     (none, .new 2 (.agg [(.int .i64 0), (.int .i64 0)])),
     (none, .asg 3 (.c (.int .i64 0)) .copy)])
   (.seq
    (.region [(6, 0, false)] [] [2, 4] false [
      (none, .mv 6 (.v 0)),
      (none, .call (some 7) 603 true [((.v 6), false)]),
      (none, .asg 4 (.v 7) .move)])
    (.seq
     (.region [(8, 4, false)] [] [2, 4, 5] false [
       (none, .mv 8 (.v 4)),
       (none, .call (some 9) 660 true [((.v 8), true)]),
       (none, .new 5 (.agg [(.int .i64 0), (.int .i64 0)])),
       (none, .store 2 (.v 5) (.v 9) .copy)])
     (.seq
      (.region [(11, 4, false)] [] [2, 3] true [
        (none, .load 10 true 2 (.v 5) none),
        (none, .mv 11 (.v 4)),
        (none, .call (some 12) 661 true [((.v 11), true)]),
        (none, .store 2 (.v 2) (.v 10) .copy),
        (none, .asg 3 (.v 12) .copy)])
      (.ret [2, 3])))))⟩
def F605 : PFunc :=
 ⟨[false, false, false], [.tmp 6],
  (.seq
   (.region [] [] [0, 1, 2] false [
     (none, .asg 6 (.c (.bool false)) .copy)])
   (.seq
    (.region [] [] [6] false [
      (none, .mv 7 (.v 0)),
      (none, .mv 8 (.v 1)),
      (none, .bin 9 .geq (.v 7) (.v 8)),
      (none, .mv 10 (.v 9)),
      (some (10, true), .mv 11 (.v 0)),
      (some (10, true), .mv 12 (.v 2)),
      (some (10, true), .bin 13 .leq (.v 11) (.v 12)),
      (none, .pick 14 (.v 10) (.v 13) (.c (.bool false))),
      (none, .asg 6 (.v 14) .copy)])
    (.ret [6])))⟩
def F617 : PFunc :=
 ⟨[false], [.tmp 2],
  (.seq
   (.region [] [] [1] false [
     (none, .box 1 (.v 0) .copy),
     (none, .asg 2 (.c (.bool false)) .copy)])
   (.seq
    (.region [(15, 1, false), (12, 1, false), (7, 1, false), (3, 1, false)] [] [2] true [
      (none, .fadr 3 1 1 (.v 1)),
      (none, .load 4 false 1 (.v 3) none),
      (none, .call (some 5) 605 false [((.v 4), false), ((.c (.int .i64 1)), false), ((.c (.int .i64 1000000)), false)]),
      (none, .mv 6 (.v 5)),
      (some (6, true), .fadr 7 0 1 (.v 1)),
      (some (6, true), .load 8 false 1 (.v 7) none),
      (some (6, true), .call (some 9) 605 false [((.v 8), false), ((.c (.int .i64 (-1000000))), false), ((.c (.int .i64 1000000)), false)]),
      (none, .pick 10 (.v 6) (.v 9) (.c (.bool false))),
      (none, .mv 11 (.v 10)),
      (some (11, true), .fadr 12 0 1 (.v 1)),
      (some (11, true), .load 13 false 1 (.v 12) none),
      (some (11, true), .call (some 14) 611 false [((.v 13), false)]),
      (some (11, true), .fadr 15 1 1 (.v 1)),
      (some (11, true), .load 16 false 1 (.v 15) none),
      (some (11, true), .call (some 17) 604 false [((.v 14), false), ((.v 16), false)]),
      (some (11, true), .bin 18 .eql (.v 17) (.c (.int .i64 1))),
      (none, .pick 19 (.v 11) (.v 18) (.c (.bool false))),
      (none, .asg 2 (.v 19) .copy)])
    (.ret [2])))⟩
def F663 : PFunc :=
 ⟨[false], [.tmp 2],
  (.seq
   (.region [] [] [0] false [
     (none, .asg 2 (.c (.bool false)) .copy)])
   (.seq
    (.region [] [] [2] false [
      (none, .mv 3 (.v 0)),
      (none, .call (some 4) 605 false [((.v 3), false), ((.c (.int .i64 1)), false), ((.c (.int .i64 200)), false)]),
      (none, .asg 2 (.v 4) .copy)])
    (.ret [2])))⟩
def F667 : PFunc :=
 ⟨[false], [.tmp 2],
  (.seq
   (.region [] [] [1] false [
     (none, .box 1 (.v 0) .copy),
     (none, .asg 2 (.c (.bool false)) .copy)])
   (.seq
    (.region [(11, 1, false), (6, 1, false)] [] [2] false [
      (none, .load 3 true 2 (.v 1) none),
      (none, .call (some 4) 617 false [((.v 3), false)]),
      (none, .mv 5 (.v 4)),
      (some (5, true), .fadr 6 0 1 (.v 1)),
      (some (5, true), .load 7 false 1 (.v 6) none),
      (some (5, true), .call (some 8) 605 false [((.v 7), false), ((.c (.int .i64 1)), false), ((.c (.int .i64 1000)), false)]),
      (none, .pick 9 (.v 5) (.v 8) (.c (.bool false))),
      (none, .mv 10 (.v 9)),
      (some (10, true), .fadr 11 1 1 (.v 1)),
      (some (10, true), .load 12 false 1 (.v 11) none),
      (some (10, true), .bin 13 .leq (.v 12) (.c (.int .i64 1000))),
      (none, .pick 14 (.v 10) (.v 13) (.c (.bool false))),
      (none, .asg 2 (.v 14) .copy)])
    (.ret [2])))⟩
def F516 : PFunc :=
 ⟨[false, false], [.tmp 4, .tmp 5],
  (.seq
   (.region [] [] [1, 2] false [
     (none, .box 2 (.v 0) .copy),
     (none, .asg 4 (.c (.int .i64 0)) .copy),
     (none, .asg 5 (.c (.int .i64 0)) .copy)])
   (.seq
    (.seq
     (.region [] [] [1, 2, 9] false [
       (none, .load 7 true 2 (.v 2) none),
       (none, .call (some 8) 617 false [((.v 7), false)]),
       (none, .un 9 .not (.v 8))])
     (.cond (.v 9)
      (.seq
       (.region [] [] [4, 5] false [
         (none, .asg 4 (.c (.int .i64 0)) .copy),
         (none, .asg 5 (.c (.int .i64 1)) .copy)])
       (.ret [4, 5]))
      (.skip [1, 2])))
    (.seq
     (.seq
      (.region [] [] [1, 2, 17] false [
        (none, .load 10 true 2 (.v 2) none),
        (none, .call (some 11) 667 false [((.v 10), false)]),
        (none, .un 12 .not (.v 11)),
        (none, .mv 13 (.v 12)),
        (some (13, false), .mv 14 (.v 1)),
        (some (13, false), .call (some 15) 663 false [((.v 14), false)]),
        (some (13, false), .un 16 .not (.v 15)),
        (none, .pick 17 (.v 13) (.c (.bool true)) (.v 16))])
      (.cond (.v 17)
       (.seq
        (.region [] [] [4, 5] false [
          (none, .asg 4 (.c (.int .i64 0)) .copy),
          (none, .asg 5 (.c (.int .i64 2)) .copy)])
        (.ret [4, 5]))
       (.skip [1, 2])))
     (.seq
      (.seq
       (.region [] [] [1, 2, 6] false [
         (none, .asg 6 (.c (.int .i64 1)) .copy)])
       (.block 0
        (.loop
         (.seq
          (.seq
           (.region [] [] [1, 2, 6, 19] false [
             (none, .mv 18 (.v 6)),
             (none, .bin 19 .leq (.v 18) (.c (.int .i64 12)))])
           (.cond (.v 19)
            (.skip [1, 2, 6])
            (.exit 0 [])))
          (.seq
           (.block 1
            (.seq
             (.region [(31, 2, false), (26, 2, false)] [] [1, 2, 6, 35] false [
               (none, .mv 22 (.v 6)),
               (none, .bin 23 .rem (.c (.int .i64 1000)) (.v 22)),
               (none, .bin 24 .eql (.v 23) (.c (.int .i64 0))),
               (none, .mv 25 (.v 24)),
               (some (25, true), .fadr 26 0 1 (.v 2)),
               (some (25, true), .load 27 false 1 (.v 26) none),
               (some (25, true), .mv 28 (.v 6)),
               (some (25, true), .bin 29 .mul (.v 27) (.v 28)),
               (some (25, true), .mv 30 (.v 1)),
               (some (25, true), .fadr 31 1 1 (.v 2)),
               (some (25, true), .load 32 false 1 (.v 31) none),
               (some (25, true), .bin 33 .mul (.v 30) (.v 32)),
               (some (25, true), .bin 34 .geq (.v 29) (.v 33)),
               (none, .pick 35 (.v 25) (.v 34) (.c (.bool false)))])
             (.cond (.v 35)
              (.seq
               (.region [] [] [4, 5] false [
                 (none, .mv 36 (.v 6)),
                 (none, .asg 4 (.v 36) .copy),
                 (none, .asg 5 (.c (.int .i64 0)) .copy)])
               (.ret [4, 5]))
              (.skip [1, 2, 6]))))
           (.region [] [] [1, 2, 6] false [
             (none, .mv 20 (.v 6)),
             (none, .bin 21 .add (.v 20) (.c (.int .i64 1))),
             (none, .asg 6 (.v 21) .copy)]))))))
      (.seq
       (.region [] [] [4, 5] false [
         (none, .asg 4 (.c (.int .i64 0)) .copy),
         (none, .asg 5 (.c (.int .i64 3)) .copy)])
       (.ret [4, 5]))))))⟩
def F664 : PFunc :=
 ⟨[false], [.tmp 2],
  (.seq
   (.region [] [] [0] false [
     (none, .asg 2 (.c (.bool false)) .copy)])
   (.seq
    (.region [(30, 0, false), (29, 0, false), (28, 0, false), (22, 0, false), (21, 0, false), (20, 0, false), (18, 0, false), (17, 0, false), (16, 0, false), (11, 0, false), (10, 0, false), (9, 0, false), (5, 0, false), (4, 0, false), (3, 0, false)] [] [2] true [
      (none, .mv 3 (.v 0)),
      (none, .nchk 4 (.v 3)),
      (none, .fadr 5 0 1 (.v 4)),
      (none, .load 6 false 1 (.v 5) none),
      (none, .call (some 7) 605 false [((.v 6), false), ((.c (.int .i64 1)), false), ((.c (.int .i64 12)), false)]),
      (none, .mv 8 (.v 7)),
      (some (8, true), .mv 9 (.v 0)),
      (some (8, true), .nchk 10 (.v 9)),
      (some (8, true), .fadr 11 1 1 (.v 10)),
      (some (8, true), .load 12 false 1 (.v 11) none),
      (some (8, true), .call (some 13) 605 false [((.v 12), false), ((.c (.int .i64 1)), false), ((.c (.int .i64 999)), false)]),
      (none, .pick 14 (.v 8) (.v 13) (.c (.bool false))),
      (none, .mv 15 (.v 14)),
      (some (15, true), .mv 16 (.v 0)),
      (some (15, true), .nchk 17 (.v 16)),
      (some (15, true), .fadr 18 1 1 (.v 17)),
      (some (15, true), .load 19 false 1 (.v 18) none),
      (some (15, true), .mv 20 (.v 0)),
      (some (15, true), .nchk 21 (.v 20)),
      (some (15, true), .fadr 22 0 1 (.v 21)),
      (some (15, true), .load 23 false 1 (.v 22) none),
      (some (15, true), .bin 24 .rem (.v 19) (.v 23)),
      (some (15, true), .bin 25 .eql (.v 24) (.c (.int .i64 0))),
      (none, .pick 26 (.v 15) (.v 25) (.c (.bool false))),
      (none, .mv 27 (.v 26)),
      (some (27, true), .mv 28 (.v 0)),
      (some (27, true), .nchk 29 (.v 28)),
      (some (27, true), .fadr 30 0 1 (.v 29)),
      (some (27, true), .load 31 false 1 (.v 30) none),
      (some (27, true), .bin 32 .rem (.c (.int .i64 1000)) (.v 31)),
      (some (27, true), .bin 33 .eql (.v 32) (.c (.int .i64 0))),
      (none, .pick 34 (.v 27) (.v 33) (.c (.bool false))),
      (none, .asg 2 (.v 34) .copy)])
    (.ret [2])))⟩
def F659 : PFunc :=
 ⟨[false, false], [.tmp 4],
  (.seq
   (.region [] [] [0, 3] false [
     (none, .box 3 (.v 1) .copy),
     (none, .asg 4 (.c (.int .i64 0)) .copy)])
   (.seq
    (.seq
     (.region [(5, 0, false)] [] [3, 12] false [
       (none, .mv 5 (.v 0)),
       (none, .call (some 6) 664 false [((.v 5), false)]),
       (none, .un 7 .not (.v 6)),
       (none, .mv 8 (.v 7)),
       (some (8, false), .load 9 true 2 (.v 3) none),
       (some (8, false), .call (some 10) 617 false [((.v 9), false)]),
       (some (8, false), .un 11 .not (.v 10)),
       (none, .pick 12 (.v 8) (.c (.bool true)) (.v 11))])
     (.cond (.v 12)
      (.seq
       (.region [] [] [4] false [
         (none, .asg 4 (.c (.int .i64 1)) .copy)])
       (.ret [4]))
      (.skip [3])))
    (.seq
     (.seq
      (.region [] [] [15] false [
        (none, .load 13 true 2 (.v 3) none),
        (none, .call (some 14) 667 false [((.v 13), false)]),
        (none, .un 15 .not (.v 14))])
      (.cond (.v 15)
       (.seq
        (.region [] [] [4] false [
          (none, .asg 4 (.c (.int .i64 2)) .copy)])
        (.ret [4]))
       (.skip [])))
     (.seq
      (.region [] [] [4] false [
        (none, .asg 4 (.c (.int .i64 0)) .copy)])
      (.ret [4])))))⟩
def F523 : PFunc :=
 ⟨[false, false], [.cell 4 true 2, .tmp 5],
  (.seq
   (.region [] [] [2, 3, 4] false [
     (none, .box 2 (.v 0) .copy),
     (none, .box 3 (.v 1) .copy),
     (none, .new 4 (.agg [(.int .i64 0), (.int .i64 0)])),
     (none, .asg 5 (.c (.int .i64 0)) .copy)])
   (.seq
    (.region [] [] [2, 3, 4, 6] false [
      (none, .load 7 true 2 (.v 3) none),
      (none, .call (some 8) 659 false [((.v 2), false), ((.v 7), false)]),
      (none, .asg 6 (.v 8) .copy)])
    (.seq
     (.seq
      (.region [] [] [2, 3, 4, 6, 10] false [
        (none, .mv 9 (.v 6)),
        (none, .bin 10 .neq (.v 9) (.c (.int .i64 0)))])
      (.cond (.v 10)
       (.seq
        (.region [] [] [4, 5] false [
          (none, .build 11 [(.int .i64 0), (.int .i64 0)] []),
          (none, .mv 12 (.v 6)),
          (none, .store 2 (.v 4) (.v 11) .copy),
          (none, .asg 5 (.v 12) .copy)])
        (.ret [4, 5]))
       (.skip [2, 3, 4])))
     (.seq
      (.region [(18, 3, false), (15, 2, false), (13, 3, false)] [] [4, 5] false [
        (none, .fadr 13 0 1 (.v 3)),
        (none, .load 14 false 1 (.v 13) none),
        (none, .fadr 15 0 1 (.v 2)),
        (none, .load 16 false 1 (.v 15) none),
        (none, .bin 17 .mul (.v 14) (.v 16)),
        (none, .fadr 18 1 1 (.v 3)),
        (none, .load 19 false 1 (.v 18) none),
        (none, .call (some 20) 616 false [((.v 17), false), ((.v 19), false)]),
        (none, .store 2 (.v 4) (.v 20) .copy),
        (none, .asg 5 (.c (.int .i64 0)) .copy)])
      (.ret [4, 5])))))⟩
def F535 : PFunc :=
 ⟨[false, false, false], [.tmp 6, .tmp 7],
  (.seq
   (.region [] [] [2, 3, 4] false [
     (none, .box 3 (.v 0) .copy),
     (none, .box 4 (.v 1) .copy),
     (none, .asg 6 (.c (.bool false)) .copy),
     (none, .asg 7 (.c (.int .i64 0)) .copy)])
   (.seq
    (.region [] [] [2, 3, 4, 8] false [
      (none, .load 9 true 2 (.v 4) none),
      (none, .call (some 10) 659 false [((.v 3), false), ((.v 9), false)]),
      (none, .asg 8 (.v 10) .copy)])
    (.seq
     (.seq
      (.region [] [] [2, 3, 4, 8, 17] false [
        (none, .mv 11 (.v 8)),
        (none, .bin 12 .eql (.v 11) (.c (.int .i64 0))),
        (none, .mv 13 (.v 12)),
        (some (13, true), .mv 14 (.v 2)),
        (some (13, true), .call (some 15) 663 false [((.v 14), false)]),
        (some (13, true), .un 16 .not (.v 15)),
        (none, .pick 17 (.v 13) (.v 16) (.c (.bool false)))])
      (.cond (.v 17)
       (.region [] [] [2, 3, 4, 8] false [
         (none, .asg 8 (.c (.int .i64 2)) .copy)])
       (.skip [2, 3, 4, 8])))
     (.seq
      (.seq
       (.region [] [] [2, 3, 4, 8, 19] false [
         (none, .mv 18 (.v 8)),
         (none, .bin 19 .neq (.v 18) (.c (.int .i64 0)))])
       (.cond (.v 19)
        (.seq
         (.region [] [] [6, 7] false [
           (none, .mv 20 (.v 8)),
           (none, .asg 6 (.c (.bool false)) .copy),
           (none, .asg 7 (.v 20) .copy)])
         (.ret [6, 7]))
        (.skip [2, 3, 4])))
      (.seq
       (.region [(27, 4, false), (23, 3, false), (21, 4, false)] [] [6, 7] false [
         (none, .fadr 21 0 1 (.v 4)),
         (none, .load 22 false 1 (.v 21) none),
         (none, .fadr 23 0 1 (.v 3)),
         (none, .load 24 false 1 (.v 23) none),
         (none, .bin 25 .mul (.v 22) (.v 24)),
         (none, .mv 26 (.v 2)),
         (none, .fadr 27 1 1 (.v 4)),
         (none, .load 28 false 1 (.v 27) none),
         (none, .bin 29 .mul (.v 26) (.v 28)),
         (none, .bin 30 .geq (.v 25) (.v 29)),
         (none, .asg 6 (.v 30) .copy),
         (none, .asg 7 (.c (.int .i64 0)) .copy)])
       (.ret [6, 7]))))))⟩
def F665 : PFunc :=
 ⟨[false, false], [.tmp 4],
  (.seq
   (.region [] [] [0, 1] false [
     (none, .asg 4 (.c (.bool false)) .copy)])
   (.seq
    (.region [(8, 0, false), (7, 0, false), (6, 0, false)] [] [0, 1, 5] false [
      (none, .mv 6 (.v 0)),
      (none, .nchk 7 (.v 6)),
      (none, .fadr 8 0 1 (.v 7)),
      (none, .load 9 false 1 (.v 8) none),
      (none, .bin 10 .quo (.c (.int .i64 1000)) (.v 9)),
      (none, .asg 5 (.v 10) .copy)])
    (.seq
     (.region [(20, 0, false), (19, 0, false), (18, 0, false), (16, 0, false), (15, 0, false), (14, 0, false)] [] [4] true [
       (none, .mv 11 (.v 1)),
       (none, .mv 12 (.v 5)),
       (none, .bin 13 .rem (.v 11) (.v 12)),
       (none, .mv 14 (.v 0)),
       (none, .nchk 15 (.v 14)),
       (none, .fadr 16 1 1 (.v 15)),
       (none, .load 17 false 1 (.v 16) none),
       (none, .mv 18 (.v 0)),
       (none, .nchk 19 (.v 18)),
       (none, .fadr 20 0 1 (.v 19)),
       (none, .load 21 false 1 (.v 20) none),
       (none, .bin 22 .quo (.v 17) (.v 21)),
       (none, .bin 23 .lss (.v 13) (.v 22)),
       (none, .asg 4 (.v 23) .copy)])
     (.ret [4]))))⟩
def F552 : PFunc :=
 ⟨[false, false, false], [.tmp 6, .tmp 7],
  (.seq
   (.region [] [] [1, 2, 3] false [
     (none, .box 3 (.v 0) .copy),
     (none, .asg 6 (.c (.int .i64 0)) .copy),
     (none, .asg 7 (.c (.int .i64 0)) .copy)])
   (.seq
    (.seq
     (.region [] [] [1, 2, 3, 11] false [
       (none, .call (some 10) 664 false [((.v 3), false)]),
       (none, .un 11 .not (.v 10))])
     (.cond (.v 11)
      (.seq
       (.region [] [] [6, 7] false [
         (none, .asg 6 (.c (.int .i64 0)) .copy),
         (none, .asg 7 (.c (.int .i64 1)) .copy)])
       (.ret [6, 7]))
      (.skip [1, 2, 3])))
    (.seq
     (.seq
      (.region [] [] [1, 2, 3, 20] false [
        (none, .mv 12 (.v 1)),
        (none, .call (some 13) 605 false [((.v 12), false), ((.c (.int .i64 0)), false), ((.c (.int .i64 1000)), false)]),
        (none, .un 14 .not (.v 13)),
        (none, .mv 15 (.v 14)),
        (some (15, false), .mv 16 (.v 2)),
        (some (15, false), .mv 17 (.v 1)),
        (some (15, false), .call (some 18) 605 false [((.v 16), false), ((.v 17), false), ((.c (.int .i64 1000)), false)]),
        (some (15, false), .un 19 .not (.v 18)),
        (none, .pick 20 (.v 15) (.c (.bool true)) (.v 19))])
      (.cond (.v 20)
       (.seq
        (.region [] [] [6, 7] false [
          (none, .asg 6 (.c (.int .i64 0)) .copy),
          (none, .asg 7 (.c (.int .i64 2)) .copy)])
        (.ret [6, 7]))
       (.skip [1, 2, 3])))
     (.seq
      (.region [] [] [1, 2, 3, 8] false [
        (none, .asg 8 (.c (.int .i64 0)) .copy)])
      (.seq
       (.seq
        (.region [] [] [2, 3, 8, 9] false [
          (none, .mv 21 (.v 1)),
          (none, .asg 9 (.v 21) .copy)])
        (.block 0
         (.loop
          (.seq
           (.seq
            (.region [] [] [2, 3, 8, 9, 24] false [
              (none, .mv 22 (.v 9)),
              (none, .mv 23 (.v 2)),
              (none, .bin 24 .lss (.v 22) (.v 23))])
            (.cond (.v 24)
             (.skip [2, 3, 8, 9])
             (.exit 0 [8])))
           (.seq
            (.block 1
             (.seq
              (.region [] [] [2, 3, 8, 9, 28] false [
                (none, .mv 27 (.v 9)),
                (none, .call (some 28) 665 false [((.v 3), false), ((.v 27), false)])])
              (.cond (.v 28)
               (.region [] [] [2, 3, 8, 9] false [
                 (none, .mv 29 (.v 8)),
                 (none, .bin 30 .add (.v 29) (.c (.int .i64 1))),
                 (none, .asg 8 (.v 30) .copy)])
               (.skip [2, 3, 8, 9]))))
            (.region [] [] [2, 3, 8, 9] false [
              (none, .mv 25 (.v 9)),
              (none, .bin 26 .add (.v 25) (.c (.int .i64 1))),
              (none, .asg 9 (.v 26) .copy)]))))))
       (.seq
        (.region [] [] [6, 7] false [
          (none, .mv 31 (.v 8)),
          (none, .asg 6 (.v 31) .copy),
          (none, .asg 7 (.c (.int .i64 0)) .copy)])
        (.ret [6, 7])))))))⟩
def F574 : PFunc :=
 ⟨[false, false], [.cell 4 true 2, .tmp 5],
  (.seq
   (.region [] [] [1, 2, 4] false [
     (none, .box 2 (.v 0) .copy),
     (none, .new 4 (.agg [(.int .i64 0), (.int .i64 0)])),
     (none, .asg 5 (.c (.int .i64 0)) .copy)])
   (.seq
    (.seq
     (.region [] [] [1, 2, 4, 7] false [
       (none, .call (some 6) 664 false [((.v 2), false)]),
       (none, .un 7 .not (.v 6))])
     (.cond (.v 7)
      (.seq
       (.region [] [] [4, 5] false [
         (none, .build 8 [(.int .i64 0), (.int .i64 0)] []),
         (none, .store 2 (.v 4) (.v 8) .copy),
         (none, .asg 5 (.c (.int .i64 1)) .copy)])
       (.ret [4, 5]))
      (.skip [1, 2, 4])))
    (.seq
     (.seq
      (.region [] [] [1, 2, 4, 11] false [
        (none, .mv 9 (.v 1)),
        (none, .call (some 10) 663 false [((.v 9), false)]),
        (none, .un 11 .not (.v 10))])
      (.cond (.v 11)
       (.seq
        (.region [] [] [4, 5] false [
          (none, .build 12 [(.int .i64 0), (.int .i64 0)] []),
          (none, .store 2 (.v 4) (.v 12) .copy),
          (none, .asg 5 (.c (.int .i64 2)) .copy)])
        (.ret [4, 5]))
       (.skip [1, 2, 4])))
     (.seq
      (.region [(14, 2, false)] [] [4, 5] false [
        (none, .mv 13 (.v 1)),
        (none, .fadr 14 0 1 (.v 2)),
        (none, .load 15 false 1 (.v 14) none),
        (none, .call (some 16) 616 false [((.v 13), false), ((.v 15), false)]),
        (none, .store 2 (.v 4) (.v 16) .copy),
        (none, .asg 5 (.c (.int .i64 0)) .copy)])
      (.ret [4, 5])))))⟩
def F588 : PFunc :=
 ⟨[false], [.tmp 2],
  (.seq
   (.region [] [] [1] false [
     (none, .box 1 (.v 0) .copy),
     (none, .asg 2 (.c (.bool false)) .copy)])
   (.seq
    (.region [] [] [2] false [
      (none, .call (some 3) 664 false [((.v 1), false)]),
      (none, .asg 2 (.v 3) .copy)])
    (.ret [2])))⟩
def F377 : PFunc :=
 ⟨[false], [.tmp 2],
  (.seq
   (.region [] [] [0] false [
     (none, .asg 2 (.c (.bool false)) .copy)])
   (.seq
    (.seq
     (.region [(41, 0, false)] [] [0, 42] false [
       (none, .mv 41 (.v 0)),
       (none, .call (some 42) 398 false [((.v 41), false)])])
     (.cond (.v 42)
      (.seq
       (.region [] [] [2] false [
         (none, .asg 2 (.c (.bool true)) .copy)])
       (.ret [2]))
      (.skip [0])))
    (.seq
     (.region [(44, 0, false)] [] [0, 3, 4, 5] false [
       (none, .mv 44 (.v 0)),
       (none, .call (some 45) 478 false [((.v 44), false)]),
       (none, .asg 43 (.v 45) .copy),
       (none, .extp 46 (.v 43) 0),
       (none, .extp 47 (.v 43) 1),
       (none, .extp 48 (.v 43) 2),
       (none, .new 3 (.agg [(.int .i64 0), (.int .i64 0)])),
       (none, .new 4 (.agg [(.int .i64 0), (.int .i64 0)])),
       (none, .store 2 (.v 3) (.v 46) .copy),
       (none, .store 2 (.v 4) (.v 47) .copy),
       (none, .asg 5 (.v 48) .copy)])
     (.seq
      (.region [] [] [0, 3, 4, 5, 6, 7] false [
        (none, .load 50 true 2 (.v 3) none),
        (none, .load 51 true 2 (.v 4) none),
        (none, .mv 52 (.v 5)),
        (none, .call (some 53) 118 false [((.v 50), false), ((.v 51), false), ((.v 52), false)]),
        (none, .asg 49 (.v 53) .copy),
        (none, .extp 54 (.v 49) 0),
        (none, .extp 55 (.v 49) 1),
        (none, .asg 6 (.v 54) .copy),
        (none, .asg 7 (.v 55) .copy)])
      (.seq
       (.region [] [] [0, 3, 4, 5, 6, 7, 8, 9] false [
         (none, .load 57 true 2 (.v 3) none),
         (none, .load 58 true 2 (.v 4) none),
         (none, .mv 59 (.v 5)),
         (none, .call (some 60) 535 false [((.v 57), false), ((.v 58), false), ((.v 59), false)]),
         (none, .asg 56 (.v 60) .copy),
         (none, .extp 61 (.v 56) 0),
         (none, .extp 62 (.v 56) 1),
         (none, .asg 8 (.v 61) .copy),
         (none, .asg 9 (.v 62) .copy)])
       (.seq
        (.region [(64, 0, false)] [] [0, 3, 4, 5, 6, 7, 8, 9, 10, 11] false [
          (none, .mv 64 (.v 0)),
          (none, .call (some 65) 468 false [((.v 64), false)]),
          (none, .asg 63 (.v 65) .copy),
          (none, .extp 66 (.v 63) 0),
          (none, .extp 67 (.v 63) 1),
          (none, .new 10 (.agg [(.int .i64 0), (.int .i64 0)])),
          (none, .store 2 (.v 10) (.v 66) .copy),
          (none, .asg 11 (.v 67) .copy)])
        (.seq
         (.region [] [] [0, 3, 4, 5, 6, 7, 8, 9, 10, 11, 12, 13] false [
           (none, .load 69 true 2 (.v 10) none),
           (none, .mv 70 (.v 11)),
           (none, .call (some 71) 84 false [((.v 69), false), ((.v 70), false)]),
           (none, .asg 68 (.v 71) .copy),
           (none, .extp 72 (.v 68) 0),
           (none, .extp 73 (.v 68) 1),
           (none, .asg 12 (.v 72) .copy),
           (none, .asg 13 (.v 73) .copy)])
         (.seq
          (.region [] [] [0, 3, 4, 5, 6, 7, 8, 9, 10, 11, 12, 13, 14, 15] false [
            (none, .load 75 true 2 (.v 10) none),
            (none, .mv 76 (.v 11)),
            (none, .call (some 77) 516 false [((.v 75), false), ((.v 76), false)]),
            (none, .asg 74 (.v 77) .copy),
            (none, .extp 78 (.v 74) 0),
            (none, .extp 79 (.v 74) 1),
            (none, .asg 14 (.v 78) .copy),
            (none, .asg 15 (.v 79) .copy)])
          (.seq
           (.region [(81, 0, false)] [] [0, 3, 4, 5, 6, 7, 8, 9, 10, 11, 12, 13, 14, 15, 16, 17] false [
             (none, .mv 81 (.v 0)),
             (none, .call (some 82) 498 false [((.v 81), false)]),
             (none, .asg 80 (.v 82) .copy),
             (none, .extp 83 (.v 80) 0),
             (none, .extp 84 (.v 80) 1),
             (none, .new 16 (.agg [(.int .i64 0), (.int .i64 0)])),
             (none, .store 2 (.v 16) (.v 83) .copy),
             (none, .asg 17 (.v 84) .copy)])
           (.seq
            (.region [] [] [0, 3, 4, 5, 6, 7, 8, 9, 10, 11, 12, 13, 14, 15, 16, 17, 18, 19] false [
              (none, .load 86 true 2 (.v 16) none),
              (none, .mv 87 (.v 17)),
              (none, .call (some 88) 188 false [((.v 86), false), ((.v 87), false)]),
              (none, .asg 85 (.v 88) .copy),
              (none, .extp 89 (.v 85) 0),
              (none, .extp 90 (.v 85) 1),
              (none, .new 18 (.agg [(.int .i64 0), (.int .i64 0)])),
              (none, .store 2 (.v 18) (.v 89) .copy),
              (none, .asg 19 (.v 90) .copy)])
            (.seq
             (.region [] [] [0, 3, 4, 5, 6, 7, 8, 9, 10, 11, 12, 13, 14, 15, 16, 17, 18, 19, 20, 21] false [
               (none, .load 92 true 2 (.v 16) none),
               (none, .mv 93 (.v 17)),
               (none, .call (some 94) 574 false [((.v 92), false), ((.v 93), false)]),
               (none, .asg 91 (.v 94) .copy),
               (none, .extp 95 (.v 91) 0),
               (none, .extp 96 (.v 91) 1),
               (none, .new 20 (.agg [(.int .i64 0), (.int .i64 0)])),
               (none, .store 2 (.v 20) (.v 95) .copy),
               (none, .asg 21 (.v 96) .copy)])
             (.seq
              (.region [(98, 0, false)] [] [3, 4, 5, 6, 7, 8, 9, 10, 11, 12, 13, 14, 15, 16, 17, 18, 19, 20, 21, 22, 23, 24] false [
                (none, .mv 98 (.v 0)),
                (none, .call (some 99) 486 false [((.v 98), false)]),
                (none, .asg 97 (.v 99) .copy),
                (none, .extp 100 (.v 97) 0),
                (none, .extp 101 (.v 97) 1),
                (none, .extp 102 (.v 97) 2),
                (none, .new 22 (.agg [(.int .i64 0), (.int .i64 0)])),
                (none, .store 2 (.v 22) (.v 100) .copy),
                (none, .asg 23 (.v 101) .copy),
                (none, .asg 24 (.v 102) .copy)])
              (.seq
               (.region [] [] [3, 4, 5, 6, 7, 8, 9, 10, 11, 12, 13, 14, 15, 16, 17, 18, 19, 20, 21, 22, 23, 24, 25, 26] false [
                 (none, .load 104 true 2 (.v 22) none),
                 (none, .mv 105 (.v 23)),
                 (none, .mv 106 (.v 24)),
                 (none, .call (some 107) 158 false [((.v 104), false), ((.v 105), false), ((.v 106), false)]),
                 (none, .asg 103 (.v 107) .copy),
                 (none, .extp 108 (.v 103) 0),
                 (none, .extp 109 (.v 103) 1),
                 (none, .asg 25 (.v 108) .copy),
                 (none, .asg 26 (.v 109) .copy)])
               (.seq
                (.region [] [] [3, 4, 5, 6, 7, 8, 9, 10, 11, 12, 13, 14, 15, 16, 17, 18, 19, 20, 21, 22, 23, 24, 25, 26, 27, 28] false [
                  (none, .load 111 true 2 (.v 22) none),
                  (none, .mv 112 (.v 23)),
                  (none, .mv 113 (.v 24)),
                  (none, .call (some 114) 552 false [((.v 111), false), ((.v 112), false), ((.v 113), false)]),
                  (none, .asg 110 (.v 114) .copy),
                  (none, .extp 115 (.v 110) 0),
                  (none, .extp 116 (.v 110) 1),
                  (none, .asg 27 (.v 115) .copy),
                  (none, .asg 28 (.v 116) .copy)])
                (.seq
                 (.region [] [] [3, 4, 5, 6, 7, 8, 9, 10, 11, 12, 13, 14, 15, 16, 17, 18, 19, 20, 21, 22, 23, 24, 25, 26, 27, 28, 29, 30] false [
                   (none, .load 118 true 2 (.v 3) none),
                   (none, .load 119 true 2 (.v 4) none),
                   (none, .call (some 120) 100 false [((.v 118), false), ((.v 119), false)]),
                   (none, .asg 117 (.v 120) .copy),
                   (none, .extp 121 (.v 117) 0),
                   (none, .extp 122 (.v 117) 1),
                   (none, .new 29 (.agg [(.int .i64 0), (.int .i64 0)])),
                   (none, .store 2 (.v 29) (.v 121) .copy),
                   (none, .asg 30 (.v 122) .copy)])
                 (.seq
                  (.region [] [] [3, 5, 6, 7, 8, 9, 10, 11, 12, 13, 14, 15, 16, 17, 18, 19, 20, 21, 22, 23, 24, 25, 26, 27, 28, 29, 30, 31, 32] false [
                    (none, .load 124 true 2 (.v 3) none),
                    (none, .load 125 true 2 (.v 4) none),
                    (none, .call (some 126) 523 false [((.v 124), false), ((.v 125), false)]),
                    (none, .asg 123 (.v 126) .copy),
                    (none, .extp 127 (.v 123) 0),
                    (none, .extp 128 (.v 123) 1),
                    (none, .new 31 (.agg [(.int .i64 0), (.int .i64 0)])),
                    (none, .store 2 (.v 31) (.v 127) .copy),
                    (none, .asg 32 (.v 128) .copy)])
                  (.seq
                   (.seq
                    (.region [] [] [5, 7, 8, 10, 11, 13, 14, 16, 17, 19, 20, 22, 23, 24, 26, 27, 31, 183] true [
                      (none, .mv 129 (.v 7)),
                      (none, .mv 130 (.v 9)),
                      (none, .bin 131 .neq (.v 129) (.v 130)),
                      (none, .mv 132 (.v 131)),
                      (some (132, false), .mv 133 (.v 6)),
                      (some (132, false), .mv 134 (.v 8)),
                      (some (132, false), .eqb 135 true (.v 133) (.v 134)),
                      (none, .pick 136 (.v 132) (.c (.bool true)) (.v 135)),
                      (none, .mv 137 (.v 136)),
                      (some (137, false), .mv 138 (.v 13)),
                      (some (137, false), .mv 139 (.v 15)),
                      (some (137, false), .bin 140 .neq (.v 138) (.v 139)),
                      (none, .pick 141 (.v 137) (.c (.bool true)) (.v 140)),
                      (none, .mv 142 (.v 141)),
                      (some (142, false), .mv 143 (.v 12)),
                      (some (142, false), .mv 144 (.v 14)),
                      (some (142, false), .bin 145 .neq (.v 143) (.v 144)),
                      (none, .pick 146 (.v 142) (.c (.bool true)) (.v 145)),
                      (none, .mv 147 (.v 146)),
                      (some (147, false), .mv 148 (.v 19)),
                      (some (147, false), .mv 149 (.v 21)),
                      (some (147, false), .bin 150 .neq (.v 148) (.v 149)),
                      (none, .pick 151 (.v 147) (.c (.bool true)) (.v 150)),
                      (none, .mv 152 (.v 151)),
                      (some (152, false), .load 153 true 2 (.v 18) none),
                      (some (152, false), .load 154 true 2 (.v 20) none),
                      (some (152, false), .eqv 155 true [.i, .i] (.v 153) (.v 154)),
                      (none, .pick 156 (.v 152) (.c (.bool true)) (.v 155)),
                      (none, .mv 157 (.v 156)),
                      (some (157, false), .mv 158 (.v 26)),
                      (some (157, false), .mv 159 (.v 28)),
                      (some (157, false), .bin 160 .neq (.v 158) (.v 159)),
                      (none, .pick 161 (.v 157) (.c (.bool true)) (.v 160)),
                      (none, .mv 162 (.v 161)),
                      (some (162, false), .mv 163 (.v 25)),
                      (some (162, false), .mv 164 (.v 27)),
                      (some (162, false), .bin 165 .neq (.v 163) (.v 164)),
                      (none, .pick 166 (.v 162) (.c (.bool true)) (.v 165)),
                      (none, .mv 167 (.v 166)),
                      (some (167, false), .mv 168 (.v 30)),
                      (some (167, false), .mv 169 (.v 32)),
                      (some (167, false), .bin 170 .neq (.v 168) (.v 169)),
                      (none, .pick 171 (.v 167) (.c (.bool true)) (.v 170)),
                      (none, .mv 172 (.v 171)),
                      (some (172, false), .load 173 true 2 (.v 29) none),
                      (some (172, false), .load 174 true 2 (.v 31) none),
                      (some (172, false), .eqv 175 true [.i, .i] (.v 173) (.v 174)),
                      (none, .pick 176 (.v 172) (.c (.bool true)) (.v 175)),
                      (none, .mv 177 (.v 176)),
                      (some (177, false), .load 178 true 2 (.v 3) none),
                      (some (177, false), .call (some 179) 206 false [((.v 178), false)]),
                      (some (177, false), .load 180 true 2 (.v 3) none),
                      (some (177, false), .call (some 181) 588 false [((.v 180), false)]),
                      (some (177, false), .eqb 182 true (.v 179) (.v 181)),
                      (none, .pick 183 (.v 177) (.c (.bool true)) (.v 182))])
                    (.cond (.v 183)
                     (.seq
                      (.region [] [] [2] false [
                        (none, .asg 2 (.c (.bool false)) .copy)])
                      (.ret [2]))
                     (.skip [5, 7, 8, 10, 11, 13, 14, 16, 17, 19, 20, 22, 23, 24, 26, 27, 31])))
                   (.seq
                    (.seq
                     (.region [(191, 31, false), (188, 31, false)] [] [10, 11, 13, 14, 16, 17, 19, 20, 22, 23, 24, 26, 27, 196] false [
                       (none, .mv 184 (.v 7)),
                       (none, .bin 185 .eql (.v 184) (.c (.int .i64 0))),
                       (none, .mv 186 (.v 185)),
                       (some (186, true), .mv 187 (.v 8)),
                       (some (186, true), .fadr 188 0 1 (.v 31)),
                       (some (186, true), .load 189 false 1 (.v 188) none),
                       (some (186, true), .mv 190 (.v 5)),
                       (some (186, true), .fadr 191 1 1 (.v 31)),
                       (some (186, true), .load 192 false 1 (.v 191) none),
                       (some (186, true), .bin 193 .mul (.v 190) (.v 192)),
                       (some (186, true), .bin 194 .geq (.v 189) (.v 193)),
                       (some (186, true), .eqb 195 true (.v 187) (.v 194)),
                       (none, .pick 196 (.v 186) (.v 195) (.c (.bool false)))])
                     (.cond (.v 196)
                      (.seq
                       (.region [] [] [2] false [
                         (none, .asg 2 (.c (.bool false)) .copy)])
                       (.ret [2]))
                      (.skip [10, 11, 13, 14, 16, 17, 19, 20, 22, 23, 24, 26, 27])))
                    (.seq
                     (.seq
                      (.region [] [] [10, 11, 14, 16, 17, 19, 20, 22, 23, 24, 26, 27, 198] false [
                        (none, .mv 197 (.v 13)),
                        (none, .bin 198 .eql (.v 197) (.c (.int .i64 0)))])
                      (.cond (.v 198)
                       (.seq
                        (.region [] [] [16, 17, 19, 20, 22, 23, 24, 26, 27, 33, 34] false [
                          (none, .mv 200 (.v 14)),
                          (none, .mv 201 (.v 14)),
                          (none, .build 202 [(.int .i64 0), (.int .i64 0)] [(0, 1, (.v 200), .copy), (1, 1, (.v 201), .copy)]),
                          (none, .load 203 true 2 (.v 10) none),
                          (none, .mv 204 (.v 11)),
                          (none, .call (some 205) 118 false [((.v 202), false), ((.v 203), false), ((.v 204), false)]),
                          (none, .asg 199 (.v 205) .copy),
                          (none, .extp 206 (.v 199) 0),
                          (none, .extp 207 (.v 199) 1),
                          (none, .asg 33 (.v 206) .copy),
                          (none, .asg 34 (.v 207) .copy)])
                        (.seq
                         (.region [] [] [16, 17, 19, 20, 22, 23, 24, 26, 27, 213] false [
                           (none, .mv 208 (.v 34)),
                           (none, .bin 209 .neq (.v 208) (.c (.int .i64 0))),
                           (none, .mv 210 (.v 209)),
                           (some (210, false), .mv 211 (.v 33)),
                           (some (210, false), .un 212 .not (.v 211)),
                           (none, .pick 213 (.v 210) (.c (.bool true)) (.v 212))])
                         (.cond (.v 213)
                          (.seq
                           (.region [] [] [2] false [
                             (none, .asg 2 (.c (.bool false)) .copy)])
                           (.ret [2]))
                          (.skip [16, 17, 19, 20, 22, 23, 24, 26, 27]))))
                       (.skip [16, 17, 19, 20, 22, 23, 24, 26, 27])))
                     (.seq
                      (.seq
                       (.region [(221, 20, false)] [] [16, 17, 20, 22, 23, 24, 26, 27, 224] false [
                         (none, .mv 214 (.v 19)),
                         (none, .bin 215 .eql (.v 214) (.c (.int .i64 0))),
                         (none, .mv 216 (.v 215)),
                         (some (216, true), .mv 217 (.v 17)),
                         (some (216, true), .bin 218 .leq (.v 217) (.c (.int .i64 200))),
                         (none, .pick 219 (.v 216) (.v 218) (.c (.bool false))),
                         (none, .mv 220 (.v 219)),
                         (some (220, true), .fadr 221 0 1 (.v 20)),
                         (some (220, true), .load 222 false 1 (.v 221) none),
                         (some (220, true), .bin 223 .leq (.v 222) (.c (.int .i64 1000))),
                         (none, .pick 224 (.v 220) (.v 223) (.c (.bool false)))])
                       (.cond (.v 224)
                        (.seq
                         (.region [] [] [22, 23, 24, 26, 27, 35, 36] false [
                           (none, .load 226 true 2 (.v 16) none),
                           (none, .load 227 true 2 (.v 20) none),
                           (none, .mv 228 (.v 17)),
                           (none, .call (some 229) 118 false [((.v 226), false), ((.v 227), false), ((.v 228), false)]),
                           (none, .asg 225 (.v 229) .copy),
                           (none, .extp 230 (.v 225) 0),
                           (none, .extp 231 (.v 225) 1),
                           (none, .asg 35 (.v 230) .copy),
                           (none, .asg 36 (.v 231) .copy)])
                         (.seq
                          (.region [] [] [22, 23, 24, 26, 27, 237] false [
                            (none, .mv 232 (.v 36)),
                            (none, .bin 233 .neq (.v 232) (.c (.int .i64 0))),
                            (none, .mv 234 (.v 233)),
                            (some (234, false), .mv 235 (.v 35)),
                            (some (234, false), .un 236 .not (.v 235)),
                            (none, .pick 237 (.v 234) (.c (.bool true)) (.v 236))])
                          (.cond (.v 237)
                           (.seq
                            (.region [] [] [2] false [
                              (none, .asg 2 (.c (.bool false)) .copy)])
                            (.ret [2]))
                           (.skip [22, 23, 24, 26, 27]))))
                        (.skip [22, 23, 24, 26, 27])))
                      (.seq
                       (.seq
                        (.region [] [] [22, 23, 24, 27, 239] false [
                          (none, .mv 238 (.v 26)),
                          (none, .bin 239 .neq (.v 238) (.c (.int .i64 0)))])
                        (.cond (.v 239)
                         (.seq
                          (.region [] [] [2] false [
                            (none, .asg 2 (.c (.bool true)) .copy)])
                          (.ret [2]))
                         (.skip [22, 23, 24, 27])))
                       (.seq
                        (.region [] [] [22, 23, 24, 27, 37] false [
                          (none, .asg 37 (.c (.int .i64 0)) .copy)])
                        (.seq
                         (.seq
                          (.region [] [] [22, 24, 27, 37, 38] false [
                            (none, .mv 240 (.v 23)),
                            (none, .asg 38 (.v 240) .copy)])
                          (.block 0
                           (.loop
                            (.seq
                             (.seq
                              (.region [] [] [22, 24, 27, 37, 38, 243] false [
                                (none, .mv 241 (.v 38)),
                                (none, .mv 242 (.v 24)),
                                (none, .bin 243 .lss (.v 241) (.v 242))])
                              (.cond (.v 243)
                               (.skip [22, 24, 27, 37, 38])
                               (.exit 0 [27, 37])))
                             (.seq
                              (.block 1
                               (.seq
                                (.region [] [] [22, 24, 27, 37, 38, 39, 40] false [
                                  (none, .load 247 true 2 (.v 22) none),
                                  (none, .mv 248 (.v 38)),
                                  (none, .call (some 249) 117 false [((.v 247), false), ((.v 248), false)]),
                                  (none, .asg 246 (.v 249) .copy),
                                  (none, .extp 250 (.v 246) 0),
                                  (none, .extp 251 (.v 246) 1),
                                  (none, .asg 39 (.v 250) .copy),
                                  (none, .asg 40 (.v 251) .copy)])
                                (.seq
                                 (.seq
                                  (.region [] [] [22, 24, 27, 37, 38, 39, 253] false [
                                    (none, .mv 252 (.v 40)),
                                    (none, .bin 253 .neq (.v 252) (.c (.int .i64 0)))])
                                  (.cond (.v 253)
                                   (.seq
                                    (.region [] [] [2] false [
                                      (none, .asg 2 (.c (.bool false)) .copy)])
                                    (.ret [2]))
                                   (.skip [22, 24, 27, 37, 38, 39])))
                                 (.seq
                                  (.region [] [] [22, 24, 27, 37, 38, 254] false [
                                    (none, .mv 254 (.v 39))])
                                  (.cond (.v 254)
                                   (.region [] [] [22, 24, 27, 37, 38] false [
                                     (none, .mv 255 (.v 37)),
                                     (none, .bin 256 .add (.v 255) (.c (.int .i64 1))),
                                     (none, .asg 37 (.v 256) .copy)])
                                   (.skip [22, 24, 27, 37, 38]))))))
                              (.region [] [] [22, 24, 27, 37, 38] false [
                                (none, .mv 244 (.v 38)),
                                (none, .bin 245 .add (.v 244) (.c (.int .i64 1))),
                                (none, .asg 38 (.v 245) .copy)]))))))
                         (.seq
                          (.region [] [] [2] false [
                            (none, .mv 257 (.v 37)),
                            (none, .mv 258 (.v 27)),
                            (none, .bin 259 .eql (.v 257) (.v 258)),
                            (none, .asg 2 (.v 259) .copy)])
                          (.ret [2])))))))))))))))))))))))))⟩
def tabl : List (Nat × PFunc) := [(269, F269), (326, F326), (213, F213), (278, F278), (298, F298), (312, F312), (84, F84), (206, F206), (292, F292), (100, F100), (17, F17), (117, F117), (118, F118), (158, F158), (188, F188), (398, F398), (603, F603), (5, F5), (7, F7), (4, F4), (6, F6), (661, F661), (604, F604), (611, F611), (616, F616), (615, F615), (614, F614), (662, F662), (468, F468), (660, F660), (478, F478), (607, F607), (666, F666), (486, F486), (498, F498), (605, F605), (617, F617), (663, F663), (667, F667), (516, F516), (664, F664), (659, F659), (523, F523), (535, F535), (665, F665), (552, F552), (574, F574), (588, F588), (377, F377)]
def T : Nat → Option PFunc := tabOf tabl
end Go.Vs.G
