/- The functions that the law reaches, in the small language, printed by program. No conditions. -/
import Derived.Test.YtoeekebkinljpaaDLWheelsOfLight
import Derived.Test.YtoeekebkinljpaaV4
set_option maxRecDepth 100000
open Go Go.Vs
namespace Go.Vs.G
def F17 : PFunc :=
 ⟨[false, false], [.tmp 4],
  (.seq
   (.region [] [] [1, 2] false [
     (none, .box 2 (.v 0) .copy),
     (none, .asg 4 (.c (.bool false)) .copy)])
   (.seq
    (.region [(12, 2, false), (10, 2, false), (6, 2, false)] [] [4] true [
      (none, .mv 5 (.v 1)),
      (none, .fadr 6 0 1 (.v 2)),
      (none, .load 7 false 1 (.v 6) none),
      (none, .bin 8 .quo (.c (.int .i64 1000)) (.v 7)),
      (none, .bin 9 .rem (.v 5) (.v 8)),
      (none, .fadr 10 1 1 (.v 2)),
      (none, .load 11 false 1 (.v 10) none),
      (none, .fadr 12 0 1 (.v 2)),
      (none, .load 13 false 1 (.v 12) none),
      (none, .bin 14 .quo (.v 11) (.v 13)),
      (none, .bin 15 .lss (.v 9) (.v 14)),
      (none, .asg 4 (.v 15) .copy)])
    (.ret [4])))⟩
def F326 : PFunc :=
 ⟨[false, false, false], [.tmp 6],
  (.seq
   (.region [] [] [0, 1, 2] false [
     (none, .asg 6 (.c (.bool false)) .copy)])
   (.seq
    (.region [] [] [6] false [
      (none, .mv 7 (.v 0)),
      (none, .mv 8 (.v 1)),
      (none, .bin 9 .geq (.v 7) (.v 8)),
      (none, .mv 10 (.v 9)),
      (some (10, true), .mv 11 (.v 0)),
      (some (10, true), .mv 12 (.v 2)),
      (some (10, true), .bin 13 .leq (.v 11) (.v 12)),
      (none, .pick 14 (.v 10) (.v 13) (.c (.bool false))),
      (none, .asg 6 (.v 14) .copy)])
    (.ret [6])))⟩
def F206 : PFunc :=
 ⟨[false], [.tmp 2],
  (.seq
   (.region [] [] [1] false [
     (none, .box 1 (.v 0) .copy),
     (none, .asg 2 (.c (.bool false)) .copy)])
   (.seq
    (.region [(20, 1, false), (18, 1, false), (13, 1, false), (7, 1, false), (3, 1, false)] [] [2] false [
      (none, .fadr 3 0 1 (.v 1)),
      (none, .load 4 false 1 (.v 3) none),
      (none, .call (some 5) 326 false [((.v 4), false), ((.c (.int .i64 1)), false), ((.c (.int .i64 12)), false)]),
      (none, .mv 6 (.v 5)),
      (some (6, true), .fadr 7 0 1 (.v 1)),
      (some (6, true), .load 8 false 1 (.v 7) none),
      (some (6, true), .bin 9 .rem (.c (.int .i64 1000)) (.v 8)),
      (some (6, true), .bin 10 .eql (.v 9) (.c (.int .i64 0))),
      (none, .pick 11 (.v 6) (.v 10) (.c (.bool false))),
      (none, .mv 12 (.v 11)),
      (some (12, true), .fadr 13 1 1 (.v 1)),
      (some (12, true), .load 14 false 1 (.v 13) none),
      (some (12, true), .call (some 15) 326 false [((.v 14), false), ((.c (.int .i64 1)), false), ((.c (.int .i64 999)), false)]),
      (none, .pick 16 (.v 12) (.v 15) (.c (.bool false))),
      (none, .mv 17 (.v 16)),
      (some (17, true), .fadr 18 1 1 (.v 1)),
      (some (17, true), .load 19 false 1 (.v 18) none),
      (some (17, true), .fadr 20 0 1 (.v 1)),
      (some (17, true), .load 21 false 1 (.v 20) none),
      (some (17, true), .bin 22 .rem (.v 19) (.v 21)),
      (some (17, true), .bin 23 .eql (.v 22) (.c (.int .i64 0))),
      (none, .pick 24 (.v 17) (.v 23) (.c (.bool false))),
      (none, .asg 2 (.v 24) .copy)])
    (.ret [2])))⟩
def F117 : PFunc :=
 ⟨[false, false], [.tmp 4, .tmp 5],
  (.seq
   (.region [] [] [1, 2] false [
     (none, .box 2 (.v 0) .copy),
     (none, .asg 4 (.c (.bool false)) .copy),
     (none, .asg 5 (.c (.int .i64 0)) .copy)])
   (.seq
    (.block 0
     (.seq
      (.region [] [] [1, 2, 6] false [
        (none, .load 7 true 2 (.v 2) none),
        (none, .call (some 8) 206 false [((.v 7), false)]),
        (none, .un 9 .not (.v 8)),
        (none, .asg 6 (.v 9) .copy)])
      (.cond (.v 6)
       (.seq
        (.region [] [] [4, 5] false [
          (none, .asg 4 (.c (.bool false)) .copy),
          (none, .asg 5 (.c (.int .i64 1)) .copy)])
        (.ret [4, 5]))
       (.seq
        (.region [] [] [1, 2, 10] false [
          (none, .mv 11 (.v 1)),
          (none, .call (some 12) 326 false [((.v 11), false), ((.c (.int .i64 0)), false), ((.c (.int .i64 999)), false)]),
          (none, .un 13 .not (.v 12)),
          (none, .asg 10 (.v 13) .copy)])
        (.cond (.v 10)
         (.seq
          (.region [] [] [4, 5] false [
            (none, .asg 4 (.c (.bool false)) .copy),
            (none, .asg 5 (.c (.int .i64 2)) .copy)])
          (.ret [4, 5]))
         (.skip [1, 2]))))))
    (.seq
     (.region [] [] [4, 5] false [
       (none, .load 14 true 2 (.v 2) none),
       (none, .mv 15 (.v 1)),
       (none, .call (some 16) 17 false [((.v 14), false), ((.v 15), false)]),
       (none, .asg 4 (.v 16) .copy),
       (none, .asg 5 (.c (.int .i64 0)) .copy)])
     (.ret [4, 5]))))⟩
def F269 : PFunc :=
 ⟨[false, false], [.tmp 4],
  (.seq
   (.region [] [] [0, 1] false [
     (none, .asg 4 (.c (.int .i64 0)) .copy)])
   (.seq
    (.block 0
     (.loop
      (.seq
       (.seq
        (.region [] [] [0, 1, 6] false [
          (none, .mv 5 (.v 1)),
          (none, .bin 6 .neq (.v 5) (.c (.int .i64 0)))])
        (.cond (.v 6)
         (.skip [0, 1])
         (.exit 0 [0])))
       (.block 1
        (.region [] [] [0, 1] true [
          (none, .mv 7 (.v 1)),
          (none, .mv 8 (.v 0)),
          (none, .mv 9 (.v 1)),
          (none, .bin 10 .rem (.v 8) (.v 9)),
          (none, .asg 0 (.v 7) .copy),
          (none, .asg 1 (.v 10) .copy)])))))
    (.seq
     (.region [] [] [4] false [
       (none, .mv 11 (.v 0)),
       (none, .mv 12 (.v 0)),
       (none, .un 13 .neg (.v 12)),
       (none, .mm 14 true (.v 11) [(.v 13)]),
       (none, .asg 4 (.v 14) .copy)])
     (.ret [4]))))⟩
def F292 : PFunc :=
 ⟨[false, false], [.cell 4 true 2],
  (.seq
   (.region [] [] [0, 1, 4] false [
     (none, .new 4 (.agg [(.int .i64 0), (.int .i64 0)]))])
   (.seq
    (.seq
     (.region [] [] [0, 1, 4, 7] false [
       (none, .mv 6 (.v 1)),
       (none, .bin 7 .lss (.v 6) (.c (.int .i64 0)))])
     (.cond (.v 7)
      (.region [] [] [0, 1, 4] false [
        (none, .mv 8 (.v 0)),
        (none, .un 9 .neg (.v 8)),
        (none, .mv 10 (.v 1)),
        (none, .un 11 .neg (.v 10)),
        (none, .asg 0 (.v 9) .copy),
        (none, .asg 1 (.v 11) .copy)])
      (.skip [0, 1, 4])))
    (.seq
     (.region [] [] [0, 1, 4, 5] false [
       (none, .mv 12 (.v 0)),
       (none, .mv 13 (.v 1)),
       (none, .call (some 14) 269 false [((.v 12), false), ((.v 13), false)]),
       (none, .asg 5 (.v 14) .copy)])
     (.seq
      (.region [] [] [4] true [
        (none, .mv 15 (.v 0)),
        (none, .mv 16 (.v 5)),
        (none, .bin 17 .quo (.v 15) (.v 16)),
        (none, .mv 18 (.v 1)),
        (none, .mv 19 (.v 5)),
        (none, .bin 20 .quo (.v 18) (.v 19)),
        (none, .build 21 [(.int .i64 0), (.int .i64 0)] [(0, 1, (.v 17), .copy), (1, 1, (.v 20), .copy)]),
        (none, .store 2 (.v 4) (.v 21) .copy)])
      (.ret [4])))))⟩
def F134 : PFunc :=
 ⟨[false], [.cell 2 true 2, .tmp 3],
  (.seq
   (.region [] [] [1, 2] false [
     (none, .box 1 (.v 0) .copy),
     (none, .new 2 (.agg [(.int .i64 0), (.int .i64 0)])),
     (none, .asg 3 (.c (.int .i64 0)) .copy)])
   (.seq
    (.seq
     (.region [] [] [1, 2, 6] false [
       (none, .load 4 true 2 (.v 1) none),
       (none, .call (some 5) 206 false [((.v 4), false)]),
       (none, .un 6 .not (.v 5))])
     (.cond (.v 6)
      (.seq
       (.region [] [] [2, 3] false [
         (none, .build 7 [(.int .i64 0), (.int .i64 0)] []),
         (none, .store 2 (.v 2) (.v 7) .copy),
         (none, .asg 3 (.c (.int .i64 1)) .copy)])
       (.ret [2, 3]))
      (.skip [1, 2])))
    (.seq
     (.region [(8, 1, false)] [] [2, 3] false [
       (none, .fadr 8 1 1 (.v 1)),
       (none, .load 9 false 1 (.v 8) none),
       (none, .call (some 10) 292 false [((.v 9), false), ((.c (.int .i64 1000)), false)]),
       (none, .store 2 (.v 2) (.v 10) .copy),
       (none, .asg 3 (.c (.int .i64 0)) .copy)])
     (.ret [2, 3]))))⟩
def F213 : PFunc :=
 ⟨[false], [.tmp 2],
  (.seq
   (.region [] [] [1] false [
     (none, .box 1 (.v 0) .copy),
     (none, .asg 2 (.c (.bool false)) .copy)])
   (.seq
    (.region [(14, 1, false), (12, 1, false), (7, 1, false), (3, 1, false)] [] [2] false [
      (none, .fadr 3 1 1 (.v 1)),
      (none, .load 4 false 1 (.v 3) none),
      (none, .call (some 5) 326 false [((.v 4), false), ((.c (.int .i64 1)), false), ((.c (.int .i64 1000000)), false)]),
      (none, .mv 6 (.v 5)),
      (some (6, true), .fadr 7 0 1 (.v 1)),
      (some (6, true), .load 8 false 1 (.v 7) none),
      (some (6, true), .call (some 9) 326 false [((.v 8), false), ((.c (.int .i64 (-1000000))), false), ((.c (.int .i64 1000000)), false)]),
      (none, .pick 10 (.v 6) (.v 9) (.c (.bool false))),
      (none, .mv 11 (.v 10)),
      (some (11, true), .fadr 12 0 1 (.v 1)),
      (some (11, true), .load 13 false 1 (.v 12) none),
      (some (11, true), .fadr 14 1 1 (.v 1)),
      (some (11, true), .load 15 false 1 (.v 14) none),
      (some (11, true), .call (some 16) 269 false [((.v 13), false), ((.v 15), false)]),
      (some (11, true), .bin 17 .eql (.v 16) (.c (.int .i64 1))),
      (none, .pick 18 (.v 11) (.v 17) (.c (.bool false))),
      (none, .asg 2 (.v 18) .copy)])
    (.ret [2])))⟩
def F278 : PFunc :=
 ⟨[false], [.tmp 2],
  (.seq
   (.region [] [] [1] false [
     (none, .box 1 (.v 0) .copy),
     (none, .asg 2 (.c (.bool false)) .copy)])
   (.seq
    (.region [(7, 1, false), (3, 1, false)] [] [2] false [
      (none, .fadr 3 0 1 (.v 1)),
      (none, .load 4 false 1 (.v 3) none),
      (none, .call (some 5) 326 false [((.v 4), false), ((.c (.int .i64 1)), false), ((.c (.int .i64 1000)), false)]),
      (none, .mv 6 (.v 5)),
      (some (6, true), .fadr 7 1 1 (.v 1)),
      (some (6, true), .load 8 false 1 (.v 7) none),
      (some (6, true), .bin 9 .leq (.v 8) (.c (.int .i64 1000))),
      (none, .pick 10 (.v 6) (.v 9) (.c (.bool false))),
      (none, .asg 2 (.v 10) .copy)])
    (.ret [2])))⟩
def F298 : PFunc :=
 ⟨[false, false, false], [.tmp 6],
  (.seq
   (.region [] [] [0, 2, 4] false [
     (none, .box 4 (.v 1) .copy),
     (none, .asg 6 (.c (.int .i64 0)) .copy)])
   (.seq
    (.block 0
     (.seq
      (.region [] [] [2, 4, 7] false [
        (none, .mv 8 (.v 0)),
        (none, .un 9 .not (.v 8)),
        (none, .mv 10 (.v 9)),
        (some (10, false), .load 11 true 2 (.v 4) none),
        (some (10, false), .call (some 12) 213 false [((.v 11), false)]),
        (some (10, false), .un 13 .not (.v 12)),
        (none, .pick 14 (.v 10) (.c (.bool true)) (.v 13)),
        (none, .asg 7 (.v 14) .copy)])
      (.cond (.v 7)
       (.seq
        (.region [] [] [6] false [
          (none, .asg 6 (.c (.int .i64 1)) .copy)])
        (.ret [6]))
       (.seq
        (.region [] [] [15] false [
          (none, .load 16 true 2 (.v 4) none),
          (none, .call (some 17) 278 false [((.v 16), false)]),
          (none, .un 18 .not (.v 17)),
          (none, .mv 19 (.v 18)),
          (some (19, false), .mv 20 (.v 2)),
          (some (19, false), .call (some 21) 326 false [((.v 20), false), ((.c (.int .i64 1)), false), ((.c (.int .i64 200)), false)]),
          (some (19, false), .un 22 .not (.v 21)),
          (none, .pick 23 (.v 19) (.c (.bool true)) (.v 22)),
          (none, .asg 15 (.v 23) .copy)])
        (.cond (.v 15)
         (.seq
          (.region [] [] [6] false [
            (none, .asg 6 (.c (.int .i64 2)) .copy)])
          (.ret [6]))
         (.skip []))))))
    (.seq
     (.region [] [] [6] false [
       (none, .asg 6 (.c (.int .i64 0)) .copy)])
     (.ret [6]))))⟩
def F140 : PFunc :=
 ⟨[false, false], [.cell 4 true 2, .tmp 5],
  (.seq
   (.region [] [] [2, 3, 4] false [
     (none, .box 2 (.v 0) .copy),
     (none, .box 3 (.v 1) .copy),
     (none, .new 4 (.agg [(.int .i64 0), (.int .i64 0)])),
     (none, .asg 5 (.c (.int .i64 0)) .copy)])
   (.seq
    (.seq
     (.region [] [] [2, 3, 4, 6] true [
       (none, .load 7 true 2 (.v 2) none),
       (none, .call (some 8) 206 false [((.v 7), false)]),
       (none, .load 9 true 2 (.v 3) none),
       (none, .call (some 10) 298 false [((.v 8), false), ((.v 9), false), ((.c (.int .i64 1)), false)]),
       (none, .asg 6 (.v 10) .copy)])
     (.seq
      (.region [] [] [2, 3, 4, 6, 12] false [
        (none, .mv 11 (.v 6)),
        (none, .bin 12 .neq (.v 11) (.c (.int .i64 0)))])
      (.cond (.v 12)
       (.seq
        (.region [] [] [4, 5] false [
          (none, .build 13 [(.int .i64 0), (.int .i64 0)] []),
          (none, .mv 14 (.v 6)),
          (none, .store 2 (.v 4) (.v 13) .copy),
          (none, .asg 5 (.v 14) .copy)])
        (.ret [4, 5]))
       (.skip [2, 3, 4]))))
    (.seq
     (.region [(24, 3, false), (21, 3, false), (18, 2, false), (15, 2, false)] [] [4, 5] true [
       (none, .fadr 15 1 1 (.v 2)),
       (none, .load 16 false 1 (.v 15) none),
       (none, .bin 17 .sub (.c (.int .i64 1000)) (.v 16)),
       (none, .fadr 18 0 1 (.v 2)),
       (none, .load 19 false 1 (.v 18) none),
       (none, .bin 20 .quo (.v 17) (.v 19)),
       (none, .fadr 21 1 1 (.v 3)),
       (none, .load 22 false 1 (.v 21) none),
       (none, .bin 23 .mul (.v 20) (.v 22)),
       (none, .fadr 24 0 1 (.v 3)),
       (none, .load 25 false 1 (.v 24) none),
       (none, .bin 26 .mul (.c (.int .i64 1000)) (.v 25)),
       (none, .call (some 27) 292 false [((.v 23), false), ((.v 26), false)]),
       (none, .store 2 (.v 4) (.v 27) .copy),
       (none, .asg 5 (.c (.int .i64 0)) .copy)])
     (.ret [4, 5]))))⟩
def F158 : PFunc :=
 ⟨[false, false, false], [.tmp 6, .tmp 7],
  (.seq
   (.region [] [] [1, 2, 3] false [
     (none, .box 3 (.v 0) .copy),
     (none, .asg 6 (.c (.int .i64 0)) .copy),
     (none, .asg 7 (.c (.int .i64 0)) .copy)])
   (.seq
    (.block 0
     (.seq
      (.region [] [] [1, 2, 3, 10] false [
        (none, .load 11 true 2 (.v 3) none),
        (none, .call (some 12) 206 false [((.v 11), false)]),
        (none, .un 13 .not (.v 12)),
        (none, .asg 10 (.v 13) .copy)])
      (.cond (.v 10)
       (.seq
        (.region [] [] [6, 7] false [
          (none, .asg 6 (.c (.int .i64 0)) .copy),
          (none, .asg 7 (.c (.int .i64 1)) .copy)])
        (.ret [6, 7]))
       (.seq
        (.region [] [] [1, 2, 3, 14] false [
          (none, .mv 15 (.v 1)),
          (none, .bin 16 .leq (.c (.int .i64 0)) (.v 15)),
          (none, .mv 17 (.v 16)),
          (some (17, true), .mv 18 (.v 1)),
          (some (17, true), .mv 19 (.v 2)),
          (some (17, true), .bin 20 .leq (.v 18) (.v 19)),
          (none, .pick 21 (.v 17) (.v 20) (.c (.bool false))),
          (none, .mv 22 (.v 21)),
          (some (22, true), .mv 23 (.v 2)),
          (some (22, true), .bin 24 .leq (.v 23) (.c (.int .i64 1000))),
          (none, .pick 25 (.v 22) (.v 24) (.c (.bool false))),
          (none, .un 26 .not (.v 25)),
          (none, .asg 14 (.v 26) .copy)])
        (.cond (.v 14)
         (.seq
          (.region [] [] [6, 7] false [
            (none, .asg 6 (.c (.int .i64 0)) .copy),
            (none, .asg 7 (.c (.int .i64 2)) .copy)])
          (.ret [6, 7]))
         (.skip [1, 2, 3]))))))
    (.seq
     (.region [] [] [1, 2, 3, 8] false [
       (none, .asg 8 (.c (.int .i64 0)) .copy)])
     (.seq
      (.seq
       (.region [] [] [2, 3, 8, 9] false [
         (none, .mv 27 (.v 1)),
         (none, .asg 9 (.v 27) .copy)])
       (.block 1
        (.loop
         (.seq
          (.seq
           (.region [] [] [2, 3, 8, 9, 30] false [
             (none, .mv 28 (.v 9)),
             (none, .mv 29 (.v 2)),
             (none, .bin 30 .lss (.v 28) (.v 29))])
           (.cond (.v 30)
            (.skip [2, 3, 8, 9])
            (.exit 1 [8])))
          (.seq
           (.block 2
            (.seq
             (.region [] [] [2, 3, 8, 9, 35] false [
               (none, .load 33 true 2 (.v 3) none),
               (none, .mv 34 (.v 9)),
               (none, .call (some 35) 17 false [((.v 33), false), ((.v 34), false)])])
             (.cond (.v 35)
              (.region [] [] [2, 3, 8, 9] false [
                (none, .mv 36 (.v 8)),
                (none, .bin 37 .add (.v 36) (.c (.int .i64 1))),
                (none, .asg 8 (.v 37) .copy)])
              (.skip [2, 3, 8, 9]))))
           (.region [] [] [2, 3, 8, 9] false [
             (none, .mv 31 (.v 9)),
             (none, .bin 32 .add (.v 31) (.c (.int .i64 1))),
             (none, .asg 9 (.v 32) .copy)]))))))
      (.seq
       (.region [] [] [6, 7] false [
         (none, .mv 38 (.v 8)),
         (none, .asg 6 (.v 38) .copy),
         (none, .asg 7 (.c (.int .i64 0)) .copy)])
       (.ret [6, 7]))))))⟩
def F253 : PFunc :=
 ⟨[false, false, false], [.tmp 6],
  (.seq
   (.region [] [] [2, 3, 4] false [
     (none, .box 3 (.v 0) .copy),
     (none, .box 4 (.v 1) .copy),
     (none, .asg 6 (.c (.int .i64 0)) .copy)])
   (.seq
    (.region [] [] [2, 3, 4, 7] false [
      (none, .asg 7 (.c (.int .i64 0)) .copy)])
    (.seq
     (.seq
      (.region [] [] [2, 3, 4, 7, 9] false [
        (none, .mv 9 (.c (.int .i64 0)))])
      (.block 0
       (.loop
        (.seq
         (.region [] [] [2, 3, 4, 7, 9, 10] false [
           (none, .bin 10 .lss (.v 9) (.c (.int .i64 1000)))])
         (.seq
          (.cond (.v 10)
           (.skip [2, 3, 4, 7, 9])
           (.exit 0 [7]))
          (.seq
           (.block 1
            (.seq
             (.region [] [] [2, 3, 4, 7, 8, 9] false [
               (none, .mv 11 (.v 9)),
               (none, .asg 8 (.v 11) .copy)])
             (.seq
              (.region [] [] [2, 3, 4, 7, 9, 22] false [
                (none, .load 12 true 2 (.v 3) none),
                (none, .mv 13 (.v 8)),
                (none, .call (some 14) 17 false [((.v 12), false), ((.v 13), false)]),
                (none, .mv 15 (.v 14)),
                (some (15, true), .load 16 true 2 (.v 4) none),
                (some (15, true), .mv 17 (.v 8)),
                (some (15, true), .mv 18 (.v 2)),
                (some (15, true), .bin 19 .add (.v 17) (.v 18)),
                (some (15, true), .bin 20 .rem (.v 19) (.c (.int .i64 1000))),
                (some (15, true), .call (some 21) 17 false [((.v 16), false), ((.v 20), false)]),
                (none, .pick 22 (.v 15) (.v 21) (.c (.bool false)))])
              (.cond (.v 22)
               (.region [] [] [2, 3, 4, 7, 9] false [
                 (none, .mv 23 (.v 7)),
                 (none, .bin 24 .add (.v 23) (.c (.int .i64 1))),
                 (none, .asg 7 (.v 24) .copy)])
               (.skip [2, 3, 4, 7, 9])))))
           (.region [] [] [2, 3, 4, 7, 9] false [
             (none, .bin 25 .add (.v 9) (.c (.int .i64 1))),
             (none, .mv 9 (.v 25))])))))))
     (.seq
      (.region [] [] [6] false [
        (none, .mv 26 (.v 7)),
        (none, .asg 6 (.v 26) .copy)])
      (.ret [6])))))⟩
def F204 : PFunc :=
 ⟨[false, false, false], [.tmp 6, .tmp 7],
  (.seq
   (.region [] [] [2, 3, 4] false [
     (none, .box 3 (.v 0) .copy),
     (none, .box 4 (.v 1) .copy),
     (none, .asg 6 (.c (.int .i64 0)) .copy),
     (none, .asg 7 (.c (.int .i64 0)) .copy)])
   (.seq
    (.block 0
     (.seq
      (.region [] [] [2, 3, 4, 8] false [
        (none, .load 9 true 2 (.v 3) none),
        (none, .call (some 10) 206 false [((.v 9), false)]),
        (none, .un 11 .not (.v 10)),
        (none, .mv 12 (.v 11)),
        (some (12, false), .load 13 true 2 (.v 4) none),
        (some (12, false), .call (some 14) 206 false [((.v 13), false)]),
        (some (12, false), .un 15 .not (.v 14)),
        (none, .pick 16 (.v 12) (.c (.bool true)) (.v 15)),
        (none, .asg 8 (.v 16) .copy)])
      (.cond (.v 8)
       (.seq
        (.region [] [] [6, 7] false [
          (none, .asg 6 (.c (.int .i64 0)) .copy),
          (none, .asg 7 (.c (.int .i64 1)) .copy)])
        (.ret [6, 7]))
       (.seq
        (.region [] [] [2, 3, 4, 17] false [
          (none, .mv 18 (.v 2)),
          (none, .call (some 19) 326 false [((.v 18), false), ((.c (.int .i64 0)), false), ((.c (.int .i64 999)), false)]),
          (none, .un 20 .not (.v 19)),
          (none, .asg 17 (.v 20) .copy)])
        (.cond (.v 17)
         (.seq
          (.region [] [] [6, 7] false [
            (none, .asg 6 (.c (.int .i64 0)) .copy),
            (none, .asg 7 (.c (.int .i64 2)) .copy)])
          (.ret [6, 7]))
         (.skip [2, 3, 4]))))))
    (.seq
     (.region [] [] [6, 7] false [
       (none, .load 21 true 2 (.v 3) none),
       (none, .load 22 true 2 (.v 4) none),
       (none, .mv 23 (.v 2)),
       (none, .call (some 24) 253 false [((.v 21), false), ((.v 22), false), ((.v 23), false)]),
       (none, .asg 6 (.v 24) .copy),
       (none, .asg 7 (.c (.int .i64 0)) .copy)])
     (.ret [6, 7]))))⟩
def F398 : PFunc :=
 ⟨[false], [.tmp 2],
  (.seq
   (.region [] [] [0] false [
     (none, .asg 2 (.c (.bool false)) .copy)])
   (.seq
    (.region [(3, 0, false)] [] [2] false [
      (none, .mv 3 (.v 0)),
      (none, .len 4 false (.v 3)),
      (none, .bin 5 .gtr (.v 4) (.c (.int .i64 4096))),
      (none, .asg 2 (.v 5) .copy)])
    (.ret [2])))⟩
def F603 : PFunc :=
 ⟨[false], [.tmp 2],
  (.seq
   (.region [] [] [0] false [
     (none, .asg 2 (.c .nilp) .copy)])
   (.seq
    (.region [(3, 0, false)] [] [2] false [
      (none, .mv 3 (.v 0)),
      (none, .build 4 [(.sl false 1 []), (.int .i64 0), (.int .u64 0)] [(0, 1, (.v 3), .move)]),
      (none, .box 5 (.v 4) .move),
      (none, .asg 2 (.v 5) .move)])
    (.ret [2])))⟩
def F5 : PFunc :=
 ⟨[true], [.tmp 2],
  (.seq
   (.region [] [] [0] false [
     (none, .asg 2 (.c (.int .i64 0)) .copy)])
   (.seq
    (.region [] [] [0, 3] false [
      (none, .asg 3 (.c (.int .i64 0)) .copy)])
    (.seq
     (.seq
      (.region [(11, 0, true), (10, 0, false), (9, 0, false), (8, 0, false), (6, 0, false), (5, 0, false), (4, 0, false)] [] [0, 3, 13] true [
        (none, .mv 4 (.v 0)),
        (none, .nchk 5 (.v 4)),
        (none, .fadr 6 1 1 (.v 5)),
        (none, .load 7 false 1 (.v 6) none),
        (none, .mv 8 (.v 0)),
        (none, .nchk 9 (.v 8)),
        (none, .fadr 10 0 1 (.v 9)),
        (none, .load 11 false 1 (.v 10) none),
        (none, .len 12 false (.v 11)),
        (none, .bin 13 .lss (.v 7) (.v 12))])
      (.cond (.v 13)
       (.region [(22, 0, true), (20, 0, false), (19, 0, false), (18, 0, false), (17, 0, true), (16, 0, false), (15, 0, false), (14, 0, false)] [] [0, 3] true [
         (none, .mv 14 (.v 0)),
         (none, .nchk 15 (.v 14)),
         (none, .fadr 16 0 1 (.v 15)),
         (none, .load 17 false 1 (.v 16) none),
         (none, .mv 18 (.v 0)),
         (none, .nchk 19 (.v 18)),
         (none, .fadr 20 1 1 (.v 19)),
         (none, .load 21 false 1 (.v 20) none),
         (none, .iadr 22 1 (.v 17) (.v 21)),
         (none, .load 23 false 1 (.v 22) none),
         (none, .conv 24 .i64 (.v 23)),
         (none, .asg 3 (.v 24) .copy)])
       (.skip [0, 3])))
     (.seq
      (.region [(31, 0, false), (30, 0, false), (27, 0, false), (26, 0, false), (25, 0, false)] [] [0, 3] false [
        (none, .mv 25 (.v 0)),
        (none, .nchk 26 (.v 25)),
        (none, .fadr 27 1 1 (.v 26)),
        (none, .load 28 false 1 (.v 27) none),
        (none, .bin 29 .add (.v 28) (.c (.int .i64 1))),
        (none, .nchk 30 (.v 25)),
        (none, .fadr 31 1 1 (.v 30)),
        (none, .store 1 (.v 31) (.v 29) .copy)])
      (.seq
       (.region [(43, 0, false), (42, 0, false), (35, 0, false), (34, 0, false), (33, 0, false), (32, 0, false)] [] [0, 3] false [
         (none, .mv 32 (.v 0)),
         (none, .mv 33 (.v 0)),
         (none, .nchk 34 (.v 33)),
         (none, .fadr 35 2 1 (.v 34)),
         (none, .load 36 false 1 (.v 35) none),
         (none, .bin 37 .mul (.v 36) (.c (.int .u64 6364136223846793005))),
         (none, .mv 38 (.v 3)),
         (none, .conv 39 .u64 (.v 38)),
         (none, .bin 40 .add (.v 37) (.v 39)),
         (none, .bin 41 .add (.v 40) (.c (.int .u64 1442695040888963407))),
         (none, .nchk 42 (.v 32)),
         (none, .fadr 43 2 1 (.v 42)),
         (none, .store 1 (.v 43) (.v 41) .copy)])
       (.seq
        (.seq
         (.region [(51, 0, true), (50, 0, false), (49, 0, false), (48, 0, false), (46, 0, false), (45, 0, false), (44, 0, false)] [] [0, 3, 53] true [
           (none, .mv 44 (.v 0)),
           (none, .nchk 45 (.v 44)),
           (none, .fadr 46 1 1 (.v 45)),
           (none, .load 47 false 1 (.v 46) none),
           (none, .mv 48 (.v 0)),
           (none, .nchk 49 (.v 48)),
           (none, .fadr 50 0 1 (.v 49)),
           (none, .load 51 false 1 (.v 50) none),
           (none, .len 52 false (.v 51)),
           (none, .bin 53 .leq (.v 47) (.v 52))])
         (.cond (.v 53)
          (.seq
           (.region [] [] [0, 2] false [
             (none, .mv 54 (.v 3)),
             (none, .asg 2 (.v 54) .copy)])
           (.ret [0, 2]))
          (.skip [0])))
        (.seq
         (.region [(57, 0, false), (56, 0, false), (55, 0, false)] [] [0, 2] false [
           (none, .mv 55 (.v 0)),
           (none, .nchk 56 (.v 55)),
           (none, .fadr 57 2 1 (.v 56)),
           (none, .load 58 false 1 (.v 57) none),
           (none, .bin 59 .shr (.v 58) (.c (.int .u64 40))),
           (none, .bin 60 .and (.v 59) (.c (.int .u64 255))),
           (none, .conv 61 .i64 (.v 60)),
           (none, .asg 2 (.v 61) .copy)])
         (.ret [0, 2]))))))))⟩
def F7 : PFunc :=
 ⟨[true, false], [.tmp 4],
  (.seq
   (.region [] [] [0, 1] false [
     (none, .asg 4 (.c (.int .i64 0)) .copy)])
   (.seq
    (.seq
     (.region [] [] [0, 1, 7] false [
       (none, .mv 6 (.v 1)),
       (none, .bin 7 .leq (.v 6) (.c (.int .i64 1)))])
     (.cond (.v 7)
      (.seq
       (.region [] [] [0, 4] false [
         (none, .asg 4 (.c (.int .i64 0)) .copy)])
       (.ret [0, 4]))
      (.skip [0, 1])))
    (.seq
     (.region [(8, 0, false)] [] [0, 1, 5] false [
       (none, .mv 8 (.v 0)),
       (none, .call (some 9) 5 true [((.v 8), true)]),
       (none, .asg 5 (.v 9) .copy)])
     (.seq
      (.seq
       (.region [] [] [0, 1, 5, 11] false [
         (none, .mv 10 (.v 1)),
         (none, .bin 11 .gtr (.v 10) (.c (.int .i64 200)))])
       (.cond (.v 11)
        (.region [(14, 0, false)] [] [0, 1, 5] false [
          (none, .mv 12 (.v 5)),
          (none, .bin 13 .mul (.v 12) (.c (.int .i64 256))),
          (none, .mv 14 (.v 0)),
          (none, .call (some 15) 5 true [((.v 14), true)]),
          (none, .bin 16 .add (.v 13) (.v 15)),
          (none, .asg 5 (.v 16) .copy)])
        (.skip [0, 1, 5])))
      (.seq
       (.region [] [] [0, 4] false [
         (none, .mv 17 (.v 5)),
         (none, .mv 18 (.v 1)),
         (none, .bin 19 .rem (.v 17) (.v 18)),
         (none, .asg 4 (.v 19) .copy)])
       (.ret [0, 4]))))))⟩
def F4 : PFunc :=
 ⟨[true, false], [.tmp 4],
  (.seq
   (.region [] [] [0, 1] false [
     (none, .asg 4 (.c (.int .i64 0)) .copy)])
   (.seq
    (.region [(10, 1, false), (7, 1, false), (6, 0, false), (5, 1, false)] [] [0, 4] false [
      (none, .mv 5 (.v 1)),
      (none, .mv 6 (.v 0)),
      (none, .mv 7 (.v 1)),
      (none, .len 8 false (.v 7)),
      (none, .call (some 9) 7 true [((.v 6), true), ((.v 8), false)]),
      (none, .iadr 10 1 (.v 5) (.v 9)),
      (none, .load 11 false 1 (.v 10) none),
      (none, .asg 4 (.v 11) .copy)])
    (.ret [0, 4])))⟩
def F660 : PFunc :=
 ⟨[true], [.cell 2 true 2],
  (.seq
   (.region [] [] [0, 2] false [
     (none, .new 2 (.agg [(.int .i64 0), (.int .i64 0)]))])
   (.seq
    (.region [(4, 0, false)] [] [0, 2, 3] false [
      (none, .mv 4 (.v 0)),
      (none, .mksl 5 1 (.int .i64 0) 7 [(0, (.c (.int .i64 1)), .copy), (1, (.c (.int .i64 2)), .copy), (2, (.c (.int .i64 2)), .copy), (3, (.c (.int .i64 4)), .copy), (4, (.c (.int .i64 5)), .copy), (5, (.c (.int .i64 8)), .copy), (6, (.c (.int .i64 10)), .copy)]),
      (none, .call (some 6) 4 true [((.v 4), true), ((.v 5), false)]),
      (none, .build 7 [(.int .i64 0), (.int .i64 0)] [(0, 1, (.v 6), .copy)]),
      (none, .new 3 (.agg [(.int .i64 0), (.int .i64 0)])),
      (none, .store 2 (.v 3) (.v 7) .copy)])
    (.seq
     (.region [(18, 3, false), (11, 3, false), (10, 0, false), (8, 3, false)] [] [0, 2, 3] true [
       (none, .fadr 8 0 1 (.v 3)),
       (none, .load 9 false 1 (.v 8) none),
       (none, .mv 10 (.v 0)),
       (none, .fadr 11 0 1 (.v 3)),
       (none, .load 12 false 1 (.v 11) none),
       (none, .bin 13 .quo (.c (.int .i64 1000)) (.v 12)),
       (none, .bin 14 .sub (.v 13) (.c (.int .i64 1))),
       (none, .call (some 15) 7 true [((.v 10), true), ((.v 14), false)]),
       (none, .bin 16 .add (.c (.int .i64 1)) (.v 15)),
       (none, .bin 17 .mul (.v 9) (.v 16)),
       (none, .fadr 18 1 1 (.v 3)),
       (none, .store 1 (.v 18) (.v 17) .copy)])
     (.seq
      (.seq
       (.region [(19, 0, false)] [] [0, 2, 3, 20] false [
         (none, .mv 19 (.v 0)),
         (none, .call (some 20) 7 true [((.v 19), true), ((.c (.int .i64 16)), false)])])
       (.block 0
        (.seq
         (.region [] [] [0, 2, 3, 20, 21] false [
           (none, .bin 22 .eql (.v 20) (.c (.int .i64 0))),
           (none, .asg 21 (.v 22) .copy)])
         (.cond (.v 21)
          (.region [(26, 3, false), (23, 0, false)] [] [0, 2, 3] false [
            (none, .mv 23 (.v 0)),
            (none, .mksl 24 1 (.int .i64 0) 6 [(0, (.c (.int .i64 (-1))), .copy), (1, (.c (.int .i64 0)), .copy), (2, (.c (.int .i64 3)), .copy), (3, (.c (.int .i64 12)), .copy), (4, (.c (.int .i64 13)), .copy), (5, (.c (.int .i64 (-9223372036854775808))), .copy)]),
            (none, .call (some 25) 4 true [((.v 23), true), ((.v 24), false)]),
            (none, .fadr 26 0 1 (.v 3)),
            (none, .store 1 (.v 26) (.v 25) .copy)])
          (.seq
           (.region [] [] [0, 2, 3, 27] false [
             (none, .bin 28 .eql (.v 20) (.c (.int .i64 1))),
             (none, .asg 27 (.v 28) .copy)])
           (.cond (.v 27)
            (.region [(32, 3, false), (29, 0, false)] [] [0, 2, 3] false [
              (none, .mv 29 (.v 0)),
              (none, .mksl 30 1 (.int .i64 0) 6 [(0, (.c (.int .i64 (-1))), .copy), (1, (.c (.int .i64 0)), .copy), (2, (.c (.int .i64 1)), .copy), (3, (.c (.int .i64 7)), .copy), (4, (.c (.int .i64 999)), .copy), (5, (.c (.int .i64 1000)), .copy)]),
              (none, .call (some 31) 4 true [((.v 29), true), ((.v 30), false)]),
              (none, .fadr 32 1 1 (.v 3)),
              (none, .store 1 (.v 32) (.v 31) .copy)])
            (.skip [0, 2, 3])))))))
      (.seq
       (.region [] [] [0, 2] false [
         (none, .load 33 true 2 (.v 3) none),
         (none, .store 2 (.v 2) (.v 33) .copy)])
       (.ret [0, 2]))))))⟩
def F6 : PFunc :=
 ⟨[true, false], [.tmp 4],
  (.seq
   (.region [] [] [0, 1] false [
     (none, .asg 4 (.c (.bool false)) .copy)])
   (.seq
    (.region [(5, 0, false)] [] [0, 4] false [
      (none, .mv 5 (.v 0)),
      (none, .mv 6 (.v 1)),
      (none, .call (some 7) 7 true [((.v 5), true), ((.v 6), false)]),
      (none, .bin 8 .eql (.v 7) (.c (.int .i64 0))),
      (none, .asg 4 (.v 8) .copy)])
    (.ret [0, 4])))⟩
def F666 : PFunc :=
 ⟨[true], [.tmp 2],
  (.seq
   (.region [] [] [0] false [
     (none, .asg 2 (.c (.int .i64 0)) .copy)])
   (.seq
    (.seq
     (.region [(3, 0, false)] [] [0, 4] false [
       (none, .mv 3 (.v 0)),
       (none, .call (some 4) 6 true [((.v 3), true), ((.c (.int .i64 10)), false)])])
     (.cond (.v 4)
      (.seq
       (.region [(5, 0, false)] [] [0, 2] false [
         (none, .mv 5 (.v 0)),
         (none, .mksl 6 1 (.int .i64 0) 5 [(0, (.c (.int .i64 (-1))), .copy), (1, (.c (.int .i64 0)), .copy), (2, (.c (.int .i64 999)), .copy), (3, (.c (.int .i64 1000)), .copy), (4, (.c (.int .i64 1001)), .copy)]),
         (none, .call (some 7) 4 true [((.v 5), true), ((.v 6), false)]),
         (none, .asg 2 (.v 7) .copy)])
       (.ret [0, 2]))
      (.skip [0])))
    (.seq
     (.region [(8, 0, false)] [] [0, 2] false [
       (none, .mv 8 (.v 0)),
       (none, .call (some 9) 7 true [((.v 8), true), ((.c (.int .i64 1000)), false)]),
       (none, .asg 2 (.v 9) .copy)])
     (.ret [0, 2]))))⟩
def F477 : PFunc :=
 ⟨[false], [.cell 2 true 2, .tmp 3],
  (.seq
   (.region [] [] [0, 2] false [
     (none, .new 2 (.agg [(.int .i64 0), (.int .i64 0)])),
     (none, .asg 3 (.c (.int .i64 0)) .copy)])
   (.seq
    (.region [(6, 0, false)] [] [2, 4] false [
      (none, .mv 6 (.v 0)),
      (none, .call (some 7) 603 true [((.v 6), false)]),
      (none, .asg 4 (.v 7) .move)])
    (.seq
     (.region [(8, 4, false)] [] [2, 4, 5] false [
       (none, .mv 8 (.v 4)),
       (none, .call (some 9) 660 true [((.v 8), true)]),
       (none, .new 5 (.agg [(.int .i64 0), (.int .i64 0)])),
       (none, .store 2 (.v 5) (.v 9) .copy)])
     (.seq
      (.region [(11, 4, false)] [] [2, 3] true [
        (none, .load 10 true 2 (.v 5) none),
        (none, .mv 11 (.v 4)),
        (none, .call (some 12) 666 true [((.v 11), true)]),
        (none, .store 2 (.v 2) (.v 10) .copy),
        (none, .asg 3 (.v 12) .copy)])
      (.ret [2, 3])))))⟩
def F482 : PFunc :=
 ⟨[false], [.cell 2 true 2],
  (.seq
   (.region [] [] [0, 2] false [
     (none, .new 2 (.agg [(.int .i64 0), (.int .i64 0)]))])
   (.seq
    (.region [(3, 0, false)] [] [2] false [
      (none, .mv 3 (.v 0)),
      (none, .call (some 4) 603 true [((.v 3), false)]),
      (none, .call (some 5) 660 true [((.v 4), true)]),
      (none, .store 2 (.v 2) (.v 5) .copy)])
    (.ret [2])))⟩
def F604 : PFunc :=
 ⟨[false, false], [.tmp 4],
  (.seq
   (.region [] [] [0, 1] false [
     (none, .asg 4 (.c (.int .i64 0)) .copy)])
   (.seq
    (.block 0
     (.loop
      (.seq
       (.seq
        (.region [] [] [0, 1, 7] false [
          (none, .mv 6 (.v 1)),
          (none, .bin 7 .neq (.v 6) (.c (.int .i64 0)))])
        (.cond (.v 7)
         (.skip [0, 1])
         (.exit 0 [0])))
       (.block 1
        (.seq
         (.region [] [] [1, 5] false [
           (none, .mv 8 (.v 0)),
           (none, .mv 9 (.v 1)),
           (none, .bin 10 .rem (.v 8) (.v 9)),
           (none, .asg 5 (.v 10) .copy)])
         (.seq
          (.region [] [] [0, 5] false [
            (none, .mv 11 (.v 1)),
            (none, .asg 0 (.v 11) .copy)])
          (.region [] [] [0, 1] false [
            (none, .mv 12 (.v 5)),
            (none, .asg 1 (.v 12) .copy)])))))))
    (.seq
     (.region [] [] [4] false [
       (none, .mv 13 (.v 0)),
       (none, .asg 4 (.v 13) .copy)])
     (.ret [4]))))⟩
def F611 : PFunc :=
 ⟨[false], [.tmp 2],
  (.seq
   (.region [] [] [0] false [
     (none, .asg 2 (.c (.int .i64 0)) .copy)])
   (.seq
    (.seq
     (.region [] [] [0, 4] false [
       (none, .mv 3 (.v 0)),
       (none, .bin 4 .lss (.v 3) (.c (.int .i64 0)))])
     (.cond (.v 4)
      (.seq
       (.region [] [] [2] false [
         (none, .mv 5 (.v 0)),
         (none, .un 6 .neg (.v 5)),
         (none, .asg 2 (.v 6) .copy)])
       (.ret [2]))
      (.skip [0])))
    (.seq
     (.region [] [] [2] false [
       (none, .mv 7 (.v 0)),
       (none, .asg 2 (.v 7) .copy)])
     (.ret [2]))))⟩
def F616 : PFunc :=
 ⟨[false, false], [.cell 4 true 2],
  (.seq
   (.region [] [] [0, 1, 4] false [
     (none, .new 4 (.agg [(.int .i64 0), (.int .i64 0)]))])
   (.seq
    (.region [] [] [0, 1, 4, 5] false [
      (none, .mv 6 (.v 0)),
      (none, .call (some 7) 611 false [((.v 6), false)]),
      (none, .mv 8 (.v 1)),
      (none, .call (some 9) 604 false [((.v 7), false), ((.v 8), false)]),
      (none, .asg 5 (.v 9) .copy)])
    (.seq
     (.region [] [] [4] true [
       (none, .mv 10 (.v 0)),
       (none, .mv 11 (.v 5)),
       (none, .bin 12 .quo (.v 10) (.v 11)),
       (none, .mv 13 (.v 1)),
       (none, .mv 14 (.v 5)),
       (none, .bin 15 .quo (.v 13) (.v 14)),
       (none, .build 16 [(.int .i64 0), (.int .i64 0)] [(0, 1, (.v 12), .copy), (1, 1, (.v 15), .copy)]),
       (none, .store 2 (.v 4) (.v 16) .copy)])
     (.ret [4]))))⟩
def F615 : PFunc :=
 ⟨[true], [.cell 2 true 2],
  (.seq
   (.region [] [] [0, 2] false [
     (none, .new 2 (.agg [(.int .i64 0), (.int .i64 0)]))])
   (.seq
    (.region [(4, 0, false)] [] [0, 2, 3] false [
      (none, .mv 4 (.v 0)),
      (none, .call (some 5) 7 true [((.v 4), true), ((.c (.int .i64 60)), false)]),
      (none, .bin 6 .sub (.v 5) (.c (.int .i64 15))),
      (none, .asg 3 (.v 6) .copy)])
    (.seq
     (.region [(8, 0, false)] [] [0, 2] false [
       (none, .mv 7 (.v 3)),
       (none, .mv 8 (.v 0)),
       (none, .call (some 9) 7 true [((.v 8), true), ((.c (.int .i64 20)), false)]),
       (none, .bin 10 .add (.c (.int .i64 1)) (.v 9)),
       (none, .call (some 11) 616 false [((.v 7), false), ((.v 10), false)]),
       (none, .store 2 (.v 2) (.v 11) .copy)])
     (.ret [0, 2]))))⟩
def F614 : PFunc :=
 ⟨[true], [.cell 2 true 2],
  (.seq
   (.region [] [] [0, 2] false [
     (none, .new 2 (.agg [(.int .i64 0), (.int .i64 0)]))])
   (.seq
    (.region [(4, 0, false)] [] [0, 2, 3] false [
      (none, .mv 4 (.v 0)),
      (none, .call (some 5) 615 true [((.v 4), true)]),
      (none, .new 3 (.agg [(.int .i64 0), (.int .i64 0)])),
      (none, .store 2 (.v 3) (.v 5) .copy)])
    (.seq
     (.seq
      (.region [(6, 0, false)] [] [0, 2, 3, 7] false [
        (none, .mv 6 (.v 0)),
        (none, .call (some 7) 7 true [((.v 6), true), ((.c (.int .i64 20)), false)])])
      (.block 0
       (.seq
        (.region [] [] [0, 2, 3, 7, 8] false [
          (none, .bin 9 .eql (.v 7) (.c (.int .i64 0))),
          (none, .asg 8 (.v 9) .copy)])
        (.cond (.v 8)
         (.region [(13, 3, false), (10, 0, false)] [] [0, 2, 3] false [
           (none, .mv 10 (.v 0)),
           (none, .mksl 11 1 (.int .i64 0) 5 [(0, (.c (.int .i64 (-1))), .copy), (1, (.c (.int .i64 0)), .copy), (2, (.c (.int .i64 1)), .copy), (3, (.c (.int .i64 1000000)), .copy), (4, (.c (.int .i64 1000001)), .copy)]),
           (none, .call (some 12) 4 true [((.v 10), true), ((.v 11), false)]),
           (none, .fadr 13 1 1 (.v 3)),
           (none, .store 1 (.v 13) (.v 12) .copy)])
         (.seq
          (.region [] [] [0, 2, 3, 7, 14] false [
            (none, .bin 15 .eql (.v 7) (.c (.int .i64 1))),
            (none, .asg 14 (.v 15) .copy)])
          (.cond (.v 14)
           (.region [(19, 3, false), (16, 0, false)] [] [0, 2, 3] false [
             (none, .mv 16 (.v 0)),
             (none, .mksl 17 1 (.int .i64 0) 5 [(0, (.c (.int .i64 (-1000001))), .copy), (1, (.c (.int .i64 (-1000000))), .copy), (2, (.c (.int .i64 1000000)), .copy), (3, (.c (.int .i64 1000001)), .copy), (4, (.c (.int .i64 (-9223372036854775808))), .copy)]),
             (none, .call (some 18) 4 true [((.v 16), true), ((.v 17), false)]),
             (none, .fadr 19 0 1 (.v 3)),
             (none, .store 1 (.v 19) (.v 18) .copy)])
           (.seq
            (.region [] [] [0, 2, 3, 7, 20] false [
              (none, .bin 21 .eql (.v 7) (.c (.int .i64 2))),
              (none, .asg 20 (.v 21) .copy)])
            (.cond (.v 20)
             (.region [(22, 0, false)] [] [0, 2, 3] false [
               (none, .mv 22 (.v 0)),
               (none, .call (some 23) 7 true [((.v 22), true), ((.c (.int .i64 5)), false)]),
               (none, .bin 24 .mul (.c (.int .i64 2)) (.v 23)),
               (none, .build 25 [(.int .i64 0), (.int .i64 0)] [(0, 1, (.v 24), .copy), (1, 1, (.c (.int .i64 4)), .copy)]),
               (none, .store 2 (.v 3) (.v 25) .copy)])
             (.seq
              (.region [] [] [0, 2, 3, 26] false [
                (none, .bin 27 .eql (.v 7) (.c (.int .i64 3))),
                (none, .asg 26 (.v 27) .copy)])
              (.cond (.v 26)
               (.region [(28, 0, false)] [] [0, 2, 3] false [
                 (none, .mv 28 (.v 0)),
                 (none, .call (some 29) 7 true [((.v 28), true), ((.c (.int .i64 3)), false)]),
                 (none, .bin 30 .sub (.c (.int .i64 999983)) (.v 29)),
                 (none, .build 31 [(.int .i64 0), (.int .i64 0)] [(0, 1, (.v 30), .copy), (1, 1, (.c (.int .i64 1000000)), .copy)]),
                 (none, .store 2 (.v 3) (.v 31) .copy)])
               (.skip [0, 2, 3])))))))))))
     (.seq
      (.region [] [] [0, 2] false [
        (none, .load 32 true 2 (.v 3) none),
        (none, .store 2 (.v 2) (.v 32) .copy)])
      (.ret [0, 2])))))⟩
def F662 : PFunc :=
 ⟨[true], [.cell 2 true 2],
  (.seq
   (.region [] [] [0, 2] false [
     (none, .new 2 (.agg [(.int .i64 0), (.int .i64 0)]))])
   (.seq
    (.seq
     (.region [(3, 0, false)] [] [0, 2, 4] false [
       (none, .mv 3 (.v 0)),
       (none, .call (some 4) 7 true [((.v 3), true), ((.c (.int .i64 12)), false)])])
     (.block 0
      (.seq
       (.region [] [] [0, 2, 4, 5] false [
         (none, .bin 6 .eql (.v 4) (.c (.int .i64 0))),
         (none, .asg 5 (.v 6) .copy)])
       (.cond (.v 5)
        (.seq
         (.region [(7, 0, false)] [] [0, 2] false [
           (none, .mv 7 (.v 0)),
           (none, .call (some 8) 614 true [((.v 7), true)]),
           (none, .store 2 (.v 2) (.v 8) .copy)])
         (.ret [0, 2]))
        (.seq
         (.region [] [] [0, 2, 4, 9] false [
           (none, .bin 10 .eql (.v 4) (.c (.int .i64 1))),
           (none, .asg 9 (.v 10) .copy)])
         (.cond (.v 9)
          (.seq
           (.region [(11, 0, false)] [] [0, 2] false [
             (none, .mv 11 (.v 0)),
             (none, .mksl 12 1 (.int .i64 0) 5 [(0, (.c (.int .i64 (-1))), .copy), (1, (.c (.int .i64 1)), .copy), (2, (.c (.int .i64 999)), .copy), (3, (.c (.int .i64 1000)), .copy), (4, (.c (.int .i64 1001)), .copy)]),
             (none, .call (some 13) 4 true [((.v 11), true), ((.v 12), false)]),
             (none, .build 14 [(.int .i64 0), (.int .i64 0)] [(0, 1, (.v 13), .copy), (1, 1, (.c (.int .i64 1)), .copy)]),
             (none, .store 2 (.v 2) (.v 14) .copy)])
           (.ret [0, 2]))
          (.seq
           (.region [] [] [0, 2, 15] false [
             (none, .bin 16 .eql (.v 4) (.c (.int .i64 2))),
             (none, .asg 15 (.v 16) .copy)])
           (.cond (.v 15)
            (.seq
             (.region [(17, 0, false)] [] [0, 2] false [
               (none, .mv 17 (.v 0)),
               (none, .mksl 18 1 (.int .i64 0) 3 [(0, (.c (.int .i64 1)), .copy), (1, (.c (.int .i64 1000)), .copy), (2, (.c (.int .i64 1001)), .copy)]),
               (none, .call (some 19) 4 true [((.v 17), true), ((.v 18), false)]),
               (none, .build 20 [(.int .i64 0), (.int .i64 0)] [(0, 1, (.c (.int .i64 1)), .copy), (1, 1, (.v 19), .copy)]),
               (none, .store 2 (.v 2) (.v 20) .copy)])
             (.ret [0, 2]))
            (.skip [0, 2])))))))))
    (.seq
     (.region [(24, 0, false), (21, 0, false)] [] [0, 2] false [
       (none, .mv 21 (.v 0)),
       (none, .call (some 22) 7 true [((.v 21), true), ((.c (.int .i64 90)), false)]),
       (none, .bin 23 .add (.c (.int .i64 1)) (.v 22)),
       (none, .mv 24 (.v 0)),
       (none, .call (some 25) 7 true [((.v 24), true), ((.c (.int .i64 9)), false)]),
       (none, .bin 26 .add (.c (.int .i64 1)) (.v 25)),
       (none, .call (some 27) 616 false [((.v 23), false), ((.v 26), false)]),
       (none, .store 2 (.v 2) (.v 27) .copy)])
     (.ret [0, 2]))))⟩
def F668 : PFunc :=
 ⟨[false], [.cell 2 true 2, .cell 3 true 2],
  (.seq
   (.region [] [] [0, 2, 3] false [
     (none, .new 2 (.agg [(.int .i64 0), (.int .i64 0)])),
     (none, .new 3 (.agg [(.int .i64 0), (.int .i64 0)]))])
   (.seq
    (.region [(6, 0, false)] [] [2, 3, 4] false [
      (none, .mv 6 (.v 0)),
      (none, .call (some 7) 603 true [((.v 6), false)]),
      (none, .asg 4 (.v 7) .move)])
    (.seq
     (.region [(8, 4, false)] [] [2, 3, 4, 5] false [
       (none, .mv 8 (.v 4)),
       (none, .call (some 9) 660 true [((.v 8), true)]),
       (none, .new 5 (.agg [(.int .i64 0), (.int .i64 0)])),
       (none, .store 2 (.v 5) (.v 9) .copy)])
     (.seq
      (.region [(11, 4, false)] [] [2, 3] true [
        (none, .load 10 true 2 (.v 5) none),
        (none, .mv 11 (.v 4)),
        (none, .call (some 12) 662 true [((.v 11), true)]),
        (none, .store 2 (.v 2) (.v 10) .copy),
        (none, .store 2 (.v 3) (.v 12) .copy)])
      (.ret [2, 3])))))⟩
def F483 : PFunc :=
 ⟨[false], [.cell 2 true 2, .cell 3 true 2],
  (.seq
   (.region [] [] [0, 2, 3] false [
     (none, .new 2 (.agg [(.int .i64 0), (.int .i64 0)])),
     (none, .new 3 (.agg [(.int .i64 0), (.int .i64 0)]))])
   (.seq
    (.region [(4, 0, false)] [] [2, 3] false [
      (none, .mv 4 (.v 0)),
      (none, .call (some 5) 668 false [((.v 4), false)]),
      (none, .extp 6 (.v 5) 0),
      (none, .extp 7 (.v 5) 1),
      (none, .store 2 (.v 2) (.v 6) .copy),
      (none, .store 2 (.v 3) (.v 7) .copy)])
    (.ret [2, 3])))⟩
def F509 : PFunc :=
 ⟨[false], [.cell 2 true 2, .cell 3 true 2, .tmp 4],
  (.seq
   (.region [] [] [0, 2, 3] false [
     (none, .new 2 (.agg [(.int .i64 0), (.int .i64 0)])),
     (none, .new 3 (.agg [(.int .i64 0), (.int .i64 0)])),
     (none, .asg 4 (.c (.int .i64 0)) .copy)])
   (.seq
    (.region [(8, 0, false)] [] [2, 3, 5] false [
      (none, .mv 8 (.v 0)),
      (none, .call (some 9) 603 true [((.v 8), false)]),
      (none, .asg 5 (.v 9) .move)])
    (.seq
     (.region [(10, 5, false)] [] [2, 3, 5, 6] false [
       (none, .mv 10 (.v 5)),
       (none, .call (some 11) 660 true [((.v 10), true)]),
       (none, .new 6 (.agg [(.int .i64 0), (.int .i64 0)])),
       (none, .store 2 (.v 6) (.v 11) .copy)])
     (.seq
      (.region [(12, 5, false)] [] [2, 3, 5, 6, 7] false [
        (none, .mv 12 (.v 5)),
        (none, .call (some 13) 660 true [((.v 12), true)]),
        (none, .new 7 (.agg [(.int .i64 0), (.int .i64 0)])),
        (none, .store 2 (.v 7) (.v 13) .copy)])
      (.seq
       (.region [(16, 5, false)] [] [2, 3, 4] true [
         (none, .load 14 true 2 (.v 6) none),
         (none, .load 15 true 2 (.v 7) none),
         (none, .mv 16 (.v 5)),
         (none, .call (some 17) 666 true [((.v 16), true)]),
         (none, .store 2 (.v 2) (.v 14) .copy),
         (none, .store 2 (.v 3) (.v 15) .copy),
         (none, .asg 4 (.v 17) .copy)])
       (.ret [2, 3, 4]))))))⟩
def F605 : PFunc :=
 ⟨[false, false, false], [.tmp 6],
  (.seq
   (.region [] [] [0, 1, 2] false [
     (none, .asg 6 (.c (.bool false)) .copy)])
   (.seq
    (.region [] [] [6] false [
      (none, .mv 7 (.v 0)),
      (none, .mv 8 (.v 1)),
      (none, .bin 9 .geq (.v 7) (.v 8)),
      (none, .mv 10 (.v 9)),
      (some (10, true), .mv 11 (.v 0)),
      (some (10, true), .mv 12 (.v 2)),
      (some (10, true), .bin 13 .leq (.v 11) (.v 12)),
      (none, .pick 14 (.v 10) (.v 13) (.c (.bool false))),
      (none, .asg 6 (.v 14) .copy)])
    (.ret [6])))⟩
def F664 : PFunc :=
 ⟨[false], [.tmp 2],
  (.seq
   (.region [] [] [0] false [
     (none, .asg 2 (.c (.bool false)) .copy)])
   (.seq
    (.region [(30, 0, false), (29, 0, false), (28, 0, false), (22, 0, false), (21, 0, false), (20, 0, false), (18, 0, false), (17, 0, false), (16, 0, false), (11, 0, false), (10, 0, false), (9, 0, false), (5, 0, false), (4, 0, false), (3, 0, false)] [] [2] true [
      (none, .mv 3 (.v 0)),
      (none, .nchk 4 (.v 3)),
      (none, .fadr 5 0 1 (.v 4)),
      (none, .load 6 false 1 (.v 5) none),
      (none, .call (some 7) 605 false [((.v 6), false), ((.c (.int .i64 1)), false), ((.c (.int .i64 12)), false)]),
      (none, .mv 8 (.v 7)),
      (some (8, true), .mv 9 (.v 0)),
      (some (8, true), .nchk 10 (.v 9)),
      (some (8, true), .fadr 11 1 1 (.v 10)),
      (some (8, true), .load 12 false 1 (.v 11) none),
      (some (8, true), .call (some 13) 605 false [((.v 12), false), ((.c (.int .i64 1)), false), ((.c (.int .i64 999)), false)]),
      (none, .pick 14 (.v 8) (.v 13) (.c (.bool false))),
      (none, .mv 15 (.v 14)),
      (some (15, true), .mv 16 (.v 0)),
      (some (15, true), .nchk 17 (.v 16)),
      (some (15, true), .fadr 18 1 1 (.v 17)),
      (some (15, true), .load 19 false 1 (.v 18) none),
      (some (15, true), .mv 20 (.v 0)),
      (some (15, true), .nchk 21 (.v 20)),
      (some (15, true), .fadr 22 0 1 (.v 21)),
      (some (15, true), .load 23 false 1 (.v 22) none),
      (some (15, true), .bin 24 .rem (.v 19) (.v 23)),
      (some (15, true), .bin 25 .eql (.v 24) (.c (.int .i64 0))),
      (none, .pick 26 (.v 15) (.v 25) (.c (.bool false))),
      (none, .mv 27 (.v 26)),
      (some (27, true), .mv 28 (.v 0)),
      (some (27, true), .nchk 29 (.v 28)),
      (some (27, true), .fadr 30 0 1 (.v 29)),
      (some (27, true), .load 31 false 1 (.v 30) none),
      (some (27, true), .bin 32 .rem (.c (.int .i64 1000)) (.v 31)),
      (some (27, true), .bin 33 .eql (.v 32) (.c (.int .i64 0))),
      (none, .pick 34 (.v 27) (.v 33) (.c (.bool false))),
      (none, .asg 2 (.v 34) .copy)])
    (.ret [2])))⟩
def F665 : PFunc :=
 ⟨[false, false], [.tmp 4],
  (.seq
   (.region [] [] [0, 1] false [
     (none, .asg 4 (.c (.bool false)) .copy)])
   (.seq
    (.region [(8, 0, false), (7, 0, false), (6, 0, false)] [] [0, 1, 5] false [
      (none, .mv 6 (.v 0)),
      (none, .nchk 7 (.v 6)),
      (none, .fadr 8 0 1 (.v 7)),
      (none, .load 9 false 1 (.v 8) none),
      (none, .bin 10 .quo (.c (.int .i64 1000)) (.v 9)),
      (none, .asg 5 (.v 10) .copy)])
    (.seq
     (.region [(20, 0, false), (19, 0, false), (18, 0, false), (16, 0, false), (15, 0, false), (14, 0, false)] [] [4] true [
       (none, .mv 11 (.v 1)),
       (none, .mv 12 (.v 5)),
       (none, .bin 13 .rem (.v 11) (.v 12)),
       (none, .mv 14 (.v 0)),
       (none, .nchk 15 (.v 14)),
       (none, .fadr 16 1 1 (.v 15)),
       (none, .load 17 false 1 (.v 16) none),
       (none, .mv 18 (.v 0)),
       (none, .nchk 19 (.v 18)),
       (none, .fadr 20 0 1 (.v 19)),
       (none, .load 21 false 1 (.v 20) none),
       (none, .bin 22 .quo (.v 17) (.v 21)),
       (none, .bin 23 .lss (.v 13) (.v 22)),
       (none, .asg 4 (.v 23) .copy)])
     (.ret [4]))))⟩
def F534 : PFunc :=
 ⟨[false, false], [.tmp 4, .tmp 5],
  (.seq
   (.region [] [] [1, 2] false [
     (none, .box 2 (.v 0) .copy),
     (none, .asg 4 (.c (.bool false)) .copy),
     (none, .asg 5 (.c (.int .i64 0)) .copy)])
   (.seq
    (.seq
     (.region [] [] [1, 2, 7] false [
       (none, .call (some 6) 664 false [((.v 2), false)]),
       (none, .un 7 .not (.v 6))])
     (.cond (.v 7)
      (.seq
       (.region [] [] [4, 5] false [
         (none, .asg 4 (.c (.bool false)) .copy),
         (none, .asg 5 (.c (.int .i64 1)) .copy)])
       (.ret [4, 5]))
      (.skip [1, 2])))
    (.seq
     (.seq
      (.region [] [] [1, 2, 10] false [
        (none, .mv 8 (.v 1)),
        (none, .call (some 9) 605 false [((.v 8), false), ((.c (.int .i64 0)), false), ((.c (.int .i64 999)), false)]),
        (none, .un 10 .not (.v 9))])
      (.cond (.v 10)
       (.seq
        (.region [] [] [4, 5] false [
          (none, .asg 4 (.c (.bool false)) .copy),
          (none, .asg 5 (.c (.int .i64 2)) .copy)])
        (.ret [4, 5]))
       (.skip [1, 2])))
     (.seq
      (.region [] [] [4, 5] false [
        (none, .mv 11 (.v 1)),
        (none, .call (some 12) 665 false [((.v 2), false), ((.v 11), false)]),
        (none, .asg 4 (.v 12) .copy),
        (none, .asg 5 (.c (.int .i64 0)) .copy)])
      (.ret [4, 5])))))⟩
def F543 : PFunc :=
 ⟨[false], [.cell 2 true 2, .tmp 3],
  (.seq
   (.region [] [] [1, 2] false [
     (none, .box 1 (.v 0) .copy),
     (none, .new 2 (.agg [(.int .i64 0), (.int .i64 0)])),
     (none, .asg 3 (.c (.int .i64 0)) .copy)])
   (.seq
    (.seq
     (.region [] [] [1, 2, 5] false [
       (none, .call (some 4) 664 false [((.v 1), false)]),
       (none, .un 5 .not (.v 4))])
     (.cond (.v 5)
      (.seq
       (.region [] [] [2, 3] false [
         (none, .build 6 [(.int .i64 0), (.int .i64 0)] []),
         (none, .store 2 (.v 2) (.v 6) .copy),
         (none, .asg 3 (.c (.int .i64 1)) .copy)])
       (.ret [2, 3]))
      (.skip [1, 2])))
    (.seq
     (.region [(7, 1, false)] [] [2, 3] false [
       (none, .fadr 7 1 1 (.v 1)),
       (none, .load 8 false 1 (.v 7) none),
       (none, .call (some 9) 616 false [((.v 8), false), ((.c (.int .i64 1000)), false)]),
       (none, .store 2 (.v 2) (.v 9) .copy),
       (none, .asg 3 (.c (.int .i64 0)) .copy)])
     (.ret [2, 3]))))⟩
def F617 : PFunc :=
 ⟨[false], [.tmp 2],
  (.seq
   (.region [] [] [1] false [
     (none, .box 1 (.v 0) .copy),
     (none, .asg 2 (.c (.bool false)) .copy)])
   (.seq
    (.region [(15, 1, false), (12, 1, false), (7, 1, false), (3, 1, false)] [] [2] true [
      (none, .fadr 3 1 1 (.v 1)),
      (none, .load 4 false 1 (.v 3) none),
      (none, .call (some 5) 605 false [((.v 4), false), ((.c (.int .i64 1)), false), ((.c (.int .i64 1000000)), false)]),
      (none, .mv 6 (.v 5)),
      (some (6, true), .fadr 7 0 1 (.v 1)),
      (some (6, true), .load 8 false 1 (.v 7) none),
      (some (6, true), .call (some 9) 605 false [((.v 8), false), ((.c (.int .i64 (-1000000))), false), ((.c (.int .i64 1000000)), false)]),
      (none, .pick 10 (.v 6) (.v 9) (.c (.bool false))),
      (none, .mv 11 (.v 10)),
      (some (11, true), .fadr 12 0 1 (.v 1)),
      (some (11, true), .load 13 false 1 (.v 12) none),
      (some (11, true), .call (some 14) 611 false [((.v 13), false)]),
      (some (11, true), .fadr 15 1 1 (.v 1)),
      (some (11, true), .load 16 false 1 (.v 15) none),
      (some (11, true), .call (some 17) 604 false [((.v 14), false), ((.v 16), false)]),
      (some (11, true), .bin 18 .eql (.v 17) (.c (.int .i64 1))),
      (none, .pick 19 (.v 11) (.v 18) (.c (.bool false))),
      (none, .asg 2 (.v 19) .copy)])
    (.ret [2])))⟩
def F667 : PFunc :=
 ⟨[false], [.tmp 2],
  (.seq
   (.region [] [] [1] false [
     (none, .box 1 (.v 0) .copy),
     (none, .asg 2 (.c (.bool false)) .copy)])
   (.seq
    (.region [(11, 1, false), (6, 1, false)] [] [2] false [
      (none, .load 3 true 2 (.v 1) none),
      (none, .call (some 4) 617 false [((.v 3), false)]),
      (none, .mv 5 (.v 4)),
      (some (5, true), .fadr 6 0 1 (.v 1)),
      (some (5, true), .load 7 false 1 (.v 6) none),
      (some (5, true), .call (some 8) 605 false [((.v 7), false), ((.c (.int .i64 1)), false), ((.c (.int .i64 1000)), false)]),
      (none, .pick 9 (.v 5) (.v 8) (.c (.bool false))),
      (none, .mv 10 (.v 9)),
      (some (10, true), .fadr 11 1 1 (.v 1)),
      (some (10, true), .load 12 false 1 (.v 11) none),
      (some (10, true), .bin 13 .leq (.v 12) (.c (.int .i64 1000))),
      (none, .pick 14 (.v 10) (.v 13) (.c (.bool false))),
      (none, .asg 2 (.v 14) .copy)])
    (.ret [2])))⟩
def F659 : PFunc :=
 ⟨[false, false], [.tmp 4],
  (.seq
   (.region [] [] [0, 3] false [
     (none, .box 3 (.v 1) .copy),
     (none, .asg 4 (.c (.int .i64 0)) .copy)])
   (.seq
    (.seq
     (.region [(5, 0, false)] [] [3, 12] false [
       (none, .mv 5 (.v 0)),
       (none, .call (some 6) 664 false [((.v 5), false)]),
       (none, .un 7 .not (.v 6)),
       (none, .mv 8 (.v 7)),
       (some (8, false), .load 9 true 2 (.v 3) none),
       (some (8, false), .call (some 10) 617 false [((.v 9), false)]),
       (some (8, false), .un 11 .not (.v 10)),
       (none, .pick 12 (.v 8) (.c (.bool true)) (.v 11))])
     (.cond (.v 12)
      (.seq
       (.region [] [] [4] false [
         (none, .asg 4 (.c (.int .i64 1)) .copy)])
       (.ret [4]))
      (.skip [3])))
    (.seq
     (.seq
      (.region [] [] [15] false [
        (none, .load 13 true 2 (.v 3) none),
        (none, .call (some 14) 667 false [((.v 13), false)]),
        (none, .un 15 .not (.v 14))])
      (.cond (.v 15)
       (.seq
        (.region [] [] [4] false [
          (none, .asg 4 (.c (.int .i64 2)) .copy)])
        (.ret [4]))
       (.skip [])))
     (.seq
      (.region [] [] [4] false [
        (none, .asg 4 (.c (.int .i64 0)) .copy)])
      (.ret [4])))))⟩
def F545 : PFunc :=
 ⟨[false, false], [.cell 4 true 2, .tmp 5],
  (.seq
   (.region [] [] [2, 3, 4] false [
     (none, .box 2 (.v 0) .copy),
     (none, .box 3 (.v 1) .copy),
     (none, .new 4 (.agg [(.int .i64 0), (.int .i64 0)])),
     (none, .asg 5 (.c (.int .i64 0)) .copy)])
   (.seq
    (.region [] [] [2, 3, 4, 6] false [
      (none, .load 8 true 2 (.v 3) none),
      (none, .call (some 9) 659 false [((.v 2), false), ((.v 8), false)]),
      (none, .asg 6 (.v 9) .copy)])
    (.seq
     (.seq
      (.region [] [] [2, 3, 4, 6, 11] false [
        (none, .mv 10 (.v 6)),
        (none, .bin 11 .neq (.v 10) (.c (.int .i64 0)))])
      (.cond (.v 11)
       (.seq
        (.region [] [] [4, 5] false [
          (none, .build 12 [(.int .i64 0), (.int .i64 0)] []),
          (none, .mv 13 (.v 6)),
          (none, .store 2 (.v 4) (.v 12) .copy),
          (none, .asg 5 (.v 13) .copy)])
        (.ret [4, 5]))
       (.skip [2, 3, 4])))
     (.seq
      (.region [(17, 2, false), (14, 2, false)] [] [3, 4, 7] false [
        (none, .fadr 14 1 1 (.v 2)),
        (none, .load 15 false 1 (.v 14) none),
        (none, .bin 16 .sub (.c (.int .i64 1000)) (.v 15)),
        (none, .fadr 17 0 1 (.v 2)),
        (none, .load 18 false 1 (.v 17) none),
        (none, .bin 19 .quo (.v 16) (.v 18)),
        (none, .asg 7 (.v 19) .copy)])
      (.seq
       (.region [(24, 3, false), (21, 3, false)] [] [4, 5] false [
         (none, .mv 20 (.v 7)),
         (none, .fadr 21 1 1 (.v 3)),
         (none, .load 22 false 1 (.v 21) none),
         (none, .bin 23 .mul (.v 20) (.v 22)),
         (none, .fadr 24 0 1 (.v 3)),
         (none, .load 25 false 1 (.v 24) none),
         (none, .bin 26 .mul (.c (.int .i64 1000)) (.v 25)),
         (none, .call (some 27) 616 false [((.v 23), false), ((.v 26), false)]),
         (none, .store 2 (.v 4) (.v 27) .copy),
         (none, .asg 5 (.c (.int .i64 0)) .copy)])
       (.ret [4, 5]))))))⟩
def F658 : PFunc :=
 ⟨[false, false, false], [.tmp 6],
  (.seq
   (.region [] [] [0, 1, 2] false [
     (none, .asg 6 (.c (.int .i64 0)) .copy)])
   (.seq
    (.region [] [] [0, 1, 2, 7] false [
      (none, .asg 7 (.c (.int .i64 0)) .copy)])
    (.seq
     (.seq
      (.region [] [] [0, 1, 2, 7, 8] false [
        (none, .asg 8 (.c (.int .i64 0)) .copy)])
      (.block 0
       (.loop
        (.seq
         (.seq
          (.region [] [] [0, 1, 2, 7, 8, 10] false [
            (none, .mv 9 (.v 8)),
            (none, .bin 10 .lss (.v 9) (.c (.int .i64 1000)))])
          (.cond (.v 10)
           (.skip [0, 1, 2, 7, 8])
           (.exit 0 [7])))
         (.seq
          (.block 1
           (.seq
            (.region [(17, 1, false), (13, 0, false)] [] [0, 1, 2, 7, 8, 22] false [
              (none, .mv 13 (.v 0)),
              (none, .mv 14 (.v 8)),
              (none, .call (some 15) 665 false [((.v 13), false), ((.v 14), false)]),
              (none, .mv 16 (.v 15)),
              (some (16, true), .mv 17 (.v 1)),
              (some (16, true), .mv 18 (.v 8)),
              (some (16, true), .mv 19 (.v 2)),
              (some (16, true), .bin 20 .add (.v 18) (.v 19)),
              (some (16, true), .call (some 21) 665 false [((.v 17), false), ((.v 20), false)]),
              (none, .pick 22 (.v 16) (.v 21) (.c (.bool false)))])
            (.cond (.v 22)
             (.region [] [] [0, 1, 2, 7, 8] false [
               (none, .mv 23 (.v 7)),
               (none, .bin 24 .add (.v 23) (.c (.int .i64 1))),
               (none, .asg 7 (.v 24) .copy)])
             (.skip [0, 1, 2, 7, 8]))))
          (.region [] [] [0, 1, 2, 7, 8] false [
            (none, .mv 11 (.v 8)),
            (none, .bin 12 .add (.v 11) (.c (.int .i64 1))),
            (none, .asg 8 (.v 12) .copy)]))))))
     (.seq
      (.region [] [] [6] false [
        (none, .mv 25 (.v 7)),
        (none, .asg 6 (.v 25) .copy)])
      (.ret [6])))))⟩
def F587 : PFunc :=
 ⟨[false, false, false], [.tmp 6, .tmp 7],
  (.seq
   (.region [] [] [2, 3, 4] false [
     (none, .box 3 (.v 0) .copy),
     (none, .box 4 (.v 1) .copy),
     (none, .asg 6 (.c (.int .i64 0)) .copy),
     (none, .asg 7 (.c (.int .i64 0)) .copy)])
   (.seq
    (.seq
     (.region [] [] [2, 3, 4, 13] false [
       (none, .call (some 8) 664 false [((.v 3), false)]),
       (none, .un 9 .not (.v 8)),
       (none, .mv 10 (.v 9)),
       (some (10, false), .call (some 11) 664 false [((.v 4), false)]),
       (some (10, false), .un 12 .not (.v 11)),
       (none, .pick 13 (.v 10) (.c (.bool true)) (.v 12))])
     (.cond (.v 13)
      (.seq
       (.region [] [] [6, 7] false [
         (none, .asg 6 (.c (.int .i64 0)) .copy),
         (none, .asg 7 (.c (.int .i64 1)) .copy)])
       (.ret [6, 7]))
      (.skip [2, 3, 4])))
    (.seq
     (.seq
      (.region [] [] [2, 3, 4, 16] false [
        (none, .mv 14 (.v 2)),
        (none, .call (some 15) 605 false [((.v 14), false), ((.c (.int .i64 0)), false), ((.c (.int .i64 999)), false)]),
        (none, .un 16 .not (.v 15))])
      (.cond (.v 16)
       (.seq
        (.region [] [] [6, 7] false [
          (none, .asg 6 (.c (.int .i64 0)) .copy),
          (none, .asg 7 (.c (.int .i64 2)) .copy)])
        (.ret [6, 7]))
       (.skip [2, 3, 4])))
     (.seq
      (.region [] [] [6, 7] false [
        (none, .mv 17 (.v 2)),
        (none, .call (some 18) 658 false [((.v 3), false), ((.v 4), false), ((.v 17), false)]),
        (none, .asg 6 (.v 18) .copy),
        (none, .asg 7 (.c (.int .i64 0)) .copy)])
      (.ret [6, 7])))))⟩
def F383 : PFunc :=
 ⟨[false], [.tmp 2],
  (.seq
   (.region [] [] [0] false [
     (none, .asg 2 (.c (.bool false)) .copy)])
   (.seq
    (.seq
     (.region [(29, 0, false)] [] [0, 30] false [
       (none, .mv 29 (.v 0)),
       (none, .call (some 30) 398 false [((.v 29), false)])])
     (.cond (.v 30)
      (.seq
       (.region [] [] [2] false [
         (none, .asg 2 (.c (.bool true)) .copy)])
       (.ret [2]))
      (.skip [0])))
    (.seq
     (.region [(32, 0, false)] [] [0, 3, 4, 5] false [
       (none, .mv 32 (.v 0)),
       (none, .call (some 33) 509 false [((.v 32), false)]),
       (none, .asg 31 (.v 33) .copy),
       (none, .extp 34 (.v 31) 0),
       (none, .extp 35 (.v 31) 1),
       (none, .extp 36 (.v 31) 2),
       (none, .new 3 (.agg [(.int .i64 0), (.int .i64 0)])),
       (none, .new 4 (.agg [(.int .i64 0), (.int .i64 0)])),
       (none, .store 2 (.v 3) (.v 34) .copy),
       (none, .store 2 (.v 4) (.v 35) .copy),
       (none, .asg 5 (.v 36) .copy)])
     (.seq
      (.region [] [] [0, 3, 4, 5, 6, 7] false [
        (none, .load 38 true 2 (.v 3) none),
        (none, .load 39 true 2 (.v 4) none),
        (none, .mv 40 (.v 5)),
        (none, .call (some 41) 204 false [((.v 38), false), ((.v 39), false), ((.v 40), false)]),
        (none, .asg 37 (.v 41) .copy),
        (none, .extp 42 (.v 37) 0),
        (none, .extp 43 (.v 37) 1),
        (none, .asg 6 (.v 42) .copy),
        (none, .asg 7 (.v 43) .copy)])
      (.seq
       (.region [] [] [0, 3, 4, 6, 7, 8, 9] false [
         (none, .load 45 true 2 (.v 3) none),
         (none, .load 46 true 2 (.v 4) none),
         (none, .mv 47 (.v 5)),
         (none, .call (some 48) 587 false [((.v 45), false), ((.v 46), false), ((.v 47), false)]),
         (none, .asg 44 (.v 48) .copy),
         (none, .extp 49 (.v 44) 0),
         (none, .extp 50 (.v 44) 1),
         (none, .asg 8 (.v 49) .copy),
         (none, .asg 9 (.v 50) .copy)])
       (.seq
        (.region [(51, 0, false)] [] [0, 3, 4, 6, 7, 8, 9, 10] false [
          (none, .mv 51 (.v 0)),
          (none, .call (some 52) 482 false [((.v 51), false)]),
          (none, .new 10 (.agg [(.int .i64 0), (.int .i64 0)])),
          (none, .store 2 (.v 10) (.v 52) .copy)])
        (.seq
         (.region [] [] [0, 3, 4, 6, 7, 8, 9, 10, 11, 12] false [
           (none, .load 54 true 2 (.v 10) none),
           (none, .call (some 55) 134 false [((.v 54), false)]),
           (none, .asg 53 (.v 55) .copy),
           (none, .extp 56 (.v 53) 0),
           (none, .extp 57 (.v 53) 1),
           (none, .new 11 (.agg [(.int .i64 0), (.int .i64 0)])),
           (none, .store 2 (.v 11) (.v 56) .copy),
           (none, .asg 12 (.v 57) .copy)])
         (.seq
          (.region [] [] [0, 3, 4, 6, 7, 8, 9, 10, 11, 12, 13, 14] false [
            (none, .load 59 true 2 (.v 10) none),
            (none, .call (some 60) 543 false [((.v 59), false)]),
            (none, .asg 58 (.v 60) .copy),
            (none, .extp 61 (.v 58) 0),
            (none, .extp 62 (.v 58) 1),
            (none, .new 13 (.agg [(.int .i64 0), (.int .i64 0)])),
            (none, .store 2 (.v 13) (.v 61) .copy),
            (none, .asg 14 (.v 62) .copy)])
          (.seq
           (.region [(64, 0, false)] [] [0, 3, 4, 6, 7, 8, 9, 10, 11, 12, 13, 14, 15, 16] false [
             (none, .mv 64 (.v 0)),
             (none, .call (some 65) 483 false [((.v 64), false)]),
             (none, .asg 63 (.v 65) .copy),
             (none, .extp 66 (.v 63) 0),
             (none, .extp 67 (.v 63) 1),
             (none, .new 15 (.agg [(.int .i64 0), (.int .i64 0)])),
             (none, .new 16 (.agg [(.int .i64 0), (.int .i64 0)])),
             (none, .store 2 (.v 15) (.v 66) .copy),
             (none, .store 2 (.v 16) (.v 67) .copy)])
           (.seq
            (.region [] [] [0, 3, 4, 6, 7, 8, 9, 10, 11, 12, 13, 14, 15, 16, 17, 18] false [
              (none, .load 69 true 2 (.v 15) none),
              (none, .load 70 true 2 (.v 16) none),
              (none, .call (some 71) 140 false [((.v 69), false), ((.v 70), false)]),
              (none, .asg 68 (.v 71) .copy),
              (none, .extp 72 (.v 68) 0),
              (none, .extp 73 (.v 68) 1),
              (none, .new 17 (.agg [(.int .i64 0), (.int .i64 0)])),
              (none, .store 2 (.v 17) (.v 72) .copy),
              (none, .asg 18 (.v 73) .copy)])
            (.seq
             (.region [] [] [0, 3, 4, 6, 7, 8, 9, 10, 11, 12, 13, 14, 17, 18, 19, 20] false [
               (none, .load 75 true 2 (.v 15) none),
               (none, .load 76 true 2 (.v 16) none),
               (none, .call (some 77) 545 false [((.v 75), false), ((.v 76), false)]),
               (none, .asg 74 (.v 77) .copy),
               (none, .extp 78 (.v 74) 0),
               (none, .extp 79 (.v 74) 1),
               (none, .new 19 (.agg [(.int .i64 0), (.int .i64 0)])),
               (none, .store 2 (.v 19) (.v 78) .copy),
               (none, .asg 20 (.v 79) .copy)])
             (.seq
              (.region [(81, 0, false)] [] [3, 4, 6, 7, 8, 9, 10, 11, 12, 13, 14, 17, 18, 19, 20, 21, 22] false [
                (none, .mv 81 (.v 0)),
                (none, .call (some 82) 477 false [((.v 81), false)]),
                (none, .asg 80 (.v 82) .copy),
                (none, .extp 83 (.v 80) 0),
                (none, .extp 84 (.v 80) 1),
                (none, .new 21 (.agg [(.int .i64 0), (.int .i64 0)])),
                (none, .store 2 (.v 21) (.v 83) .copy),
                (none, .asg 22 (.v 84) .copy)])
              (.seq
               (.region [] [] [3, 4, 6, 7, 8, 9, 10, 11, 12, 13, 14, 17, 18, 19, 20, 21, 22, 23, 24] false [
                 (none, .load 86 true 2 (.v 21) none),
                 (none, .mv 87 (.v 22)),
                 (none, .call (some 88) 117 false [((.v 86), false), ((.v 87), false)]),
                 (none, .asg 85 (.v 88) .copy),
                 (none, .extp 89 (.v 85) 0),
                 (none, .extp 90 (.v 85) 1),
                 (none, .asg 23 (.v 89) .copy),
                 (none, .asg 24 (.v 90) .copy)])
               (.seq
                (.region [] [] [3, 4, 6, 7, 8, 9, 10, 11, 12, 13, 14, 17, 18, 19, 20, 23, 24, 25, 26] false [
                  (none, .load 92 true 2 (.v 21) none),
                  (none, .mv 93 (.v 22)),
                  (none, .call (some 94) 534 false [((.v 92), false), ((.v 93), false)]),
                  (none, .asg 91 (.v 94) .copy),
                  (none, .extp 95 (.v 91) 0),
                  (none, .extp 96 (.v 91) 1),
                  (none, .asg 25 (.v 95) .copy),
                  (none, .asg 26 (.v 96) .copy)])
                (.seq
                 (.seq
                  (.region [] [] [3, 4, 7, 8, 10, 12, 13, 18, 19, 134] false [
                    (none, .mv 97 (.v 7)),
                    (none, .mv 98 (.v 9)),
                    (none, .bin 99 .neq (.v 97) (.v 98)),
                    (none, .mv 100 (.v 99)),
                    (some (100, false), .mv 101 (.v 6)),
                    (some (100, false), .mv 102 (.v 8)),
                    (some (100, false), .bin 103 .neq (.v 101) (.v 102)),
                    (none, .pick 104 (.v 100) (.c (.bool true)) (.v 103)),
                    (none, .mv 105 (.v 104)),
                    (some (105, false), .mv 106 (.v 12)),
                    (some (105, false), .mv 107 (.v 14)),
                    (some (105, false), .bin 108 .neq (.v 106) (.v 107)),
                    (none, .pick 109 (.v 105) (.c (.bool true)) (.v 108)),
                    (none, .mv 110 (.v 109)),
                    (some (110, false), .load 111 true 2 (.v 11) none),
                    (some (110, false), .load 112 true 2 (.v 13) none),
                    (some (110, false), .eqv 113 true [.i, .i] (.v 111) (.v 112)),
                    (none, .pick 114 (.v 110) (.c (.bool true)) (.v 113)),
                    (none, .mv 115 (.v 114)),
                    (some (115, false), .mv 116 (.v 18)),
                    (some (115, false), .mv 117 (.v 20)),
                    (some (115, false), .bin 118 .neq (.v 116) (.v 117)),
                    (none, .pick 119 (.v 115) (.c (.bool true)) (.v 118)),
                    (none, .mv 120 (.v 119)),
                    (some (120, false), .load 121 true 2 (.v 17) none),
                    (some (120, false), .load 122 true 2 (.v 19) none),
                    (some (120, false), .eqv 123 true [.i, .i] (.v 121) (.v 122)),
                    (none, .pick 124 (.v 120) (.c (.bool true)) (.v 123)),
                    (none, .mv 125 (.v 124)),
                    (some (125, false), .mv 126 (.v 24)),
                    (some (125, false), .mv 127 (.v 26)),
                    (some (125, false), .bin 128 .neq (.v 126) (.v 127)),
                    (none, .pick 129 (.v 125) (.c (.bool true)) (.v 128)),
                    (none, .mv 130 (.v 129)),
                    (some (130, false), .mv 131 (.v 23)),
                    (some (130, false), .mv 132 (.v 25)),
                    (some (130, false), .eqb 133 true (.v 131) (.v 132)),
                    (none, .pick 134 (.v 130) (.c (.bool true)) (.v 133))])
                  (.cond (.v 134)
                   (.seq
                    (.region [] [] [2] false [
                      (none, .asg 2 (.c (.bool false)) .copy)])
                    (.ret [2]))
                   (.skip [3, 4, 7, 8, 10, 12, 13, 18, 19])))
                 (.seq
                  (.seq
                   (.region [] [] [3, 4, 7, 8, 10, 13, 18, 19, 136] false [
                     (none, .mv 135 (.v 12)),
                     (none, .bin 136 .eql (.v 135) (.c (.int .i64 0)))])
                   (.cond (.v 136)
                    (.seq
                     (.region [] [] [3, 4, 7, 8, 10, 13, 18, 19, 27, 28] false [
                       (none, .load 138 true 2 (.v 10) none),
                       (none, .call (some 139) 158 false [((.v 138), false), ((.c (.int .i64 0)), false), ((.c (.int .i64 1000)), false)]),
                       (none, .asg 137 (.v 139) .copy),
                       (none, .extp 140 (.v 137) 0),
                       (none, .extp 141 (.v 137) 1),
                       (none, .asg 27 (.v 140) .copy),
                       (none, .asg 28 (.v 141) .copy)])
                     (.seq
                      (.region [(155, 13, false), (151, 13, false), (146, 10, false)] [] [3, 4, 7, 8, 18, 19, 159] false [
                        (none, .mv 142 (.v 28)),
                        (none, .bin 143 .neq (.v 142) (.c (.int .i64 0))),
                        (none, .mv 144 (.v 143)),
                        (some (144, false), .mv 145 (.v 27)),
                        (some (144, false), .fadr 146 1 1 (.v 10)),
                        (some (144, false), .load 147 false 1 (.v 146) none),
                        (some (144, false), .bin 148 .neq (.v 145) (.v 147)),
                        (none, .pick 149 (.v 144) (.c (.bool true)) (.v 148)),
                        (none, .mv 150 (.v 149)),
                        (some (150, false), .fadr 151 0 1 (.v 13)),
                        (some (150, false), .load 152 false 1 (.v 151) none),
                        (some (150, false), .bin 153 .mul (.v 152) (.c (.int .i64 1000))),
                        (some (150, false), .mv 154 (.v 27)),
                        (some (150, false), .fadr 155 1 1 (.v 13)),
                        (some (150, false), .load 156 false 1 (.v 155) none),
                        (some (150, false), .bin 157 .mul (.v 154) (.v 156)),
                        (some (150, false), .bin 158 .neq (.v 153) (.v 157)),
                        (none, .pick 159 (.v 150) (.c (.bool true)) (.v 158))])
                      (.cond (.v 159)
                       (.seq
                        (.region [] [] [2] false [
                          (none, .asg 2 (.c (.bool false)) .copy)])
                        (.ret [2]))
                       (.skip [3, 4, 7, 8, 18, 19]))))
                    (.skip [3, 4, 7, 8, 18, 19])))
                  (.seq
                   (.seq
                    (.region [(163, 19, false)] [] [3, 4, 7, 8, 166] false [
                      (none, .mv 160 (.v 18)),
                      (none, .bin 161 .eql (.v 160) (.c (.int .i64 0))),
                      (none, .mv 162 (.v 161)),
                      (some (162, true), .fadr 163 0 1 (.v 19)),
                      (some (162, true), .load 164 false 1 (.v 163) none),
                      (some (162, true), .bin 165 .lss (.v 164) (.c (.int .i64 0))),
                      (none, .pick 166 (.v 162) (.v 165) (.c (.bool false)))])
                    (.cond (.v 166)
                     (.seq
                      (.region [] [] [2] false [
                        (none, .asg 2 (.c (.bool false)) .copy)])
                      (.ret [2]))
                     (.skip [3, 4, 7, 8])))
                   (.seq
                    (.seq
                     (.region [] [] [3, 4, 8, 168] false [
                       (none, .mv 167 (.v 7)),
                       (none, .bin 168 .neq (.v 167) (.c (.int .i64 0)))])
                     (.cond (.v 168)
                      (.seq
                       (.region [] [] [2] false [
                         (none, .asg 2 (.c (.bool true)) .copy)])
                       (.ret [2]))
                      (.skip [3, 4, 8])))
                    (.seq
                     (.region [(184, 4, false), (182, 3, false), (175, 4, false), (173, 3, false)] [] [2] false [
                       (none, .mv 169 (.v 8)),
                       (none, .bin 170 .geq (.v 169) (.c (.int .i64 0))),
                       (none, .mv 171 (.v 170)),
                       (some (171, true), .mv 172 (.v 8)),
                       (some (171, true), .fadr 173 1 1 (.v 3)),
                       (some (171, true), .load 174 false 1 (.v 173) none),
                       (some (171, true), .fadr 175 1 1 (.v 4)),
                       (some (171, true), .load 176 false 1 (.v 175) none),
                       (some (171, true), .mm 177 false (.v 174) [(.v 176)]),
                       (some (171, true), .bin 178 .leq (.v 172) (.v 177)),
                       (none, .pick 179 (.v 171) (.v 178) (.c (.bool false))),
                       (none, .mv 180 (.v 179)),
                       (some (180, true), .mv 181 (.v 8)),
                       (some (180, true), .fadr 182 1 1 (.v 3)),
                       (some (180, true), .load 183 false 1 (.v 182) none),
                       (some (180, true), .fadr 184 1 1 (.v 4)),
                       (some (180, true), .load 185 false 1 (.v 184) none),
                       (some (180, true), .bin 186 .add (.v 183) (.v 185)),
                       (some (180, true), .bin 187 .sub (.v 186) (.c (.int .i64 1000))),
                       (some (180, true), .bin 188 .geq (.v 181) (.v 187)),
                       (none, .pick 189 (.v 180) (.v 188) (.c (.bool false))),
                       (none, .asg 2 (.v 189) .copy)])
                     (.ret [2]))))))))))))))))))))⟩
def tabl : List (Nat × PFunc) := [(17, F17), (326, F326), (206, F206), (117, F117), (269, F269), (292, F292), (134, F134), (213, F213), (278, F278), (298, F298), (140, F140), (158, F158), (253, F253), (204, F204), (398, F398), (603, F603), (5, F5), (7, F7), (4, F4), (660, F660), (6, F6), (666, F666), (477, F477), (482, F482), (604, F604), (611, F611), (616, F616), (615, F615), (614, F614), (662, F662), (668, F668), (483, F483), (509, F509), (605, F605), (664, F664), (665, F665), (534, F534), (543, F543), (617, F617), (667, F667), (659, F659), (545, F545), (658, F658), (587, F587), (383, F383)]
def T : Nat → Option PFunc := tabOf tabl
end Go.Vs.G
