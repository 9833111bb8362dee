/- The functions that the law reaches, in the small language, printed by program. No conditions. -/
import Derived.Test.YtcodbjmlhojbkaaDLRates
import Derived.Test.YtcodbjmlhojbkaaV4
set_option maxRecDepth 100000
open Go Go.Vs
namespace Go.Vs.G
def F269 : PFunc :=
 ⟨[false, false], [.tmp 4],
  (.seq
   (.region [] [] [0, 1] false [
     (none, .asg 4 (.c (.int .i64 0)) .copy)])
   (.seq
    (.block 0
     (.loop
      (.seq
       (.seq
        (.region [] [] [0, 1, 6] false [
          (none, .mv 5 (.v 1)),
          (none, .bin 6 .neq (.v 5) (.c (.int .i64 0)))])
        (.cond (.v 6)
         (.skip [0, 1])
         (.exit 0 [0])))
       (.block 1
        (.region [] [] [0, 1] true [
          (none, .mv 7 (.v 1)),
          (none, .mv 8 (.v 0)),
          (none, .mv 9 (.v 1)),
          (none, .bin 10 .rem (.v 8) (.v 9)),
          (none, .asg 0 (.v 7) .copy),
          (none, .asg 1 (.v 10) .copy)])))))
    (.seq
     (.region [] [] [4] false [
       (none, .mv 11 (.v 0)),
       (none, .mv 12 (.v 0)),
       (none, .un 13 .neg (.v 12)),
       (none, .mm 14 true (.v 11) [(.v 13)]),
       (none, .asg 4 (.v 14) .copy)])
     (.ret [4]))))⟩
def F326 : PFunc :=
 ⟨[false, false, false], [.tmp 6],
  (.seq
   (.region [] [] [0, 1, 2] false [
     (none, .asg 6 (.c (.bool false)) .copy)])
   (.seq
    (.region [] [] [6] false [
      (none, .mv 7 (.v 0)),
      (none, .mv 8 (.v 1)),
      (none, .bin 9 .geq (.v 7) (.v 8)),
      (none, .mv 10 (.v 9)),
      (some (10, true), .mv 11 (.v 0)),
      (some (10, true), .mv 12 (.v 2)),
      (some (10, true), .bin 13 .leq (.v 11) (.v 12)),
      (none, .pick 14 (.v 10) (.v 13) (.c (.bool false))),
      (none, .asg 6 (.v 14) .copy)])
    (.ret [6])))⟩
def F213 : PFunc :=
 ⟨[false], [.tmp 2],
  (.seq
   (.region [] [] [1] false [
     (none, .box 1 (.v 0) .copy),
     (none, .asg 2 (.c (.bool false)) .copy)])
   (.seq
    (.region [(14, 1, false), (12, 1, false), (7, 1, false), (3, 1, false)] [] [2] false [
      (none, .fadr 3 1 1 (.v 1)),
      (none, .load 4 false 1 (.v 3) none),
      (none, .call (some 5) 326 false [((.v 4), false), ((.c (.int .i64 1)), false), ((.c (.int .i64 1000000)), false)]),
      (none, .mv 6 (.v 5)),
      (some (6, true), .fadr 7 0 1 (.v 1)),
      (some (6, true), .load 8 false 1 (.v 7) none),
      (some (6, true), .call (some 9) 326 false [((.v 8), false), ((.c (.int .i64 (-1000000))), false), ((.c (.int .i64 1000000)), false)]),
      (none, .pick 10 (.v 6) (.v 9) (.c (.bool false))),
      (none, .mv 11 (.v 10)),
      (some (11, true), .fadr 12 0 1 (.v 1)),
      (some (11, true), .load 13 false 1 (.v 12) none),
      (some (11, true), .fadr 14 1 1 (.v 1)),
      (some (11, true), .load 15 false 1 (.v 14) none),
      (some (11, true), .call (some 16) 269 false [((.v 13), false), ((.v 15), false)]),
      (some (11, true), .bin 17 .eql (.v 16) (.c (.int .i64 1))),
      (none, .pick 18 (.v 11) (.v 17) (.c (.bool false))),
      (none, .asg 2 (.v 18) .copy)])
    (.ret [2])))⟩
def F257 : PFunc :=
 ⟨[false], [.cell 2 true 2, .tmp 3],
  (.seq
   (.region [] [] [1, 2] false [
     (none, .box 1 (.v 0) .copy),
     (none, .new 2 (.agg [(.int .i64 0), (.int .i64 0)])),
     (none, .asg 3 (.c (.int .i64 0)) .copy)])
   (.seq
    (.seq
     (.region [] [] [1, 2, 6] false [
       (none, .load 4 true 2 (.v 1) none),
       (none, .call (some 5) 213 false [((.v 4), false)]),
       (none, .un 6 .not (.v 5))])
     (.cond (.v 6)
      (.seq
       (.region [] [] [2, 3] false [
         (none, .build 7 [(.int .i64 0), (.int .i64 0)] []),
         (none, .store 2 (.v 2) (.v 7) .copy),
         (none, .asg 3 (.c (.int .i64 5)) .copy)])
       (.ret [2, 3]))
      (.skip [1, 2])))
    (.seq
     (.region [] [] [2, 3] false [
       (none, .load 8 true 2 (.v 1) none),
       (none, .store 2 (.v 2) (.v 8) .copy),
       (none, .asg 3 (.c (.int .i64 0)) .copy)])
     (.ret [2, 3]))))⟩
def F292 : PFunc :=
 ⟨[false, false], [.cell 4 true 2],
  (.seq
   (.region [] [] [0, 1, 4] false [
     (none, .new 4 (.agg [(.int .i64 0), (.int .i64 0)]))])
   (.seq
    (.seq
     (.region [] [] [0, 1, 4, 7] false [
       (none, .mv 6 (.v 1)),
       (none, .bin 7 .lss (.v 6) (.c (.int .i64 0)))])
     (.cond (.v 7)
      (.region [] [] [0, 1, 4] false [
        (none, .mv 8 (.v 0)),
        (none, .un 9 .neg (.v 8)),
        (none, .mv 10 (.v 1)),
        (none, .un 11 .neg (.v 10)),
        (none, .asg 0 (.v 9) .copy),
        (none, .asg 1 (.v 11) .copy)])
      (.skip [0, 1, 4])))
    (.seq
     (.region [] [] [0, 1, 4, 5] false [
       (none, .mv 12 (.v 0)),
       (none, .mv 13 (.v 1)),
       (none, .call (some 14) 269 false [((.v 12), false), ((.v 13), false)]),
       (none, .asg 5 (.v 14) .copy)])
     (.seq
      (.region [] [] [4] true [
        (none, .mv 15 (.v 0)),
        (none, .mv 16 (.v 5)),
        (none, .bin 17 .quo (.v 15) (.v 16)),
        (none, .mv 18 (.v 1)),
        (none, .mv 19 (.v 5)),
        (none, .bin 20 .quo (.v 18) (.v 19)),
        (none, .build 21 [(.int .i64 0), (.int .i64 0)] [(0, 1, (.v 17), .copy), (1, 1, (.v 20), .copy)]),
        (none, .store 2 (.v 4) (.v 21) .copy)])
      (.ret [4])))))⟩
def F67 : PFunc :=
 ⟨[false, false], [.cell 4 true 2, .tmp 5],
  (.seq
   (.region [] [] [2, 3, 4] false [
     (none, .box 2 (.v 0) .copy),
     (none, .box 3 (.v 1) .copy),
     (none, .new 4 (.agg [(.int .i64 0), (.int .i64 0)])),
     (none, .asg 5 (.c (.int .i64 0)) .copy)])
   (.seq
    (.block 0
     (.seq
      (.region [] [] [2, 3, 4, 6] false [
        (none, .load 7 true 2 (.v 2) none),
        (none, .call (some 8) 213 false [((.v 7), false)]),
        (none, .un 9 .not (.v 8)),
        (none, .mv 10 (.v 9)),
        (some (10, false), .load 11 true 2 (.v 3) none),
        (some (10, false), .call (some 12) 213 false [((.v 11), false)]),
        (some (10, false), .un 13 .not (.v 12)),
        (none, .pick 14 (.v 10) (.c (.bool true)) (.v 13)),
        (none, .asg 6 (.v 14) .copy)])
      (.cond (.v 6)
       (.seq
        (.region [] [] [4, 5] false [
          (none, .build 15 [(.int .i64 0), (.int .i64 0)] []),
          (none, .store 2 (.v 4) (.v 15) .copy),
          (none, .asg 5 (.c (.int .i64 1)) .copy)])
        (.ret [4, 5]))
       (.seq
        (.region [(21, 3, false), (17, 2, false)] [] [2, 3, 4, 16] false [
          (none, .fadr 17 0 1 (.v 2)),
          (none, .load 18 false 1 (.v 17) none),
          (none, .bin 19 .leq (.v 18) (.c (.int .i64 0))),
          (none, .mv 20 (.v 19)),
          (some (20, false), .fadr 21 0 1 (.v 3)),
          (some (20, false), .load 22 false 1 (.v 21) none),
          (some (20, false), .bin 23 .leq (.v 22) (.c (.int .i64 0))),
          (none, .pick 24 (.v 20) (.c (.bool true)) (.v 23)),
          (none, .asg 16 (.v 24) .copy)])
        (.cond (.v 16)
         (.seq
          (.region [] [] [4, 5] false [
            (none, .build 25 [(.int .i64 0), (.int .i64 0)] []),
            (none, .store 2 (.v 4) (.v 25) .copy),
            (none, .asg 5 (.c (.int .i64 6)) .copy)])
          (.ret [4, 5]))
         (.skip [2, 3, 4]))))))
    (.seq
     (.region [(39, 3, false), (37, 2, false), (34, 3, false), (30, 3, false), (28, 2, false), (26, 2, false)] [] [4, 5] true [
       (none, .fadr 26 1 1 (.v 2)),
       (none, .load 27 false 1 (.v 26) none),
       (none, .fadr 28 1 1 (.v 2)),
       (none, .load 29 false 1 (.v 28) none),
       (none, .fadr 30 1 1 (.v 3)),
       (none, .load 31 false 1 (.v 30) none),
       (none, .call (some 32) 269 false [((.v 29), false), ((.v 31), false)]),
       (none, .bin 33 .quo (.v 27) (.v 32)),
       (none, .fadr 34 1 1 (.v 3)),
       (none, .load 35 false 1 (.v 34) none),
       (none, .bin 36 .mul (.v 33) (.v 35)),
       (none, .fadr 37 0 1 (.v 2)),
       (none, .load 38 false 1 (.v 37) none),
       (none, .fadr 39 0 1 (.v 3)),
       (none, .load 40 false 1 (.v 39) none),
       (none, .call (some 41) 269 false [((.v 38), false), ((.v 40), false)]),
       (none, .call (some 42) 292 false [((.v 36), false), ((.v 41), false)]),
       (none, .call (some 43) 257 false [((.v 42), false)]),
       (none, .extp 44 (.v 43) 0),
       (none, .extp 45 (.v 43) 1),
       (none, .store 2 (.v 4) (.v 44) .copy),
       (none, .asg 5 (.v 45) .copy)])
     (.ret [4, 5]))))⟩
def F106 : PFunc :=
 ⟨[false, false, false], [.cell 6 true 2, .tmp 7],
  (.seq
   (.region [] [] [1, 2, 3, 6] false [
     (none, .box 3 (.v 0) .copy),
     (none, .new 6 (.agg [(.int .i64 0), (.int .i64 0)])),
     (none, .asg 7 (.c (.int .i64 0)) .copy)])
   (.seq
    (.block 0
     (.seq
      (.region [] [] [1, 2, 3, 6, 8] false [
        (none, .load 9 true 2 (.v 3) none),
        (none, .call (some 10) 213 false [((.v 9), false)]),
        (none, .un 11 .not (.v 10)),
        (none, .asg 8 (.v 11) .copy)])
      (.cond (.v 8)
       (.seq
        (.region [] [] [6, 7] false [
          (none, .build 12 [(.int .i64 0), (.int .i64 0)] []),
          (none, .store 2 (.v 6) (.v 12) .copy),
          (none, .asg 7 (.c (.int .i64 1)) .copy)])
        (.ret [6, 7]))
       (.seq
        (.region [] [] [1, 2, 3, 6, 13] false [
          (none, .mv 14 (.v 1)),
          (none, .call (some 15) 326 false [((.v 14), false), ((.c (.int .i64 1)), false), ((.c (.int .i64 1000)), false)]),
          (none, .un 16 .not (.v 15)),
          (none, .mv 17 (.v 16)),
          (some (17, false), .mv 18 (.v 2)),
          (some (17, false), .call (some 19) 326 false [((.v 18), false), ((.c (.int .i64 1)), false), ((.c (.int .i64 1000)), false)]),
          (some (17, false), .un 20 .not (.v 19)),
          (none, .pick 21 (.v 17) (.c (.bool true)) (.v 20)),
          (none, .asg 13 (.v 21) .copy)])
        (.cond (.v 13)
         (.seq
          (.region [] [] [6, 7] false [
            (none, .build 22 [(.int .i64 0), (.int .i64 0)] []),
            (none, .store 2 (.v 6) (.v 22) .copy),
            (none, .asg 7 (.c (.int .i64 2)) .copy)])
          (.ret [6, 7]))
         (.skip [1, 2, 3, 6]))))))
    (.seq
     (.region [(27, 3, false), (23, 3, false)] [] [6, 7] false [
       (none, .fadr 23 0 1 (.v 3)),
       (none, .load 24 false 1 (.v 23) none),
       (none, .mv 25 (.v 1)),
       (none, .bin 26 .mul (.v 24) (.v 25)),
       (none, .fadr 27 1 1 (.v 3)),
       (none, .load 28 false 1 (.v 27) none),
       (none, .mv 29 (.v 2)),
       (none, .bin 30 .mul (.v 28) (.v 29)),
       (none, .call (some 31) 292 false [((.v 26), false), ((.v 30), false)]),
       (none, .call (some 32) 257 false [((.v 31), false)]),
       (none, .extp 33 (.v 32) 0),
       (none, .extp 34 (.v 32) 1),
       (none, .store 2 (.v 6) (.v 33) .copy),
       (none, .asg 7 (.v 34) .copy)])
     (.ret [6, 7]))))⟩
def F240 : PFunc :=
 ⟨[false, false], [.tmp 4, .tmp 5],
  (.seq
   (.region [] [] [1, 2] false [
     (none, .box 2 (.v 0) .copy),
     (none, .asg 4 (.c (.int .i64 0)) .copy),
     (none, .asg 5 (.c (.int .i64 0)) .copy)])
   (.seq
    (.block 0
     (.seq
      (.region [] [] [1, 2, 6] false [
        (none, .load 7 true 2 (.v 2) none),
        (none, .call (some 8) 213 false [((.v 7), false)]),
        (none, .un 9 .not (.v 8)),
        (none, .asg 6 (.v 9) .copy)])
      (.cond (.v 6)
       (.seq
        (.region [] [] [4, 5] false [
          (none, .asg 4 (.c (.int .i64 0)) .copy),
          (none, .asg 5 (.c (.int .i64 1)) .copy)])
        (.ret [4, 5]))
       (.seq
        (.region [] [] [1, 2, 10] false [
          (none, .mv 11 (.v 1)),
          (none, .call (some 12) 326 false [((.v 11), false), ((.c (.int .i64 0)), false), ((.c (.int .i64 1000000)), false)]),
          (none, .un 13 .not (.v 12)),
          (none, .asg 10 (.v 13) .copy)])
        (.cond (.v 10)
         (.seq
          (.region [] [] [4, 5] false [
            (none, .asg 4 (.c (.int .i64 0)) .copy),
            (none, .asg 5 (.c (.int .i64 2)) .copy)])
          (.ret [4, 5]))
         (.seq
          (.region [(15, 2, false)] [] [1, 2, 14] false [
            (none, .fadr 15 0 1 (.v 2)),
            (none, .load 16 false 1 (.v 15) none),
            (none, .bin 17 .lss (.v 16) (.c (.int .i64 0))),
            (none, .asg 14 (.v 17) .copy)])
          (.cond (.v 14)
           (.seq
            (.region [] [] [4, 5] false [
              (none, .asg 4 (.c (.int .i64 0)) .copy),
              (none, .asg 5 (.c (.int .i64 6)) .copy)])
            (.ret [4, 5]))
           (.skip [1, 2]))))))))
    (.seq
     (.region [(22, 2, false), (18, 2, false)] [] [4, 5] false [
       (none, .fadr 18 0 1 (.v 2)),
       (none, .load 19 false 1 (.v 18) none),
       (none, .mv 20 (.v 1)),
       (none, .bin 21 .mul (.v 19) (.v 20)),
       (none, .fadr 22 1 1 (.v 2)),
       (none, .load 23 false 1 (.v 22) none),
       (none, .bin 24 .quo (.v 21) (.v 23)),
       (none, .asg 4 (.v 24) .copy),
       (none, .asg 5 (.c (.int .i64 0)) .copy)])
     (.ret [4, 5]))))⟩
def F384 : PFunc :=
 ⟨[false, false, false], [.tmp 6],
  (.seq
   (.region [] [] [0, 1, 2] false [
     (none, .asg 6 (.c (.int .i64 0)) .copy)])
   (.seq
    (.seq
     (.region [(8, 0, false)] [] [0, 1, 2, 14] false [
       (none, .mv 7 (.v 1)),
       (none, .mv 8 (.v 0)),
       (none, .len 9 false (.v 8)),
       (none, .bin 10 .geq (.v 7) (.v 9)),
       (none, .mv 11 (.v 10)),
       (some (11, false), .mv 12 (.v 2)),
       (some (11, false), .bin 13 .lss (.v 12) (.c (.int .i64 1))),
       (none, .pick 14 (.v 11) (.c (.bool true)) (.v 13))])
     (.cond (.v 14)
      (.seq
       (.region [] [] [6] false [
         (none, .asg 6 (.c (.int .i64 0)) .copy)])
       (.ret [6]))
      (.skip [0, 1, 2])))
    (.seq
     (.region [(17, 0, false), (15, 0, false)] [] [6] false [
       (none, .mv 15 (.v 0)),
       (none, .mv 16 (.v 1)),
       (none, .iadr 17 1 (.v 15) (.v 16)),
       (none, .load 18 false 1 (.v 17) none),
       (none, .conv 19 .i64 (.v 18)),
       (none, .mv 20 (.v 2)),
       (none, .bin 21 .rem (.v 19) (.v 20)),
       (none, .asg 6 (.v 21) .copy)])
     (.ret [6]))))⟩
def F386 : PFunc :=
 ⟨[false, false], [.tmp 4],
  (.seq
   (.region [] [] [0, 1] false [
     (none, .asg 4 (.c (.bool false)) .copy)])
   (.seq
    (.region [(9, 1, false), (5, 0, false)] [] [4] false [
      (none, .mv 5 (.v 0)),
      (none, .len 6 false (.v 5)),
      (none, .bin 7 .gtr (.v 6) (.c (.int .i64 3000))),
      (none, .mv 8 (.v 7)),
      (some (8, false), .mv 9 (.v 1)),
      (some (8, false), .len 10 false (.v 9)),
      (some (8, false), .bin 11 .gtr (.v 10) (.c (.int .i64 3000))),
      (none, .pick 12 (.v 8) (.c (.bool true)) (.v 11)),
      (none, .asg 4 (.v 12) .copy)])
    (.ret [4])))⟩
def F603 : PFunc :=
 ⟨[false], [.tmp 2],
  (.seq
   (.region [] [] [0] false [
     (none, .asg 2 (.c .nilp) .copy)])
   (.seq
    (.region [(3, 0, false)] [] [2] false [
      (none, .mv 3 (.v 0)),
      (none, .build 4 [(.sl false 1 []), (.int .i64 0), (.int .u64 0)] [(0, 1, (.v 3), .move)]),
      (none, .box 5 (.v 4) .move),
      (none, .asg 2 (.v 5) .move)])
    (.ret [2])))⟩
def F5 : PFunc :=
 ⟨[true], [.tmp 2],
  (.seq
   (.region [] [] [0] false [
     (none, .asg 2 (.c (.int .i64 0)) .copy)])
   (.seq
    (.region [] [] [0, 3] false [
      (none, .asg 3 (.c (.int .i64 0)) .copy)])
    (.seq
     (.seq
      (.region [(11, 0, true), (10, 0, false), (9, 0, false), (8, 0, false), (6, 0, false), (5, 0, false), (4, 0, false)] [] [0, 3, 13] true [
        (none, .mv 4 (.v 0)),
        (none, .nchk 5 (.v 4)),
        (none, .fadr 6 1 1 (.v 5)),
        (none, .load 7 false 1 (.v 6) none),
        (none, .mv 8 (.v 0)),
        (none, .nchk 9 (.v 8)),
        (none, .fadr 10 0 1 (.v 9)),
        (none, .load 11 false 1 (.v 10) none),
        (none, .len 12 false (.v 11)),
        (none, .bin 13 .lss (.v 7) (.v 12))])
      (.cond (.v 13)
       (.region [(22, 0, true), (20, 0, false), (19, 0, false), (18, 0, false), (17, 0, true), (16, 0, false), (15, 0, false), (14, 0, false)] [] [0, 3] true [
         (none, .mv 14 (.v 0)),
         (none, .nchk 15 (.v 14)),
         (none, .fadr 16 0 1 (.v 15)),
         (none, .load 17 false 1 (.v 16) none),
         (none, .mv 18 (.v 0)),
         (none, .nchk 19 (.v 18)),
         (none, .fadr 20 1 1 (.v 19)),
         (none, .load 21 false 1 (.v 20) none),
         (none, .iadr 22 1 (.v 17) (.v 21)),
         (none, .load 23 false 1 (.v 22) none),
         (none, .conv 24 .i64 (.v 23)),
         (none, .asg 3 (.v 24) .copy)])
       (.skip [0, 3])))
     (.seq
      (.region [(31, 0, false), (30, 0, false), (27, 0, false), (26, 0, false), (25, 0, false)] [] [0, 3] false [
        (none, .mv 25 (.v 0)),
        (none, .nchk 26 (.v 25)),
        (none, .fadr 27 1 1 (.v 26)),
        (none, .load 28 false 1 (.v 27) none),
        (none, .bin 29 .add (.v 28) (.c (.int .i64 1))),
        (none, .nchk 30 (.v 25)),
        (none, .fadr 31 1 1 (.v 30)),
        (none, .store 1 (.v 31) (.v 29) .copy)])
      (.seq
       (.region [(43, 0, false), (42, 0, false), (35, 0, false), (34, 0, false), (33, 0, false), (32, 0, false)] [] [0, 3] false [
         (none, .mv 32 (.v 0)),
         (none, .mv 33 (.v 0)),
         (none, .nchk 34 (.v 33)),
         (none, .fadr 35 2 1 (.v 34)),
         (none, .load 36 false 1 (.v 35) none),
         (none, .bin 37 .mul (.v 36) (.c (.int .u64 6364136223846793005))),
         (none, .mv 38 (.v 3)),
         (none, .conv 39 .u64 (.v 38)),
         (none, .bin 40 .add (.v 37) (.v 39)),
         (none, .bin 41 .add (.v 40) (.c (.int .u64 1442695040888963407))),
         (none, .nchk 42 (.v 32)),
         (none, .fadr 43 2 1 (.v 42)),
         (none, .store 1 (.v 43) (.v 41) .copy)])
       (.seq
        (.seq
         (.region [(51, 0, true), (50, 0, false), (49, 0, false), (48, 0, false), (46, 0, false), (45, 0, false), (44, 0, false)] [] [0, 3, 53] true [
           (none, .mv 44 (.v 0)),
           (none, .nchk 45 (.v 44)),
           (none, .fadr 46 1 1 (.v 45)),
           (none, .load 47 false 1 (.v 46) none),
           (none, .mv 48 (.v 0)),
           (none, .nchk 49 (.v 48)),
           (none, .fadr 50 0 1 (.v 49)),
           (none, .load 51 false 1 (.v 50) none),
           (none, .len 52 false (.v 51)),
           (none, .bin 53 .leq (.v 47) (.v 52))])
         (.cond (.v 53)
          (.seq
           (.region [] [] [0, 2] false [
             (none, .mv 54 (.v 3)),
             (none, .asg 2 (.v 54) .copy)])
           (.ret [0, 2]))
          (.skip [0])))
        (.seq
         (.region [(57, 0, false), (56, 0, false), (55, 0, false)] [] [0, 2] false [
           (none, .mv 55 (.v 0)),
           (none, .nchk 56 (.v 55)),
           (none, .fadr 57 2 1 (.v 56)),
           (none, .load 58 false 1 (.v 57) none),
           (none, .bin 59 .shr (.v 58) (.c (.int .u64 40))),
           (none, .bin 60 .and (.v 59) (.c (.int .u64 255))),
           (none, .conv 61 .i64 (.v 60)),
           (none, .asg 2 (.v 61) .copy)])
         (.ret [0, 2]))))))))⟩
def F7 : PFunc :=
 ⟨[true, false], [.tmp 4],
  (.seq
   (.region [] [] [0, 1] false [
     (none, .asg 4 (.c (.int .i64 0)) .copy)])
   (.seq
    (.seq
     (.region [] [] [0, 1, 7] false [
       (none, .mv 6 (.v 1)),
       (none, .bin 7 .leq (.v 6) (.c (.int .i64 1)))])
     (.cond (.v 7)
      (.seq
       (.region [] [] [0, 4] false [
         (none, .asg 4 (.c (.int .i64 0)) .copy)])
       (.ret [0, 4]))
      (.skip [0, 1])))
    (.seq
     (.region [(8, 0, false)] [] [0, 1, 5] false [
       (none, .mv 8 (.v 0)),
       (none, .call (some 9) 5 true [((.v 8), true)]),
       (none, .asg 5 (.v 9) .copy)])
     (.seq
      (.seq
       (.region [] [] [0, 1, 5, 11] false [
         (none, .mv 10 (.v 1)),
         (none, .bin 11 .gtr (.v 10) (.c (.int .i64 200)))])
       (.cond (.v 11)
        (.region [(14, 0, false)] [] [0, 1, 5] false [
          (none, .mv 12 (.v 5)),
          (none, .bin 13 .mul (.v 12) (.c (.int .i64 256))),
          (none, .mv 14 (.v 0)),
          (none, .call (some 15) 5 true [((.v 14), true)]),
          (none, .bin 16 .add (.v 13) (.v 15)),
          (none, .asg 5 (.v 16) .copy)])
        (.skip [0, 1, 5])))
      (.seq
       (.region [] [] [0, 4] false [
         (none, .mv 17 (.v 5)),
         (none, .mv 18 (.v 1)),
         (none, .bin 19 .rem (.v 17) (.v 18)),
         (none, .asg 4 (.v 19) .copy)])
       (.ret [0, 4]))))))⟩
def F604 : PFunc :=
 ⟨[false, false], [.tmp 4],
  (.seq
   (.region [] [] [0, 1] false [
     (none, .asg 4 (.c (.int .i64 0)) .copy)])
   (.seq
    (.block 0
     (.loop
      (.seq
       (.seq
        (.region [] [] [0, 1, 7] false [
          (none, .mv 6 (.v 1)),
          (none, .bin 7 .neq (.v 6) (.c (.int .i64 0)))])
        (.cond (.v 7)
         (.skip [0, 1])
         (.exit 0 [0])))
       (.block 1
        (.seq
         (.region [] [] [1, 5] false [
           (none, .mv 8 (.v 0)),
           (none, .mv 9 (.v 1)),
           (none, .bin 10 .rem (.v 8) (.v 9)),
           (none, .asg 5 (.v 10) .copy)])
         (.seq
          (.region [] [] [0, 5] false [
            (none, .mv 11 (.v 1)),
            (none, .asg 0 (.v 11) .copy)])
          (.region [] [] [0, 1] false [
            (none, .mv 12 (.v 5)),
            (none, .asg 1 (.v 12) .copy)])))))))
    (.seq
     (.region [] [] [4] false [
       (none, .mv 13 (.v 0)),
       (none, .asg 4 (.v 13) .copy)])
     (.ret [4]))))⟩
def F611 : PFunc :=
 ⟨[false], [.tmp 2],
  (.seq
   (.region [] [] [0] false [
     (none, .asg 2 (.c (.int .i64 0)) .copy)])
   (.seq
    (.seq
     (.region [] [] [0, 4] false [
       (none, .mv 3 (.v 0)),
       (none, .bin 4 .lss (.v 3) (.c (.int .i64 0)))])
     (.cond (.v 4)
      (.seq
       (.region [] [] [2] false [
         (none, .mv 5 (.v 0)),
         (none, .un 6 .neg (.v 5)),
         (none, .asg 2 (.v 6) .copy)])
       (.ret [2]))
      (.skip [0])))
    (.seq
     (.region [] [] [2] false [
       (none, .mv 7 (.v 0)),
       (none, .asg 2 (.v 7) .copy)])
     (.ret [2]))))⟩
def F616 : PFunc :=
 ⟨[false, false], [.cell 4 true 2],
  (.seq
   (.region [] [] [0, 1, 4] false [
     (none, .new 4 (.agg [(.int .i64 0), (.int .i64 0)]))])
   (.seq
    (.region [] [] [0, 1, 4, 5] false [
      (none, .mv 6 (.v 0)),
      (none, .call (some 7) 611 false [((.v 6), false)]),
      (none, .mv 8 (.v 1)),
      (none, .call (some 9) 604 false [((.v 7), false), ((.v 8), false)]),
      (none, .asg 5 (.v 9) .copy)])
    (.seq
     (.region [] [] [4] true [
       (none, .mv 10 (.v 0)),
       (none, .mv 11 (.v 5)),
       (none, .bin 12 .quo (.v 10) (.v 11)),
       (none, .mv 13 (.v 1)),
       (none, .mv 14 (.v 5)),
       (none, .bin 15 .quo (.v 13) (.v 14)),
       (none, .build 16 [(.int .i64 0), (.int .i64 0)] [(0, 1, (.v 12), .copy), (1, 1, (.v 15), .copy)]),
       (none, .store 2 (.v 4) (.v 16) .copy)])
     (.ret [4]))))⟩
def F615 : PFunc :=
 ⟨[true], [.cell 2 true 2],
  (.seq
   (.region [] [] [0, 2] false [
     (none, .new 2 (.agg [(.int .i64 0), (.int .i64 0)]))])
   (.seq
    (.region [(4, 0, false)] [] [0, 2, 3] false [
      (none, .mv 4 (.v 0)),
      (none, .call (some 5) 7 true [((.v 4), true), ((.c (.int .i64 60)), false)]),
      (none, .bin 6 .sub (.v 5) (.c (.int .i64 15))),
      (none, .asg 3 (.v 6) .copy)])
    (.seq
     (.region [(8, 0, false)] [] [0, 2] false [
       (none, .mv 7 (.v 3)),
       (none, .mv 8 (.v 0)),
       (none, .call (some 9) 7 true [((.v 8), true), ((.c (.int .i64 20)), false)]),
       (none, .bin 10 .add (.c (.int .i64 1)) (.v 9)),
       (none, .call (some 11) 616 false [((.v 7), false), ((.v 10), false)]),
       (none, .store 2 (.v 2) (.v 11) .copy)])
     (.ret [0, 2]))))⟩
def F426 : PFunc :=
 ⟨[false], [.cell 2 true 2],
  (.seq
   (.region [] [] [0, 2] false [
     (none, .new 2 (.agg [(.int .i64 0), (.int .i64 0)]))])
   (.seq
    (.region [(3, 0, false)] [] [2] false [
      (none, .mv 3 (.v 0)),
      (none, .call (some 4) 603 true [((.v 3), false)]),
      (none, .call (some 5) 615 true [((.v 4), true)]),
      (none, .store 2 (.v 2) (.v 5) .copy)])
    (.ret [2])))⟩
def F372 : PFunc :=
 ⟨[false, false], [.tmp 4],
  (.seq
   (.region [] [] [0, 1] false [
     (none, .asg 4 (.c (.bool false)) .copy)])
   (.seq
    (.seq
     (.region [(20, 1, false), (19, 0, false)] [] [0, 1, 21] false [
       (none, .mv 19 (.v 0)),
       (none, .mv 20 (.v 1)),
       (none, .call (some 21) 386 false [((.v 19), false), ((.v 20), false)])])
     (.cond (.v 21)
      (.seq
       (.region [] [] [4] false [
         (none, .asg 4 (.c (.bool true)) .copy)])
       (.ret [4]))
      (.skip [0, 1])))
    (.seq
     (.region [(22, 0, false)] [] [1, 5] false [
       (none, .mv 22 (.v 0)),
       (none, .call (some 23) 426 false [((.v 22), false)]),
       (none, .new 5 (.agg [(.int .i64 0), (.int .i64 0)])),
       (none, .store 2 (.v 5) (.v 23) .copy)])
     (.seq
      (.region [(24, 1, false)] [] [1, 5, 6] false [
        (none, .mv 24 (.v 1)),
        (none, .call (some 25) 426 false [((.v 24), false)]),
        (none, .new 6 (.agg [(.int .i64 0), (.int .i64 0)])),
        (none, .store 2 (.v 6) (.v 25) .copy)])
      (.seq
       (.region [(26, 1, false)] [] [1, 5, 6, 7] false [
         (none, .mv 26 (.v 1)),
         (none, .call (some 27) 384 false [((.v 26), false), ((.c (.int .i64 0)), false), ((.c (.int .i64 200)), false)]),
         (none, .asg 7 (.v 27) .copy)])
       (.seq
        (.region [] [] [1, 5, 6, 7, 8, 9] false [
          (none, .load 29 true 2 (.v 5) none),
          (none, .mv 30 (.v 7)),
          (none, .call (some 31) 240 false [((.v 29), false), ((.v 30), false)]),
          (none, .asg 28 (.v 31) .copy),
          (none, .extp 32 (.v 28) 0),
          (none, .extp 33 (.v 28) 1),
          (none, .asg 8 (.v 32) .copy),
          (none, .asg 9 (.v 33) .copy)])
        (.seq
         (.seq
          (.region [(34, 5, false)] [] [1, 5, 6, 7, 8, 9, 36] false [
            (none, .fadr 34 0 1 (.v 5)),
            (none, .load 35 false 1 (.v 34) none),
            (none, .bin 36 .lss (.v 35) (.c (.int .i64 0)))])
          (.cond (.v 36)
           (.seq
            (.region [] [] [1, 5, 6, 38] false [
              (none, .mv 37 (.v 9)),
              (none, .bin 38 .neq (.v 37) (.c (.int .i64 6)))])
            (.cond (.v 38)
             (.seq
              (.region [] [] [4] false [
                (none, .asg 4 (.c (.bool false)) .copy)])
              (.ret [4]))
             (.skip [1, 5, 6])))
           (.seq
            (.region [(66, 5, false), (63, 5, false), (54, 5, false), (51, 5, false)] [] [1, 5, 6, 71] false [
              (none, .mv 39 (.v 9)),
              (none, .bin 40 .neq (.v 39) (.c (.int .i64 0))),
              (none, .mv 41 (.v 40)),
              (some (41, false), .mv 42 (.v 8)),
              (some (41, false), .bin 43 .lss (.v 42) (.c (.int .i64 0))),
              (none, .pick 44 (.v 41) (.c (.bool true)) (.v 43)),
              (none, .mv 45 (.v 44)),
              (some (45, false), .mv 46 (.v 8)),
              (some (45, false), .bin 47 .gtr (.v 46) (.c (.int .i64 1000000))),
              (none, .pick 48 (.v 45) (.c (.bool true)) (.v 47)),
              (none, .mv 49 (.v 48)),
              (some (49, false), .mv 50 (.v 8)),
              (some (49, false), .fadr 51 1 1 (.v 5)),
              (some (49, false), .load 52 false 1 (.v 51) none),
              (some (49, false), .bin 53 .mul (.v 50) (.v 52)),
              (some (49, false), .fadr 54 0 1 (.v 5)),
              (some (49, false), .load 55 false 1 (.v 54) none),
              (some (49, false), .mv 56 (.v 7)),
              (some (49, false), .bin 57 .mul (.v 55) (.v 56)),
              (some (49, false), .bin 58 .gtr (.v 53) (.v 57)),
              (none, .pick 59 (.v 49) (.c (.bool true)) (.v 58)),
              (none, .mv 60 (.v 59)),
              (some (60, false), .mv 61 (.v 8)),
              (some (60, false), .bin 62 .add (.v 61) (.c (.int .i64 1))),
              (some (60, false), .fadr 63 1 1 (.v 5)),
              (some (60, false), .load 64 false 1 (.v 63) none),
              (some (60, false), .bin 65 .mul (.v 62) (.v 64)),
              (some (60, false), .fadr 66 0 1 (.v 5)),
              (some (60, false), .load 67 false 1 (.v 66) none),
              (some (60, false), .mv 68 (.v 7)),
              (some (60, false), .bin 69 .mul (.v 67) (.v 68)),
              (some (60, false), .bin 70 .leq (.v 65) (.v 69)),
              (none, .pick 71 (.v 60) (.c (.bool true)) (.v 70))])
            (.cond (.v 71)
             (.seq
              (.region [] [] [4] false [
                (none, .asg 4 (.c (.bool false)) .copy)])
              (.ret [4]))
             (.skip [1, 5, 6])))))
         (.seq
          (.region [(72, 1, false)] [] [1, 5, 6, 10] false [
            (none, .mv 72 (.v 1)),
            (none, .call (some 73) 384 false [((.v 72), false), ((.c (.int .i64 1)), false), ((.c (.int .i64 40)), false)]),
            (none, .bin 74 .add (.c (.int .i64 8)) (.v 73)),
            (none, .asg 10 (.v 74) .copy)])
          (.seq
           (.region [(75, 1, false)] [] [5, 6, 10, 11] false [
             (none, .mv 75 (.v 1)),
             (none, .call (some 76) 384 false [((.v 75), false), ((.c (.int .i64 2)), false), ((.c (.int .i64 40)), false)]),
             (none, .bin 77 .add (.c (.int .i64 8)) (.v 76)),
             (none, .asg 11 (.v 77) .copy)])
           (.seq
            (.region [] [] [5, 6, 10, 11, 12, 13] false [
              (none, .load 79 true 2 (.v 5) none),
              (none, .mv 80 (.v 10)),
              (none, .mv 81 (.v 11)),
              (none, .call (some 82) 106 false [((.v 79), false), ((.v 80), false), ((.v 81), false)]),
              (none, .asg 78 (.v 82) .copy),
              (none, .extp 83 (.v 78) 0),
              (none, .extp 84 (.v 78) 1),
              (none, .new 12 (.agg [(.int .i64 0), (.int .i64 0)])),
              (none, .store 2 (.v 12) (.v 83) .copy),
              (none, .asg 13 (.v 84) .copy)])
            (.seq
             (.region [] [] [5, 6, 10, 11, 12, 13, 14, 15] false [
               (none, .load 86 true 2 (.v 12) none),
               (none, .mv 87 (.v 11)),
               (none, .mv 88 (.v 10)),
               (none, .call (some 89) 106 false [((.v 86), false), ((.v 87), false), ((.v 88), false)]),
               (none, .asg 85 (.v 89) .copy),
               (none, .extp 90 (.v 85) 0),
               (none, .extp 91 (.v 85) 1),
               (none, .new 14 (.agg [(.int .i64 0), (.int .i64 0)])),
               (none, .store 2 (.v 14) (.v 90) .copy),
               (none, .asg 15 (.v 91) .copy)])
             (.seq
              (.seq
               (.region [(106, 12, false), (102, 5, false), (97, 5, false), (95, 12, false)] [] [5, 6, 119] false [
                 (none, .mv 92 (.v 13)),
                 (none, .bin 93 .neq (.v 92) (.c (.int .i64 0))),
                 (none, .mv 94 (.v 93)),
                 (some (94, false), .fadr 95 0 1 (.v 12)),
                 (some (94, false), .load 96 false 1 (.v 95) none),
                 (some (94, false), .fadr 97 1 1 (.v 5)),
                 (some (94, false), .load 98 false 1 (.v 97) none),
                 (some (94, false), .bin 99 .mul (.v 96) (.v 98)),
                 (some (94, false), .mv 100 (.v 11)),
                 (some (94, false), .bin 101 .mul (.v 99) (.v 100)),
                 (some (94, false), .fadr 102 0 1 (.v 5)),
                 (some (94, false), .load 103 false 1 (.v 102) none),
                 (some (94, false), .mv 104 (.v 10)),
                 (some (94, false), .bin 105 .mul (.v 103) (.v 104)),
                 (some (94, false), .fadr 106 1 1 (.v 12)),
                 (some (94, false), .load 107 false 1 (.v 106) none),
                 (some (94, false), .bin 108 .mul (.v 105) (.v 107)),
                 (some (94, false), .bin 109 .neq (.v 101) (.v 108)),
                 (none, .pick 110 (.v 94) (.c (.bool true)) (.v 109)),
                 (none, .mv 111 (.v 110)),
                 (some (111, false), .mv 112 (.v 15)),
                 (some (111, false), .bin 113 .neq (.v 112) (.c (.int .i64 0))),
                 (none, .pick 114 (.v 111) (.c (.bool true)) (.v 113)),
                 (none, .mv 115 (.v 114)),
                 (some (115, false), .load 116 true 2 (.v 14) none),
                 (some (115, false), .load 117 true 2 (.v 5) none),
                 (some (115, false), .eqv 118 true [.i, .i] (.v 116) (.v 117)),
                 (none, .pick 119 (.v 115) (.c (.bool true)) (.v 118))])
               (.cond (.v 119)
                (.seq
                 (.region [] [] [4] false [
                   (none, .asg 4 (.c (.bool false)) .copy)])
                 (.ret [4]))
                (.skip [5, 6])))
              (.seq
               (.region [] [] [5, 6, 16, 17] false [
                 (none, .load 121 true 2 (.v 5) none),
                 (none, .load 122 true 2 (.v 6) none),
                 (none, .call (some 123) 67 false [((.v 121), false), ((.v 122), false)]),
                 (none, .asg 120 (.v 123) .copy),
                 (none, .extp 124 (.v 120) 0),
                 (none, .extp 125 (.v 120) 1),
                 (none, .new 16 (.agg [(.int .i64 0), (.int .i64 0)])),
                 (none, .store 2 (.v 16) (.v 124) .copy),
                 (none, .asg 17 (.v 125) .copy)])
               (.seq
                (.seq
                 (.region [(130, 6, false), (126, 5, false)] [] [5, 6, 16, 17, 133] false [
                   (none, .fadr 126 0 1 (.v 5)),
                   (none, .load 127 false 1 (.v 126) none),
                   (none, .bin 128 .leq (.v 127) (.c (.int .i64 0))),
                   (none, .mv 129 (.v 128)),
                   (some (129, false), .fadr 130 0 1 (.v 6)),
                   (some (129, false), .load 131 false 1 (.v 130) none),
                   (some (129, false), .bin 132 .leq (.v 131) (.c (.int .i64 0))),
                   (none, .pick 133 (.v 129) (.c (.bool true)) (.v 132))])
                 (.cond (.v 133)
                  (.seq
                   (.region [] [] [4] false [
                     (none, .mv 134 (.v 17)),
                     (none, .bin 135 .eql (.v 134) (.c (.int .i64 6))),
                     (none, .asg 4 (.v 135) .copy)])
                   (.ret [4]))
                  (.skip [5, 6, 16, 17])))
                (.seq
                 (.seq
                  (.region [(180, 16, false), (178, 6, false), (175, 16, false), (173, 6, false), (166, 16, false), (164, 5, false), (161, 16, false), (159, 5, false), (154, 16, false), (149, 16, false), (144, 16, false), (139, 16, false)] [] [5, 6, 16, 185] false [
                    (none, .mv 136 (.v 17)),
                    (none, .bin 137 .neq (.v 136) (.c (.int .i64 0))),
                    (none, .mv 138 (.v 137)),
                    (some (138, false), .fadr 139 0 1 (.v 16)),
                    (some (138, false), .load 140 false 1 (.v 139) none),
                    (some (138, false), .bin 141 .lss (.v 140) (.c (.int .i64 1))),
                    (none, .pick 142 (.v 138) (.c (.bool true)) (.v 141)),
                    (none, .mv 143 (.v 142)),
                    (some (143, false), .fadr 144 1 1 (.v 16)),
                    (some (143, false), .load 145 false 1 (.v 144) none),
                    (some (143, false), .bin 146 .lss (.v 145) (.c (.int .i64 1))),
                    (none, .pick 147 (.v 143) (.c (.bool true)) (.v 146)),
                    (none, .mv 148 (.v 147)),
                    (some (148, false), .fadr 149 0 1 (.v 16)),
                    (some (148, false), .load 150 false 1 (.v 149) none),
                    (some (148, false), .bin 151 .gtr (.v 150) (.c (.int .i64 1000000))),
                    (none, .pick 152 (.v 148) (.c (.bool true)) (.v 151)),
                    (none, .mv 153 (.v 152)),
                    (some (153, false), .fadr 154 1 1 (.v 16)),
                    (some (153, false), .load 155 false 1 (.v 154) none),
                    (some (153, false), .bin 156 .gtr (.v 155) (.c (.int .i64 1000000))),
                    (none, .pick 157 (.v 153) (.c (.bool true)) (.v 156)),
                    (none, .mv 158 (.v 157)),
                    (some (158, false), .fadr 159 0 1 (.v 5)),
                    (some (158, false), .load 160 false 1 (.v 159) none),
                    (some (158, false), .fadr 161 0 1 (.v 16)),
                    (some (158, false), .load 162 false 1 (.v 161) none),
                    (some (158, false), .bin 163 .mul (.v 160) (.v 162)),
                    (some (158, false), .fadr 164 1 1 (.v 5)),
                    (some (158, false), .load 165 false 1 (.v 164) none),
                    (some (158, false), .fadr 166 1 1 (.v 16)),
                    (some (158, false), .load 167 false 1 (.v 166) none),
                    (some (158, false), .bin 168 .mul (.v 165) (.v 167)),
                    (some (158, false), .bin 169 .rem (.v 163) (.v 168)),
                    (some (158, false), .bin 170 .neq (.v 169) (.c (.int .i64 0))),
                    (none, .pick 171 (.v 158) (.c (.bool true)) (.v 170)),
                    (none, .mv 172 (.v 171)),
                    (some (172, false), .fadr 173 0 1 (.v 6)),
                    (some (172, false), .load 174 false 1 (.v 173) none),
                    (some (172, false), .fadr 175 0 1 (.v 16)),
                    (some (172, false), .load 176 false 1 (.v 175) none),
                    (some (172, false), .bin 177 .mul (.v 174) (.v 176)),
                    (some (172, false), .fadr 178 1 1 (.v 6)),
                    (some (172, false), .load 179 false 1 (.v 178) none),
                    (some (172, false), .fadr 180 1 1 (.v 16)),
                    (some (172, false), .load 181 false 1 (.v 180) none),
                    (some (172, false), .bin 182 .mul (.v 179) (.v 181)),
                    (some (172, false), .bin 183 .rem (.v 177) (.v 182)),
                    (some (172, false), .bin 184 .neq (.v 183) (.c (.int .i64 0))),
                    (none, .pick 185 (.v 172) (.c (.bool true)) (.v 184))])
                  (.cond (.v 185)
                   (.seq
                    (.region [] [] [4] false [
                      (none, .asg 4 (.c (.bool false)) .copy)])
                    (.ret [4]))
                   (.skip [5, 6, 16])))
                 (.seq
                  (.seq
                   (.region [] [] [5, 6, 16, 18] false [
                     (none, .asg 18 (.c (.int .i64 2)) .copy)])
                   (.block 0
                    (.loop
                     (.seq
                      (.seq
                       (.region [] [] [5, 6, 16, 18, 187] false [
                         (none, .mv 186 (.v 18)),
                         (none, .bin 187 .leq (.v 186) (.c (.int .i64 60)))])
                       (.cond (.v 187)
                        (.skip [5, 6, 16, 18])
                        (.exit 0 [])))
                      (.seq
                       (.block 1
                        (.seq
                         (.region [(212, 16, false), (210, 6, false), (207, 16, false), (205, 6, false), (197, 16, false), (195, 5, false), (192, 16, false), (190, 5, false)] [] [5, 6, 16, 18, 219] false [
                           (none, .fadr 190 0 1 (.v 5)),
                           (none, .load 191 false 1 (.v 190) none),
                           (none, .fadr 192 0 1 (.v 16)),
                           (none, .load 193 false 1 (.v 192) none),
                           (none, .bin 194 .mul (.v 191) (.v 193)),
                           (none, .fadr 195 1 1 (.v 5)),
                           (none, .load 196 false 1 (.v 195) none),
                           (none, .fadr 197 1 1 (.v 16)),
                           (none, .load 198 false 1 (.v 197) none),
                           (none, .bin 199 .mul (.v 196) (.v 198)),
                           (none, .mv 200 (.v 18)),
                           (none, .bin 201 .mul (.v 199) (.v 200)),
                           (none, .bin 202 .rem (.v 194) (.v 201)),
                           (none, .bin 203 .eql (.v 202) (.c (.int .i64 0))),
                           (none, .mv 204 (.v 203)),
                           (some (204, true), .fadr 205 0 1 (.v 6)),
                           (some (204, true), .load 206 false 1 (.v 205) none),
                           (some (204, true), .fadr 207 0 1 (.v 16)),
                           (some (204, true), .load 208 false 1 (.v 207) none),
                           (some (204, true), .bin 209 .mul (.v 206) (.v 208)),
                           (some (204, true), .fadr 210 1 1 (.v 6)),
                           (some (204, true), .load 211 false 1 (.v 210) none),
                           (some (204, true), .fadr 212 1 1 (.v 16)),
                           (some (204, true), .load 213 false 1 (.v 212) none),
                           (some (204, true), .bin 214 .mul (.v 211) (.v 213)),
                           (some (204, true), .mv 215 (.v 18)),
                           (some (204, true), .bin 216 .mul (.v 214) (.v 215)),
                           (some (204, true), .bin 217 .rem (.v 209) (.v 216)),
                           (some (204, true), .bin 218 .eql (.v 217) (.c (.int .i64 0))),
                           (none, .pick 219 (.v 204) (.v 218) (.c (.bool false)))])
                         (.cond (.v 219)
                          (.seq
                           (.region [] [] [4] false [
                             (none, .asg 4 (.c (.bool false)) .copy)])
                           (.ret [4]))
                          (.skip [5, 6, 16, 18]))))
                       (.region [] [] [5, 6, 16, 18] false [
                         (none, .mv 188 (.v 18)),
                         (none, .bin 189 .add (.v 188) (.c (.int .i64 1))),
                         (none, .asg 18 (.v 189) .copy)]))))))
                  (.seq
                   (.region [] [] [4] false [
                     (none, .asg 4 (.c (.bool true)) .copy)])
                   (.ret [4]))))))))))))))))))⟩
def tabl : List (Nat × PFunc) := [(269, F269), (326, F326), (213, F213), (257, F257), (292, F292), (67, F67), (106, F106), (240, F240), (384, F384), (386, F386), (603, F603), (5, F5), (7, F7), (604, F604), (611, F611), (616, F616), (615, F615), (426, F426), (372, F372)]
def T : Nat → Option PFunc := tabOf tabl
end Go.Vs.G
