/- The functions that the law reaches, in the small language, printed by program. No conditions. -/
import Derived.Test.YtnpifcoeioincaaDLStrips
import Derived.Test.YtnpifcoeioincaaV4
set_option maxRecDepth 100000
open Go Go.Vs
namespace Go.Vs.G
def F326 : PFunc :=
 ⟨[false, false, false], [.tmp 6],
  (.seq
   (.region [] [] [0, 1, 2] false [
     (none, .asg 6 (.c (.bool false)) .copy)])
   (.seq
    (.region [] [] [6] false [
      (none, .mv 7 (.v 0)),
      (none, .mv 8 (.v 1)),
      (none, .bin 9 .geq (.v 7) (.v 8)),
      (none, .mv 10 (.v 9)),
      (some (10, true), .mv 11 (.v 0)),
      (some (10, true), .mv 12 (.v 2)),
      (some (10, true), .bin 13 .leq (.v 11) (.v 12)),
      (none, .pick 14 (.v 10) (.v 13) (.c (.bool false))),
      (none, .asg 6 (.v 14) .copy)])
    (.ret [6])))⟩
def F212 : PFunc :=
 ⟨[false], [.tmp 2],
  (.seq
   (.region [] [] [1] false [
     (none, .box 1 (.v 0) .copy),
     (none, .asg 2 (.c (.bool false)) .copy)])
   (.seq
    (.region [(12, 1, false), (7, 1, false), (3, 1, false)] [] [2] false [
      (none, .fadr 3 0 1 (.v 1)),
      (none, .load 4 false 1 (.v 3) none),
      (none, .call (some 5) 326 false [((.v 4), false), ((.c (.int .i64 100)), false), ((.c (.int .i64 10000)), false)]),
      (none, .mv 6 (.v 5)),
      (some (6, true), .fadr 7 1 1 (.v 1)),
      (some (6, true), .load 8 false 1 (.v 7) none),
      (some (6, true), .call (some 9) 326 false [((.v 8), false), ((.c (.int .i64 20)), false), ((.c (.int .i64 1000)), false)]),
      (none, .pick 10 (.v 6) (.v 9) (.c (.bool false))),
      (none, .mv 11 (.v 10)),
      (some (11, true), .fadr 12 2 1 (.v 1)),
      (some (11, true), .load 13 false 1 (.v 12) none),
      (some (11, true), .call (some 14) 326 false [((.v 13), false), ((.c (.int .i64 1)), false), ((.c (.int .i64 48)), false)]),
      (none, .pick 15 (.v 11) (.v 14) (.c (.bool false))),
      (none, .asg 2 (.v 15) .copy)])
    (.ret [2])))⟩
def F192 : PFunc :=
 ⟨[false, false], [.tmp 4, .tmp 5, .tmp 6],
  (.seq
   (.region [] [] [1, 2] false [
     (none, .box 2 (.v 0) .copy),
     (none, .asg 4 (.c (.int .i64 0)) .copy),
     (none, .asg 5 (.c (.int .i64 0)) .copy),
     (none, .asg 6 (.c (.int .i64 0)) .copy)])
   (.seq
    (.block 0
     (.seq
      (.region [] [] [1, 2, 7] false [
        (none, .load 8 true 3 (.v 2) none),
        (none, .call (some 9) 212 false [((.v 8), false)]),
        (none, .un 10 .not (.v 9)),
        (none, .asg 7 (.v 10) .copy)])
      (.cond (.v 7)
       (.seq
        (.region [] [] [4, 5, 6] false [
          (none, .asg 4 (.c (.int .i64 0)) .copy),
          (none, .asg 5 (.c (.int .i64 0)) .copy),
          (none, .asg 6 (.c (.int .i64 1)) .copy)])
        (.ret [4, 5, 6]))
       (.seq
        (.region [] [] [1, 2, 11] false [
          (none, .mv 12 (.v 1)),
          (none, .call (some 13) 326 false [((.v 12), false), ((.c (.int .i64 0)), false), ((.c (.int .i64 100)), false)]),
          (none, .un 14 .not (.v 13)),
          (none, .asg 11 (.v 14) .copy)])
        (.cond (.v 11)
         (.seq
          (.region [] [] [4, 5, 6] false [
            (none, .asg 4 (.c (.int .i64 0)) .copy),
            (none, .asg 5 (.c (.int .i64 0)) .copy),
            (none, .asg 6 (.c (.int .i64 2)) .copy)])
          (.ret [4, 5, 6]))
         (.skip [1, 2]))))))
    (.seq
     (.region [(19, 2, false), (15, 2, false)] [] [4, 5, 6] true [
       (none, .fadr 15 0 1 (.v 2)),
       (none, .load 16 false 1 (.v 15) none),
       (none, .mv 17 (.v 1)),
       (none, .bin 18 .add (.v 16) (.v 17)),
       (none, .fadr 19 1 1 (.v 2)),
       (none, .load 20 false 1 (.v 19) none),
       (none, .bin 21 .quo (.v 20) (.c (.int .i64 2))),
       (none, .asg 4 (.v 18) .copy),
       (none, .asg 5 (.v 21) .copy),
       (none, .asg 6 (.c (.int .i64 0)) .copy)])
     (.ret [4, 5, 6]))))⟩
def F193 : PFunc :=
 ⟨[false, false, false, false], [.tmp 8, .tmp 9],
  (.seq
   (.region [] [] [1, 2, 3, 4] false [
     (none, .box 4 (.v 0) .copy),
     (none, .asg 8 (.c (.int .i64 0)) .copy),
     (none, .asg 9 (.c (.int .i64 0)) .copy)])
   (.seq
    (.block 0
     (.seq
      (.region [] [] [1, 2, 3, 4, 12] false [
        (none, .load 13 true 3 (.v 4) none),
        (none, .call (some 14) 212 false [((.v 13), false)]),
        (none, .un 15 .not (.v 14)),
        (none, .asg 12 (.v 15) .copy)])
      (.cond (.v 12)
       (.seq
        (.region [] [] [8, 9] false [
          (none, .asg 8 (.c (.int .i64 0)) .copy),
          (none, .asg 9 (.c (.int .i64 1)) .copy)])
        (.ret [8, 9]))
       (.seq
        (.region [] [] [1, 2, 3, 4, 16] false [
          (none, .mv 17 (.v 1)),
          (none, .call (some 18) 326 false [((.v 17), false), ((.c (.int .i64 0)), false), ((.c (.int .i64 100)), false)]),
          (none, .un 19 .not (.v 18)),
          (none, .mv 20 (.v 19)),
          (some (20, false), .mv 21 (.v 2)),
          (some (20, false), .call (some 22) 326 false [((.v 21), false), ((.c (.int .i64 1)), false), ((.c (.int .i64 5000)), false)]),
          (some (20, false), .un 23 .not (.v 22)),
          (none, .pick 24 (.v 20) (.c (.bool true)) (.v 23)),
          (none, .mv 25 (.v 24)),
          (some (25, false), .mv 26 (.v 3)),
          (some (25, false), .call (some 27) 326 false [((.v 26), false), ((.c (.int .i64 1)), false), ((.c (.int .i64 5000)), false)]),
          (some (25, false), .un 28 .not (.v 27)),
          (none, .pick 29 (.v 25) (.c (.bool true)) (.v 28)),
          (none, .asg 16 (.v 29) .copy)])
        (.cond (.v 16)
         (.seq
          (.region [] [] [8, 9] false [
            (none, .asg 8 (.c (.int .i64 0)) .copy),
            (none, .asg 9 (.c (.int .i64 2)) .copy)])
          (.ret [8, 9]))
         (.skip [1, 2, 3, 4]))))))
    (.seq
     (.region [(34, 4, false), (30, 4, false)] [] [2, 3, 10, 11] true [
       (none, .fadr 30 0 1 (.v 4)),
       (none, .load 31 false 1 (.v 30) none),
       (none, .mv 32 (.v 1)),
       (none, .bin 33 .add (.v 31) (.v 32)),
       (none, .fadr 34 1 1 (.v 4)),
       (none, .load 35 false 1 (.v 34) none),
       (none, .bin 36 .quo (.v 35) (.c (.int .i64 2))),
       (none, .asg 10 (.v 33) .copy),
       (none, .asg 11 (.v 36) .copy)])
     (.seq
      (.region [] [] [8, 9] true [
        (none, .mv 37 (.v 2)),
        (none, .mv 38 (.v 10)),
        (none, .bin 39 .quo (.v 37) (.v 38)),
        (none, .mv 40 (.v 3)),
        (none, .mv 41 (.v 11)),
        (none, .bin 42 .quo (.v 40) (.v 41)),
        (none, .bin 43 .mul (.v 39) (.v 42)),
        (none, .mv 44 (.v 3)),
        (none, .mv 45 (.v 10)),
        (none, .bin 46 .quo (.v 44) (.v 45)),
        (none, .mv 47 (.v 2)),
        (none, .mv 48 (.v 11)),
        (none, .bin 49 .quo (.v 47) (.v 48)),
        (none, .bin 50 .mul (.v 46) (.v 49)),
        (none, .mm 51 true (.v 43) [(.v 50)]),
        (none, .asg 8 (.v 51) .copy),
        (none, .asg 9 (.c (.int .i64 0)) .copy)])
      (.ret [8, 9])))))⟩
def F241 : PFunc :=
 ⟨[false, false, false], [.tmp 6, .tmp 7],
  (.seq
   (.region [] [] [1, 2, 3] false [
     (none, .box 3 (.v 0) .copy),
     (none, .asg 6 (.c (.int .i64 0)) .copy),
     (none, .asg 7 (.c (.int .i64 0)) .copy)])
   (.seq
    (.block 0
     (.seq
      (.region [] [] [1, 2, 3, 8] false [
        (none, .load 9 true 3 (.v 3) none),
        (none, .call (some 10) 212 false [((.v 9), false)]),
        (none, .un 11 .not (.v 10)),
        (none, .asg 8 (.v 11) .copy)])
      (.cond (.v 8)
       (.seq
        (.region [] [] [6, 7] false [
          (none, .asg 6 (.c (.int .i64 0)) .copy),
          (none, .asg 7 (.c (.int .i64 1)) .copy)])
        (.ret [6, 7]))
       (.seq
        (.region [] [] [1, 2, 3, 12] false [
          (none, .mv 13 (.v 1)),
          (none, .call (some 14) 326 false [((.v 13), false), ((.c (.int .i64 1)), false), ((.c (.int .i64 48)), false)]),
          (none, .un 15 .not (.v 14)),
          (none, .mv 16 (.v 15)),
          (some (16, false), .mv 17 (.v 2)),
          (some (16, false), .call (some 18) 326 false [((.v 17), false), ((.c (.int .i64 0)), false), ((.c (.int .i64 10000)), false)]),
          (some (16, false), .un 19 .not (.v 18)),
          (none, .pick 20 (.v 16) (.c (.bool true)) (.v 19)),
          (none, .asg 12 (.v 20) .copy)])
        (.cond (.v 12)
         (.seq
          (.region [] [] [6, 7] false [
            (none, .asg 6 (.c (.int .i64 0)) .copy),
            (none, .asg 7 (.c (.int .i64 2)) .copy)])
          (.ret [6, 7]))
         (.seq
          (.region [(22, 3, false)] [] [1, 2, 3, 21] false [
            (none, .fadr 22 0 1 (.v 3)),
            (none, .load 23 false 1 (.v 22) none),
            (none, .mv 24 (.v 1)),
            (none, .bin 25 .quo (.v 23) (.v 24)),
            (none, .mv 26 (.v 2)),
            (none, .bin 27 .sub (.v 25) (.v 26)),
            (none, .bin 28 .lss (.v 27) (.c (.int .i64 1))),
            (none, .asg 21 (.v 28) .copy)])
          (.cond (.v 21)
           (.seq
            (.region [] [] [6, 7] false [
              (none, .asg 6 (.c (.int .i64 0)) .copy),
              (none, .asg 7 (.c (.int .i64 5)) .copy)])
            (.ret [6, 7]))
           (.skip [1, 2, 3]))))))))
    (.seq
     (.region [(29, 3, false)] [] [6, 7] false [
       (none, .fadr 29 0 1 (.v 3)),
       (none, .load 30 false 1 (.v 29) none),
       (none, .mv 31 (.v 1)),
       (none, .bin 32 .quo (.v 30) (.v 31)),
       (none, .mv 33 (.v 2)),
       (none, .bin 34 .sub (.v 32) (.v 33)),
       (none, .asg 6 (.v 34) .copy),
       (none, .asg 7 (.c (.int .i64 0)) .copy)])
     (.ret [6, 7]))))⟩
def F398 : PFunc :=
 ⟨[false], [.tmp 2],
  (.seq
   (.region [] [] [0] false [
     (none, .asg 2 (.c (.bool false)) .copy)])
   (.seq
    (.region [(3, 0, false)] [] [2] false [
      (none, .mv 3 (.v 0)),
      (none, .len 4 false (.v 3)),
      (none, .bin 5 .gtr (.v 4) (.c (.int .i64 4096))),
      (none, .asg 2 (.v 5) .copy)])
    (.ret [2])))⟩
def F603 : PFunc :=
 ⟨[false], [.tmp 2],
  (.seq
   (.region [] [] [0] false [
     (none, .asg 2 (.c .nilp) .copy)])
   (.seq
    (.region [(3, 0, false)] [] [2] false [
      (none, .mv 3 (.v 0)),
      (none, .build 4 [(.sl false 1 []), (.int .i64 0), (.int .u64 0)] [(0, 1, (.v 3), .move)]),
      (none, .box 5 (.v 4) .move),
      (none, .asg 2 (.v 5) .move)])
    (.ret [2])))⟩
def F5 : PFunc :=
 ⟨[true], [.tmp 2],
  (.seq
   (.region [] [] [0] false [
     (none, .asg 2 (.c (.int .i64 0)) .copy)])
   (.seq
    (.region [] [] [0, 3] false [
      (none, .asg 3 (.c (.int .i64 0)) .copy)])
    (.seq
     (.seq
      (.region [(11, 0, true), (10, 0, false), (9, 0, false), (8, 0, false), (6, 0, false), (5, 0, false), (4, 0, false)] [] [0, 3, 13] true [
        (none, .mv 4 (.v 0)),
        (none, .nchk 5 (.v 4)),
        (none, .fadr 6 1 1 (.v 5)),
        (none, .load 7 false 1 (.v 6) none),
        (none, .mv 8 (.v 0)),
        (none, .nchk 9 (.v 8)),
        (none, .fadr 10 0 1 (.v 9)),
        (none, .load 11 false 1 (.v 10) none),
        (none, .len 12 false (.v 11)),
        (none, .bin 13 .lss (.v 7) (.v 12))])
      (.cond (.v 13)
       (.region [(22, 0, true), (20, 0, false), (19, 0, false), (18, 0, false), (17, 0, true), (16, 0, false), (15, 0, false), (14, 0, false)] [] [0, 3] true [
         (none, .mv 14 (.v 0)),
         (none, .nchk 15 (.v 14)),
         (none, .fadr 16 0 1 (.v 15)),
         (none, .load 17 false 1 (.v 16) none),
         (none, .mv 18 (.v 0)),
         (none, .nchk 19 (.v 18)),
         (none, .fadr 20 1 1 (.v 19)),
         (none, .load 21 false 1 (.v 20) none),
         (none, .iadr 22 1 (.v 17) (.v 21)),
         (none, .load 23 false 1 (.v 22) none),
         (none, .conv 24 .i64 (.v 23)),
         (none, .asg 3 (.v 24) .copy)])
       (.skip [0, 3])))
     (.seq
      (.region [(31, 0, false), (30, 0, false), (27, 0, false), (26, 0, false), (25, 0, false)] [] [0, 3] false [
        (none, .mv 25 (.v 0)),
        (none, .nchk 26 (.v 25)),
        (none, .fadr 27 1 1 (.v 26)),
        (none, .load 28 false 1 (.v 27) none),
        (none, .bin 29 .add (.v 28) (.c (.int .i64 1))),
        (none, .nchk 30 (.v 25)),
        (none, .fadr 31 1 1 (.v 30)),
        (none, .store 1 (.v 31) (.v 29) .copy)])
      (.seq
       (.region [(43, 0, false), (42, 0, false), (35, 0, false), (34, 0, false), (33, 0, false), (32, 0, false)] [] [0, 3] false [
         (none, .mv 32 (.v 0)),
         (none, .mv 33 (.v 0)),
         (none, .nchk 34 (.v 33)),
         (none, .fadr 35 2 1 (.v 34)),
         (none, .load 36 false 1 (.v 35) none),
         (none, .bin 37 .mul (.v 36) (.c (.int .u64 6364136223846793005))),
         (none, .mv 38 (.v 3)),
         (none, .conv 39 .u64 (.v 38)),
         (none, .bin 40 .add (.v 37) (.v 39)),
         (none, .bin 41 .add (.v 40) (.c (.int .u64 1442695040888963407))),
         (none, .nchk 42 (.v 32)),
         (none, .fadr 43 2 1 (.v 42)),
         (none, .store 1 (.v 43) (.v 41) .copy)])
       (.seq
        (.seq
         (.region [(51, 0, true), (50, 0, false), (49, 0, false), (48, 0, false), (46, 0, false), (45, 0, false), (44, 0, false)] [] [0, 3, 53] true [
           (none, .mv 44 (.v 0)),
           (none, .nchk 45 (.v 44)),
           (none, .fadr 46 1 1 (.v 45)),
           (none, .load 47 false 1 (.v 46) none),
           (none, .mv 48 (.v 0)),
           (none, .nchk 49 (.v 48)),
           (none, .fadr 50 0 1 (.v 49)),
           (none, .load 51 false 1 (.v 50) none),
           (none, .len 52 false (.v 51)),
           (none, .bin 53 .leq (.v 47) (.v 52))])
         (.cond (.v 53)
          (.seq
           (.region [] [] [0, 2] false [
             (none, .mv 54 (.v 3)),
             (none, .asg 2 (.v 54) .copy)])
           (.ret [0, 2]))
          (.skip [0])))
        (.seq
         (.region [(57, 0, false), (56, 0, false), (55, 0, false)] [] [0, 2] false [
           (none, .mv 55 (.v 0)),
           (none, .nchk 56 (.v 55)),
           (none, .fadr 57 2 1 (.v 56)),
           (none, .load 58 false 1 (.v 57) none),
           (none, .bin 59 .shr (.v 58) (.c (.int .u64 40))),
           (none, .bin 60 .and (.v 59) (.c (.int .u64 255))),
           (none, .conv 61 .i64 (.v 60)),
           (none, .asg 2 (.v 61) .copy)])
         (.ret [0, 2]))))))))⟩
def F7 : PFunc :=
 ⟨[true, false], [.tmp 4],
  (.seq
   (.region [] [] [0, 1] false [
     (none, .asg 4 (.c (.int .i64 0)) .copy)])
   (.seq
    (.seq
     (.region [] [] [0, 1, 7] false [
       (none, .mv 6 (.v 1)),
       (none, .bin 7 .leq (.v 6) (.c (.int .i64 1)))])
     (.cond (.v 7)
      (.seq
       (.region [] [] [0, 4] false [
         (none, .asg 4 (.c (.int .i64 0)) .copy)])
       (.ret [0, 4]))
      (.skip [0, 1])))
    (.seq
     (.region [(8, 0, false)] [] [0, 1, 5] false [
       (none, .mv 8 (.v 0)),
       (none, .call (some 9) 5 true [((.v 8), true)]),
       (none, .asg 5 (.v 9) .copy)])
     (.seq
      (.seq
       (.region [] [] [0, 1, 5, 11] false [
         (none, .mv 10 (.v 1)),
         (none, .bin 11 .gtr (.v 10) (.c (.int .i64 200)))])
       (.cond (.v 11)
        (.region [(14, 0, false)] [] [0, 1, 5] false [
          (none, .mv 12 (.v 5)),
          (none, .bin 13 .mul (.v 12) (.c (.int .i64 256))),
          (none, .mv 14 (.v 0)),
          (none, .call (some 15) 5 true [((.v 14), true)]),
          (none, .bin 16 .add (.v 13) (.v 15)),
          (none, .asg 5 (.v 16) .copy)])
        (.skip [0, 1, 5])))
      (.seq
       (.region [] [] [0, 4] false [
         (none, .mv 17 (.v 5)),
         (none, .mv 18 (.v 1)),
         (none, .bin 19 .rem (.v 17) (.v 18)),
         (none, .asg 4 (.v 19) .copy)])
       (.ret [0, 4]))))))⟩
def F4 : PFunc :=
 ⟨[true, false], [.tmp 4],
  (.seq
   (.region [] [] [0, 1] false [
     (none, .asg 4 (.c (.int .i64 0)) .copy)])
   (.seq
    (.region [(10, 1, false), (7, 1, false), (6, 0, false), (5, 1, false)] [] [0, 4] false [
      (none, .mv 5 (.v 1)),
      (none, .mv 6 (.v 0)),
      (none, .mv 7 (.v 1)),
      (none, .len 8 false (.v 7)),
      (none, .call (some 9) 7 true [((.v 6), true), ((.v 8), false)]),
      (none, .iadr 10 1 (.v 5) (.v 9)),
      (none, .load 11 false 1 (.v 10) none),
      (none, .asg 4 (.v 11) .copy)])
    (.ret [0, 4])))⟩
def F654 : PFunc :=
 ⟨[true], [.cell 2 true 3],
  (.seq
   (.region [] [] [0, 2] false [
     (none, .new 2 (.agg [(.int .i64 0), (.int .i64 0), (.int .i64 0)]))])
   (.seq
    (.region [(8, 0, false), (4, 0, false)] [] [0, 2, 3] false [
      (none, .mv 4 (.v 0)),
      (none, .call (some 5) 7 true [((.v 4), true), ((.c (.int .i64 90)), false)]),
      (none, .bin 6 .mul (.c (.int .i64 10)) (.v 5)),
      (none, .bin 7 .add (.c (.int .i64 300)) (.v 6)),
      (none, .mv 8 (.v 0)),
      (none, .call (some 9) 7 true [((.v 8), true), ((.c (.int .i64 20)), false)]),
      (none, .bin 10 .mul (.c (.int .i64 10)) (.v 9)),
      (none, .bin 11 .add (.c (.int .i64 60)) (.v 10)),
      (none, .build 12 [(.int .i64 0), (.int .i64 0), (.int .i64 0)] [(0, 1, (.v 7), .copy), (1, 1, (.v 11), .copy)]),
      (none, .new 3 (.agg [(.int .i64 0), (.int .i64 0), (.int .i64 0)])),
      (none, .store 3 (.v 3) (.v 12) .copy)])
    (.seq
     (.region [(16, 3, false), (13, 0, false)] [] [0, 2, 3] false [
       (none, .mv 13 (.v 0)),
       (none, .call (some 14) 7 true [((.v 13), true), ((.c (.int .i64 16)), false)]),
       (none, .bin 15 .add (.c (.int .i64 1)) (.v 14)),
       (none, .fadr 16 2 1 (.v 3)),
       (none, .store 1 (.v 16) (.v 15) .copy)])
     (.seq
      (.region [] [] [0, 2] false [
        (none, .load 17 true 3 (.v 3) none),
        (none, .store 3 (.v 2) (.v 17) .copy)])
      (.ret [0, 2])))))⟩
def F648 : PFunc :=
 ⟨[true], [.cell 2 true 3],
  (.seq
   (.region [] [] [0, 2] false [
     (none, .new 2 (.agg [(.int .i64 0), (.int .i64 0), (.int .i64 0)]))])
   (.seq
    (.region [(4, 0, false)] [] [0, 2, 3] false [
      (none, .mv 4 (.v 0)),
      (none, .call (some 5) 654 true [((.v 4), true)]),
      (none, .new 3 (.agg [(.int .i64 0), (.int .i64 0), (.int .i64 0)])),
      (none, .store 3 (.v 3) (.v 5) .copy)])
    (.seq
     (.seq
      (.region [(6, 0, false)] [] [0, 2, 3, 7] false [
        (none, .mv 6 (.v 0)),
        (none, .call (some 7) 7 true [((.v 6), true), ((.c (.int .i64 24)), false)])])
      (.block 0
       (.seq
        (.region [] [] [0, 2, 3, 7, 8] false [
          (none, .bin 9 .eql (.v 7) (.c (.int .i64 0))),
          (none, .asg 8 (.v 9) .copy)])
        (.cond (.v 8)
         (.region [(13, 3, false), (10, 0, false)] [] [0, 2, 3] false [
           (none, .mv 10 (.v 0)),
           (none, .mksl 11 1 (.int .i64 0) 6 [(0, (.c (.int .i64 (-1))), .copy), (1, (.c (.int .i64 99)), .copy), (2, (.c (.int .i64 100)), .copy), (3, (.c (.int .i64 10000)), .copy), (4, (.c (.int .i64 10001)), .copy), (5, (.c (.int .i64 (-9223372036854775808))), .copy)]),
           (none, .call (some 12) 4 true [((.v 10), true), ((.v 11), false)]),
           (none, .fadr 13 0 1 (.v 3)),
           (none, .store 1 (.v 13) (.v 12) .copy)])
         (.seq
          (.region [] [] [0, 2, 3, 7, 14] false [
            (none, .bin 15 .eql (.v 7) (.c (.int .i64 1))),
            (none, .asg 14 (.v 15) .copy)])
          (.cond (.v 14)
           (.region [(19, 3, false), (16, 0, false)] [] [0, 2, 3] false [
             (none, .mv 16 (.v 0)),
             (none, .mksl 17 1 (.int .i64 0) 5 [(0, (.c (.int .i64 (-1))), .copy), (1, (.c (.int .i64 19)), .copy), (2, (.c (.int .i64 20)), .copy), (3, (.c (.int .i64 1000)), .copy), (4, (.c (.int .i64 1001)), .copy)]),
             (none, .call (some 18) 4 true [((.v 16), true), ((.v 17), false)]),
             (none, .fadr 19 1 1 (.v 3)),
             (none, .store 1 (.v 19) (.v 18) .copy)])
           (.seq
            (.region [] [] [0, 2, 3, 20] false [
              (none, .bin 21 .eql (.v 7) (.c (.int .i64 2))),
              (none, .asg 20 (.v 21) .copy)])
            (.cond (.v 20)
             (.region [(25, 3, false), (22, 0, false)] [] [0, 2, 3] false [
               (none, .mv 22 (.v 0)),
               (none, .mksl 23 1 (.int .i64 0) 5 [(0, (.c (.int .i64 (-1))), .copy), (1, (.c (.int .i64 0)), .copy), (2, (.c (.int .i64 1)), .copy), (3, (.c (.int .i64 48)), .copy), (4, (.c (.int .i64 49)), .copy)]),
               (none, .call (some 24) 4 true [((.v 22), true), ((.v 23), false)]),
               (none, .fadr 25 2 1 (.v 3)),
               (none, .store 1 (.v 25) (.v 24) .copy)])
             (.skip [0, 2, 3])))))))))
     (.seq
      (.region [] [] [0, 2] false [
        (none, .load 26 true 3 (.v 3) none),
        (none, .store 3 (.v 2) (.v 26) .copy)])
      (.ret [0, 2])))))⟩
def F6 : PFunc :=
 ⟨[true, false], [.tmp 4],
  (.seq
   (.region [] [] [0, 1] false [
     (none, .asg 4 (.c (.bool false)) .copy)])
   (.seq
    (.region [(5, 0, false)] [] [0, 4] false [
      (none, .mv 5 (.v 0)),
      (none, .mv 6 (.v 1)),
      (none, .call (some 7) 7 true [((.v 5), true), ((.v 6), false)]),
      (none, .bin 8 .eql (.v 7) (.c (.int .i64 0))),
      (none, .asg 4 (.v 8) .copy)])
    (.ret [0, 4])))⟩
def F649 : PFunc :=
 ⟨[true], [.tmp 2],
  (.seq
   (.region [] [] [0] false [
     (none, .asg 2 (.c (.int .i64 0)) .copy)])
   (.seq
    (.seq
     (.region [(3, 0, false)] [] [0, 4] false [
       (none, .mv 3 (.v 0)),
       (none, .call (some 4) 6 true [((.v 3), true), ((.c (.int .i64 10)), false)])])
     (.cond (.v 4)
      (.seq
       (.region [(5, 0, false)] [] [0, 2] false [
         (none, .mv 5 (.v 0)),
         (none, .mksl 6 1 (.int .i64 0) 4 [(0, (.c (.int .i64 (-1))), .copy), (1, (.c (.int .i64 0)), .copy), (2, (.c (.int .i64 100)), .copy), (3, (.c (.int .i64 101)), .copy)]),
         (none, .call (some 7) 4 true [((.v 5), true), ((.v 6), false)]),
         (none, .asg 2 (.v 7) .copy)])
       (.ret [0, 2]))
      (.skip [0])))
    (.seq
     (.region [(8, 0, false)] [] [0, 2] false [
       (none, .mv 8 (.v 0)),
       (none, .call (some 9) 7 true [((.v 8), true), ((.c (.int .i64 30)), false)]),
       (none, .asg 2 (.v 9) .copy)])
     (.ret [0, 2]))))⟩
def F501 : PFunc :=
 ⟨[false], [.cell 2 true 3, .tmp 3],
  (.seq
   (.region [] [] [0, 2] false [
     (none, .new 2 (.agg [(.int .i64 0), (.int .i64 0), (.int .i64 0)])),
     (none, .asg 3 (.c (.int .i64 0)) .copy)])
   (.seq
    (.region [(6, 0, false)] [] [2, 4] false [
      (none, .mv 6 (.v 0)),
      (none, .call (some 7) 603 true [((.v 6), false)]),
      (none, .asg 4 (.v 7) .move)])
    (.seq
     (.region [(8, 4, false)] [] [2, 4, 5] false [
       (none, .mv 8 (.v 4)),
       (none, .call (some 9) 648 true [((.v 8), true)]),
       (none, .new 5 (.agg [(.int .i64 0), (.int .i64 0), (.int .i64 0)])),
       (none, .store 3 (.v 5) (.v 9) .copy)])
     (.seq
      (.region [(11, 4, false)] [] [2, 3] true [
        (none, .load 10 true 3 (.v 5) none),
        (none, .mv 11 (.v 4)),
        (none, .call (some 12) 649 true [((.v 11), true)]),
        (none, .store 3 (.v 2) (.v 10) .copy),
        (none, .asg 3 (.v 12) .copy)])
      (.ret [2, 3])))))⟩
def F502 : PFunc :=
 ⟨[false], [.cell 2 true 3, .tmp 3, .tmp 4, .tmp 5],
  (.seq
   (.region [] [] [0, 2] false [
     (none, .new 2 (.agg [(.int .i64 0), (.int .i64 0), (.int .i64 0)])),
     (none, .asg 3 (.c (.int .i64 0)) .copy),
     (none, .asg 4 (.c (.int .i64 0)) .copy),
     (none, .asg 5 (.c (.int .i64 0)) .copy)])
   (.seq
    (.region [(10, 0, false)] [] [2, 6] false [
      (none, .mv 10 (.v 0)),
      (none, .call (some 11) 603 true [((.v 10), false)]),
      (none, .asg 6 (.v 11) .move)])
    (.seq
     (.region [(12, 6, false)] [] [2, 6, 7] false [
       (none, .mv 12 (.v 6)),
       (none, .call (some 13) 648 true [((.v 12), true)]),
       (none, .new 7 (.agg [(.int .i64 0), (.int .i64 0), (.int .i64 0)])),
       (none, .store 3 (.v 7) (.v 13) .copy)])
     (.seq
      (.region [(14, 6, false)] [] [2, 6, 7, 8] false [
        (none, .mv 14 (.v 6)),
        (none, .call (some 15) 649 true [((.v 14), true)]),
        (none, .asg 8 (.v 15) .copy)])
      (.seq
       (.region [(16, 6, false)] [] [2, 6, 7, 8, 9] false [
         (none, .mv 16 (.v 6)),
         (none, .call (some 17) 7 true [((.v 16), true), ((.c (.int .i64 300)), false)]),
         (none, .bin 18 .mul (.c (.int .i64 10)) (.v 17)),
         (none, .bin 19 .add (.c (.int .i64 200)) (.v 18)),
         (none, .asg 9 (.v 19) .copy)])
       (.seq
        (.seq
         (.region [(20, 6, false)] [] [2, 6, 7, 8, 9, 21] false [
           (none, .mv 20 (.v 6)),
           (none, .call (some 21) 6 true [((.v 20), true), ((.c (.int .i64 10)), false)])])
         (.cond (.v 21)
          (.region [(22, 6, false)] [] [2, 6, 7, 8, 9] false [
            (none, .mv 22 (.v 6)),
            (none, .mksl 23 1 (.int .i64 0) 5 [(0, (.c (.int .i64 (-1))), .copy), (1, (.c (.int .i64 0)), .copy), (2, (.c (.int .i64 1)), .copy), (3, (.c (.int .i64 5000)), .copy), (4, (.c (.int .i64 5001)), .copy)]),
            (none, .call (some 24) 4 true [((.v 22), true), ((.v 23), false)]),
            (none, .asg 9 (.v 24) .copy)])
          (.skip [2, 6, 7, 8, 9])))
        (.seq
         (.seq
          (.region [(25, 6, false)] [] [2, 6, 7, 8, 9, 26] false [
            (none, .mv 25 (.v 6)),
            (none, .call (some 26) 6 true [((.v 25), true), ((.c (.int .i64 10)), false)])])
          (.cond (.v 26)
           (.seq
            (.region [(30, 6, false)] [] [2, 3, 4, 5] true [
              (none, .load 27 true 3 (.v 7) none),
              (none, .mv 28 (.v 8)),
              (none, .mv 29 (.v 9)),
              (none, .mv 30 (.v 6)),
              (none, .mksl 31 1 (.int .i64 0) 5 [(0, (.c (.int .i64 (-1))), .copy), (1, (.c (.int .i64 0)), .copy), (2, (.c (.int .i64 1)), .copy), (3, (.c (.int .i64 5000)), .copy), (4, (.c (.int .i64 5001)), .copy)]),
              (none, .call (some 32) 4 true [((.v 30), true), ((.v 31), false)]),
              (none, .store 3 (.v 2) (.v 27) .copy),
              (none, .asg 3 (.v 28) .copy),
              (none, .asg 4 (.v 29) .copy),
              (none, .asg 5 (.v 32) .copy)])
            (.ret [2, 3, 4, 5]))
           (.skip [2, 6, 7, 8, 9])))
         (.seq
          (.region [(36, 6, false)] [] [2, 3, 4, 5] true [
            (none, .load 33 true 3 (.v 7) none),
            (none, .mv 34 (.v 8)),
            (none, .mv 35 (.v 9)),
            (none, .mv 36 (.v 6)),
            (none, .call (some 37) 7 true [((.v 36), true), ((.c (.int .i64 100)), false)]),
            (none, .bin 38 .mul (.c (.int .i64 10)) (.v 37)),
            (none, .bin 39 .add (.c (.int .i64 100)) (.v 38)),
            (none, .store 3 (.v 2) (.v 33) .copy),
            (none, .asg 3 (.v 34) .copy),
            (none, .asg 4 (.v 35) .copy),
            (none, .asg 5 (.v 39) .copy)])
          (.ret [2, 3, 4, 5])))))))))⟩
def F656 : PFunc :=
 ⟨[false], [.cell 2 true 3, .tmp 3],
  (.seq
   (.region [] [] [0, 2] false [
     (none, .new 2 (.agg [(.int .i64 0), (.int .i64 0), (.int .i64 0)])),
     (none, .asg 3 (.c (.int .i64 0)) .copy)])
   (.seq
    (.region [(6, 0, false)] [] [2, 4] false [
      (none, .mv 6 (.v 0)),
      (none, .call (some 7) 603 true [((.v 6), false)]),
      (none, .asg 4 (.v 7) .move)])
    (.seq
     (.region [(8, 4, false)] [] [2, 4, 5] false [
       (none, .mv 8 (.v 4)),
       (none, .call (some 9) 648 true [((.v 8), true)]),
       (none, .new 5 (.agg [(.int .i64 0), (.int .i64 0), (.int .i64 0)])),
       (none, .store 3 (.v 5) (.v 9) .copy)])
     (.seq
      (.seq
       (.region [(10, 4, false)] [] [2, 4, 5, 11] false [
         (none, .mv 10 (.v 4)),
         (none, .call (some 11) 6 true [((.v 10), true), ((.c (.int .i64 8)), false)])])
       (.cond (.v 11)
        (.seq
         (.region [(13, 4, false)] [] [2, 3] true [
           (none, .load 12 true 3 (.v 5) none),
           (none, .mv 13 (.v 4)),
           (none, .mksl 14 1 (.int .i64 0) 5 [(0, (.c (.int .i64 (-1))), .copy), (1, (.c (.int .i64 0)), .copy), (2, (.c (.int .i64 1)), .copy), (3, (.c (.int .i64 48)), .copy), (4, (.c (.int .i64 49)), .copy)]),
           (none, .call (some 15) 4 true [((.v 13), true), ((.v 14), false)]),
           (none, .store 3 (.v 2) (.v 12) .copy),
           (none, .asg 3 (.v 15) .copy)])
         (.ret [2, 3]))
        (.skip [2, 4, 5])))
      (.seq
       (.region [(17, 4, false)] [] [2, 3] true [
         (none, .load 16 true 3 (.v 5) none),
         (none, .mv 17 (.v 4)),
         (none, .call (some 18) 7 true [((.v 17), true), ((.c (.int .i64 20)), false)]),
         (none, .bin 19 .add (.c (.int .i64 1)) (.v 18)),
         (none, .store 3 (.v 2) (.v 16) .copy),
         (none, .asg 3 (.v 19) .copy)])
       (.ret [2, 3]))))))⟩
def F511 : PFunc :=
 ⟨[false], [.cell 2 true 3, .tmp 3, .tmp 4],
  (.seq
   (.region [] [] [0, 2] false [
     (none, .new 2 (.agg [(.int .i64 0), (.int .i64 0), (.int .i64 0)])),
     (none, .asg 3 (.c (.int .i64 0)) .copy),
     (none, .asg 4 (.c (.int .i64 0)) .copy)])
   (.seq
    (.region [(9, 0, false)] [] [0, 2, 5, 6] false [
      (none, .mv 9 (.v 0)),
      (none, .call (some 10) 656 false [((.v 9), false)]),
      (none, .asg 8 (.v 10) .copy),
      (none, .extp 11 (.v 8) 0),
      (none, .extp 12 (.v 8) 1),
      (none, .new 5 (.agg [(.int .i64 0), (.int .i64 0), (.int .i64 0)])),
      (none, .store 3 (.v 5) (.v 11) .copy),
      (none, .asg 6 (.v 12) .copy)])
    (.seq
     (.region [(13, 0, false)] [] [2, 5, 6, 7] false [
       (none, .mv 13 (.v 0)),
       (none, .call (some 14) 603 true [((.v 13), false)]),
       (none, .asg 7 (.v 14) .move)])
     (.seq
      (.seq
       (.region [(15, 7, false)] [] [2, 5, 6, 7, 16] false [
         (none, .mv 15 (.v 7)),
         (none, .call (some 16) 6 true [((.v 15), true), ((.c (.int .i64 8)), false)])])
       (.cond (.v 16)
        (.seq
         (.region [(19, 7, false)] [] [2, 3, 4] true [
           (none, .load 17 true 3 (.v 5) none),
           (none, .mv 18 (.v 6)),
           (none, .mv 19 (.v 7)),
           (none, .mksl 20 1 (.int .i64 0) 4 [(0, (.c (.int .i64 (-1))), .copy), (1, (.c (.int .i64 0)), .copy), (2, (.c (.int .i64 10000)), .copy), (3, (.c (.int .i64 10001)), .copy)]),
           (none, .call (some 21) 4 true [((.v 19), true), ((.v 20), false)]),
           (none, .store 3 (.v 2) (.v 17) .copy),
           (none, .asg 3 (.v 18) .copy),
           (none, .asg 4 (.v 21) .copy)])
         (.ret [2, 3, 4]))
        (.skip [2, 5, 6, 7])))
      (.seq
       (.region [(24, 7, false)] [] [2, 3, 4] true [
         (none, .load 22 true 3 (.v 5) none),
         (none, .mv 23 (.v 6)),
         (none, .mv 24 (.v 7)),
         (none, .call (some 25) 7 true [((.v 24), true), ((.c (.int .i64 50)), false)]),
         (none, .store 3 (.v 2) (.v 22) .copy),
         (none, .asg 3 (.v 23) .copy),
         (none, .asg 4 (.v 25) .copy)])
       (.ret [2, 3, 4]))))))⟩
def F605 : PFunc :=
 ⟨[false, false, false], [.tmp 6],
  (.seq
   (.region [] [] [0, 1, 2] false [
     (none, .asg 6 (.c (.bool false)) .copy)])
   (.seq
    (.region [] [] [6] false [
      (none, .mv 7 (.v 0)),
      (none, .mv 8 (.v 1)),
      (none, .bin 9 .geq (.v 7) (.v 8)),
      (none, .mv 10 (.v 9)),
      (some (10, true), .mv 11 (.v 0)),
      (some (10, true), .mv 12 (.v 2)),
      (some (10, true), .bin 13 .leq (.v 11) (.v 12)),
      (none, .pick 14 (.v 10) (.v 13) (.c (.bool false))),
      (none, .asg 6 (.v 14) .copy)])
    (.ret [6])))⟩
def F655 : PFunc :=
 ⟨[false], [.tmp 2],
  (.seq
   (.region [] [] [0] false [
     (none, .asg 2 (.c (.bool false)) .copy)])
   (.seq
    (.region [(18, 0, false), (17, 0, false), (16, 0, false), (11, 0, false), (10, 0, false), (9, 0, false), (5, 0, false), (4, 0, false), (3, 0, false)] [] [2] false [
      (none, .mv 3 (.v 0)),
      (none, .nchk 4 (.v 3)),
      (none, .fadr 5 0 1 (.v 4)),
      (none, .load 6 false 1 (.v 5) none),
      (none, .call (some 7) 605 false [((.v 6), false), ((.c (.int .i64 100)), false), ((.c (.int .i64 10000)), false)]),
      (none, .mv 8 (.v 7)),
      (some (8, true), .mv 9 (.v 0)),
      (some (8, true), .nchk 10 (.v 9)),
      (some (8, true), .fadr 11 1 1 (.v 10)),
      (some (8, true), .load 12 false 1 (.v 11) none),
      (some (8, true), .call (some 13) 605 false [((.v 12), false), ((.c (.int .i64 20)), false), ((.c (.int .i64 1000)), false)]),
      (none, .pick 14 (.v 8) (.v 13) (.c (.bool false))),
      (none, .mv 15 (.v 14)),
      (some (15, true), .mv 16 (.v 0)),
      (some (15, true), .nchk 17 (.v 16)),
      (some (15, true), .fadr 18 2 1 (.v 17)),
      (some (15, true), .load 19 false 1 (.v 18) none),
      (some (15, true), .call (some 20) 605 false [((.v 19), false), ((.c (.int .i64 1)), false), ((.c (.int .i64 48)), false)]),
      (none, .pick 21 (.v 15) (.v 20) (.c (.bool false))),
      (none, .asg 2 (.v 21) .copy)])
    (.ret [2])))⟩
def F650 : PFunc :=
 ⟨[false, false], [.tmp 4],
  (.seq
   (.region [] [] [0, 1] false [
     (none, .asg 4 (.c (.int .i64 0)) .copy)])
   (.seq
    (.seq
     (.region [(5, 0, false)] [] [1, 7] false [
       (none, .mv 5 (.v 0)),
       (none, .call (some 6) 655 false [((.v 5), false)]),
       (none, .un 7 .not (.v 6))])
     (.cond (.v 7)
      (.seq
       (.region [] [] [4] false [
         (none, .asg 4 (.c (.int .i64 1)) .copy)])
       (.ret [4]))
      (.skip [1])))
    (.seq
     (.seq
      (.region [] [] [10] false [
        (none, .mv 8 (.v 1)),
        (none, .call (some 9) 605 false [((.v 8), false), ((.c (.int .i64 0)), false), ((.c (.int .i64 100)), false)]),
        (none, .un 10 .not (.v 9))])
      (.cond (.v 10)
       (.seq
        (.region [] [] [4] false [
          (none, .asg 4 (.c (.int .i64 2)) .copy)])
        (.ret [4]))
       (.skip [])))
     (.seq
      (.region [] [] [4] false [
        (none, .asg 4 (.c (.int .i64 0)) .copy)])
      (.ret [4])))))⟩
def F651 : PFunc :=
 ⟨[false], [.tmp 2],
  (.seq
   (.region [] [] [0] false [
     (none, .asg 2 (.c (.int .i64 0)) .copy)])
   (.seq
    (.region [(5, 0, false), (4, 0, false), (3, 0, false)] [] [2] false [
      (none, .mv 3 (.v 0)),
      (none, .nchk 4 (.v 3)),
      (none, .fadr 5 1 1 (.v 4)),
      (none, .load 6 false 1 (.v 5) none),
      (none, .bin 7 .quo (.v 6) (.c (.int .i64 2))),
      (none, .asg 2 (.v 7) .copy)])
    (.ret [2])))⟩
def F652 : PFunc :=
 ⟨[false, false], [.tmp 4],
  (.seq
   (.region [] [] [0, 1] false [
     (none, .asg 4 (.c (.int .i64 0)) .copy)])
   (.seq
    (.region [(7, 0, false), (6, 0, false), (5, 0, false)] [] [4] false [
      (none, .mv 5 (.v 0)),
      (none, .nchk 6 (.v 5)),
      (none, .fadr 7 0 1 (.v 6)),
      (none, .load 8 false 1 (.v 7) none),
      (none, .mv 9 (.v 1)),
      (none, .bin 10 .add (.v 8) (.v 9)),
      (none, .asg 4 (.v 10) .copy)])
    (.ret [4])))⟩
def F577 : PFunc :=
 ⟨[false, false], [.tmp 4, .tmp 5, .tmp 6],
  (.seq
   (.region [] [] [1, 2] false [
     (none, .box 2 (.v 0) .copy),
     (none, .asg 4 (.c (.int .i64 0)) .copy),
     (none, .asg 5 (.c (.int .i64 0)) .copy),
     (none, .asg 6 (.c (.int .i64 0)) .copy)])
   (.seq
    (.region [] [] [1, 2, 7] false [
      (none, .mv 8 (.v 1)),
      (none, .call (some 9) 650 false [((.v 2), false), ((.v 8), false)]),
      (none, .asg 7 (.v 9) .copy)])
    (.seq
     (.seq
      (.region [] [] [1, 2, 7, 11] false [
        (none, .mv 10 (.v 7)),
        (none, .bin 11 .neq (.v 10) (.c (.int .i64 0)))])
      (.cond (.v 11)
       (.seq
        (.region [] [] [4, 5, 6] false [
          (none, .mv 12 (.v 7)),
          (none, .asg 4 (.c (.int .i64 0)) .copy),
          (none, .asg 5 (.c (.int .i64 0)) .copy),
          (none, .asg 6 (.v 12) .copy)])
        (.ret [4, 5, 6]))
       (.skip [1, 2])))
     (.seq
      (.region [] [] [4, 5, 6] false [
        (none, .mv 13 (.v 1)),
        (none, .call (some 14) 652 false [((.v 2), false), ((.v 13), false)]),
        (none, .call (some 15) 651 false [((.v 2), false)]),
        (none, .asg 4 (.v 14) .copy),
        (none, .asg 5 (.v 15) .copy),
        (none, .asg 6 (.c (.int .i64 0)) .copy)])
      (.ret [4, 5, 6])))))⟩
def F606 : PFunc :=
 ⟨[false, false], [.tmp 4],
  (.seq
   (.region [] [] [0, 1] false [
     (none, .asg 4 (.c (.int .i64 0)) .copy)])
   (.seq
    (.seq
     (.region [] [] [0, 1, 7] false [
       (none, .mv 5 (.v 0)),
       (none, .mv 6 (.v 1)),
       (none, .bin 7 .gtr (.v 5) (.v 6))])
     (.cond (.v 7)
      (.seq
       (.region [] [] [4] false [
         (none, .mv 8 (.v 0)),
         (none, .asg 4 (.v 8) .copy)])
       (.ret [4]))
      (.skip [1])))
    (.seq
     (.region [] [] [4] false [
       (none, .mv 9 (.v 1)),
       (none, .asg 4 (.v 9) .copy)])
     (.ret [4]))))⟩
def F578 : PFunc :=
 ⟨[false, false, false, false], [.tmp 8, .tmp 9],
  (.seq
   (.region [] [] [1, 2, 3, 4] false [
     (none, .box 4 (.v 0) .copy),
     (none, .asg 8 (.c (.int .i64 0)) .copy),
     (none, .asg 9 (.c (.int .i64 0)) .copy)])
   (.seq
    (.region [] [] [1, 2, 3, 4, 10] false [
      (none, .mv 14 (.v 1)),
      (none, .call (some 15) 650 false [((.v 4), false), ((.v 14), false)]),
      (none, .asg 10 (.v 15) .copy)])
    (.seq
     (.seq
      (.region [] [] [1, 2, 3, 4, 10, 27] false [
        (none, .mv 16 (.v 10)),
        (none, .bin 17 .eql (.v 16) (.c (.int .i64 0))),
        (none, .mv 18 (.v 17)),
        (some (18, true), .mv 19 (.v 2)),
        (some (18, true), .call (some 20) 605 false [((.v 19), false), ((.c (.int .i64 1)), false), ((.c (.int .i64 5000)), false)]),
        (some (18, true), .un 21 .not (.v 20)),
        (some (18, true), .mv 22 (.v 21)),
        (some (22, false), .mv 23 (.v 3)),
        (some (22, false), .call (some 24) 605 false [((.v 23), false), ((.c (.int .i64 1)), false), ((.c (.int .i64 5000)), false)]),
        (some (22, false), .un 25 .not (.v 24)),
        (some (18, true), .pick 26 (.v 22) (.c (.bool true)) (.v 25)),
        (none, .pick 27 (.v 18) (.v 26) (.c (.bool false)))])
      (.cond (.v 27)
       (.region [] [] [1, 2, 3, 4, 10] false [
         (none, .asg 10 (.c (.int .i64 2)) .copy)])
       (.skip [1, 2, 3, 4, 10])))
     (.seq
      (.seq
       (.region [] [] [1, 2, 3, 4, 10, 29] false [
         (none, .mv 28 (.v 10)),
         (none, .bin 29 .neq (.v 28) (.c (.int .i64 0)))])
       (.cond (.v 29)
        (.seq
         (.region [] [] [8, 9] false [
           (none, .mv 30 (.v 10)),
           (none, .asg 8 (.c (.int .i64 0)) .copy),
           (none, .asg 9 (.v 30) .copy)])
         (.ret [8, 9]))
        (.skip [1, 2, 3, 4])))
      (.seq
       (.region [] [] [2, 3, 4, 11] false [
         (none, .mv 31 (.v 1)),
         (none, .call (some 32) 652 false [((.v 4), false), ((.v 31), false)]),
         (none, .asg 11 (.v 32) .copy)])
       (.seq
        (.region [] [] [2, 3, 4, 11, 12] true [
          (none, .mv 33 (.v 2)),
          (none, .mv 34 (.v 11)),
          (none, .bin 35 .quo (.v 33) (.v 34)),
          (none, .mv 36 (.v 3)),
          (none, .call (some 37) 651 false [((.v 4), false)]),
          (none, .bin 38 .quo (.v 36) (.v 37)),
          (none, .bin 39 .mul (.v 35) (.v 38)),
          (none, .asg 12 (.v 39) .copy)])
        (.seq
         (.region [] [] [12, 13] true [
           (none, .mv 40 (.v 3)),
           (none, .mv 41 (.v 11)),
           (none, .bin 42 .quo (.v 40) (.v 41)),
           (none, .mv 43 (.v 2)),
           (none, .call (some 44) 651 false [((.v 4), false)]),
           (none, .bin 45 .quo (.v 43) (.v 44)),
           (none, .bin 46 .mul (.v 42) (.v 45)),
           (none, .asg 13 (.v 46) .copy)])
         (.seq
          (.region [] [] [8, 9] false [
            (none, .mv 47 (.v 12)),
            (none, .mv 48 (.v 13)),
            (none, .call (some 49) 606 false [((.v 47), false), ((.v 48), false)]),
            (none, .asg 8 (.v 49) .copy),
            (none, .asg 9 (.c (.int .i64 0)) .copy)])
          (.ret [8, 9])))))))))⟩
def F620 : PFunc :=
 ⟨[false], [.tmp 2],
  (.seq
   (.region [] [] [0] false [
     (none, .asg 2 (.c (.bool false)) .copy)])
   (.seq
    (.region [] [] [2] false [
      (none, .mv 3 (.v 0)),
      (none, .call (some 4) 605 false [((.v 3), false), ((.c (.int .i64 1)), false), ((.c (.int .i64 48)), false)]),
      (none, .asg 2 (.v 4) .copy)])
    (.ret [2])))⟩
def F653 : PFunc :=
 ⟨[false, false], [.tmp 4],
  (.seq
   (.region [] [] [0, 1] false [
     (none, .asg 4 (.c (.int .i64 0)) .copy)])
   (.seq
    (.seq
     (.region [(5, 0, false)] [] [1, 7] false [
       (none, .mv 5 (.v 0)),
       (none, .call (some 6) 655 false [((.v 5), false)]),
       (none, .un 7 .not (.v 6))])
     (.cond (.v 7)
      (.seq
       (.region [] [] [4] false [
         (none, .asg 4 (.c (.int .i64 1)) .copy)])
       (.ret [4]))
      (.skip [1])))
    (.seq
     (.seq
      (.region [] [] [10] false [
        (none, .mv 8 (.v 1)),
        (none, .call (some 9) 620 false [((.v 8), false)]),
        (none, .un 10 .not (.v 9))])
      (.cond (.v 10)
       (.seq
        (.region [] [] [4] false [
          (none, .asg 4 (.c (.int .i64 2)) .copy)])
        (.ret [4]))
       (.skip [])))
     (.seq
      (.region [] [] [4] false [
        (none, .asg 4 (.c (.int .i64 0)) .copy)])
      (.ret [4])))))⟩
def F601 : PFunc :=
 ⟨[false, false, false], [.tmp 6, .tmp 7],
  (.seq
   (.region [] [] [1, 2, 3] false [
     (none, .box 3 (.v 0) .copy),
     (none, .asg 6 (.c (.int .i64 0)) .copy),
     (none, .asg 7 (.c (.int .i64 0)) .copy)])
   (.seq
    (.region [] [] [1, 2, 3, 8] false [
      (none, .mv 10 (.v 1)),
      (none, .call (some 11) 653 false [((.v 3), false), ((.v 10), false)]),
      (none, .asg 8 (.v 11) .copy)])
    (.seq
     (.seq
      (.region [] [] [1, 2, 3, 8, 18] false [
        (none, .mv 12 (.v 8)),
        (none, .bin 13 .eql (.v 12) (.c (.int .i64 0))),
        (none, .mv 14 (.v 13)),
        (some (14, true), .mv 15 (.v 2)),
        (some (14, true), .call (some 16) 605 false [((.v 15), false), ((.c (.int .i64 0)), false), ((.c (.int .i64 10000)), false)]),
        (some (14, true), .un 17 .not (.v 16)),
        (none, .pick 18 (.v 14) (.v 17) (.c (.bool false)))])
      (.cond (.v 18)
       (.region [] [] [1, 2, 3, 8] false [
         (none, .asg 8 (.c (.int .i64 2)) .copy)])
       (.skip [1, 2, 3, 8])))
     (.seq
      (.seq
       (.region [] [] [1, 2, 3, 8, 20] false [
         (none, .mv 19 (.v 8)),
         (none, .bin 20 .neq (.v 19) (.c (.int .i64 0)))])
       (.cond (.v 20)
        (.seq
         (.region [] [] [6, 7] false [
           (none, .mv 21 (.v 8)),
           (none, .asg 6 (.c (.int .i64 0)) .copy),
           (none, .asg 7 (.v 21) .copy)])
         (.ret [6, 7]))
        (.skip [1, 2, 3])))
      (.seq
       (.region [(22, 3, false)] [] [9] false [
         (none, .fadr 22 0 1 (.v 3)),
         (none, .load 23 false 1 (.v 22) none),
         (none, .mv 24 (.v 1)),
         (none, .bin 25 .quo (.v 23) (.v 24)),
         (none, .mv 26 (.v 2)),
         (none, .bin 27 .sub (.v 25) (.v 26)),
         (none, .asg 9 (.v 27) .copy)])
       (.seq
        (.seq
         (.region [] [] [9, 29] false [
           (none, .mv 28 (.v 9)),
           (none, .bin 29 .lss (.v 28) (.c (.int .i64 1)))])
         (.cond (.v 29)
          (.seq
           (.region [] [] [6, 7] false [
             (none, .asg 6 (.c (.int .i64 0)) .copy),
             (none, .asg 7 (.c (.int .i64 5)) .copy)])
           (.ret [6, 7]))
          (.skip [9])))
        (.seq
         (.region [] [] [6, 7] false [
           (none, .mv 30 (.v 9)),
           (none, .asg 6 (.v 30) .copy),
           (none, .asg 7 (.c (.int .i64 0)) .copy)])
         (.ret [6, 7]))))))))⟩
def F378 : PFunc :=
 ⟨[false], [.tmp 2],
  (.seq
   (.region [] [] [0] false [
     (none, .asg 2 (.c (.bool false)) .copy)])
   (.seq
    (.seq
     (.region [(29, 0, false)] [] [0, 30] false [
       (none, .mv 29 (.v 0)),
       (none, .call (some 30) 398 false [((.v 29), false)])])
     (.cond (.v 30)
      (.seq
       (.region [] [] [2] false [
         (none, .asg 2 (.c (.bool true)) .copy)])
       (.ret [2]))
      (.skip [0])))
    (.seq
     (.region [(32, 0, false)] [] [0, 3, 4] false [
       (none, .mv 32 (.v 0)),
       (none, .call (some 33) 501 false [((.v 32), false)]),
       (none, .asg 31 (.v 33) .copy),
       (none, .extp 34 (.v 31) 0),
       (none, .extp 35 (.v 31) 1),
       (none, .new 3 (.agg [(.int .i64 0), (.int .i64 0), (.int .i64 0)])),
       (none, .store 3 (.v 3) (.v 34) .copy),
       (none, .asg 4 (.v 35) .copy)])
     (.seq
      (.region [] [] [0, 3, 4, 5, 6, 7] false [
        (none, .load 37 true 3 (.v 3) none),
        (none, .mv 38 (.v 4)),
        (none, .call (some 39) 192 false [((.v 37), false), ((.v 38), false)]),
        (none, .asg 36 (.v 39) .copy),
        (none, .extp 40 (.v 36) 0),
        (none, .extp 41 (.v 36) 1),
        (none, .extp 42 (.v 36) 2),
        (none, .asg 5 (.v 40) .copy),
        (none, .asg 6 (.v 41) .copy),
        (none, .asg 7 (.v 42) .copy)])
      (.seq
       (.region [] [] [0, 3, 4, 5, 6, 7, 8, 9, 10] false [
         (none, .load 44 true 3 (.v 3) none),
         (none, .mv 45 (.v 4)),
         (none, .call (some 46) 577 false [((.v 44), false), ((.v 45), false)]),
         (none, .asg 43 (.v 46) .copy),
         (none, .extp 47 (.v 43) 0),
         (none, .extp 48 (.v 43) 1),
         (none, .extp 49 (.v 43) 2),
         (none, .asg 8 (.v 47) .copy),
         (none, .asg 9 (.v 48) .copy),
         (none, .asg 10 (.v 49) .copy)])
       (.seq
        (.region [(51, 0, false)] [] [0, 3, 4, 5, 6, 7, 8, 9, 10, 11, 12, 13, 14] false [
          (none, .mv 51 (.v 0)),
          (none, .call (some 52) 502 false [((.v 51), false)]),
          (none, .asg 50 (.v 52) .copy),
          (none, .extp 53 (.v 50) 0),
          (none, .extp 54 (.v 50) 1),
          (none, .extp 55 (.v 50) 2),
          (none, .extp 56 (.v 50) 3),
          (none, .new 11 (.agg [(.int .i64 0), (.int .i64 0), (.int .i64 0)])),
          (none, .store 3 (.v 11) (.v 53) .copy),
          (none, .asg 12 (.v 54) .copy),
          (none, .asg 13 (.v 55) .copy),
          (none, .asg 14 (.v 56) .copy)])
        (.seq
         (.region [] [] [0, 3, 4, 5, 6, 7, 8, 9, 10, 11, 12, 13, 14, 15, 16] false [
           (none, .load 58 true 3 (.v 11) none),
           (none, .mv 59 (.v 12)),
           (none, .mv 60 (.v 13)),
           (none, .mv 61 (.v 14)),
           (none, .call (some 62) 193 false [((.v 58), false), ((.v 59), false), ((.v 60), false), ((.v 61), false)]),
           (none, .asg 57 (.v 62) .copy),
           (none, .extp 63 (.v 57) 0),
           (none, .extp 64 (.v 57) 1),
           (none, .asg 15 (.v 63) .copy),
           (none, .asg 16 (.v 64) .copy)])
         (.seq
          (.region [] [] [0, 3, 4, 5, 6, 7, 8, 9, 10, 11, 12, 13, 14, 15, 16, 17, 18] false [
            (none, .load 66 true 3 (.v 11) none),
            (none, .mv 67 (.v 12)),
            (none, .mv 68 (.v 13)),
            (none, .mv 69 (.v 14)),
            (none, .call (some 70) 578 false [((.v 66), false), ((.v 67), false), ((.v 68), false), ((.v 69), false)]),
            (none, .asg 65 (.v 70) .copy),
            (none, .extp 71 (.v 65) 0),
            (none, .extp 72 (.v 65) 1),
            (none, .asg 17 (.v 71) .copy),
            (none, .asg 18 (.v 72) .copy)])
          (.seq
           (.region [(74, 0, false)] [] [3, 4, 5, 6, 7, 8, 9, 10, 11, 12, 13, 14, 15, 16, 17, 18, 19, 20, 21] false [
             (none, .mv 74 (.v 0)),
             (none, .call (some 75) 511 false [((.v 74), false)]),
             (none, .asg 73 (.v 75) .copy),
             (none, .extp 76 (.v 73) 0),
             (none, .extp 77 (.v 73) 1),
             (none, .extp 78 (.v 73) 2),
             (none, .new 19 (.agg [(.int .i64 0), (.int .i64 0), (.int .i64 0)])),
             (none, .store 3 (.v 19) (.v 76) .copy),
             (none, .asg 20 (.v 77) .copy),
             (none, .asg 21 (.v 78) .copy)])
           (.seq
            (.region [] [] [3, 4, 5, 6, 7, 8, 9, 10, 11, 12, 13, 14, 15, 16, 17, 18, 19, 20, 21, 22, 23] false [
              (none, .load 80 true 3 (.v 19) none),
              (none, .mv 81 (.v 20)),
              (none, .mv 82 (.v 21)),
              (none, .call (some 83) 241 false [((.v 80), false), ((.v 81), false), ((.v 82), false)]),
              (none, .asg 79 (.v 83) .copy),
              (none, .extp 84 (.v 79) 0),
              (none, .extp 85 (.v 79) 1),
              (none, .asg 22 (.v 84) .copy),
              (none, .asg 23 (.v 85) .copy)])
            (.seq
             (.region [] [] [3, 4, 5, 6, 7, 8, 9, 10, 11, 12, 13, 14, 15, 16, 17, 18, 19, 20, 21, 22, 23, 24, 25] false [
               (none, .load 87 true 3 (.v 19) none),
               (none, .mv 88 (.v 20)),
               (none, .mv 89 (.v 21)),
               (none, .call (some 90) 601 false [((.v 87), false), ((.v 88), false), ((.v 89), false)]),
               (none, .asg 86 (.v 90) .copy),
               (none, .extp 91 (.v 86) 0),
               (none, .extp 92 (.v 86) 1),
               (none, .asg 24 (.v 91) .copy),
               (none, .asg 25 (.v 92) .copy)])
             (.seq
              (.seq
               (.region [] [] [3, 4, 7, 8, 9, 11, 12, 13, 14, 16, 17, 19, 20, 21, 23, 24, 125] false [
                 (none, .mv 93 (.v 7)),
                 (none, .mv 94 (.v 10)),
                 (none, .bin 95 .neq (.v 93) (.v 94)),
                 (none, .mv 96 (.v 95)),
                 (some (96, false), .mv 97 (.v 5)),
                 (some (96, false), .mv 98 (.v 8)),
                 (some (96, false), .bin 99 .neq (.v 97) (.v 98)),
                 (none, .pick 100 (.v 96) (.c (.bool true)) (.v 99)),
                 (none, .mv 101 (.v 100)),
                 (some (101, false), .mv 102 (.v 6)),
                 (some (101, false), .mv 103 (.v 9)),
                 (some (101, false), .bin 104 .neq (.v 102) (.v 103)),
                 (none, .pick 105 (.v 101) (.c (.bool true)) (.v 104)),
                 (none, .mv 106 (.v 105)),
                 (some (106, false), .mv 107 (.v 16)),
                 (some (106, false), .mv 108 (.v 18)),
                 (some (106, false), .bin 109 .neq (.v 107) (.v 108)),
                 (none, .pick 110 (.v 106) (.c (.bool true)) (.v 109)),
                 (none, .mv 111 (.v 110)),
                 (some (111, false), .mv 112 (.v 15)),
                 (some (111, false), .mv 113 (.v 17)),
                 (some (111, false), .bin 114 .neq (.v 112) (.v 113)),
                 (none, .pick 115 (.v 111) (.c (.bool true)) (.v 114)),
                 (none, .mv 116 (.v 115)),
                 (some (116, false), .mv 117 (.v 23)),
                 (some (116, false), .mv 118 (.v 25)),
                 (some (116, false), .bin 119 .neq (.v 117) (.v 118)),
                 (none, .pick 120 (.v 116) (.c (.bool true)) (.v 119)),
                 (none, .mv 121 (.v 120)),
                 (some (121, false), .mv 122 (.v 22)),
                 (some (121, false), .mv 123 (.v 24)),
                 (some (121, false), .bin 124 .neq (.v 122) (.v 123)),
                 (none, .pick 125 (.v 121) (.c (.bool true)) (.v 124))])
               (.cond (.v 125)
                (.seq
                 (.region [] [] [2] false [
                   (none, .asg 2 (.c (.bool false)) .copy)])
                 (.ret [2]))
                (.skip [3, 4, 7, 8, 9, 11, 12, 13, 14, 16, 17, 19, 20, 21, 23, 24])))
              (.seq
               (.seq
                (.region [(144, 19, false), (134, 19, false)] [] [3, 4, 7, 8, 9, 11, 12, 13, 14, 16, 17, 148] false [
                  (none, .mv 126 (.v 23)),
                  (none, .bin 127 .eql (.v 126) (.c (.int .i64 0))),
                  (none, .mv 128 (.v 127)),
                  (some (128, true), .mv 129 (.v 20)),
                  (some (128, true), .mv 130 (.v 24)),
                  (some (128, true), .mv 131 (.v 21)),
                  (some (128, true), .bin 132 .add (.v 130) (.v 131)),
                  (some (128, true), .bin 133 .mul (.v 129) (.v 132)),
                  (some (128, true), .fadr 134 0 1 (.v 19)),
                  (some (128, true), .load 135 false 1 (.v 134) none),
                  (some (128, true), .bin 136 .gtr (.v 133) (.v 135)),
                  (some (128, true), .mv 137 (.v 136)),
                  (some (137, false), .mv 138 (.v 20)),
                  (some (137, false), .mv 139 (.v 24)),
                  (some (137, false), .mv 140 (.v 21)),
                  (some (137, false), .bin 141 .add (.v 139) (.v 140)),
                  (some (137, false), .bin 142 .add (.v 141) (.c (.int .i64 1))),
                  (some (137, false), .bin 143 .mul (.v 138) (.v 142)),
                  (some (137, false), .fadr 144 0 1 (.v 19)),
                  (some (137, false), .load 145 false 1 (.v 144) none),
                  (some (137, false), .bin 146 .leq (.v 143) (.v 145)),
                  (some (128, true), .pick 147 (.v 137) (.c (.bool true)) (.v 146)),
                  (none, .pick 148 (.v 128) (.v 147) (.c (.bool false)))])
                (.cond (.v 148)
                 (.seq
                  (.region [] [] [2] false [
                    (none, .asg 2 (.c (.bool false)) .copy)])
                  (.ret [2]))
                 (.skip [3, 4, 7, 8, 9, 11, 12, 13, 14, 16, 17])))
               (.seq
                (.seq
                 (.region [] [] [3, 4, 7, 8, 9, 11, 12, 13, 14, 17, 150] false [
                   (none, .mv 149 (.v 16)),
                   (none, .bin 150 .eql (.v 149) (.c (.int .i64 0)))])
                 (.cond (.v 150)
                  (.seq
                   (.region [] [] [3, 4, 7, 8, 9, 13, 14, 17, 26, 27, 28] false [
                     (none, .load 152 true 3 (.v 11) none),
                     (none, .mv 153 (.v 12)),
                     (none, .call (some 154) 192 false [((.v 152), false), ((.v 153), false)]),
                     (none, .asg 151 (.v 154) .copy),
                     (none, .extp 155 (.v 151) 0),
                     (none, .extp 156 (.v 151) 1),
                     (none, .extp 157 (.v 151) 2),
                     (none, .asg 26 (.v 155) .copy),
                     (none, .asg 27 (.v 156) .copy),
                     (none, .asg 28 (.v 157) .copy)])
                   (.seq
                    (.region [] [] [3, 4, 7, 8, 9, 186] false [
                      (none, .mv 158 (.v 28)),
                      (none, .bin 159 .neq (.v 158) (.c (.int .i64 0))),
                      (none, .mv 160 (.v 159)),
                      (some (160, false), .mv 161 (.v 26)),
                      (some (160, false), .bin 162 .lss (.v 161) (.c (.int .i64 1))),
                      (none, .pick 163 (.v 160) (.c (.bool true)) (.v 162)),
                      (none, .mv 164 (.v 163)),
                      (some (164, false), .mv 165 (.v 27)),
                      (some (164, false), .bin 166 .lss (.v 165) (.c (.int .i64 1))),
                      (none, .pick 167 (.v 164) (.c (.bool true)) (.v 166)),
                      (none, .mv 168 (.v 167)),
                      (some (168, false), .mv 169 (.v 26)),
                      (some (168, false), .bin 170 .gtr (.v 169) (.c (.int .i64 20000))),
                      (none, .pick 171 (.v 168) (.c (.bool true)) (.v 170)),
                      (none, .mv 172 (.v 171)),
                      (some (172, false), .mv 173 (.v 27)),
                      (some (172, false), .bin 174 .gtr (.v 173) (.c (.int .i64 1000))),
                      (none, .pick 175 (.v 172) (.c (.bool true)) (.v 174)),
                      (none, .mv 176 (.v 175)),
                      (some (176, false), .mv 177 (.v 17)),
                      (some (176, false), .mv 178 (.v 26)),
                      (some (176, false), .bin 179 .mul (.v 177) (.v 178)),
                      (some (176, false), .mv 180 (.v 27)),
                      (some (176, false), .bin 181 .mul (.v 179) (.v 180)),
                      (some (176, false), .mv 182 (.v 13)),
                      (some (176, false), .mv 183 (.v 14)),
                      (some (176, false), .bin 184 .mul (.v 182) (.v 183)),
                      (some (176, false), .bin 185 .gtr (.v 181) (.v 184)),
                      (none, .pick 186 (.v 176) (.c (.bool true)) (.v 185))])
                    (.cond (.v 186)
                     (.seq
                      (.region [] [] [2] false [
                        (none, .asg 2 (.c (.bool false)) .copy)])
                      (.ret [2]))
                     (.skip [3, 4, 7, 8, 9]))))
                  (.skip [3, 4, 7, 8, 9])))
                (.seq
                 (.region [(199, 3, false), (191, 3, false)] [] [2] false [
                   (none, .mv 187 (.v 7)),
                   (none, .bin 188 .neq (.v 187) (.c (.int .i64 0))),
                   (none, .mv 189 (.v 188)),
                   (some (189, false), .mv 190 (.v 8)),
                   (some (189, false), .fadr 191 0 1 (.v 3)),
                   (some (189, false), .load 192 false 1 (.v 191) none),
                   (some (189, false), .mv 193 (.v 4)),
                   (some (189, false), .bin 194 .add (.v 192) (.v 193)),
                   (some (189, false), .bin 195 .eql (.v 190) (.v 194)),
                   (some (189, false), .mv 196 (.v 195)),
                   (some (196, true), .mv 197 (.v 9)),
                   (some (196, true), .bin 198 .mul (.c (.int .i64 2)) (.v 197)),
                   (some (196, true), .fadr 199 1 1 (.v 3)),
                   (some (196, true), .load 200 false 1 (.v 199) none),
                   (some (196, true), .bin 201 .leq (.v 198) (.v 200)),
                   (some (189, false), .pick 202 (.v 196) (.v 201) (.c (.bool false))),
                   (none, .pick 203 (.v 189) (.c (.bool true)) (.v 202)),
                   (none, .asg 2 (.v 203) .copy)])
                 (.ret [2]))))))))))))))))⟩
def tabl : List (Nat × PFunc) := [(326, F326), (212, F212), (192, F192), (193, F193), (241, F241), (398, F398), (603, F603), (5, F5), (7, F7), (4, F4), (654, F654), (648, F648), (6, F6), (649, F649), (501, F501), (502, F502), (656, F656), (511, F511), (605, F605), (655, F655), (650, F650), (651, F651), (652, F652), (577, F577), (606, F606), (578, F578), (620, F620), (653, F653), (601, F601), (378, F378)]
def T : Nat → Option PFunc := tabOf tabl
end Go.Vs.G
