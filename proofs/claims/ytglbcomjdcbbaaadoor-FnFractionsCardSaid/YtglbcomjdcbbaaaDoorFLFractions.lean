/- The functions that the law reaches, in the small language, printed by program. No conditions. -/
import Derived.Test.YtglbcomjdcbbaaaDoorDLFractions
import Derived.Test.YtglbcomjdcbbaaaDoorV4
set_option maxRecDepth 100000
open Go Go.Vs
namespace Go.Vs.G
def F386 : PFunc :=
 ⟨[false, false], [.tmp 4],
  (.seq
   (.region [] [] [0, 1] false [
     (none, .asg 4 (.c (.bool false)) .copy)])
   (.seq
    (.region [(9, 1, false), (5, 0, false)] [] [4] false [
      (none, .mv 5 (.v 0)),
      (none, .len 6 false (.v 5)),
      (none, .bin 7 .gtr (.v 6) (.c (.int .i64 3000))),
      (none, .mv 8 (.v 7)),
      (some (8, false), .mv 9 (.v 1)),
      (some (8, false), .len 10 false (.v 9)),
      (some (8, false), .bin 11 .gtr (.v 10) (.c (.int .i64 3000))),
      (none, .pick 12 (.v 8) (.c (.bool true)) (.v 11)),
      (none, .asg 4 (.v 12) .copy)])
    (.ret [4])))⟩
def F603 : PFunc :=
 ⟨[false], [.tmp 2],
  (.seq
   (.region [] [] [0] false [
     (none, .asg 2 (.c .nilp) .copy)])
   (.seq
    (.region [(3, 0, false)] [] [2] false [
      (none, .mv 3 (.v 0)),
      (none, .build 4 [(.sl false 1 []), (.int .i64 0), (.int .u64 0)] [(0, 1, (.v 3), .move)]),
      (none, .box 5 (.v 4) .move),
      (none, .asg 2 (.v 5) .move)])
    (.ret [2])))⟩
def F5 : PFunc :=
 ⟨[true], [.tmp 2],
  (.seq
   (.region [] [] [0] false [
     (none, .asg 2 (.c (.int .i64 0)) .copy)])
   (.seq
    (.region [] [] [0, 3] false [
      (none, .asg 3 (.c (.int .i64 0)) .copy)])
    (.seq
     (.seq
      (.region [(11, 0, true), (10, 0, false), (9, 0, false), (8, 0, false), (6, 0, false), (5, 0, false), (4, 0, false)] [] [0, 3, 13] true [
        (none, .mvr 4 0),
        (none, .nchk 5 (.v 4)),
        (none, .fadr 6 1 1 (.v 5)),
        (none, .load 7 false 1 (.v 6) none),
        (none, .mvr 8 0),
        (none, .nchk 9 (.v 8)),
        (none, .fadr 10 0 1 (.v 9)),
        (none, .load 11 false 1 (.v 10) none),
        (none, .len 12 false (.v 11)),
        (none, .bin 13 .lss (.v 7) (.v 12))])
      (.cond (.v 13)
       (.region [(22, 0, true), (20, 0, false), (19, 0, false), (18, 0, false), (17, 0, true), (16, 0, false), (15, 0, false), (14, 0, false)] [] [0, 3] true [
         (none, .mvr 14 0),
         (none, .nchk 15 (.v 14)),
         (none, .fadr 16 0 1 (.v 15)),
         (none, .load 17 false 1 (.v 16) none),
         (none, .mvr 18 0),
         (none, .nchk 19 (.v 18)),
         (none, .fadr 20 1 1 (.v 19)),
         (none, .load 21 false 1 (.v 20) none),
         (none, .iadr 22 1 (.v 17) (.v 21)),
         (none, .load 23 false 1 (.v 22) none),
         (none, .conv 24 .i64 (.v 23)),
         (none, .asg 3 (.v 24) .copy)])
       (.skip [0, 3])))
     (.seq
      (.region [(31, 0, false), (30, 0, false), (27, 0, false), (26, 0, false), (25, 0, false)] [] [0, 3] false [
        (none, .mv 25 (.v 0)),
        (none, .nchk 26 (.v 25)),
        (none, .fadr 27 1 1 (.v 26)),
        (none, .load 28 false 1 (.v 27) none),
        (none, .bin 29 .add (.v 28) (.c (.int .i64 1))),
        (none, .nchk 30 (.v 25)),
        (none, .fadr 31 1 1 (.v 30)),
        (none, .store 1 (.v 31) (.v 29) .copy)])
      (.seq
       (.region [(43, 0, false), (42, 0, false), (35, 0, false), (34, 0, false), (33, 0, false), (32, 0, false)] [] [0, 3] false [
         (none, .mv 32 (.v 0)),
         (none, .mv 33 (.v 0)),
         (none, .nchk 34 (.v 33)),
         (none, .fadr 35 2 1 (.v 34)),
         (none, .load 36 false 1 (.v 35) none),
         (none, .bin 37 .mul (.v 36) (.c (.int .u64 6364136223846793005))),
         (none, .mv 38 (.v 3)),
         (none, .conv 39 .u64 (.v 38)),
         (none, .bin 40 .add (.v 37) (.v 39)),
         (none, .bin 41 .add (.v 40) (.c (.int .u64 1442695040888963407))),
         (none, .nchk 42 (.v 32)),
         (none, .fadr 43 2 1 (.v 42)),
         (none, .store 1 (.v 43) (.v 41) .copy)])
       (.seq
        (.seq
         (.region [(51, 0, true), (50, 0, false), (49, 0, false), (48, 0, false), (46, 0, false), (45, 0, false), (44, 0, false)] [] [0, 3, 53] true [
           (none, .mvr 44 0),
           (none, .nchk 45 (.v 44)),
           (none, .fadr 46 1 1 (.v 45)),
           (none, .load 47 false 1 (.v 46) none),
           (none, .mvr 48 0),
           (none, .nchk 49 (.v 48)),
           (none, .fadr 50 0 1 (.v 49)),
           (none, .load 51 false 1 (.v 50) none),
           (none, .len 52 false (.v 51)),
           (none, .bin 53 .leq (.v 47) (.v 52))])
         (.cond (.v 53)
          (.seq
           (.region [] [] [0, 2] false [
             (none, .mv 54 (.v 3)),
             (none, .asg 2 (.v 54) .copy)])
           (.ret [0, 2]))
          (.skip [0])))
        (.seq
         (.region [(57, 0, false), (56, 0, false), (55, 0, false)] [] [0, 2] false [
           (none, .mv 55 (.v 0)),
           (none, .nchk 56 (.v 55)),
           (none, .fadr 57 2 1 (.v 56)),
           (none, .load 58 false 1 (.v 57) none),
           (none, .bin 59 .shr (.v 58) (.c (.int .u64 40))),
           (none, .bin 60 .and (.v 59) (.c (.int .u64 255))),
           (none, .conv 61 .i64 (.v 60)),
           (none, .asg 2 (.v 61) .copy)])
         (.ret [0, 2]))))))))⟩
def F7 : PFunc :=
 ⟨[true, false], [.tmp 4],
  (.seq
   (.region [] [] [0, 1] false [
     (none, .asg 4 (.c (.int .i64 0)) .copy)])
   (.seq
    (.seq
     (.region [] [] [0, 1, 7] false [
       (none, .mv 6 (.v 1)),
       (none, .bin 7 .leq (.v 6) (.c (.int .i64 1)))])
     (.cond (.v 7)
      (.seq
       (.region [] [] [0, 4] false [
         (none, .asg 4 (.c (.int .i64 0)) .copy)])
       (.ret [0, 4]))
      (.skip [0, 1])))
    (.seq
     (.region [(8, 0, false)] [] [0, 1, 5] false [
       (none, .mv 8 (.v 0)),
       (none, .call (some 9) 5 true [((.v 8), true)]),
       (none, .asg 5 (.v 9) .copy)])
     (.seq
      (.seq
       (.region [] [] [0, 1, 5, 11] false [
         (none, .mv 10 (.v 1)),
         (none, .bin 11 .gtr (.v 10) (.c (.int .i64 200)))])
       (.cond (.v 11)
        (.region [(14, 0, false)] [] [0, 1, 5] false [
          (none, .mv 12 (.v 5)),
          (none, .bin 13 .mul (.v 12) (.c (.int .i64 256))),
          (none, .mv 14 (.v 0)),
          (none, .call (some 15) 5 true [((.v 14), true)]),
          (none, .bin 16 .add (.v 13) (.v 15)),
          (none, .asg 5 (.v 16) .copy)])
        (.skip [0, 1, 5])))
      (.seq
       (.region [] [] [0, 4] false [
         (none, .mv 17 (.v 5)),
         (none, .mv 18 (.v 1)),
         (none, .bin 19 .rem (.v 17) (.v 18)),
         (none, .asg 4 (.v 19) .copy)])
       (.ret [0, 4]))))))⟩
def F604 : PFunc :=
 ⟨[false, false], [.tmp 4],
  (.seq
   (.region [] [] [0, 1] false [
     (none, .asg 4 (.c (.int .i64 0)) .copy)])
   (.seq
    (.block 0
     (.loop
      (.seq
       (.seq
        (.region [] [] [0, 1, 7] false [
          (none, .mv 6 (.v 1)),
          (none, .bin 7 .neq (.v 6) (.c (.int .i64 0)))])
        (.cond (.v 7)
         (.skip [0, 1])
         (.exit 0 [0])))
       (.block 1
        (.seq
         (.region [] [] [1, 5] false [
           (none, .mv 8 (.v 0)),
           (none, .mv 9 (.v 1)),
           (none, .bin 10 .rem (.v 8) (.v 9)),
           (none, .asg 5 (.v 10) .copy)])
         (.seq
          (.region [] [] [0, 5] false [
            (none, .mv 11 (.v 1)),
            (none, .asg 0 (.v 11) .copy)])
          (.region [] [] [0, 1] false [
            (none, .mv 12 (.v 5)),
            (none, .asg 1 (.v 12) .copy)])))))))
    (.seq
     (.region [] [] [4] false [
       (none, .mv 13 (.v 0)),
       (none, .asg 4 (.v 13) .copy)])
     (.ret [4]))))⟩
def F611 : PFunc :=
 ⟨[false], [.tmp 2],
  (.seq
   (.region [] [] [0] false [
     (none, .asg 2 (.c (.int .i64 0)) .copy)])
   (.seq
    (.seq
     (.region [] [] [0, 4] false [
       (none, .mv 3 (.v 0)),
       (none, .bin 4 .lss (.v 3) (.c (.int .i64 0)))])
     (.cond (.v 4)
      (.seq
       (.region [] [] [2] false [
         (none, .mv 5 (.v 0)),
         (none, .un 6 .neg (.v 5)),
         (none, .asg 2 (.v 6) .copy)])
       (.ret [2]))
      (.skip [0])))
    (.seq
     (.region [] [] [2] false [
       (none, .mv 7 (.v 0)),
       (none, .asg 2 (.v 7) .copy)])
     (.ret [2]))))⟩
def F616 : PFunc :=
 ⟨[false, false], [.cell 4 true 2],
  (.seq
   (.region [] [] [0, 1, 4] false [
     (none, .new 4 (.agg [(.int .i64 0), (.int .i64 0)]))])
   (.seq
    (.region [] [] [0, 1, 4, 5] false [
      (none, .mv 6 (.v 0)),
      (none, .call (some 7) 611 false [((.v 6), false)]),
      (none, .mv 8 (.v 1)),
      (none, .call (some 9) 604 false [((.v 7), false), ((.v 8), false)]),
      (none, .asg 5 (.v 9) .copy)])
    (.seq
     (.region [] [] [4] true [
       (none, .mv 10 (.v 0)),
       (none, .mv 11 (.v 5)),
       (none, .bin 12 .quo (.v 10) (.v 11)),
       (none, .mv 13 (.v 1)),
       (none, .mv 14 (.v 5)),
       (none, .bin 15 .quo (.v 13) (.v 14)),
       (none, .build 16 [(.int .i64 0), (.int .i64 0)] [(0, 1, (.v 12), .copy), (1, 1, (.v 15), .copy)]),
       (none, .store 2 (.v 4) (.v 16) .copy)])
     (.ret [4]))))⟩
def F615 : PFunc :=
 ⟨[true], [.cell 2 true 2],
  (.seq
   (.region [] [] [0, 2] false [
     (none, .new 2 (.agg [(.int .i64 0), (.int .i64 0)]))])
   (.seq
    (.region [(4, 0, false)] [] [0, 2, 3] false [
      (none, .mv 4 (.v 0)),
      (none, .call (some 5) 7 true [((.v 4), true), ((.c (.int .i64 60)), false)]),
      (none, .bin 6 .sub (.v 5) (.c (.int .i64 15))),
      (none, .asg 3 (.v 6) .copy)])
    (.seq
     (.region [(8, 0, false)] [] [0, 2] false [
       (none, .mv 7 (.v 3)),
       (none, .mv 8 (.v 0)),
       (none, .call (some 9) 7 true [((.v 8), true), ((.c (.int .i64 20)), false)]),
       (none, .bin 10 .add (.c (.int .i64 1)) (.v 9)),
       (none, .call (some 11) 616 false [((.v 7), false), ((.v 10), false)]),
       (none, .store 2 (.v 2) (.v 11) .copy)])
     (.ret [0, 2]))))⟩
def F426 : PFunc :=
 ⟨[false], [.cell 2 true 2],
  (.seq
   (.region [] [] [0, 2] false [
     (none, .new 2 (.agg [(.int .i64 0), (.int .i64 0)]))])
   (.seq
    (.region [(3, 0, false)] [] [2] false [
      (none, .mv 3 (.v 0)),
      (none, .call (some 4) 603 true [((.v 3), false)]),
      (none, .call (some 5) 615 true [((.v 4), true)]),
      (none, .store 2 (.v 2) (.v 5) .copy)])
    (.ret [2])))⟩
def F269 : PFunc :=
 ⟨[false, false], [.tmp 4],
  (.seq
   (.region [] [] [0, 1] false [
     (none, .asg 4 (.c (.int .i64 0)) .copy)])
   (.seq
    (.block 0
     (.loop
      (.seq
       (.seq
        (.region [] [] [0, 1, 6] false [
          (none, .mv 5 (.v 1)),
          (none, .bin 6 .neq (.v 5) (.c (.int .i64 0)))])
        (.cond (.v 6)
         (.skip [0, 1])
         (.exit 0 [0])))
       (.block 1
        (.region [] [] [0, 1] true [
          (none, .mv 7 (.v 1)),
          (none, .mv 8 (.v 0)),
          (none, .mv 9 (.v 1)),
          (none, .bin 10 .rem (.v 8) (.v 9)),
          (none, .asg 0 (.v 7) .copy),
          (none, .asg 1 (.v 10) .copy)])))))
    (.seq
     (.region [] [] [4] false [
       (none, .mv 11 (.v 0)),
       (none, .mv 12 (.v 0)),
       (none, .un 13 .neg (.v 12)),
       (none, .mm 14 true (.v 11) [(.v 13)]),
       (none, .asg 4 (.v 14) .copy)])
     (.ret [4]))))⟩
def F326 : PFunc :=
 ⟨[false, false, false], [.tmp 6],
  (.seq
   (.region [] [] [0, 1, 2] false [
     (none, .asg 6 (.c (.bool false)) .copy)])
   (.seq
    (.region [] [] [6] false [
      (none, .mv 7 (.v 0)),
      (none, .mv 8 (.v 1)),
      (none, .bin 9 .geq (.v 7) (.v 8)),
      (none, .mv 10 (.v 9)),
      (some (10, true), .mv 11 (.v 0)),
      (some (10, true), .mv 12 (.v 2)),
      (some (10, true), .bin 13 .leq (.v 11) (.v 12)),
      (none, .pick 14 (.v 10) (.v 13) (.c (.bool false))),
      (none, .asg 6 (.v 14) .copy)])
    (.ret [6])))⟩
def F213 : PFunc :=
 ⟨[false], [.tmp 2],
  (.seq
   (.region [] [] [1] false [
     (none, .box 1 (.v 0) .copy),
     (none, .asg 2 (.c (.bool false)) .copy)])
   (.seq
    (.region [(14, 1, false), (12, 1, false), (7, 1, false), (3, 1, false)] [] [2] false [
      (none, .fadr 3 1 1 (.v 1)),
      (none, .load 4 false 1 (.v 3) none),
      (none, .call (some 5) 326 false [((.v 4), false), ((.c (.int .i64 1)), false), ((.c (.int .i64 1000000)), false)]),
      (none, .mv 6 (.v 5)),
      (some (6, true), .fadr 7 0 1 (.v 1)),
      (some (6, true), .load 8 false 1 (.v 7) none),
      (some (6, true), .call (some 9) 326 false [((.v 8), false), ((.c (.int .i64 (-1000000))), false), ((.c (.int .i64 1000000)), false)]),
      (none, .pick 10 (.v 6) (.v 9) (.c (.bool false))),
      (none, .mv 11 (.v 10)),
      (some (11, true), .fadr 12 0 1 (.v 1)),
      (some (11, true), .load 13 false 1 (.v 12) none),
      (some (11, true), .fadr 14 1 1 (.v 1)),
      (some (11, true), .load 15 false 1 (.v 14) none),
      (some (11, true), .call (some 16) 269 false [((.v 13), false), ((.v 15), false)]),
      (some (11, true), .bin 17 .eql (.v 16) (.c (.int .i64 1))),
      (none, .pick 18 (.v 11) (.v 17) (.c (.bool false))),
      (none, .asg 2 (.v 18) .copy)])
    (.ret [2])))⟩
def F257 : PFunc :=
 ⟨[false], [.cell 2 true 2, .tmp 3],
  (.seq
   (.region [] [] [1, 2] false [
     (none, .box 1 (.v 0) .copy),
     (none, .new 2 (.agg [(.int .i64 0), (.int .i64 0)])),
     (none, .asg 3 (.c (.int .i64 0)) .copy)])
   (.seq
    (.seq
     (.region [] [] [1, 2, 6] false [
       (none, .load 4 true 2 (.v 1) none),
       (none, .call (some 5) 213 false [((.v 4), false)]),
       (none, .un 6 .not (.v 5))])
     (.cond (.v 6)
      (.seq
       (.region [] [] [2, 3] false [
         (none, .build 7 [(.int .i64 0), (.int .i64 0)] []),
         (none, .store 2 (.v 2) (.v 7) .copy),
         (none, .asg 3 (.c (.int .i64 5)) .copy)])
       (.ret [2, 3]))
      (.skip [1, 2])))
    (.seq
     (.region [] [] [2, 3] false [
       (none, .load 8 true 2 (.v 1) none),
       (none, .store 2 (.v 2) (.v 8) .copy),
       (none, .asg 3 (.c (.int .i64 0)) .copy)])
     (.ret [2, 3]))))⟩
def F292 : PFunc :=
 ⟨[false, false], [.cell 4 true 2],
  (.seq
   (.region [] [] [0, 1, 4] false [
     (none, .new 4 (.agg [(.int .i64 0), (.int .i64 0)]))])
   (.seq
    (.seq
     (.region [] [] [0, 1, 4, 7] false [
       (none, .mv 6 (.v 1)),
       (none, .bin 7 .lss (.v 6) (.c (.int .i64 0)))])
     (.cond (.v 7)
      (.region [] [] [0, 1, 4] false [
        (none, .mv 8 (.v 0)),
        (none, .un 9 .neg (.v 8)),
        (none, .mv 10 (.v 1)),
        (none, .un 11 .neg (.v 10)),
        (none, .asg 0 (.v 9) .copy),
        (none, .asg 1 (.v 11) .copy)])
      (.skip [0, 1, 4])))
    (.seq
     (.region [] [] [0, 1, 4, 5] false [
       (none, .mv 12 (.v 0)),
       (none, .mv 13 (.v 1)),
       (none, .call (some 14) 269 false [((.v 12), false), ((.v 13), false)]),
       (none, .asg 5 (.v 14) .copy)])
     (.seq
      (.region [] [] [4] true [
        (none, .mv 15 (.v 0)),
        (none, .mv 16 (.v 5)),
        (none, .bin 17 .quo (.v 15) (.v 16)),
        (none, .mv 18 (.v 1)),
        (none, .mv 19 (.v 5)),
        (none, .bin 20 .quo (.v 18) (.v 19)),
        (none, .build 21 [(.int .i64 0), (.int .i64 0)] [(0, 1, (.v 17), .copy), (1, 1, (.v 20), .copy)]),
        (none, .store 2 (.v 4) (.v 21) .copy)])
      (.ret [4])))))⟩
def F899 : PFunc :=
 ⟨[false, false], [.cell 4 true 2, .tmp 5],
  (.seq
   (.region [] [] [2, 3, 4] false [
     (none, .box 2 (.v 0) .copy),
     (none, .box 3 (.v 1) .copy),
     (none, .new 4 (.agg [(.int .i64 0), (.int .i64 0)])),
     (none, .asg 5 (.c (.int .i64 0)) .copy)])
   (.seq
    (.seq
     (.region [] [] [2, 3, 4, 13] false [
       (none, .load 6 true 2 (.v 2) none),
       (none, .call (some 7) 213 false [((.v 6), false)]),
       (none, .un 8 .not (.v 7)),
       (none, .mv 9 (.v 8)),
       (some (9, false), .load 10 true 2 (.v 3) none),
       (some (9, false), .call (some 11) 213 false [((.v 10), false)]),
       (some (9, false), .un 12 .not (.v 11)),
       (none, .pick 13 (.v 9) (.c (.bool true)) (.v 12))])
     (.cond (.v 13)
      (.seq
       (.region [] [] [4, 5] false [
         (none, .build 14 [(.int .i64 0), (.int .i64 0)] []),
         (none, .store 2 (.v 4) (.v 14) .copy),
         (none, .asg 5 (.c (.int .i64 1)) .copy)])
       (.ret [4, 5]))
      (.skip [2, 3, 4])))
    (.seq
     (.region [(28, 3, false), (26, 2, false), (22, 2, false), (20, 3, false), (17, 3, false), (15, 2, false)] [] [4, 5] false [
       (none, .fadr 15 0 1 (.v 2)),
       (none, .load 16 false 1 (.v 15) none),
       (none, .fadr 17 1 1 (.v 3)),
       (none, .load 18 false 1 (.v 17) none),
       (none, .bin 19 .mul (.v 16) (.v 18)),
       (none, .fadr 20 0 1 (.v 3)),
       (none, .load 21 false 1 (.v 20) none),
       (none, .fadr 22 1 1 (.v 2)),
       (none, .load 23 false 1 (.v 22) none),
       (none, .bin 24 .mul (.v 21) (.v 23)),
       (none, .bin 25 .add (.v 19) (.v 24)),
       (none, .fadr 26 1 1 (.v 2)),
       (none, .load 27 false 1 (.v 26) none),
       (none, .fadr 28 1 1 (.v 3)),
       (none, .load 29 false 1 (.v 28) none),
       (none, .bin 30 .mul (.v 27) (.v 29)),
       (none, .call (some 31) 292 false [((.v 25), false), ((.v 30), false)]),
       (none, .call (some 32) 257 false [((.v 31), false)]),
       (none, .extp 33 (.v 32) 0),
       (none, .extp 34 (.v 32) 1),
       (none, .store 2 (.v 4) (.v 33) .copy),
       (none, .asg 5 (.v 34) .copy)])
     (.ret [4, 5]))))⟩
def F900 : PFunc :=
 ⟨[false, false], [.cell 4 true 2, .tmp 5],
  (.seq
   (.region [] [] [2, 3, 4] false [
     (none, .box 2 (.v 0) .copy),
     (none, .box 3 (.v 1) .copy),
     (none, .new 4 (.agg [(.int .i64 0), (.int .i64 0)])),
     (none, .asg 5 (.c (.int .i64 0)) .copy)])
   (.seq
    (.seq
     (.region [] [] [2, 3, 4, 13] false [
       (none, .load 6 true 2 (.v 2) none),
       (none, .call (some 7) 213 false [((.v 6), false)]),
       (none, .un 8 .not (.v 7)),
       (none, .mv 9 (.v 8)),
       (some (9, false), .load 10 true 2 (.v 3) none),
       (some (9, false), .call (some 11) 213 false [((.v 10), false)]),
       (some (9, false), .un 12 .not (.v 11)),
       (none, .pick 13 (.v 9) (.c (.bool true)) (.v 12))])
     (.cond (.v 13)
      (.seq
       (.region [] [] [4, 5] false [
         (none, .build 14 [(.int .i64 0), (.int .i64 0)] []),
         (none, .store 2 (.v 4) (.v 14) .copy),
         (none, .asg 5 (.c (.int .i64 1)) .copy)])
       (.ret [4, 5]))
      (.skip [2, 3, 4])))
    (.seq
     (.region [(22, 3, false), (20, 2, false), (17, 3, false), (15, 2, false)] [] [4, 5] false [
       (none, .fadr 15 0 1 (.v 2)),
       (none, .load 16 false 1 (.v 15) none),
       (none, .fadr 17 0 1 (.v 3)),
       (none, .load 18 false 1 (.v 17) none),
       (none, .bin 19 .mul (.v 16) (.v 18)),
       (none, .fadr 20 1 1 (.v 2)),
       (none, .load 21 false 1 (.v 20) none),
       (none, .fadr 22 1 1 (.v 3)),
       (none, .load 23 false 1 (.v 22) none),
       (none, .bin 24 .mul (.v 21) (.v 23)),
       (none, .call (some 25) 292 false [((.v 19), false), ((.v 24), false)]),
       (none, .call (some 26) 257 false [((.v 25), false)]),
       (none, .extp 27 (.v 26) 0),
       (none, .extp 28 (.v 26) 1),
       (none, .store 2 (.v 4) (.v 27) .copy),
       (none, .asg 5 (.v 28) .copy)])
     (.ret [4, 5]))))⟩
def F605 : PFunc :=
 ⟨[false, false, false], [.tmp 6],
  (.seq
   (.region [] [] [0, 1, 2] false [
     (none, .asg 6 (.c (.bool false)) .copy)])
   (.seq
    (.region [] [] [6] false [
      (none, .mv 7 (.v 0)),
      (none, .mv 8 (.v 1)),
      (none, .bin 9 .geq (.v 7) (.v 8)),
      (none, .mv 10 (.v 9)),
      (some (10, true), .mv 11 (.v 0)),
      (some (10, true), .mv 12 (.v 2)),
      (some (10, true), .bin 13 .leq (.v 11) (.v 12)),
      (none, .pick 14 (.v 10) (.v 13) (.c (.bool false))),
      (none, .asg 6 (.v 14) .copy)])
    (.ret [6])))⟩
def F617 : PFunc :=
 ⟨[false], [.tmp 2],
  (.seq
   (.region [] [] [1] false [
     (none, .box 1 (.v 0) .copy),
     (none, .asg 2 (.c (.bool false)) .copy)])
   (.seq
    (.region [(15, 1, false), (12, 1, false), (7, 1, false), (3, 1, false)] [] [2] true [
      (none, .fadr 3 1 1 (.v 1)),
      (none, .load 4 false 1 (.v 3) none),
      (none, .call (some 5) 605 false [((.v 4), false), ((.c (.int .i64 1)), false), ((.c (.int .i64 1000000)), false)]),
      (none, .mv 6 (.v 5)),
      (some (6, true), .fadr 7 0 1 (.v 1)),
      (some (6, true), .load 8 false 1 (.v 7) none),
      (some (6, true), .call (some 9) 605 false [((.v 8), false), ((.c (.int .i64 (-1000000))), false), ((.c (.int .i64 1000000)), false)]),
      (none, .pick 10 (.v 6) (.v 9) (.c (.bool false))),
      (none, .mv 11 (.v 10)),
      (some (11, true), .fadr 12 0 1 (.v 1)),
      (some (11, true), .load 13 false 1 (.v 12) none),
      (some (11, true), .call (some 14) 611 false [((.v 13), false)]),
      (some (11, true), .fadr 15 1 1 (.v 1)),
      (some (11, true), .load 16 false 1 (.v 15) none),
      (some (11, true), .call (some 17) 604 false [((.v 14), false), ((.v 16), false)]),
      (some (11, true), .bin 18 .eql (.v 17) (.c (.int .i64 1))),
      (none, .pick 19 (.v 11) (.v 18) (.c (.bool false))),
      (none, .asg 2 (.v 19) .copy)])
    (.ret [2])))⟩
def F901 : PFunc :=
 ⟨[false], [.tmp 2],
  (.seq
   (.region [] [] [1] false [
     (none, .box 1 (.v 0) .copy),
     (none, .asg 2 (.c (.bool false)) .copy)])
   (.seq
    (.region [] [] [2] false [
      (none, .load 3 true 2 (.v 1) none),
      (none, .call (some 4) 617 false [((.v 3), false)]),
      (none, .asg 2 (.v 4) .copy)])
    (.ret [2])))⟩
def F936 : PFunc :=
 ⟨[false, false], [.tmp 4],
  (.seq
   (.region [] [] [2, 3] false [
     (none, .box 2 (.v 0) .copy),
     (none, .box 3 (.v 1) .copy),
     (none, .asg 4 (.c (.int .i64 0)) .copy)])
   (.seq
    (.region [(14, 2, false), (12, 3, false), (9, 3, false), (7, 2, false)] [] [5, 6] true [
      (none, .fadr 7 0 1 (.v 2)),
      (none, .load 8 false 1 (.v 7) none),
      (none, .fadr 9 1 1 (.v 3)),
      (none, .load 10 false 1 (.v 9) none),
      (none, .bin 11 .mul (.v 8) (.v 10)),
      (none, .fadr 12 0 1 (.v 3)),
      (none, .load 13 false 1 (.v 12) none),
      (none, .fadr 14 1 1 (.v 2)),
      (none, .load 15 false 1 (.v 14) none),
      (none, .bin 16 .mul (.v 13) (.v 15)),
      (none, .asg 5 (.v 11) .copy),
      (none, .asg 6 (.v 16) .copy)])
    (.seq
     (.block 0
      (.seq
       (.region [] [] [5, 6, 17] false [
         (none, .mv 18 (.v 5)),
         (none, .mv 19 (.v 6)),
         (none, .bin 20 .lss (.v 18) (.v 19)),
         (none, .asg 17 (.v 20) .copy)])
       (.cond (.v 17)
        (.seq
         (.region [] [] [4] false [
           (none, .asg 4 (.c (.int .i64 (-1))) .copy)])
         (.ret [4]))
        (.seq
         (.region [] [] [21] false [
           (none, .mv 22 (.v 5)),
           (none, .mv 23 (.v 6)),
           (none, .bin 24 .gtr (.v 22) (.v 23)),
           (none, .asg 21 (.v 24) .copy)])
         (.cond (.v 21)
          (.seq
           (.region [] [] [4] false [
             (none, .asg 4 (.c (.int .i64 1)) .copy)])
           (.ret [4]))
          (.skip []))))))
     (.seq
      (.region [] [] [4] false [
        (none, .asg 4 (.c (.int .i64 0)) .copy)])
      (.ret [4])))))⟩
def F902 : PFunc :=
 ⟨[false, false], [.tmp 4, .tmp 5],
  (.seq
   (.region [] [] [2, 3] false [
     (none, .box 2 (.v 0) .copy),
     (none, .box 3 (.v 1) .copy),
     (none, .asg 4 (.c (.int .i64 0)) .copy),
     (none, .asg 5 (.c (.int .i64 0)) .copy)])
   (.seq
    (.seq
     (.region [] [] [2, 3, 13] false [
       (none, .load 6 true 2 (.v 2) none),
       (none, .call (some 7) 213 false [((.v 6), false)]),
       (none, .un 8 .not (.v 7)),
       (none, .mv 9 (.v 8)),
       (some (9, false), .load 10 true 2 (.v 3) none),
       (some (9, false), .call (some 11) 213 false [((.v 10), false)]),
       (some (9, false), .un 12 .not (.v 11)),
       (none, .pick 13 (.v 9) (.c (.bool true)) (.v 12))])
     (.cond (.v 13)
      (.seq
       (.region [] [] [4, 5] false [
         (none, .asg 4 (.c (.int .i64 0)) .copy),
         (none, .asg 5 (.c (.int .i64 1)) .copy)])
       (.ret [4, 5]))
      (.skip [2, 3])))
    (.seq
     (.region [] [] [4, 5] false [
       (none, .load 14 true 2 (.v 2) none),
       (none, .load 15 true 2 (.v 3) none),
       (none, .call (some 16) 936 false [((.v 14), false), ((.v 15), false)]),
       (none, .asg 4 (.v 16) .copy),
       (none, .asg 5 (.c (.int .i64 0)) .copy)])
     (.ret [4, 5]))))⟩
def F903 : PFunc :=
 ⟨[false, false], [.cell 4 true 2, .tmp 5],
  (.seq
   (.region [] [] [2, 3, 4] false [
     (none, .box 2 (.v 0) .copy),
     (none, .box 3 (.v 1) .copy),
     (none, .new 4 (.agg [(.int .i64 0), (.int .i64 0)])),
     (none, .asg 5 (.c (.int .i64 0)) .copy)])
   (.seq
    (.seq
     (.region [] [] [2, 3, 4, 14] false [
       (none, .load 7 true 2 (.v 2) none),
       (none, .call (some 8) 213 false [((.v 7), false)]),
       (none, .un 9 .not (.v 8)),
       (none, .mv 10 (.v 9)),
       (some (10, false), .load 11 true 2 (.v 3) none),
       (some (10, false), .call (some 12) 213 false [((.v 11), false)]),
       (some (10, false), .un 13 .not (.v 12)),
       (none, .pick 14 (.v 10) (.c (.bool true)) (.v 13))])
     (.cond (.v 14)
      (.seq
       (.region [] [] [4, 5] false [
         (none, .build 15 [(.int .i64 0), (.int .i64 0)] []),
         (none, .store 2 (.v 4) (.v 15) .copy),
         (none, .asg 5 (.c (.int .i64 1)) .copy)])
       (.ret [4, 5]))
      (.skip [2, 3, 4])))
    (.seq
     (.region [(23, 2, false), (21, 3, false), (18, 3, false), (16, 2, false)] [] [2, 3, 4, 6] false [
       (none, .fadr 16 0 1 (.v 2)),
       (none, .load 17 false 1 (.v 16) none),
       (none, .fadr 18 1 1 (.v 3)),
       (none, .load 19 false 1 (.v 18) none),
       (none, .bin 20 .mul (.v 17) (.v 19)),
       (none, .fadr 21 0 1 (.v 3)),
       (none, .load 22 false 1 (.v 21) none),
       (none, .fadr 23 1 1 (.v 2)),
       (none, .load 24 false 1 (.v 23) none),
       (none, .bin 25 .mul (.v 22) (.v 24)),
       (none, .bin 26 .sub (.v 20) (.v 25)),
       (none, .asg 6 (.v 26) .copy)])
     (.seq
      (.region [(33, 3, false), (31, 2, false)] [] [4, 5] false [
        (none, .mv 27 (.v 6)),
        (none, .mv 28 (.v 6)),
        (none, .un 29 .neg (.v 28)),
        (none, .mm 30 true (.v 27) [(.v 29)]),
        (none, .fadr 31 1 1 (.v 2)),
        (none, .load 32 false 1 (.v 31) none),
        (none, .fadr 33 1 1 (.v 3)),
        (none, .load 34 false 1 (.v 33) none),
        (none, .bin 35 .mul (.v 32) (.v 34)),
        (none, .call (some 36) 292 false [((.v 30), false), ((.v 35), false)]),
        (none, .call (some 37) 257 false [((.v 36), false)]),
        (none, .extp 38 (.v 37) 0),
        (none, .extp 39 (.v 37) 1),
        (none, .store 2 (.v 4) (.v 38) .copy),
        (none, .asg 5 (.v 39) .copy)])
      (.ret [4, 5])))))⟩
def F904 : PFunc :=
 ⟨[false, false], [.cell 4 true 2, .tmp 5],
  (.seq
   (.region [] [] [0, 1, 4] false [
     (none, .new 4 (.agg [(.int .i64 0), (.int .i64 0)])),
     (none, .asg 5 (.c (.int .i64 0)) .copy)])
   (.seq
    (.seq
     (.region [] [] [0, 1, 4, 17] false [
       (none, .mv 6 (.v 0)),
       (none, .call (some 7) 326 false [((.v 6), false), ((.c (.int .i64 (-1000000000000))), false), ((.c (.int .i64 1000000000000)), false)]),
       (none, .un 8 .not (.v 7)),
       (none, .mv 9 (.v 8)),
       (some (9, false), .mv 10 (.v 1)),
       (some (9, false), .call (some 11) 326 false [((.v 10), false), ((.c (.int .i64 (-1000000000000))), false), ((.c (.int .i64 1000000000000)), false)]),
       (some (9, false), .un 12 .not (.v 11)),
       (none, .pick 13 (.v 9) (.c (.bool true)) (.v 12)),
       (none, .mv 14 (.v 13)),
       (some (14, false), .mv 15 (.v 1)),
       (some (14, false), .bin 16 .eql (.v 15) (.c (.int .i64 0))),
       (none, .pick 17 (.v 14) (.c (.bool true)) (.v 16))])
     (.cond (.v 17)
      (.seq
       (.region [] [] [4, 5] false [
         (none, .build 18 [(.int .i64 0), (.int .i64 0)] []),
         (none, .store 2 (.v 4) (.v 18) .copy),
         (none, .asg 5 (.c (.int .i64 2)) .copy)])
       (.ret [4, 5]))
      (.skip [0, 1, 4])))
    (.seq
     (.region [] [] [4, 5] false [
       (none, .mv 19 (.v 0)),
       (none, .mv 20 (.v 1)),
       (none, .call (some 21) 292 false [((.v 19), false), ((.v 20), false)]),
       (none, .call (some 22) 257 false [((.v 21), false)]),
       (none, .extp 23 (.v 22) 0),
       (none, .extp 24 (.v 22) 1),
       (none, .store 2 (.v 4) (.v 23) .copy),
       (none, .asg 5 (.v 24) .copy)])
     (.ret [4, 5]))))⟩
def F939 : PFunc :=
 ⟨[false], [.tmp 2],
  (.seq
   (.region [] [] [0] false [
     (none, .asg 2 (.c (.str [])) .copy)])
   (.seq
    (.region [] [] [2] false [
      (none, .mv 3 (.v 0)),
      (none, .call (some 4) 953 false [((.v 3), false), ((.c (.int .i64 10)), false)]),
      (none, .asg 2 (.v 4) .copy)])
    (.ret [2])))⟩
def F906 : PFunc :=
 ⟨[false], [.tmp 2],
  (.seq
   (.region [] [] [1] false [
     (none, .box 1 (.v 0) .copy),
     (none, .asg 2 (.c (.str [])) .copy)])
   (.seq
    (.block 0
     (.seq
      (.region [] [] [1, 3] false [
        (none, .load 4 true 2 (.v 1) none),
        (none, .call (some 5) 213 false [((.v 4), false)]),
        (none, .un 6 .not (.v 5)),
        (none, .asg 3 (.v 6) .copy)])
      (.cond (.v 3)
       (.seq
        (.region [] [] [2] false [
          (none, .asg 2 (.c (.str [])) .copy)])
        (.ret [2]))
       (.seq
        (.region [(8, 1, false)] [] [1, 7] false [
          (none, .fadr 8 1 1 (.v 1)),
          (none, .load 9 false 1 (.v 8) none),
          (none, .bin 10 .eql (.v 9) (.c (.int .i64 1))),
          (none, .asg 7 (.v 10) .copy)])
        (.cond (.v 7)
         (.seq
          (.region [(11, 1, false)] [] [2] false [
            (none, .fadr 11 0 1 (.v 1)),
            (none, .load 12 false 1 (.v 11) none),
            (none, .call (some 13) 939 false [((.v 12), false)]),
            (none, .asg 2 (.v 13) .copy)])
          (.ret [2]))
         (.skip [1]))))))
    (.seq
     (.region [(18, 1, false), (14, 1, false)] [] [2] true [
       (none, .fadr 14 0 1 (.v 1)),
       (none, .load 15 false 1 (.v 14) none),
       (none, .call (some 16) 939 false [((.v 15), false)]),
       (none, .bin 17 .add (.v 16) (.c (.str [47]))),
       (none, .fadr 18 1 1 (.v 1)),
       (none, .load 19 false 1 (.v 18) none),
       (none, .call (some 20) 939 false [((.v 19), false)]),
       (none, .bin 21 .add (.v 17) (.v 20)),
       (none, .asg 2 (.v 21) .copy)])
     (.ret [2]))))⟩
def F950 : PFunc :=
 ⟨[false, false], [.tmp 4, .tmp 5, .tmp 6],
  (.seq
   (.region [] [] [0, 1] false [
     (none, .asg 4 (.c (.str [])) .copy),
     (none, .asg 5 (.c (.str [])) .copy),
     (none, .asg 6 (.c (.bool false)) .copy)])
   (.seq
    (.seq
     (.region [] [] [0, 1, 7] false [
       (none, .mv 8 (.v 0)),
       (none, .mv 9 (.v 1)),
       (none, .call (some 10) 38 false [((.v 8), false), ((.v 9), false)]),
       (none, .asg 7 (.v 10) .copy)])
     (.seq
      (.region [] [] [0, 1, 7, 12] false [
        (none, .mv 11 (.v 7)),
        (none, .bin 12 .geq (.v 11) (.c (.int .i64 0)))])
      (.cond (.v 12)
       (.seq
        (.region [] [] [4, 5, 6] true [
          (none, .mv 13 (.v 0)),
          (none, .mv 14 (.v 7)),
          (none, .slc 15 true 0 (.v 13) none (some (.v 14)) .copy),
          (none, .mv 16 (.v 0)),
          (none, .mv 17 (.v 7)),
          (none, .mv 18 (.v 1)),
          (none, .len 19 true (.v 18)),
          (none, .bin 20 .add (.v 17) (.v 19)),
          (none, .slc 21 true 0 (.v 16) (some (.v 20)) none .copy),
          (none, .asg 4 (.v 15) .copy),
          (none, .asg 5 (.v 21) .copy),
          (none, .asg 6 (.c (.bool true)) .copy)])
        (.ret [4, 5, 6]))
       (.skip [0]))))
    (.seq
     (.region [] [] [4, 5, 6] false [
       (none, .mv 22 (.v 0)),
       (none, .asg 4 (.v 22) .copy),
       (none, .asg 5 (.c (.str [])) .copy),
       (none, .asg 6 (.c (.bool false)) .copy)])
     (.ret [4, 5, 6]))))⟩
def F937 : PFunc :=
 ⟨[false, false], [.tmp 4, .tmp 5, .tmp 6],
  (.seq
   (.region [] [] [0, 1] false [
     (none, .asg 4 (.c (.str [])) .copy),
     (none, .asg 5 (.c (.str [])) .copy),
     (none, .asg 6 (.c (.bool false)) .copy)])
   (.seq
    (.region [] [] [4, 5, 6] false [
      (none, .mv 7 (.v 0)),
      (none, .mv 8 (.v 1)),
      (none, .call (some 9) 950 false [((.v 7), false), ((.v 8), false)]),
      (none, .extp 10 (.v 9) 0),
      (none, .extp 11 (.v 9) 1),
      (none, .extp 12 (.v 9) 2),
      (none, .asg 4 (.v 10) .copy),
      (none, .asg 5 (.v 11) .copy),
      (none, .asg 6 (.v 12) .copy)])
    (.ret [4, 5, 6])))⟩
def F938 : PFunc :=
 ⟨[false], [.tmp 2, .tmp 3],
  (.seq
   (.region [] [] [0] false [
     (none, .asg 2 (.c (.int .i64 0)) .copy),
     (none, .asg 3 (.c (.bool false)) .copy)])
   (.seq
    (.seq
     (.region [] [] [0, 14] false [
       (none, .mv 6 (.v 0)),
       (none, .len 7 true (.v 6)),
       (none, .bin 8 .gtr (.v 7) (.c (.int .i64 19))),
       (none, .mv 9 (.v 8)),
       (some (9, false), .mv 10 (.v 0)),
       (some (9, false), .call (some 11) 951 false [((.v 10), false), ((.c (.str [45])), false)]),
       (some (9, false), .len 12 true (.v 11)),
       (some (9, false), .bin 13 .gtr (.v 12) (.c (.int .i64 18))),
       (none, .pick 14 (.v 9) (.c (.bool true)) (.v 13))])
     (.cond (.v 14)
      (.seq
       (.region [] [] [2, 3] false [
         (none, .asg 2 (.c (.int .i64 0)) .copy),
         (none, .asg 3 (.c (.bool false)) .copy)])
       (.ret [2, 3]))
      (.skip [0])))
    (.seq
     (.region [] [] [0, 4, 5] false [
       (none, .mv 16 (.v 0)),
       (none, .call (some 17) 952 false [((.v 16), false), ((.c (.int .i64 10)), false), ((.c (.int .i64 64)), false)]),
       (none, .asg 15 (.v 17) .move),
       (none, .extp 18 (.v 15) 0),
       (none, .extp 19 (.v 15) 1),
       (none, .asg 4 (.v 18) .copy),
       (none, .asg 5 (.v 19) .move)])
     (.seq
      (.seq
       (.region [(20, 5, false)] [] [4, 27] false [
         (none, .mv 20 (.v 5)),
         (none, .ern 21 true (.v 20)),
         (none, .mv 22 (.v 21)),
         (some (22, false), .mv 23 (.v 4)),
         (some (22, false), .call (some 24) 939 false [((.v 23), false)]),
         (some (22, false), .mv 25 (.v 0)),
         (some (22, false), .bin 26 .neq (.v 24) (.v 25)),
         (none, .pick 27 (.v 22) (.c (.bool true)) (.v 26))])
       (.cond (.v 27)
        (.seq
         (.region [] [] [2, 3] false [
           (none, .asg 2 (.c (.int .i64 0)) .copy),
           (none, .asg 3 (.c (.bool false)) .copy)])
         (.ret [2, 3]))
        (.skip [4])))
      (.seq
       (.region [] [] [2, 3] false [
         (none, .mv 28 (.v 4)),
         (none, .asg 2 (.v 28) .copy),
         (none, .asg 3 (.c (.bool true)) .copy)])
       (.ret [2, 3]))))))⟩
def F905 : PFunc :=
 ⟨[false], [.cell 2 true 2, .tmp 3],
  (.seq
   (.region [] [] [0, 2] false [
     (none, .new 2 (.agg [(.int .i64 0), (.int .i64 0)])),
     (none, .asg 3 (.c (.bool false)) .copy)])
   (.seq
    (.region [] [] [0, 2, 4, 5, 6] false [
      (none, .mv 13 (.v 0)),
      (none, .call (some 14) 937 false [((.v 13), false), ((.c (.str [47])), false)]),
      (none, .asg 12 (.v 14) .copy),
      (none, .extp 15 (.v 12) 0),
      (none, .extp 16 (.v 12) 1),
      (none, .extp 17 (.v 12) 2),
      (none, .asg 4 (.v 15) .copy),
      (none, .asg 5 (.v 16) .copy),
      (none, .asg 6 (.v 17) .copy)])
    (.seq
     (.region [] [] [0, 2, 5, 6, 7, 8] false [
       (none, .mv 19 (.v 4)),
       (none, .call (some 20) 938 false [((.v 19), false)]),
       (none, .asg 18 (.v 20) .copy),
       (none, .extp 21 (.v 18) 0),
       (none, .extp 22 (.v 18) 1),
       (none, .asg 7 (.v 21) .copy),
       (none, .asg 8 (.v 22) .copy)])
     (.seq
      (.region [] [] [0, 2, 5, 6, 7, 8, 9, 10] false [
        (none, .asg 9 (.c (.int .i64 1)) .copy),
        (none, .asg 10 (.c (.bool true)) .copy)])
      (.seq
       (.seq
        (.region [] [] [0, 2, 5, 7, 8, 9, 10, 23] false [
          (none, .mv 23 (.v 6))])
        (.cond (.v 23)
         (.region [] [] [0, 2, 7, 8, 9, 10] false [
           (none, .mv 25 (.v 5)),
           (none, .call (some 26) 938 false [((.v 25), false)]),
           (none, .asg 24 (.v 26) .copy),
           (none, .extp 27 (.v 24) 0),
           (none, .extp 28 (.v 24) 1),
           (none, .asg 9 (.v 27) .copy),
           (none, .asg 10 (.v 28) .copy)])
         (.skip [0, 2, 7, 8, 9, 10])))
       (.seq
        (.region [] [] [0, 2, 8, 10, 11] false [
          (none, .mv 29 (.v 7)),
          (none, .mv 30 (.v 9)),
          (none, .build 31 [(.int .i64 0), (.int .i64 0)] [(0, 1, (.v 29), .copy), (1, 1, (.v 30), .copy)]),
          (none, .new 11 (.agg [(.int .i64 0), (.int .i64 0)])),
          (none, .store 2 (.v 11) (.v 31) .copy)])
        (.seq
         (.seq
          (.region [] [] [2, 11, 47] false [
            (none, .mv 32 (.v 8)),
            (none, .un 33 .not (.v 32)),
            (none, .mv 34 (.v 33)),
            (some (34, false), .mv 35 (.v 10)),
            (some (34, false), .un 36 .not (.v 35)),
            (none, .pick 37 (.v 34) (.c (.bool true)) (.v 36)),
            (none, .mv 38 (.v 37)),
            (some (38, false), .mv 39 (.v 0)),
            (some (38, false), .bin 40 .eql (.v 39) (.c (.str []))),
            (none, .pick 41 (.v 38) (.c (.bool true)) (.v 40)),
            (none, .mv 42 (.v 41)),
            (some (42, false), .load 43 true 2 (.v 11) none),
            (some (42, false), .call (some 44) 906 false [((.v 43), false)]),
            (some (42, false), .mv 45 (.v 0)),
            (some (42, false), .bin 46 .neq (.v 44) (.v 45)),
            (none, .pick 47 (.v 42) (.c (.bool true)) (.v 46))])
          (.cond (.v 47)
           (.seq
            (.region [] [] [2, 3] false [
              (none, .build 48 [(.int .i64 0), (.int .i64 0)] []),
              (none, .store 2 (.v 2) (.v 48) .copy),
              (none, .asg 3 (.c (.bool false)) .copy)])
            (.ret [2, 3]))
           (.skip [2, 11])))
         (.seq
          (.region [] [] [2, 3] false [
            (none, .load 49 true 2 (.v 11) none),
            (none, .store 2 (.v 2) (.v 49) .copy),
            (none, .asg 3 (.c (.bool true)) .copy)])
          (.ret [2, 3])))))))))⟩
def F896 : PFunc :=
 ⟨[false, false], [.tmp 4],
  (.seq
   (.region [] [] [0, 1] false [
     (none, .asg 4 (.c (.bool false)) .copy)])
   (.seq
    (.seq
     (.region [(24, 1, false), (23, 0, false)] [] [0, 1, 25] false [
       (none, .mv 23 (.v 0)),
       (none, .mv 24 (.v 1)),
       (none, .call (some 25) 386 false [((.v 23), false), ((.v 24), false)])])
     (.cond (.v 25)
      (.seq
       (.region [] [] [4] false [
         (none, .asg 4 (.c (.bool true)) .copy)])
       (.ret [4]))
      (.skip [0, 1])))
    (.seq
     (.region [(26, 0, false)] [] [1, 5] false [
       (none, .mv 26 (.v 0)),
       (none, .call (some 27) 426 false [((.v 26), false)]),
       (none, .new 5 (.agg [(.int .i64 0), (.int .i64 0)])),
       (none, .store 2 (.v 5) (.v 27) .copy)])
     (.seq
      (.region [(28, 1, false)] [] [5, 6] false [
        (none, .mv 28 (.v 1)),
        (none, .call (some 29) 426 false [((.v 28), false)]),
        (none, .new 6 (.agg [(.int .i64 0), (.int .i64 0)])),
        (none, .store 2 (.v 6) (.v 29) .copy)])
      (.seq
       (.region [] [] [5, 6, 7, 8] false [
         (none, .load 31 true 2 (.v 5) none),
         (none, .load 32 true 2 (.v 6) none),
         (none, .call (some 33) 899 false [((.v 31), false), ((.v 32), false)]),
         (none, .asg 30 (.v 33) .copy),
         (none, .extp 34 (.v 30) 0),
         (none, .extp 35 (.v 30) 1),
         (none, .new 7 (.agg [(.int .i64 0), (.int .i64 0)])),
         (none, .store 2 (.v 7) (.v 34) .copy),
         (none, .asg 8 (.v 35) .copy)])
       (.seq
        (.region [] [] [5, 6, 7, 8, 9, 10] false [
          (none, .load 37 true 2 (.v 6) none),
          (none, .load 38 true 2 (.v 5) none),
          (none, .call (some 39) 899 false [((.v 37), false), ((.v 38), false)]),
          (none, .asg 36 (.v 39) .copy),
          (none, .extp 40 (.v 36) 0),
          (none, .extp 41 (.v 36) 1),
          (none, .new 9 (.agg [(.int .i64 0), (.int .i64 0)])),
          (none, .store 2 (.v 9) (.v 40) .copy),
          (none, .asg 10 (.v 41) .copy)])
        (.seq
         (.region [] [] [5, 6, 7, 8, 9, 10, 11, 12] false [
           (none, .load 43 true 2 (.v 5) none),
           (none, .load 44 true 2 (.v 6) none),
           (none, .call (some 45) 900 false [((.v 43), false), ((.v 44), false)]),
           (none, .asg 42 (.v 45) .copy),
           (none, .extp 46 (.v 42) 0),
           (none, .extp 47 (.v 42) 1),
           (none, .new 11 (.agg [(.int .i64 0), (.int .i64 0)])),
           (none, .store 2 (.v 11) (.v 46) .copy),
           (none, .asg 12 (.v 47) .copy)])
         (.seq
          (.seq
           (.region [(112, 11, false), (109, 6, false), (107, 5, false), (104, 6, false), (101, 5, false), (99, 11, false), (84, 7, false), (80, 5, false), (78, 6, false), (75, 6, false), (73, 5, false), (70, 6, false), (67, 5, false), (65, 7, false)] [] [5, 6, 116] false [
             (none, .mv 48 (.v 8)),
             (none, .bin 49 .neq (.v 48) (.c (.int .i64 0))),
             (none, .mv 50 (.v 49)),
             (some (50, false), .mv 51 (.v 10)),
             (some (50, false), .bin 52 .neq (.v 51) (.c (.int .i64 0))),
             (none, .pick 53 (.v 50) (.c (.bool true)) (.v 52)),
             (none, .mv 54 (.v 53)),
             (some (54, false), .load 55 true 2 (.v 7) none),
             (some (54, false), .load 56 true 2 (.v 9) none),
             (some (54, false), .eqv 57 true [.i, .i] (.v 55) (.v 56)),
             (none, .pick 58 (.v 54) (.c (.bool true)) (.v 57)),
             (none, .mv 59 (.v 58)),
             (some (59, false), .load 60 true 2 (.v 7) none),
             (some (59, false), .call (some 61) 901 false [((.v 60), false)]),
             (some (59, false), .un 62 .not (.v 61)),
             (none, .pick 63 (.v 59) (.c (.bool true)) (.v 62)),
             (none, .mv 64 (.v 63)),
             (some (64, false), .fadr 65 0 1 (.v 7)),
             (some (64, false), .load 66 false 1 (.v 65) none),
             (some (64, false), .fadr 67 1 1 (.v 5)),
             (some (64, false), .load 68 false 1 (.v 67) none),
             (some (64, false), .bin 69 .mul (.v 66) (.v 68)),
             (some (64, false), .fadr 70 1 1 (.v 6)),
             (some (64, false), .load 71 false 1 (.v 70) none),
             (some (64, false), .bin 72 .mul (.v 69) (.v 71)),
             (some (64, false), .fadr 73 0 1 (.v 5)),
             (some (64, false), .load 74 false 1 (.v 73) none),
             (some (64, false), .fadr 75 1 1 (.v 6)),
             (some (64, false), .load 76 false 1 (.v 75) none),
             (some (64, false), .bin 77 .mul (.v 74) (.v 76)),
             (some (64, false), .fadr 78 0 1 (.v 6)),
             (some (64, false), .load 79 false 1 (.v 78) none),
             (some (64, false), .fadr 80 1 1 (.v 5)),
             (some (64, false), .load 81 false 1 (.v 80) none),
             (some (64, false), .bin 82 .mul (.v 79) (.v 81)),
             (some (64, false), .bin 83 .add (.v 77) (.v 82)),
             (some (64, false), .fadr 84 1 1 (.v 7)),
             (some (64, false), .load 85 false 1 (.v 84) none),
             (some (64, false), .bin 86 .mul (.v 83) (.v 85)),
             (some (64, false), .bin 87 .neq (.v 72) (.v 86)),
             (none, .pick 88 (.v 64) (.c (.bool true)) (.v 87)),
             (none, .mv 89 (.v 88)),
             (some (89, false), .mv 90 (.v 12)),
             (some (89, false), .bin 91 .neq (.v 90) (.c (.int .i64 0))),
             (none, .pick 92 (.v 89) (.c (.bool true)) (.v 91)),
             (none, .mv 93 (.v 92)),
             (some (93, false), .load 94 true 2 (.v 11) none),
             (some (93, false), .call (some 95) 901 false [((.v 94), false)]),
             (some (93, false), .un 96 .not (.v 95)),
             (none, .pick 97 (.v 93) (.c (.bool true)) (.v 96)),
             (none, .mv 98 (.v 97)),
             (some (98, false), .fadr 99 0 1 (.v 11)),
             (some (98, false), .load 100 false 1 (.v 99) none),
             (some (98, false), .fadr 101 1 1 (.v 5)),
             (some (98, false), .load 102 false 1 (.v 101) none),
             (some (98, false), .bin 103 .mul (.v 100) (.v 102)),
             (some (98, false), .fadr 104 1 1 (.v 6)),
             (some (98, false), .load 105 false 1 (.v 104) none),
             (some (98, false), .bin 106 .mul (.v 103) (.v 105)),
             (some (98, false), .fadr 107 0 1 (.v 5)),
             (some (98, false), .load 108 false 1 (.v 107) none),
             (some (98, false), .fadr 109 0 1 (.v 6)),
             (some (98, false), .load 110 false 1 (.v 109) none),
             (some (98, false), .bin 111 .mul (.v 108) (.v 110)),
             (some (98, false), .fadr 112 1 1 (.v 11)),
             (some (98, false), .load 113 false 1 (.v 112) none),
             (some (98, false), .bin 114 .mul (.v 111) (.v 113)),
             (some (98, false), .bin 115 .neq (.v 106) (.v 114)),
             (none, .pick 116 (.v 98) (.c (.bool true)) (.v 115))])
           (.cond (.v 116)
            (.seq
             (.region [] [] [4] false [
               (none, .asg 4 (.c (.bool false)) .copy)])
             (.ret [4]))
            (.skip [5, 6])))
          (.seq
           (.region [] [] [5, 6, 13, 14] false [
             (none, .load 118 true 2 (.v 5) none),
             (none, .load 119 true 2 (.v 6) none),
             (none, .call (some 120) 902 false [((.v 118), false), ((.v 119), false)]),
             (none, .asg 117 (.v 120) .copy),
             (none, .extp 121 (.v 117) 0),
             (none, .extp 122 (.v 117) 1),
             (none, .asg 13 (.v 121) .copy),
             (none, .asg 14 (.v 122) .copy)])
           (.seq
            (.region [] [] [5, 6, 13, 14, 15, 16] false [
              (none, .load 124 true 2 (.v 6) none),
              (none, .load 125 true 2 (.v 5) none),
              (none, .call (some 126) 902 false [((.v 124), false), ((.v 125), false)]),
              (none, .asg 123 (.v 126) .copy),
              (none, .extp 127 (.v 123) 0),
              (none, .extp 128 (.v 123) 1),
              (none, .asg 15 (.v 127) .copy),
              (none, .asg 16 (.v 128) .copy)])
            (.seq
             (.region [] [] [5, 6, 13, 14, 15, 16, 17, 18] false [
               (none, .load 130 true 2 (.v 5) none),
               (none, .load 131 true 2 (.v 6) none),
               (none, .call (some 132) 903 false [((.v 130), false), ((.v 131), false)]),
               (none, .asg 129 (.v 132) .copy),
               (none, .extp 133 (.v 129) 0),
               (none, .extp 134 (.v 129) 1),
               (none, .new 17 (.agg [(.int .i64 0), (.int .i64 0)])),
               (none, .store 2 (.v 17) (.v 133) .copy),
               (none, .asg 18 (.v 134) .copy)])
             (.seq
              (.region [(139, 5, false), (136, 5, false)] [] [5, 6, 13, 14, 15, 16, 17, 18, 19, 20] false [
                (none, .fadr 136 0 1 (.v 5)),
                (none, .load 137 false 1 (.v 136) none),
                (none, .bin 138 .mul (.c (.int .i64 (-3))) (.v 137)),
                (none, .fadr 139 1 1 (.v 5)),
                (none, .load 140 false 1 (.v 139) none),
                (none, .bin 141 .mul (.c (.int .i64 (-3))) (.v 140)),
                (none, .call (some 142) 904 false [((.v 138), false), ((.v 141), false)]),
                (none, .asg 135 (.v 142) .copy),
                (none, .extp 143 (.v 135) 0),
                (none, .extp 144 (.v 135) 1),
                (none, .new 19 (.agg [(.int .i64 0), (.int .i64 0)])),
                (none, .store 2 (.v 19) (.v 143) .copy),
                (none, .asg 20 (.v 144) .copy)])
              (.seq
               (.region [] [] [5, 6, 13, 14, 15, 16, 17, 18, 19, 20, 21, 22] false [
                 (none, .load 146 true 2 (.v 5) none),
                 (none, .call (some 147) 906 false [((.v 146), false)]),
                 (none, .call (some 148) 905 false [((.v 147), false)]),
                 (none, .asg 145 (.v 148) .copy),
                 (none, .extp 149 (.v 145) 0),
                 (none, .extp 150 (.v 145) 1),
                 (none, .new 21 (.agg [(.int .i64 0), (.int .i64 0)])),
                 (none, .store 2 (.v 21) (.v 149) .copy),
                 (none, .asg 22 (.v 150) .copy)])
               (.seq
                (.region [(189, 17, false), (184, 17, false)] [] [4] false [
                  (none, .mv 151 (.v 14)),
                  (none, .bin 152 .eql (.v 151) (.c (.int .i64 0))),
                  (none, .mv 153 (.v 152)),
                  (some (153, true), .mv 154 (.v 16)),
                  (some (153, true), .bin 155 .eql (.v 154) (.c (.int .i64 0))),
                  (none, .pick 156 (.v 153) (.v 155) (.c (.bool false))),
                  (none, .mv 157 (.v 156)),
                  (some (157, true), .mv 158 (.v 13)),
                  (some (157, true), .mv 159 (.v 15)),
                  (some (157, true), .un 160 .neg (.v 159)),
                  (some (157, true), .bin 161 .eql (.v 158) (.v 160)),
                  (none, .pick 162 (.v 157) (.v 161) (.c (.bool false))),
                  (none, .mv 163 (.v 162)),
                  (some (163, true), .mv 164 (.v 13)),
                  (some (163, true), .bin 165 .geq (.v 164) (.c (.int .i64 (-1)))),
                  (none, .pick 166 (.v 163) (.v 165) (.c (.bool false))),
                  (none, .mv 167 (.v 166)),
                  (some (167, true), .mv 168 (.v 13)),
                  (some (167, true), .bin 169 .leq (.v 168) (.c (.int .i64 1))),
                  (none, .pick 170 (.v 167) (.v 169) (.c (.bool false))),
                  (none, .mv 171 (.v 170)),
                  (some (171, true), .mv 172 (.v 13)),
                  (some (171, true), .bin 173 .eql (.v 172) (.c (.int .i64 0))),
                  (some (171, true), .load 174 true 2 (.v 5) none),
                  (some (171, true), .load 175 true 2 (.v 6) none),
                  (some (171, true), .eqv 176 false [.i, .i] (.v 174) (.v 175)),
                  (some (171, true), .eqb 177 false (.v 173) (.v 176)),
                  (none, .pick 178 (.v 171) (.v 177) (.c (.bool false))),
                  (none, .mv 179 (.v 178)),
                  (some (179, true), .mv 180 (.v 18)),
                  (some (179, true), .bin 181 .eql (.v 180) (.c (.int .i64 0))),
                  (none, .pick 182 (.v 179) (.v 181) (.c (.bool false))),
                  (none, .mv 183 (.v 182)),
                  (some (183, true), .fadr 184 0 1 (.v 17)),
                  (some (183, true), .load 185 false 1 (.v 184) none),
                  (some (183, true), .bin 186 .geq (.v 185) (.c (.int .i64 0))),
                  (none, .pick 187 (.v 183) (.v 186) (.c (.bool false))),
                  (none, .mv 188 (.v 187)),
                  (some (188, true), .fadr 189 0 1 (.v 17)),
                  (some (188, true), .load 190 false 1 (.v 189) none),
                  (some (188, true), .bin 191 .eql (.v 190) (.c (.int .i64 0))),
                  (some (188, true), .mv 192 (.v 13)),
                  (some (188, true), .bin 193 .eql (.v 192) (.c (.int .i64 0))),
                  (some (188, true), .eqb 194 false (.v 191) (.v 193)),
                  (none, .pick 195 (.v 188) (.v 194) (.c (.bool false))),
                  (none, .mv 196 (.v 195)),
                  (some (196, true), .mv 197 (.v 20)),
                  (some (196, true), .bin 198 .eql (.v 197) (.c (.int .i64 0))),
                  (none, .pick 199 (.v 196) (.v 198) (.c (.bool false))),
                  (none, .mv 200 (.v 199)),
                  (some (200, true), .load 201 true 2 (.v 19) none),
                  (some (200, true), .load 202 true 2 (.v 5) none),
                  (some (200, true), .eqv 203 false [.i, .i] (.v 201) (.v 202)),
                  (none, .pick 204 (.v 200) (.v 203) (.c (.bool false))),
                  (none, .mv 205 (.v 204)),
                  (some (205, true), .mv 206 (.v 22)),
                  (none, .pick 207 (.v 205) (.v 206) (.c (.bool false))),
                  (none, .mv 208 (.v 207)),
                  (some (208, true), .load 209 true 2 (.v 21) none),
                  (some (208, true), .load 210 true 2 (.v 5) none),
                  (some (208, true), .eqv 211 false [.i, .i] (.v 209) (.v 210)),
                  (none, .pick 212 (.v 208) (.v 211) (.c (.bool false))),
                  (none, .asg 4 (.v 212) .copy)])
                (.ret [4])))))))))))))))⟩
def tabl : List (Nat × PFunc) := [(386, F386), (603, F603), (5, F5), (7, F7), (604, F604), (611, F611), (616, F616), (615, F615), (426, F426), (269, F269), (326, F326), (213, F213), (257, F257), (292, F292), (899, F899), (900, F900), (605, F605), (617, F617), (901, F901), (936, F936), (902, F902), (903, F903), (904, F904), (939, F939), (906, F906), (950, F950), (937, F937), (938, F938), (905, F905), (896, F896)]
def T : Nat → Option PFunc := tabOf tabl
end Go.Vs.G
