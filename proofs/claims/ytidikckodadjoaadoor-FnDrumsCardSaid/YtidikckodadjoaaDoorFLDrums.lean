/- The functions that the law reaches, in the small language, printed by program. No conditions. -/
import Derived.Test.YtidikckodadjoaaDoorDLDrums
import Derived.Test.YtidikckodadjoaaDoorV4
set_option maxRecDepth 100000
open Go Go.Vs
namespace Go.Vs.G
def F326 : PFunc :=
 ⟨[false, false, false], [.tmp 6],
  (.seq
   (.region [] [] [0, 1, 2] false [
     (none, .asg 6 (.c (.bool false)) .copy)])
   (.seq
    (.region [] [] [6] false [
      (none, .mv 7 (.v 0)),
      (none, .mv 8 (.v 1)),
      (none, .bin 9 .geq (.v 7) (.v 8)),
      (none, .mv 10 (.v 9)),
      (some (10, true), .mv 11 (.v 0)),
      (some (10, true), .mv 12 (.v 2)),
      (some (10, true), .bin 13 .leq (.v 11) (.v 12)),
      (none, .pick 14 (.v 10) (.v 13) (.c (.bool false))),
      (none, .asg 6 (.v 14) .copy)])
    (.ret [6])))⟩
def F212 : PFunc :=
 ⟨[false], [.tmp 2],
  (.seq
   (.region [] [] [1] false [
     (none, .box 1 (.v 0) .copy),
     (none, .asg 2 (.c (.bool false)) .copy)])
   (.seq
    (.region [(12, 1, false), (7, 1, false), (3, 1, false)] [] [2] false [
      (none, .fadr 3 0 1 (.v 1)),
      (none, .load 4 false 1 (.v 3) none),
      (none, .call (some 5) 326 false [((.v 4), false), ((.c (.int .i64 100)), false), ((.c (.int .i64 10000)), false)]),
      (none, .mv 6 (.v 5)),
      (some (6, true), .fadr 7 1 1 (.v 1)),
      (some (6, true), .load 8 false 1 (.v 7) none),
      (some (6, true), .call (some 9) 326 false [((.v 8), false), ((.c (.int .i64 20)), false), ((.c (.int .i64 1000)), false)]),
      (none, .pick 10 (.v 6) (.v 9) (.c (.bool false))),
      (none, .mv 11 (.v 10)),
      (some (11, true), .fadr 12 2 1 (.v 1)),
      (some (11, true), .load 13 false 1 (.v 12) none),
      (some (11, true), .call (some 14) 326 false [((.v 13), false), ((.c (.int .i64 1)), false), ((.c (.int .i64 48)), false)]),
      (none, .pick 15 (.v 11) (.v 14) (.c (.bool false))),
      (none, .asg 2 (.v 15) .copy)])
    (.ret [2])))⟩
def F398 : PFunc :=
 ⟨[false], [.tmp 2],
  (.seq
   (.region [] [] [0] false [
     (none, .asg 2 (.c (.bool false)) .copy)])
   (.seq
    (.region [(3, 0, false)] [] [2] false [
      (none, .mv 3 (.v 0)),
      (none, .len 4 false (.v 3)),
      (none, .bin 5 .gtr (.v 4) (.c (.int .i64 4096))),
      (none, .asg 2 (.v 5) .copy)])
    (.ret [2])))⟩
def F400 : PFunc :=
 ⟨[false, false], [.tmp 4],
  (.seq
   (.region [] [] [0, 1] false [
     (none, .asg 4 (.c (.bool false)) .copy)])
   (.seq
    (.seq
     (.region [(8, 1, false), (6, 0, false)] [] [0, 1, 10] false [
       (none, .mv 6 (.v 0)),
       (none, .len 7 false (.v 6)),
       (none, .mv 8 (.v 1)),
       (none, .len 9 false (.v 8)),
       (none, .bin 10 .neq (.v 7) (.v 9))])
     (.cond (.v 10)
      (.seq
       (.region [] [] [4] false [
         (none, .asg 4 (.c (.bool false)) .copy)])
       (.ret [4]))
      (.skip [0, 1])))
    (.seq
     (.seq
      (.region [] [] [0, 1, 5] false [
        (none, .asg 5 (.c (.int .i64 0)) .copy)])
      (.block 0
       (.loop
        (.seq
         (.seq
          (.region [(12, 0, false)] [] [0, 1, 5, 14] false [
            (none, .mv 11 (.v 5)),
            (none, .mv 12 (.v 0)),
            (none, .len 13 false (.v 12)),
            (none, .bin 14 .lss (.v 11) (.v 13))])
          (.cond (.v 14)
           (.skip [0, 1, 5])
           (.exit 0 [])))
         (.seq
          (.block 1
           (.seq
            (.region [(23, 1, false), (21, 1, false), (19, 0, false), (17, 0, false)] [] [0, 1, 5, 25] true [
              (none, .mv 17 (.v 0)),
              (none, .mv 18 (.v 5)),
              (none, .iadr 19 1 (.v 17) (.v 18)),
              (none, .load 20 false 1 (.v 19) none),
              (none, .mv 21 (.v 1)),
              (none, .mv 22 (.v 5)),
              (none, .iadr 23 1 (.v 21) (.v 22)),
              (none, .load 24 false 1 (.v 23) none),
              (none, .bin 25 .neq (.v 20) (.v 24))])
            (.cond (.v 25)
             (.seq
              (.region [] [] [4] false [
                (none, .asg 4 (.c (.bool false)) .copy)])
              (.ret [4]))
             (.skip [0, 1, 5]))))
          (.region [] [] [0, 1, 5] false [
            (none, .mv 15 (.v 5)),
            (none, .bin 16 .add (.v 15) (.c (.int .i64 1))),
            (none, .asg 5 (.v 16) .copy)]))))))
     (.seq
      (.region [] [] [4] false [
        (none, .asg 4 (.c (.bool true)) .copy)])
      (.ret [4])))))⟩
def F5 : PFunc :=
 ⟨[true], [.tmp 2],
  (.seq
   (.region [] [] [0] false [
     (none, .asg 2 (.c (.int .i64 0)) .copy)])
   (.seq
    (.region [] [] [0, 3] false [
      (none, .asg 3 (.c (.int .i64 0)) .copy)])
    (.seq
     (.seq
      (.region [(11, 0, true), (10, 0, false), (9, 0, false), (8, 0, false), (6, 0, false), (5, 0, false), (4, 0, false)] [] [0, 3, 13] true [
        (none, .mvr 4 0),
        (none, .nchk 5 (.v 4)),
        (none, .fadr 6 1 1 (.v 5)),
        (none, .load 7 false 1 (.v 6) none),
        (none, .mvr 8 0),
        (none, .nchk 9 (.v 8)),
        (none, .fadr 10 0 1 (.v 9)),
        (none, .load 11 false 1 (.v 10) none),
        (none, .len 12 false (.v 11)),
        (none, .bin 13 .lss (.v 7) (.v 12))])
      (.cond (.v 13)
       (.region [(22, 0, true), (20, 0, false), (19, 0, false), (18, 0, false), (17, 0, true), (16, 0, false), (15, 0, false), (14, 0, false)] [] [0, 3] true [
         (none, .mvr 14 0),
         (none, .nchk 15 (.v 14)),
         (none, .fadr 16 0 1 (.v 15)),
         (none, .load 17 false 1 (.v 16) none),
         (none, .mvr 18 0),
         (none, .nchk 19 (.v 18)),
         (none, .fadr 20 1 1 (.v 19)),
         (none, .load 21 false 1 (.v 20) none),
         (none, .iadr 22 1 (.v 17) (.v 21)),
         (none, .load 23 false 1 (.v 22) none),
         (none, .conv 24 .i64 (.v 23)),
         (none, .asg 3 (.v 24) .copy)])
       (.skip [0, 3])))
     (.seq
      (.region [(31, 0, false), (30, 0, false), (27, 0, false), (26, 0, false), (25, 0, false)] [] [0, 3] false [
        (none, .mv 25 (.v 0)),
        (none, .nchk 26 (.v 25)),
        (none, .fadr 27 1 1 (.v 26)),
        (none, .load 28 false 1 (.v 27) none),
        (none, .bin 29 .add (.v 28) (.c (.int .i64 1))),
        (none, .nchk 30 (.v 25)),
        (none, .fadr 31 1 1 (.v 30)),
        (none, .store 1 (.v 31) (.v 29) .copy)])
      (.seq
       (.region [(43, 0, false), (42, 0, false), (35, 0, false), (34, 0, false), (33, 0, false), (32, 0, false)] [] [0, 3] false [
         (none, .mv 32 (.v 0)),
         (none, .mv 33 (.v 0)),
         (none, .nchk 34 (.v 33)),
         (none, .fadr 35 2 1 (.v 34)),
         (none, .load 36 false 1 (.v 35) none),
         (none, .bin 37 .mul (.v 36) (.c (.int .u64 6364136223846793005))),
         (none, .mv 38 (.v 3)),
         (none, .conv 39 .u64 (.v 38)),
         (none, .bin 40 .add (.v 37) (.v 39)),
         (none, .bin 41 .add (.v 40) (.c (.int .u64 1442695040888963407))),
         (none, .nchk 42 (.v 32)),
         (none, .fadr 43 2 1 (.v 42)),
         (none, .store 1 (.v 43) (.v 41) .copy)])
       (.seq
        (.seq
         (.region [(51, 0, true), (50, 0, false), (49, 0, false), (48, 0, false), (46, 0, false), (45, 0, false), (44, 0, false)] [] [0, 3, 53] true [
           (none, .mvr 44 0),
           (none, .nchk 45 (.v 44)),
           (none, .fadr 46 1 1 (.v 45)),
           (none, .load 47 false 1 (.v 46) none),
           (none, .mvr 48 0),
           (none, .nchk 49 (.v 48)),
           (none, .fadr 50 0 1 (.v 49)),
           (none, .load 51 false 1 (.v 50) none),
           (none, .len 52 false (.v 51)),
           (none, .bin 53 .leq (.v 47) (.v 52))])
         (.cond (.v 53)
          (.seq
           (.region [] [] [0, 2] false [
             (none, .mv 54 (.v 3)),
             (none, .asg 2 (.v 54) .copy)])
           (.ret [0, 2]))
          (.skip [0])))
        (.seq
         (.region [(57, 0, false), (56, 0, false), (55, 0, false)] [] [0, 2] false [
           (none, .mv 55 (.v 0)),
           (none, .nchk 56 (.v 55)),
           (none, .fadr 57 2 1 (.v 56)),
           (none, .load 58 false 1 (.v 57) none),
           (none, .bin 59 .shr (.v 58) (.c (.int .u64 40))),
           (none, .bin 60 .and (.v 59) (.c (.int .u64 255))),
           (none, .conv 61 .i64 (.v 60)),
           (none, .asg 2 (.v 61) .copy)])
         (.ret [0, 2]))))))))⟩
def F7 : PFunc :=
 ⟨[true, false], [.tmp 4],
  (.seq
   (.region [] [] [0, 1] false [
     (none, .asg 4 (.c (.int .i64 0)) .copy)])
   (.seq
    (.seq
     (.region [] [] [0, 1, 7] false [
       (none, .mv 6 (.v 1)),
       (none, .bin 7 .leq (.v 6) (.c (.int .i64 1)))])
     (.cond (.v 7)
      (.seq
       (.region [] [] [0, 4] false [
         (none, .asg 4 (.c (.int .i64 0)) .copy)])
       (.ret [0, 4]))
      (.skip [0, 1])))
    (.seq
     (.region [(8, 0, false)] [] [0, 1, 5] false [
       (none, .mv 8 (.v 0)),
       (none, .call (some 9) 5 true [((.v 8), true)]),
       (none, .asg 5 (.v 9) .copy)])
     (.seq
      (.seq
       (.region [] [] [0, 1, 5, 11] false [
         (none, .mv 10 (.v 1)),
         (none, .bin 11 .gtr (.v 10) (.c (.int .i64 200)))])
       (.cond (.v 11)
        (.region [(14, 0, false)] [] [0, 1, 5] false [
          (none, .mv 12 (.v 5)),
          (none, .bin 13 .mul (.v 12) (.c (.int .i64 256))),
          (none, .mv 14 (.v 0)),
          (none, .call (some 15) 5 true [((.v 14), true)]),
          (none, .bin 16 .add (.v 13) (.v 15)),
          (none, .asg 5 (.v 16) .copy)])
        (.skip [0, 1, 5])))
      (.seq
       (.region [] [] [0, 4] false [
         (none, .mv 17 (.v 5)),
         (none, .mv 18 (.v 1)),
         (none, .bin 19 .rem (.v 17) (.v 18)),
         (none, .asg 4 (.v 19) .copy)])
       (.ret [0, 4]))))))⟩
def F4 : PFunc :=
 ⟨[true, false], [.tmp 4],
  (.seq
   (.region [] [] [0, 1] false [
     (none, .asg 4 (.c (.int .i64 0)) .copy)])
   (.seq
    (.region [(10, 1, false), (7, 1, false), (6, 0, false), (5, 1, false)] [] [0, 4] false [
      (none, .mv 5 (.v 1)),
      (none, .mv 6 (.v 0)),
      (none, .mv 7 (.v 1)),
      (none, .len 8 false (.v 7)),
      (none, .call (some 9) 7 true [((.v 6), true), ((.v 8), false)]),
      (none, .iadr 10 1 (.v 5) (.v 9)),
      (none, .load 11 false 1 (.v 10) none),
      (none, .asg 4 (.v 11) .copy)])
    (.ret [0, 4])))⟩
def F6 : PFunc :=
 ⟨[true, false], [.tmp 4],
  (.seq
   (.region [] [] [0, 1] false [
     (none, .asg 4 (.c (.bool false)) .copy)])
   (.seq
    (.region [(5, 0, false)] [] [0, 4] false [
      (none, .mv 5 (.v 0)),
      (none, .mv 6 (.v 1)),
      (none, .call (some 7) 7 true [((.v 5), true), ((.v 6), false)]),
      (none, .bin 8 .eql (.v 7) (.c (.int .i64 0))),
      (none, .asg 4 (.v 8) .copy)])
    (.ret [0, 4])))⟩
def F603 : PFunc :=
 ⟨[false], [.tmp 2],
  (.seq
   (.region [] [] [0] false [
     (none, .asg 2 (.c .nilp) .copy)])
   (.seq
    (.region [(3, 0, false)] [] [2] false [
      (none, .mv 3 (.v 0)),
      (none, .build 4 [(.sl false 1 []), (.int .i64 0), (.int .u64 0)] [(0, 1, (.v 3), .move)]),
      (none, .box 5 (.v 4) .move),
      (none, .asg 2 (.v 5) .move)])
    (.ret [2])))⟩
def F654 : PFunc :=
 ⟨[true], [.cell 2 true 3],
  (.seq
   (.region [] [] [0, 2] false [
     (none, .new 2 (.agg [(.int .i64 0), (.int .i64 0), (.int .i64 0)]))])
   (.seq
    (.region [(8, 0, false), (4, 0, false)] [] [0, 2, 3] false [
      (none, .mv 4 (.v 0)),
      (none, .call (some 5) 7 true [((.v 4), true), ((.c (.int .i64 90)), false)]),
      (none, .bin 6 .mul (.c (.int .i64 10)) (.v 5)),
      (none, .bin 7 .add (.c (.int .i64 300)) (.v 6)),
      (none, .mv 8 (.v 0)),
      (none, .call (some 9) 7 true [((.v 8), true), ((.c (.int .i64 20)), false)]),
      (none, .bin 10 .mul (.c (.int .i64 10)) (.v 9)),
      (none, .bin 11 .add (.c (.int .i64 60)) (.v 10)),
      (none, .build 12 [(.int .i64 0), (.int .i64 0), (.int .i64 0)] [(0, 1, (.v 7), .copy), (1, 1, (.v 11), .copy)]),
      (none, .new 3 (.agg [(.int .i64 0), (.int .i64 0), (.int .i64 0)])),
      (none, .store 3 (.v 3) (.v 12) .copy)])
    (.seq
     (.region [(16, 3, false), (13, 0, false)] [] [0, 2, 3] false [
       (none, .mv 13 (.v 0)),
       (none, .call (some 14) 7 true [((.v 13), true), ((.c (.int .i64 16)), false)]),
       (none, .bin 15 .add (.c (.int .i64 1)) (.v 14)),
       (none, .fadr 16 2 1 (.v 3)),
       (none, .store 1 (.v 16) (.v 15) .copy)])
     (.seq
      (.region [] [] [0, 2] false [
        (none, .load 17 true 3 (.v 3) none),
        (none, .store 3 (.v 2) (.v 17) .copy)])
      (.ret [0, 2])))))⟩
def F648 : PFunc :=
 ⟨[true], [.cell 2 true 3],
  (.seq
   (.region [] [] [0, 2] false [
     (none, .new 2 (.agg [(.int .i64 0), (.int .i64 0), (.int .i64 0)]))])
   (.seq
    (.region [(4, 0, false)] [] [0, 2, 3] false [
      (none, .mv 4 (.v 0)),
      (none, .call (some 5) 654 true [((.v 4), true)]),
      (none, .new 3 (.agg [(.int .i64 0), (.int .i64 0), (.int .i64 0)])),
      (none, .store 3 (.v 3) (.v 5) .copy)])
    (.seq
     (.seq
      (.region [(6, 0, false)] [] [0, 2, 3, 7] false [
        (none, .mv 6 (.v 0)),
        (none, .call (some 7) 7 true [((.v 6), true), ((.c (.int .i64 24)), false)])])
      (.block 0
       (.seq
        (.region [] [] [0, 2, 3, 7, 8] false [
          (none, .bin 9 .eql (.v 7) (.c (.int .i64 0))),
          (none, .asg 8 (.v 9) .copy)])
        (.cond (.v 8)
         (.region [(13, 3, false), (10, 0, false)] [] [0, 2, 3] false [
           (none, .mv 10 (.v 0)),
           (none, .mksl 11 1 (.int .i64 0) 6 [(0, (.c (.int .i64 (-1))), .copy), (1, (.c (.int .i64 99)), .copy), (2, (.c (.int .i64 100)), .copy), (3, (.c (.int .i64 10000)), .copy), (4, (.c (.int .i64 10001)), .copy), (5, (.c (.int .i64 (-9223372036854775808))), .copy)]),
           (none, .call (some 12) 4 true [((.v 10), true), ((.v 11), false)]),
           (none, .fadr 13 0 1 (.v 3)),
           (none, .store 1 (.v 13) (.v 12) .copy)])
         (.seq
          (.region [] [] [0, 2, 3, 7, 14] false [
            (none, .bin 15 .eql (.v 7) (.c (.int .i64 1))),
            (none, .asg 14 (.v 15) .copy)])
          (.cond (.v 14)
           (.region [(19, 3, false), (16, 0, false)] [] [0, 2, 3] false [
             (none, .mv 16 (.v 0)),
             (none, .mksl 17 1 (.int .i64 0) 5 [(0, (.c (.int .i64 (-1))), .copy), (1, (.c (.int .i64 19)), .copy), (2, (.c (.int .i64 20)), .copy), (3, (.c (.int .i64 1000)), .copy), (4, (.c (.int .i64 1001)), .copy)]),
             (none, .call (some 18) 4 true [((.v 16), true), ((.v 17), false)]),
             (none, .fadr 19 1 1 (.v 3)),
             (none, .store 1 (.v 19) (.v 18) .copy)])
           (.seq
            (.region [] [] [0, 2, 3, 20] false [
              (none, .bin 21 .eql (.v 7) (.c (.int .i64 2))),
              (none, .asg 20 (.v 21) .copy)])
            (.cond (.v 20)
             (.region [(25, 3, false), (22, 0, false)] [] [0, 2, 3] false [
               (none, .mv 22 (.v 0)),
               (none, .mksl 23 1 (.int .i64 0) 5 [(0, (.c (.int .i64 (-1))), .copy), (1, (.c (.int .i64 0)), .copy), (2, (.c (.int .i64 1)), .copy), (3, (.c (.int .i64 48)), .copy), (4, (.c (.int .i64 49)), .copy)]),
               (none, .call (some 24) 4 true [((.v 22), true), ((.v 23), false)]),
               (none, .fadr 25 2 1 (.v 3)),
               (none, .store 1 (.v 25) (.v 24) .copy)])
             (.skip [0, 2, 3])))))))))
     (.seq
      (.region [] [] [0, 2] false [
        (none, .load 26 true 3 (.v 3) none),
        (none, .store 3 (.v 2) (.v 26) .copy)])
      (.ret [0, 2])))))⟩
def F656 : PFunc :=
 ⟨[false], [.cell 2 true 3, .tmp 3],
  (.seq
   (.region [] [] [0, 2] false [
     (none, .new 2 (.agg [(.int .i64 0), (.int .i64 0), (.int .i64 0)])),
     (none, .asg 3 (.c (.int .i64 0)) .copy)])
   (.seq
    (.region [(6, 0, false)] [] [2, 4] false [
      (none, .mv 6 (.v 0)),
      (none, .call (some 7) 603 true [((.v 6), false)]),
      (none, .asg 4 (.v 7) .move)])
    (.seq
     (.region [(8, 4, false)] [] [2, 4, 5] false [
       (none, .mv 8 (.v 4)),
       (none, .call (some 9) 648 true [((.v 8), true)]),
       (none, .new 5 (.agg [(.int .i64 0), (.int .i64 0), (.int .i64 0)])),
       (none, .store 3 (.v 5) (.v 9) .copy)])
     (.seq
      (.seq
       (.region [(10, 4, false)] [] [2, 4, 5, 11] false [
         (none, .mv 10 (.v 4)),
         (none, .call (some 11) 6 true [((.v 10), true), ((.c (.int .i64 8)), false)])])
       (.cond (.v 11)
        (.seq
         (.region [(13, 4, false)] [] [2, 3] true [
           (none, .load 12 true 3 (.v 5) none),
           (none, .mvr 13 4),
           (none, .mksl 14 1 (.int .i64 0) 5 [(0, (.c (.int .i64 (-1))), .copy), (1, (.c (.int .i64 0)), .copy), (2, (.c (.int .i64 1)), .copy), (3, (.c (.int .i64 48)), .copy), (4, (.c (.int .i64 49)), .copy)]),
           (none, .call (some 15) 4 true [((.v 13), true), ((.v 14), false)]),
           (none, .store 3 (.v 2) (.v 12) .copy),
           (none, .asg 3 (.v 15) .copy)])
         (.ret [2, 3]))
        (.skip [2, 4, 5])))
      (.seq
       (.region [(17, 4, false)] [] [2, 3] true [
         (none, .load 16 true 3 (.v 5) none),
         (none, .mvr 17 4),
         (none, .call (some 18) 7 true [((.v 17), true), ((.c (.int .i64 20)), false)]),
         (none, .bin 19 .add (.c (.int .i64 1)) (.v 18)),
         (none, .store 3 (.v 2) (.v 16) .copy),
         (none, .asg 3 (.v 19) .copy)])
       (.ret [2, 3]))))))⟩
def F907 : PFunc :=
 ⟨[false], [.cell 2 true 3, .tmp 3],
  (.seq
   (.region [] [] [0, 2] false [
     (none, .new 2 (.agg [(.int .i64 0), (.int .i64 0), (.int .i64 0)])),
     (none, .asg 3 (.c (.int .i64 0)) .copy)])
   (.seq
    (.region [(4, 0, false)] [] [2, 3] false [
      (none, .mv 4 (.v 0)),
      (none, .call (some 5) 656 false [((.v 4), false)]),
      (none, .extp 6 (.v 5) 0),
      (none, .extp 7 (.v 5) 1),
      (none, .store 3 (.v 2) (.v 6) .copy),
      (none, .asg 3 (.v 7) .copy)])
    (.ret [2, 3])))⟩
def F301 : PFunc :=
 ⟨[false, false], [.tmp 4],
  (.seq
   (.region [] [] [0, 1] false [
     (none, .asg 4 (.c (.int .i64 0)) .copy)])
   (.seq
    (.region [] [] [0, 1] false [
      (none, .mv 6 (.v 0)),
      (none, .bin 7 .mul (.c (.int .i64 2)) (.v 6)),
      (none, .mv 8 (.v 1)),
      (none, .bin 9 .add (.v 7) (.v 8)),
      (none, .mv 10 (.v 1)),
      (none, .bin 11 .mul (.c (.int .i64 2)) (.v 10)),
      (none, .asg 0 (.v 9) .copy),
      (none, .asg 1 (.v 11) .copy)])
    (.seq
     (.region [] [] [0, 1, 5] false [
       (none, .mv 12 (.v 0)),
       (none, .mv 13 (.v 1)),
       (none, .bin 14 .quo (.v 12) (.v 13)),
       (none, .asg 5 (.v 14) .copy)])
     (.seq
      (.seq
       (.region [] [] [5, 18] false [
         (none, .mv 15 (.v 0)),
         (none, .mv 16 (.v 1)),
         (none, .bin 17 .rem (.v 15) (.v 16)),
         (none, .bin 18 .lss (.v 17) (.c (.int .i64 0)))])
       (.cond (.v 18)
        (.region [] [] [5] false [
          (none, .mv 19 (.v 5)),
          (none, .bin 20 .sub (.v 19) (.c (.int .i64 1))),
          (none, .asg 5 (.v 20) .copy)])
        (.skip [5])))
      (.seq
       (.region [] [] [4] false [
         (none, .mv 21 (.v 5)),
         (none, .asg 4 (.v 21) .copy)])
       (.ret [4]))))))⟩
def F940 : PFunc :=
 ⟨[false, false], [.tmp 4],
  (.seq
   (.region [] [] [1, 2] false [
     (none, .box 2 (.v 0) .copy),
     (none, .asg 4 (.c (.sl true 1 [])) .copy)])
   (.seq
    (.region [] [] [1, 2, 5] false [
      (none, .mksl 7 1 (.int .i64 0) 0 []),
      (none, .asg 5 (.v 7) .move)])
    (.seq
     (.seq
      (.region [] [] [1, 2, 5, 8, 9] false [
        (none, .mv 8 (.v 1)),
        (none, .mv 9 (.c (.int .i64 0)))])
      (.block 0
       (.loop
        (.seq
         (.region [] [] [1, 2, 5, 8, 9, 10] false [
           (none, .bin 10 .lss (.v 9) (.v 8))])
         (.seq
          (.cond (.v 10)
           (.skip [1, 2, 5, 8, 9])
           (.exit 0 [5]))
          (.seq
           (.block 1
            (.seq
             (.region [] [] [1, 2, 5, 6, 8, 9] false [
               (none, .mv 11 (.v 9)),
               (none, .asg 6 (.v 11) .copy)])
             (.region [(14, 2, false), (12, 5, false)] [] [1, 2, 5, 8, 9] false [
               (none, .mv 12 (.v 5)),
               (none, .mv 13 (.v 6)),
               (none, .fadr 14 0 1 (.v 2)),
               (none, .load 15 false 1 (.v 14) none),
               (none, .bin 16 .mul (.v 13) (.v 15)),
               (none, .mv 17 (.v 1)),
               (none, .call (some 18) 301 false [((.v 16), false), ((.v 17), false)]),
               (none, .mksl 19 1 (.int .i64 0) 1 [(0, (.v 18), .copy)]),
               (none, .app 20 1 (.v 12) (.v 19) .move),
               (none, .asg 5 (.v 20) .move)])))
           (.region [] [] [1, 2, 5, 8, 9] false [
             (none, .bin 21 .add (.v 9) (.c (.int .i64 1))),
             (none, .mv 9 (.v 21))])))))))
     (.seq
      (.region [(22, 5, false)] [] [4] false [
        (none, .mv 22 (.v 5)),
        (none, .asg 4 (.v 22) .move)])
      (.ret [4])))))⟩
def F908 : PFunc :=
 ⟨[false, false], [.tmp 4, .tmp 5],
  (.seq
   (.region [] [] [1, 2] false [
     (none, .box 2 (.v 0) .copy),
     (none, .asg 4 (.c (.sl true 1 [])) .copy),
     (none, .asg 5 (.c (.int .i64 0)) .copy)])
   (.seq
    (.block 0
     (.seq
      (.region [] [] [1, 2, 6] false [
        (none, .load 7 true 3 (.v 2) none),
        (none, .call (some 8) 212 false [((.v 7), false)]),
        (none, .un 9 .not (.v 8)),
        (none, .asg 6 (.v 9) .copy)])
      (.cond (.v 6)
       (.seq
        (.region [] [] [4, 5] false [
          (none, .asg 4 (.c (.sl true 1 [])) .copy),
          (none, .asg 5 (.c (.int .i64 1)) .copy)])
        (.ret [4, 5]))
       (.seq
        (.region [] [] [1, 2, 10] false [
          (none, .mv 11 (.v 1)),
          (none, .call (some 12) 326 false [((.v 11), false), ((.c (.int .i64 1)), false), ((.c (.int .i64 48)), false)]),
          (none, .un 13 .not (.v 12)),
          (none, .asg 10 (.v 13) .copy)])
        (.cond (.v 10)
         (.seq
          (.region [] [] [4, 5] false [
            (none, .asg 4 (.c (.sl true 1 [])) .copy),
            (none, .asg 5 (.c (.int .i64 2)) .copy)])
          (.ret [4, 5]))
         (.skip [1, 2]))))))
    (.seq
     (.region [] [] [4, 5] false [
       (none, .load 14 true 3 (.v 2) none),
       (none, .mv 15 (.v 1)),
       (none, .call (some 16) 940 false [((.v 14), false), ((.v 15), false)]),
       (none, .asg 4 (.v 16) .move),
       (none, .asg 5 (.c (.int .i64 0)) .copy)])
     (.ret [4, 5]))))⟩
def F605 : PFunc :=
 ⟨[false, false, false], [.tmp 6],
  (.seq
   (.region [] [] [0, 1, 2] false [
     (none, .asg 6 (.c (.bool false)) .copy)])
   (.seq
    (.region [] [] [6] false [
      (none, .mv 7 (.v 0)),
      (none, .mv 8 (.v 1)),
      (none, .bin 9 .geq (.v 7) (.v 8)),
      (none, .mv 10 (.v 9)),
      (some (10, true), .mv 11 (.v 0)),
      (some (10, true), .mv 12 (.v 2)),
      (some (10, true), .bin 13 .leq (.v 11) (.v 12)),
      (none, .pick 14 (.v 10) (.v 13) (.c (.bool false))),
      (none, .asg 6 (.v 14) .copy)])
    (.ret [6])))⟩
def F620 : PFunc :=
 ⟨[false], [.tmp 2],
  (.seq
   (.region [] [] [0] false [
     (none, .asg 2 (.c (.bool false)) .copy)])
   (.seq
    (.region [] [] [2] false [
      (none, .mv 3 (.v 0)),
      (none, .call (some 4) 605 false [((.v 3), false), ((.c (.int .i64 1)), false), ((.c (.int .i64 48)), false)]),
      (none, .asg 2 (.v 4) .copy)])
    (.ret [2])))⟩
def F655 : PFunc :=
 ⟨[false], [.tmp 2],
  (.seq
   (.region [] [] [0] false [
     (none, .asg 2 (.c (.bool false)) .copy)])
   (.seq
    (.region [(18, 0, false), (17, 0, false), (16, 0, false), (11, 0, false), (10, 0, false), (9, 0, false), (5, 0, false), (4, 0, false), (3, 0, false)] [] [2] false [
      (none, .mv 3 (.v 0)),
      (none, .nchk 4 (.v 3)),
      (none, .fadr 5 0 1 (.v 4)),
      (none, .load 6 false 1 (.v 5) none),
      (none, .call (some 7) 605 false [((.v 6), false), ((.c (.int .i64 100)), false), ((.c (.int .i64 10000)), false)]),
      (none, .mv 8 (.v 7)),
      (some (8, true), .mv 9 (.v 0)),
      (some (8, true), .nchk 10 (.v 9)),
      (some (8, true), .fadr 11 1 1 (.v 10)),
      (some (8, true), .load 12 false 1 (.v 11) none),
      (some (8, true), .call (some 13) 605 false [((.v 12), false), ((.c (.int .i64 20)), false), ((.c (.int .i64 1000)), false)]),
      (none, .pick 14 (.v 8) (.v 13) (.c (.bool false))),
      (none, .mv 15 (.v 14)),
      (some (15, true), .mv 16 (.v 0)),
      (some (15, true), .nchk 17 (.v 16)),
      (some (15, true), .fadr 18 2 1 (.v 17)),
      (some (15, true), .load 19 false 1 (.v 18) none),
      (some (15, true), .call (some 20) 605 false [((.v 19), false), ((.c (.int .i64 1)), false), ((.c (.int .i64 48)), false)]),
      (none, .pick 21 (.v 15) (.v 20) (.c (.bool false))),
      (none, .asg 2 (.v 21) .copy)])
    (.ret [2])))⟩
def F653 : PFunc :=
 ⟨[false, false], [.tmp 4],
  (.seq
   (.region [] [] [0, 1] false [
     (none, .asg 4 (.c (.int .i64 0)) .copy)])
   (.seq
    (.seq
     (.region [(5, 0, false)] [] [1, 7] false [
       (none, .mv 5 (.v 0)),
       (none, .call (some 6) 655 false [((.v 5), false)]),
       (none, .un 7 .not (.v 6))])
     (.cond (.v 7)
      (.seq
       (.region [] [] [4] false [
         (none, .asg 4 (.c (.int .i64 1)) .copy)])
       (.ret [4]))
      (.skip [1])))
    (.seq
     (.seq
      (.region [] [] [10] false [
        (none, .mv 8 (.v 1)),
        (none, .call (some 9) 620 false [((.v 8), false)]),
        (none, .un 10 .not (.v 9))])
      (.cond (.v 10)
       (.seq
        (.region [] [] [4] false [
          (none, .asg 4 (.c (.int .i64 2)) .copy)])
        (.ret [4]))
       (.skip [])))
     (.seq
      (.region [] [] [4] false [
        (none, .asg 4 (.c (.int .i64 0)) .copy)])
      (.ret [4])))))⟩
def F602 : PFunc :=
 ⟨[false, false], [.tmp 4],
  (.seq
   (.region [] [] [0, 1] false [
     (none, .asg 4 (.c (.int .i64 0)) .copy)])
   (.seq
    (.region [] [] [0, 1, 5] false [
      (none, .mv 6 (.v 0)),
      (none, .mv 7 (.v 1)),
      (none, .bin 8 .quo (.v 6) (.v 7)),
      (none, .asg 5 (.v 8) .copy)])
    (.seq
     (.seq
      (.region [] [] [5, 12] false [
        (none, .mv 9 (.v 0)),
        (none, .mv 10 (.v 1)),
        (none, .bin 11 .rem (.v 9) (.v 10)),
        (none, .bin 12 .lss (.v 11) (.c (.int .i64 0)))])
      (.cond (.v 12)
       (.region [] [] [5] false [
         (none, .mv 13 (.v 5)),
         (none, .bin 14 .sub (.v 13) (.c (.int .i64 1))),
         (none, .asg 5 (.v 14) .copy)])
       (.skip [5])))
     (.seq
      (.region [] [] [4] false [
        (none, .mv 15 (.v 5)),
        (none, .asg 4 (.v 15) .copy)])
      (.ret [4])))))⟩
def F610 : PFunc :=
 ⟨[false, false], [.tmp 4],
  (.seq
   (.region [] [] [0, 1] false [
     (none, .asg 4 (.c (.int .i64 0)) .copy)])
   (.seq
    (.region [] [] [4] false [
      (none, .mv 5 (.v 0)),
      (none, .bin 6 .mul (.c (.int .i64 2)) (.v 5)),
      (none, .mv 7 (.v 1)),
      (none, .bin 8 .add (.v 6) (.v 7)),
      (none, .mv 9 (.v 1)),
      (none, .bin 10 .mul (.c (.int .i64 2)) (.v 9)),
      (none, .call (some 11) 602 false [((.v 8), false), ((.v 10), false)]),
      (none, .asg 4 (.v 11) .copy)])
    (.ret [4])))⟩
def F941 : PFunc :=
 ⟨[false, false], [.tmp 4],
  (.seq
   (.region [] [] [0, 1] false [
     (none, .asg 4 (.c (.sl true 1 [])) .copy)])
   (.seq
    (.region [] [] [0, 1, 5] false [
      (none, .mksl 7 1 (.int .i64 0) 0 []),
      (none, .asg 5 (.v 7) .move)])
    (.seq
     (.seq
      (.region [] [] [0, 1, 5, 6] false [
        (none, .asg 6 (.c (.int .i64 0)) .copy)])
      (.block 0
       (.loop
        (.seq
         (.seq
          (.region [] [] [0, 1, 5, 6, 10] false [
            (none, .mv 8 (.v 6)),
            (none, .mv 9 (.v 1)),
            (none, .bin 10 .lss (.v 8) (.v 9))])
          (.cond (.v 10)
           (.skip [0, 1, 5, 6])
           (.exit 0 [5])))
         (.seq
          (.block 1
           (.region [(17, 0, false), (16, 0, false), (15, 0, false), (13, 5, false)] [] [0, 1, 5, 6] false [
             (none, .mv 13 (.v 5)),
             (none, .mv 14 (.v 6)),
             (none, .mv 15 (.v 0)),
             (none, .nchk 16 (.v 15)),
             (none, .fadr 17 0 1 (.v 16)),
             (none, .load 18 false 1 (.v 17) none),
             (none, .bin 19 .mul (.v 14) (.v 18)),
             (none, .mv 20 (.v 1)),
             (none, .call (some 21) 610 false [((.v 19), false), ((.v 20), false)]),
             (none, .mksl 22 1 (.int .i64 0) 1 [(0, (.v 21), .copy)]),
             (none, .app 23 1 (.v 13) (.v 22) .move),
             (none, .asg 5 (.v 23) .move)]))
          (.region [] [] [0, 1, 5, 6] false [
            (none, .mv 11 (.v 6)),
            (none, .bin 12 .add (.v 11) (.c (.int .i64 1))),
            (none, .asg 6 (.v 12) .copy)]))))))
     (.seq
      (.region [(24, 5, false)] [] [4] false [
        (none, .mv 24 (.v 5)),
        (none, .asg 4 (.v 24) .move)])
      (.ret [4])))))⟩
def F909 : PFunc :=
 ⟨[false, false], [.tmp 4, .tmp 5],
  (.seq
   (.region [] [] [1, 2] false [
     (none, .box 2 (.v 0) .copy),
     (none, .asg 4 (.c (.sl true 1 [])) .copy),
     (none, .asg 5 (.c (.int .i64 0)) .copy)])
   (.seq
    (.region [] [] [1, 2, 6] false [
      (none, .mv 7 (.v 1)),
      (none, .call (some 8) 653 false [((.v 2), false), ((.v 7), false)]),
      (none, .asg 6 (.v 8) .copy)])
    (.seq
     (.seq
      (.region [] [] [1, 2, 6, 10] false [
        (none, .mv 9 (.v 6)),
        (none, .bin 10 .neq (.v 9) (.c (.int .i64 0)))])
      (.cond (.v 10)
       (.seq
        (.region [] [] [4, 5] false [
          (none, .mv 11 (.v 6)),
          (none, .asg 4 (.c (.sl true 1 [])) .copy),
          (none, .asg 5 (.v 11) .copy)])
        (.ret [4, 5]))
       (.skip [1, 2])))
     (.seq
      (.region [] [] [4, 5] false [
        (none, .mv 12 (.v 1)),
        (none, .call (some 13) 941 false [((.v 2), false), ((.v 12), false)]),
        (none, .asg 4 (.v 13) .move),
        (none, .asg 5 (.c (.int .i64 0)) .copy)])
      (.ret [4, 5])))))⟩
def F910 : PFunc :=
 ⟨[false], [.tmp 2, .tmp 3],
  (.seq
   (.region [] [] [1] false [
     (none, .box 1 (.v 0) .copy),
     (none, .asg 2 (.c (.sl true 1 [])) .copy),
     (none, .asg 3 (.c (.int .i64 0)) .copy)])
   (.seq
    (.seq
     (.region [] [] [1, 6] false [
       (none, .load 4 true 3 (.v 1) none),
       (none, .call (some 5) 212 false [((.v 4), false)]),
       (none, .un 6 .not (.v 5))])
     (.cond (.v 6)
      (.seq
       (.region [] [] [2, 3] false [
         (none, .asg 2 (.c (.sl true 1 [])) .copy),
         (none, .asg 3 (.c (.int .i64 1)) .copy)])
       (.ret [2, 3]))
      (.skip [1])))
    (.seq
     (.region [(8, 1, false)] [] [2, 3] false [
       (none, .load 7 true 3 (.v 1) none),
       (none, .fadr 8 2 1 (.v 1)),
       (none, .load 9 false 1 (.v 8) none),
       (none, .call (some 10) 940 false [((.v 7), false), ((.v 9), false)]),
       (none, .asg 2 (.v 10) .move),
       (none, .asg 3 (.c (.int .i64 0)) .copy)])
     (.ret [2, 3]))))⟩
def F911 : PFunc :=
 ⟨[false], [.tmp 2, .tmp 3],
  (.seq
   (.region [] [] [1] false [
     (none, .box 1 (.v 0) .copy),
     (none, .asg 2 (.c (.sl true 1 [])) .copy),
     (none, .asg 3 (.c (.int .i64 0)) .copy)])
   (.seq
    (.seq
     (.region [] [] [1, 5] false [
       (none, .call (some 4) 655 false [((.v 1), false)]),
       (none, .un 5 .not (.v 4))])
     (.cond (.v 5)
      (.seq
       (.region [] [] [2, 3] false [
         (none, .asg 2 (.c (.sl true 1 [])) .copy),
         (none, .asg 3 (.c (.int .i64 1)) .copy)])
       (.ret [2, 3]))
      (.skip [1])))
    (.seq
     (.region [(6, 1, false)] [] [2, 3] false [
       (none, .fadr 6 2 1 (.v 1)),
       (none, .load 7 false 1 (.v 6) none),
       (none, .call (some 8) 941 false [((.v 1), false), ((.v 7), false)]),
       (none, .asg 2 (.v 8) .move),
       (none, .asg 3 (.c (.int .i64 0)) .copy)])
     (.ret [2, 3]))))⟩
def F649 : PFunc :=
 ⟨[true], [.tmp 2],
  (.seq
   (.region [] [] [0] false [
     (none, .asg 2 (.c (.int .i64 0)) .copy)])
   (.seq
    (.seq
     (.region [(3, 0, false)] [] [0, 4] false [
       (none, .mv 3 (.v 0)),
       (none, .call (some 4) 6 true [((.v 3), true), ((.c (.int .i64 10)), false)])])
     (.cond (.v 4)
      (.seq
       (.region [(5, 0, false)] [] [0, 2] false [
         (none, .mv 5 (.v 0)),
         (none, .mksl 6 1 (.int .i64 0) 4 [(0, (.c (.int .i64 (-1))), .copy), (1, (.c (.int .i64 0)), .copy), (2, (.c (.int .i64 100)), .copy), (3, (.c (.int .i64 101)), .copy)]),
         (none, .call (some 7) 4 true [((.v 5), true), ((.v 6), false)]),
         (none, .asg 2 (.v 7) .copy)])
       (.ret [0, 2]))
      (.skip [0])))
    (.seq
     (.region [(8, 0, false)] [] [0, 2] false [
       (none, .mv 8 (.v 0)),
       (none, .call (some 9) 7 true [((.v 8), true), ((.c (.int .i64 30)), false)]),
       (none, .asg 2 (.v 9) .copy)])
     (.ret [0, 2]))))⟩
def F912 : PFunc :=
 ⟨[false], [.cell 2 true 3, .tmp 3, .tmp 4],
  (.seq
   (.region [] [] [0, 2] false [
     (none, .new 2 (.agg [(.int .i64 0), (.int .i64 0), (.int .i64 0)])),
     (none, .asg 3 (.c (.int .i64 0)) .copy),
     (none, .asg 4 (.c (.int .i64 0)) .copy)])
   (.seq
    (.region [(8, 0, false)] [] [2, 5] false [
      (none, .mv 8 (.v 0)),
      (none, .call (some 9) 603 true [((.v 8), false)]),
      (none, .asg 5 (.v 9) .move)])
    (.seq
     (.region [(10, 5, false)] [] [2, 5, 6] false [
       (none, .mv 10 (.v 5)),
       (none, .call (some 11) 648 true [((.v 10), true)]),
       (none, .new 6 (.agg [(.int .i64 0), (.int .i64 0), (.int .i64 0)])),
       (none, .store 3 (.v 6) (.v 11) .copy)])
     (.seq
      (.region [(12, 5, false)] [] [2, 5, 6, 7] false [
        (none, .mv 12 (.v 5)),
        (none, .call (some 13) 649 true [((.v 12), true)]),
        (none, .asg 7 (.v 13) .copy)])
      (.seq
       (.seq
        (.region [(14, 5, false)] [] [2, 5, 6, 7, 15] false [
          (none, .mv 14 (.v 5)),
          (none, .call (some 15) 6 true [((.v 14), true), ((.c (.int .i64 8)), false)])])
        (.cond (.v 15)
         (.seq
          (.region [(18, 5, false)] [] [2, 3, 4] true [
            (none, .load 16 true 3 (.v 6) none),
            (none, .mv 17 (.v 7)),
            (none, .mvr 18 5),
            (none, .mv 19 (.v 7)),
            (none, .mv 20 (.v 7)),
            (none, .bin 21 .add (.v 20) (.c (.int .i64 1))),
            (none, .mksl 22 1 (.int .i64 0) 7 [(0, (.c (.int .i64 (-1))), .copy), (1, (.c (.int .i64 0)), .copy), (2, (.c (.int .i64 1)), .copy), (3, (.v 19), .copy), (4, (.v 21), .copy), (5, (.c (.int .i64 10000)), .copy), (6, (.c (.int .i64 10001)), .copy)]),
            (none, .call (some 23) 4 true [((.v 18), true), ((.v 22), false)]),
            (none, .store 3 (.v 2) (.v 16) .copy),
            (none, .asg 3 (.v 17) .copy),
            (none, .asg 4 (.v 23) .copy)])
          (.ret [2, 3, 4]))
         (.skip [2, 5, 6, 7])))
       (.seq
        (.region [(26, 5, false)] [] [2, 3, 4] true [
          (none, .load 24 true 3 (.v 6) none),
          (none, .mv 25 (.v 7)),
          (none, .mvr 26 5),
          (none, .call (some 27) 7 true [((.v 26), true), ((.c (.int .i64 60)), false)]),
          (none, .bin 28 .mul (.c (.int .i64 10)) (.v 27)),
          (none, .bin 29 .add (.c (.int .i64 20)) (.v 28)),
          (none, .store 3 (.v 2) (.v 24) .copy),
          (none, .asg 3 (.v 25) .copy),
          (none, .asg 4 (.v 29) .copy)])
        (.ret [2, 3, 4])))))))⟩
def F913 : PFunc :=
 ⟨[false, false, false], [.tmp 6, .tmp 7],
  (.seq
   (.region [] [] [1, 2, 3] false [
     (none, .box 3 (.v 0) .copy),
     (none, .asg 6 (.c (.int .i64 0)) .copy),
     (none, .asg 7 (.c (.int .i64 0)) .copy)])
   (.seq
    (.block 0
     (.seq
      (.region [] [] [1, 2, 3, 9] false [
        (none, .load 10 true 3 (.v 3) none),
        (none, .call (some 11) 212 false [((.v 10), false)]),
        (none, .un 12 .not (.v 11)),
        (none, .asg 9 (.v 12) .copy)])
      (.cond (.v 9)
       (.seq
        (.region [] [] [6, 7] false [
          (none, .asg 6 (.c (.int .i64 0)) .copy),
          (none, .asg 7 (.c (.int .i64 1)) .copy)])
        (.ret [6, 7]))
       (.seq
        (.region [] [] [1, 2, 3, 13] false [
          (none, .mv 14 (.v 1)),
          (none, .call (some 15) 326 false [((.v 14), false), ((.c (.int .i64 0)), false), ((.c (.int .i64 100)), false)]),
          (none, .un 16 .not (.v 15)),
          (none, .mv 17 (.v 16)),
          (some (17, false), .mv 18 (.v 2)),
          (some (17, false), .call (some 19) 326 false [((.v 18), false), ((.c (.int .i64 1)), false), ((.c (.int .i64 10000)), false)]),
          (some (17, false), .un 20 .not (.v 19)),
          (none, .pick 21 (.v 17) (.c (.bool true)) (.v 20)),
          (none, .asg 13 (.v 21) .copy)])
        (.cond (.v 13)
         (.seq
          (.region [] [] [6, 7] false [
            (none, .asg 6 (.c (.int .i64 0)) .copy),
            (none, .asg 7 (.c (.int .i64 2)) .copy)])
          (.ret [6, 7]))
         (.seq
          (.region [] [] [1, 2, 3, 22] false [
            (none, .mv 23 (.v 2)),
            (none, .mv 24 (.v 1)),
            (none, .bin 25 .leq (.v 23) (.v 24)),
            (none, .asg 22 (.v 25) .copy)])
          (.cond (.v 22)
           (.seq
            (.region [] [] [6, 7] false [
              (none, .asg 6 (.c (.int .i64 0)) .copy),
              (none, .asg 7 (.c (.int .i64 5)) .copy)])
            (.ret [6, 7]))
           (.skip [1, 2, 3]))))))))
    (.seq
     (.region [] [] [3, 8] false [
       (none, .mv 26 (.v 2)),
       (none, .mv 27 (.v 1)),
       (none, .bin 28 .sub (.v 26) (.v 27)),
       (none, .asg 8 (.v 28) .copy)])
     (.seq
      (.region [(29, 3, false)] [] [6, 7] false [
        (none, .fadr 29 0 1 (.v 3)),
        (none, .load 30 false 1 (.v 29) none),
        (none, .mv 31 (.v 8)),
        (none, .bin 32 .add (.v 30) (.v 31)),
        (none, .bin 33 .sub (.v 32) (.c (.int .i64 1))),
        (none, .mv 34 (.v 8)),
        (none, .bin 35 .quo (.v 33) (.v 34)),
        (none, .asg 6 (.v 35) .copy),
        (none, .asg 7 (.c (.int .i64 0)) .copy)])
      (.ret [6, 7])))))⟩
def F650 : PFunc :=
 ⟨[false, false], [.tmp 4],
  (.seq
   (.region [] [] [0, 1] false [
     (none, .asg 4 (.c (.int .i64 0)) .copy)])
   (.seq
    (.seq
     (.region [(5, 0, false)] [] [1, 7] false [
       (none, .mv 5 (.v 0)),
       (none, .call (some 6) 655 false [((.v 5), false)]),
       (none, .un 7 .not (.v 6))])
     (.cond (.v 7)
      (.seq
       (.region [] [] [4] false [
         (none, .asg 4 (.c (.int .i64 1)) .copy)])
       (.ret [4]))
      (.skip [1])))
    (.seq
     (.seq
      (.region [] [] [10] false [
        (none, .mv 8 (.v 1)),
        (none, .call (some 9) 605 false [((.v 8), false), ((.c (.int .i64 0)), false), ((.c (.int .i64 100)), false)]),
        (none, .un 10 .not (.v 9))])
      (.cond (.v 10)
       (.seq
        (.region [] [] [4] false [
          (none, .asg 4 (.c (.int .i64 2)) .copy)])
        (.ret [4]))
       (.skip [])))
     (.seq
      (.region [] [] [4] false [
        (none, .asg 4 (.c (.int .i64 0)) .copy)])
      (.ret [4])))))⟩
def F914 : PFunc :=
 ⟨[false, false, false], [.tmp 6, .tmp 7],
  (.seq
   (.region [] [] [1, 2, 3] false [
     (none, .box 3 (.v 0) .copy),
     (none, .asg 6 (.c (.int .i64 0)) .copy),
     (none, .asg 7 (.c (.int .i64 0)) .copy)])
   (.seq
    (.region [] [] [1, 2, 3, 8] false [
      (none, .mv 9 (.v 1)),
      (none, .call (some 10) 650 false [((.v 3), false), ((.v 9), false)]),
      (none, .asg 8 (.v 10) .copy)])
    (.seq
     (.seq
      (.region [] [] [1, 2, 3, 8, 17] false [
        (none, .mv 11 (.v 8)),
        (none, .bin 12 .eql (.v 11) (.c (.int .i64 0))),
        (none, .mv 13 (.v 12)),
        (some (13, true), .mv 14 (.v 2)),
        (some (13, true), .call (some 15) 605 false [((.v 14), false), ((.c (.int .i64 1)), false), ((.c (.int .i64 10000)), false)]),
        (some (13, true), .un 16 .not (.v 15)),
        (none, .pick 17 (.v 13) (.v 16) (.c (.bool false)))])
      (.cond (.v 17)
       (.region [] [] [1, 2, 3, 8] false [
         (none, .asg 8 (.c (.int .i64 2)) .copy)])
       (.skip [1, 2, 3, 8])))
     (.seq
      (.seq
       (.region [] [] [1, 2, 3, 8, 19] false [
         (none, .mv 18 (.v 8)),
         (none, .bin 19 .neq (.v 18) (.c (.int .i64 0)))])
       (.cond (.v 19)
        (.seq
         (.region [] [] [6, 7] false [
           (none, .mv 20 (.v 8)),
           (none, .asg 6 (.c (.int .i64 0)) .copy),
           (none, .asg 7 (.v 20) .copy)])
         (.ret [6, 7]))
        (.skip [1, 2, 3])))
      (.seq
       (.seq
        (.region [] [] [1, 2, 3, 23] false [
          (none, .mv 21 (.v 2)),
          (none, .mv 22 (.v 1)),
          (none, .bin 23 .leq (.v 21) (.v 22))])
        (.cond (.v 23)
         (.seq
          (.region [] [] [6, 7] false [
            (none, .asg 6 (.c (.int .i64 0)) .copy),
            (none, .asg 7 (.c (.int .i64 5)) .copy)])
          (.ret [6, 7]))
         (.skip [1, 2, 3])))
       (.seq
        (.region [(24, 3, false)] [] [6, 7] false [
          (none, .fadr 24 0 1 (.v 3)),
          (none, .load 25 false 1 (.v 24) none),
          (none, .mv 26 (.v 2)),
          (none, .bin 27 .add (.v 25) (.v 26)),
          (none, .mv 28 (.v 1)),
          (none, .bin 29 .sub (.v 27) (.v 28)),
          (none, .bin 30 .sub (.v 29) (.c (.int .i64 1))),
          (none, .mv 31 (.v 2)),
          (none, .mv 32 (.v 1)),
          (none, .bin 33 .sub (.v 31) (.v 32)),
          (none, .bin 34 .quo (.v 30) (.v 33)),
          (none, .asg 6 (.v 34) .copy),
          (none, .asg 7 (.c (.int .i64 0)) .copy)])
        (.ret [6, 7])))))))⟩
def F245 : PFunc :=
 ⟨[false, false], [.tmp 4],
  (.seq
   (.region [] [] [0, 1] false [
     (none, .asg 4 (.c (.int .i64 0)) .copy)])
   (.seq
    (.region [] [] [4] false [
      (none, .mv 5 (.v 0)),
      (none, .mv 6 (.v 1)),
      (none, .bin 7 .sub (.v 5) (.v 6)),
      (none, .mv 8 (.v 1)),
      (none, .mv 9 (.v 0)),
      (none, .bin 10 .sub (.v 8) (.v 9)),
      (none, .mm 11 true (.v 7) [(.v 10)]),
      (none, .asg 4 (.v 11) .copy)])
    (.ret [4])))⟩
def F915 : PFunc :=
 ⟨[false, false], [.tmp 4, .tmp 5, .tmp 6],
  (.seq
   (.region [] [] [1, 2] false [
     (none, .box 2 (.v 0) .copy),
     (none, .asg 4 (.c (.int .i64 0)) .copy),
     (none, .asg 5 (.c (.int .i64 0)) .copy),
     (none, .asg 6 (.c (.int .i64 0)) .copy)])
   (.seq
    (.block 0
     (.seq
      (.region [] [] [1, 2, 15] false [
        (none, .load 16 true 3 (.v 2) none),
        (none, .call (some 17) 212 false [((.v 16), false)]),
        (none, .un 18 .not (.v 17)),
        (none, .asg 15 (.v 18) .copy)])
      (.cond (.v 15)
       (.seq
        (.region [] [] [4, 5, 6] false [
          (none, .asg 4 (.c (.int .i64 0)) .copy),
          (none, .asg 5 (.c (.int .i64 0)) .copy),
          (none, .asg 6 (.c (.int .i64 1)) .copy)])
        (.ret [4, 5, 6]))
       (.seq
        (.region [] [] [1, 2, 19] false [
          (none, .mv 20 (.v 1)),
          (none, .call (some 21) 326 false [((.v 20), false), ((.c (.int .i64 1)), false), ((.c (.int .i64 48)), false)]),
          (none, .un 22 .not (.v 21)),
          (none, .asg 19 (.v 22) .copy)])
        (.cond (.v 19)
         (.seq
          (.region [] [] [4, 5, 6] false [
            (none, .asg 4 (.c (.int .i64 0)) .copy),
            (none, .asg 5 (.c (.int .i64 0)) .copy),
            (none, .asg 6 (.c (.int .i64 2)) .copy)])
          (.ret [4, 5, 6]))
         (.skip [1, 2]))))))
    (.seq
     (.region [] [] [1, 2, 7, 8] false [
       (none, .asg 7 (.c (.int .i64 0)) .copy),
       (none, .asg 8 (.c (.int .i64 (-1))) .copy)])
     (.seq
      (.seq
       (.region [(24, 2, false)] [] [1, 2, 7, 8, 26, 27, 28] false [
         (none, .load 23 true 3 (.v 2) none),
         (none, .fadr 24 2 1 (.v 2)),
         (none, .load 25 false 1 (.v 24) none),
         (none, .call (some 26) 940 false [((.v 23), false), ((.v 25), false)]),
         (none, .len 27 false (.v 26)),
         (none, .mv 28 (.c (.int .i64 0)))])
       (.block 1
        (.loop
         (.seq
          (.region [] [] [1, 2, 7, 8, 26, 27, 28, 29] false [
            (none, .bin 29 .lss (.v 28) (.v 27))])
          (.seq
           (.cond (.v 29)
            (.skip [1, 2, 7, 8, 26, 27, 28])
            (.exit 1 [7, 8]))
           (.seq
            (.block 2
             (.seq
              (.region [(31, 26, false)] [] [1, 2, 7, 8, 9, 10, 26, 27, 28] false [
                (none, .mv 30 (.v 28)),
                (none, .iadr 31 1 (.v 26) (.v 28)),
                (none, .load 32 false 1 (.v 31) none),
                (none, .asg 9 (.v 30) .copy),
                (none, .asg 10 (.v 32) .copy)])
              (.seq
               (.region [(33, 2, false)] [] [1, 2, 7, 8, 9, 10, 11, 26, 27, 28] false [
                 (none, .fadr 33 0 1 (.v 2)),
                 (none, .load 34 false 1 (.v 33) none),
                 (none, .asg 11 (.v 34) .copy)])
               (.seq
                (.seq
                 (.region [] [] [1, 2, 7, 8, 9, 10, 11, 26, 27, 28, 37, 38, 39] false [
                   (none, .load 35 true 3 (.v 2) none),
                   (none, .mv 36 (.v 1)),
                   (none, .call (some 37) 940 false [((.v 35), false), ((.v 36), false)]),
                   (none, .len 38 false (.v 37)),
                   (none, .mv 39 (.c (.int .i64 0)))])
                 (.block 3
                  (.loop
                   (.seq
                    (.region [] [] [1, 2, 7, 8, 9, 10, 11, 26, 27, 28, 37, 38, 39, 40] false [
                      (none, .bin 40 .lss (.v 39) (.v 38))])
                    (.seq
                     (.cond (.v 40)
                      (.skip [1, 2, 7, 8, 9, 10, 11, 26, 27, 28, 37, 38, 39])
                      (.exit 3 [1, 2, 7, 8, 9, 11, 26, 27, 28]))
                     (.seq
                      (.block 4
                       (.seq
                        (.region [(41, 37, false)] [] [1, 2, 7, 8, 9, 10, 11, 13, 26, 27, 28, 37, 38, 39] false [
                          (none, .iadr 41 1 (.v 37) (.v 39)),
                          (none, .load 42 false 1 (.v 41) none),
                          (none, .asg 13 (.v 42) .copy)])
                        (.seq
                         (.region [] [] [1, 2, 7, 8, 9, 10, 11, 14, 26, 27, 28, 37, 38, 39] false [
                           (none, .mv 43 (.v 10)),
                           (none, .mv 44 (.v 13)),
                           (none, .call (some 45) 245 false [((.v 43), false), ((.v 44), false)]),
                           (none, .asg 14 (.v 45) .copy)])
                         (.region [(48, 2, false)] [] [1, 2, 7, 8, 9, 10, 11, 26, 27, 28, 37, 38, 39] false [
                           (none, .mv 46 (.v 11)),
                           (none, .mv 47 (.v 14)),
                           (none, .fadr 48 0 1 (.v 2)),
                           (none, .load 49 false 1 (.v 48) none),
                           (none, .mv 50 (.v 14)),
                           (none, .bin 51 .sub (.v 49) (.v 50)),
                           (none, .mm 52 false (.v 46) [(.v 47), (.v 51)]),
                           (none, .asg 11 (.v 52) .copy)]))))
                      (.region [] [] [1, 2, 7, 8, 9, 10, 11, 26, 27, 28, 37, 38, 39] false [
                        (none, .bin 53 .add (.v 39) (.c (.int .i64 1))),
                        (none, .mv 39 (.v 53))])))))))
                (.seq
                 (.region [] [] [1, 2, 7, 8, 9, 11, 26, 27, 28, 56] false [
                   (none, .mv 54 (.v 11)),
                   (none, .mv 55 (.v 8)),
                   (none, .bin 56 .gtr (.v 54) (.v 55))])
                 (.cond (.v 56)
                  (.region [] [] [1, 2, 7, 8, 26, 27, 28] false [
                    (none, .mv 57 (.v 9)),
                    (none, .mv 58 (.v 11)),
                    (none, .asg 7 (.v 57) .copy),
                    (none, .asg 8 (.v 58) .copy)])
                  (.skip [1, 2, 7, 8, 26, 27, 28])))))))
            (.region [] [] [1, 2, 7, 8, 26, 27, 28] false [
              (none, .bin 59 .add (.v 28) (.c (.int .i64 1))),
              (none, .mv 28 (.v 59))])))))))
      (.seq
       (.region [] [] [4, 5, 6] false [
         (none, .mv 60 (.v 7)),
         (none, .mv 61 (.v 8)),
         (none, .asg 4 (.v 60) .copy),
         (none, .asg 5 (.v 61) .copy),
         (none, .asg 6 (.c (.int .i64 0)) .copy)])
       (.ret [4, 5, 6]))))))⟩
def F607 : PFunc :=
 ⟨[false, false], [.tmp 4],
  (.seq
   (.region [] [] [0, 1] false [
     (none, .asg 4 (.c (.int .i64 0)) .copy)])
   (.seq
    (.seq
     (.region [] [] [0, 1, 7] false [
       (none, .mv 5 (.v 0)),
       (none, .mv 6 (.v 1)),
       (none, .bin 7 .lss (.v 5) (.v 6))])
     (.cond (.v 7)
      (.seq
       (.region [] [] [4] false [
         (none, .mv 8 (.v 0)),
         (none, .asg 4 (.v 8) .copy)])
       (.ret [4]))
      (.skip [1])))
    (.seq
     (.region [] [] [4] false [
       (none, .mv 9 (.v 1)),
       (none, .asg 4 (.v 9) .copy)])
     (.ret [4]))))⟩
def F611 : PFunc :=
 ⟨[false], [.tmp 2],
  (.seq
   (.region [] [] [0] false [
     (none, .asg 2 (.c (.int .i64 0)) .copy)])
   (.seq
    (.seq
     (.region [] [] [0, 4] false [
       (none, .mv 3 (.v 0)),
       (none, .bin 4 .lss (.v 3) (.c (.int .i64 0)))])
     (.cond (.v 4)
      (.seq
       (.region [] [] [2] false [
         (none, .mv 5 (.v 0)),
         (none, .un 6 .neg (.v 5)),
         (none, .asg 2 (.v 6) .copy)])
       (.ret [2]))
      (.skip [0])))
    (.seq
     (.region [] [] [2] false [
       (none, .mv 7 (.v 0)),
       (none, .asg 2 (.v 7) .copy)])
     (.ret [2]))))⟩
def F916 : PFunc :=
 ⟨[false, false], [.tmp 4, .tmp 5, .tmp 6],
  (.seq
   (.region [] [] [1, 2] false [
     (none, .box 2 (.v 0) .copy),
     (none, .asg 4 (.c (.int .i64 0)) .copy),
     (none, .asg 5 (.c (.int .i64 0)) .copy),
     (none, .asg 6 (.c (.int .i64 0)) .copy)])
   (.seq
    (.region [] [] [1, 2, 7] false [
      (none, .mv 16 (.v 1)),
      (none, .call (some 17) 653 false [((.v 2), false), ((.v 16), false)]),
      (none, .asg 7 (.v 17) .copy)])
    (.seq
     (.seq
      (.region [] [] [1, 2, 7, 19] false [
        (none, .mv 18 (.v 7)),
        (none, .bin 19 .neq (.v 18) (.c (.int .i64 0)))])
      (.cond (.v 19)
       (.seq
        (.region [] [] [4, 5, 6] false [
          (none, .mv 20 (.v 7)),
          (none, .asg 4 (.c (.int .i64 0)) .copy),
          (none, .asg 5 (.c (.int .i64 0)) .copy),
          (none, .asg 6 (.v 20) .copy)])
        (.ret [4, 5, 6]))
       (.skip [1, 2])))
     (.seq
      (.region [(21, 2, false)] [] [1, 2, 8] false [
        (none, .fadr 21 2 1 (.v 2)),
        (none, .load 22 false 1 (.v 21) none),
        (none, .call (some 23) 941 false [((.v 2), false), ((.v 22), false)]),
        (none, .asg 8 (.v 23) .move)])
      (.seq
       (.region [] [] [2, 8, 9] false [
         (none, .mv 24 (.v 1)),
         (none, .call (some 25) 941 false [((.v 2), false), ((.v 24), false)]),
         (none, .asg 9 (.v 25) .move)])
       (.seq
        (.region [] [] [2, 8, 9, 10] false [
          (none, .asg 10 (.c (.int .i64 0)) .copy)])
        (.seq
         (.region [] [] [2, 8, 9, 10, 11] false [
           (none, .asg 11 (.c (.int .i64 (-1))) .copy)])
         (.seq
          (.seq
           (.region [] [] [2, 8, 9, 10, 11, 12] false [
             (none, .asg 12 (.c (.int .i64 0)) .copy)])
           (.block 0
            (.loop
             (.seq
              (.seq
               (.region [(27, 8, false)] [] [2, 8, 9, 10, 11, 12, 29] false [
                 (none, .mv 26 (.v 12)),
                 (none, .mv 27 (.v 8)),
                 (none, .len 28 false (.v 27)),
                 (none, .bin 29 .lss (.v 26) (.v 28))])
               (.cond (.v 29)
                (.skip [2, 8, 9, 10, 11, 12])
                (.exit 0 [10, 11])))
              (.seq
               (.block 1
                (.seq
                 (.region [(32, 2, false)] [] [2, 8, 9, 10, 11, 12, 13] false [
                   (none, .fadr 32 0 1 (.v 2)),
                   (none, .load 33 false 1 (.v 32) none),
                   (none, .asg 13 (.v 33) .copy)])
                 (.seq
                  (.seq
                   (.region [] [] [2, 8, 9, 10, 11, 12, 13, 14] false [
                     (none, .asg 14 (.c (.int .i64 0)) .copy)])
                   (.block 2
                    (.loop
                     (.seq
                      (.seq
                       (.region [(35, 9, false)] [] [2, 8, 9, 10, 11, 12, 13, 14, 37] false [
                         (none, .mv 34 (.v 14)),
                         (none, .mv 35 (.v 9)),
                         (none, .len 36 false (.v 35)),
                         (none, .bin 37 .lss (.v 34) (.v 36))])
                       (.cond (.v 37)
                        (.skip [2, 8, 9, 10, 11, 12, 13, 14])
                        (.exit 2 [2, 8, 9, 10, 11, 12, 13])))
                      (.seq
                       (.block 3
                        (.seq
                         (.region [(46, 9, false), (44, 9, false), (42, 8, false), (40, 8, false)] [] [2, 8, 9, 10, 11, 12, 13, 14, 15] true [
                           (none, .mvr 40 8),
                           (none, .mv 41 (.v 12)),
                           (none, .iadr 42 1 (.v 40) (.v 41)),
                           (none, .load 43 false 1 (.v 42) none),
                           (none, .mvr 44 9),
                           (none, .mv 45 (.v 14)),
                           (none, .iadr 46 1 (.v 44) (.v 45)),
                           (none, .load 47 false 1 (.v 46) none),
                           (none, .bin 48 .sub (.v 43) (.v 47)),
                           (none, .call (some 49) 611 false [((.v 48), false)]),
                           (none, .asg 15 (.v 49) .copy)])
                         (.region [(52, 2, false)] [] [2, 8, 9, 10, 11, 12, 13, 14] false [
                           (none, .mv 50 (.v 13)),
                           (none, .mv 51 (.v 15)),
                           (none, .fadr 52 0 1 (.v 2)),
                           (none, .load 53 false 1 (.v 52) none),
                           (none, .mv 54 (.v 15)),
                           (none, .bin 55 .sub (.v 53) (.v 54)),
                           (none, .call (some 56) 607 false [((.v 51), false), ((.v 55), false)]),
                           (none, .call (some 57) 607 false [((.v 50), false), ((.v 56), false)]),
                           (none, .asg 13 (.v 57) .copy)])))
                       (.region [] [] [2, 8, 9, 10, 11, 12, 13, 14] false [
                         (none, .mv 38 (.v 14)),
                         (none, .bin 39 .add (.v 38) (.c (.int .i64 1))),
                         (none, .asg 14 (.v 39) .copy)]))))))
                  (.seq
                   (.region [] [] [2, 8, 9, 10, 11, 12, 13, 60] false [
                     (none, .mv 58 (.v 13)),
                     (none, .mv 59 (.v 11)),
                     (none, .bin 60 .gtr (.v 58) (.v 59))])
                   (.cond (.v 60)
                    (.seq
                     (.region [] [] [2, 8, 9, 10, 12, 13] false [
                       (none, .mv 61 (.v 12)),
                       (none, .asg 10 (.v 61) .copy)])
                     (.region [] [] [2, 8, 9, 10, 11, 12] false [
                       (none, .mv 62 (.v 13)),
                       (none, .asg 11 (.v 62) .copy)]))
                    (.skip [2, 8, 9, 10, 11, 12]))))))
               (.region [] [] [2, 8, 9, 10, 11, 12] false [
                 (none, .mv 30 (.v 12)),
                 (none, .bin 31 .add (.v 30) (.c (.int .i64 1))),
                 (none, .asg 12 (.v 31) .copy)]))))))
          (.seq
           (.region [] [] [4, 5, 6] false [
             (none, .mv 63 (.v 10)),
             (none, .mv 64 (.v 11)),
             (none, .asg 4 (.v 63) .copy),
             (none, .asg 5 (.v 64) .copy),
             (none, .asg 6 (.c (.int .i64 0)) .copy)])
           (.ret [4, 5, 6]))))))))))⟩
def F917 : PFunc :=
 ⟨[false], [.cell 2 true 3],
  (.seq
   (.region [] [] [0, 2] false [
     (none, .new 2 (.agg [(.int .i64 0), (.int .i64 0), (.int .i64 0)]))])
   (.seq
    (.region [(3, 0, false)] [] [2] false [
      (none, .mv 3 (.v 0)),
      (none, .call (some 4) 603 true [((.v 3), false)]),
      (none, .call (some 5) 648 true [((.v 4), true)]),
      (none, .store 3 (.v 2) (.v 5) .copy)])
    (.ret [2])))⟩
def F939 : PFunc :=
 ⟨[false], [.tmp 2],
  (.seq
   (.region [] [] [0] false [
     (none, .asg 2 (.c (.str [])) .copy)])
   (.seq
    (.region [] [] [2] false [
      (none, .mv 3 (.v 0)),
      (none, .call (some 4) 953 false [((.v 3), false), ((.c (.int .i64 10)), false)]),
      (none, .asg 2 (.v 4) .copy)])
    (.ret [2])))⟩
def F918 : PFunc :=
 ⟨[false], [.tmp 2],
  (.seq
   (.region [] [] [1] false [
     (none, .box 1 (.v 0) .copy),
     (none, .asg 2 (.c (.str [])) .copy)])
   (.seq
    (.seq
     (.region [] [] [1, 5] false [
       (none, .load 3 true 3 (.v 1) none),
       (none, .call (some 4) 212 false [((.v 3), false)]),
       (none, .un 5 .not (.v 4))])
     (.cond (.v 5)
      (.seq
       (.region [] [] [2] false [
         (none, .asg 2 (.c (.str [])) .copy)])
       (.ret [2]))
      (.skip [1])))
    (.seq
     (.region [(15, 1, false), (10, 1, false), (6, 1, false)] [] [2] true [
       (none, .fadr 6 0 1 (.v 1)),
       (none, .load 7 false 1 (.v 6) none),
       (none, .call (some 8) 939 false [((.v 7), false)]),
       (none, .bin 9 .add (.v 8) (.c (.str [120]))),
       (none, .fadr 10 1 1 (.v 1)),
       (none, .load 11 false 1 (.v 10) none),
       (none, .call (some 12) 939 false [((.v 11), false)]),
       (none, .bin 13 .add (.v 9) (.v 12)),
       (none, .bin 14 .add (.v 13) (.c (.str [47]))),
       (none, .fadr 15 2 1 (.v 1)),
       (none, .load 16 false 1 (.v 15) none),
       (none, .call (some 17) 939 false [((.v 16), false)]),
       (none, .bin 18 .add (.v 14) (.v 17)),
       (none, .asg 2 (.v 18) .copy)])
     (.ret [2]))))⟩
def F950 : PFunc :=
 ⟨[false, false], [.tmp 4, .tmp 5, .tmp 6],
  (.seq
   (.region [] [] [0, 1] false [
     (none, .asg 4 (.c (.str [])) .copy),
     (none, .asg 5 (.c (.str [])) .copy),
     (none, .asg 6 (.c (.bool false)) .copy)])
   (.seq
    (.seq
     (.region [] [] [0, 1, 7] false [
       (none, .mv 8 (.v 0)),
       (none, .mv 9 (.v 1)),
       (none, .call (some 10) 38 false [((.v 8), false), ((.v 9), false)]),
       (none, .asg 7 (.v 10) .copy)])
     (.seq
      (.region [] [] [0, 1, 7, 12] false [
        (none, .mv 11 (.v 7)),
        (none, .bin 12 .geq (.v 11) (.c (.int .i64 0)))])
      (.cond (.v 12)
       (.seq
        (.region [] [] [4, 5, 6] true [
          (none, .mv 13 (.v 0)),
          (none, .mv 14 (.v 7)),
          (none, .slc 15 true 0 (.v 13) none (some (.v 14)) .copy),
          (none, .mv 16 (.v 0)),
          (none, .mv 17 (.v 7)),
          (none, .mv 18 (.v 1)),
          (none, .len 19 true (.v 18)),
          (none, .bin 20 .add (.v 17) (.v 19)),
          (none, .slc 21 true 0 (.v 16) (some (.v 20)) none .copy),
          (none, .asg 4 (.v 15) .copy),
          (none, .asg 5 (.v 21) .copy),
          (none, .asg 6 (.c (.bool true)) .copy)])
        (.ret [4, 5, 6]))
       (.skip [0]))))
    (.seq
     (.region [] [] [4, 5, 6] false [
       (none, .mv 22 (.v 0)),
       (none, .asg 4 (.v 22) .copy),
       (none, .asg 5 (.c (.str [])) .copy),
       (none, .asg 6 (.c (.bool false)) .copy)])
     (.ret [4, 5, 6]))))⟩
def F937 : PFunc :=
 ⟨[false, false], [.tmp 4, .tmp 5, .tmp 6],
  (.seq
   (.region [] [] [0, 1] false [
     (none, .asg 4 (.c (.str [])) .copy),
     (none, .asg 5 (.c (.str [])) .copy),
     (none, .asg 6 (.c (.bool false)) .copy)])
   (.seq
    (.region [] [] [4, 5, 6] false [
      (none, .mv 7 (.v 0)),
      (none, .mv 8 (.v 1)),
      (none, .call (some 9) 950 false [((.v 7), false), ((.v 8), false)]),
      (none, .extp 10 (.v 9) 0),
      (none, .extp 11 (.v 9) 1),
      (none, .extp 12 (.v 9) 2),
      (none, .asg 4 (.v 10) .copy),
      (none, .asg 5 (.v 11) .copy),
      (none, .asg 6 (.v 12) .copy)])
    (.ret [4, 5, 6])))⟩
def F938 : PFunc :=
 ⟨[false], [.tmp 2, .tmp 3],
  (.seq
   (.region [] [] [0] false [
     (none, .asg 2 (.c (.int .i64 0)) .copy),
     (none, .asg 3 (.c (.bool false)) .copy)])
   (.seq
    (.seq
     (.region [] [] [0, 14] false [
       (none, .mv 6 (.v 0)),
       (none, .len 7 true (.v 6)),
       (none, .bin 8 .gtr (.v 7) (.c (.int .i64 19))),
       (none, .mv 9 (.v 8)),
       (some (9, false), .mv 10 (.v 0)),
       (some (9, false), .call (some 11) 951 false [((.v 10), false), ((.c (.str [45])), false)]),
       (some (9, false), .len 12 true (.v 11)),
       (some (9, false), .bin 13 .gtr (.v 12) (.c (.int .i64 18))),
       (none, .pick 14 (.v 9) (.c (.bool true)) (.v 13))])
     (.cond (.v 14)
      (.seq
       (.region [] [] [2, 3] false [
         (none, .asg 2 (.c (.int .i64 0)) .copy),
         (none, .asg 3 (.c (.bool false)) .copy)])
       (.ret [2, 3]))
      (.skip [0])))
    (.seq
     (.region [] [] [0, 4, 5] false [
       (none, .mv 16 (.v 0)),
       (none, .call (some 17) 952 false [((.v 16), false), ((.c (.int .i64 10)), false), ((.c (.int .i64 64)), false)]),
       (none, .asg 15 (.v 17) .move),
       (none, .extp 18 (.v 15) 0),
       (none, .extp 19 (.v 15) 1),
       (none, .asg 4 (.v 18) .copy),
       (none, .asg 5 (.v 19) .move)])
     (.seq
      (.seq
       (.region [(20, 5, false)] [] [4, 27] false [
         (none, .mv 20 (.v 5)),
         (none, .ern 21 true (.v 20)),
         (none, .mv 22 (.v 21)),
         (some (22, false), .mv 23 (.v 4)),
         (some (22, false), .call (some 24) 939 false [((.v 23), false)]),
         (some (22, false), .mv 25 (.v 0)),
         (some (22, false), .bin 26 .neq (.v 24) (.v 25)),
         (none, .pick 27 (.v 22) (.c (.bool true)) (.v 26))])
       (.cond (.v 27)
        (.seq
         (.region [] [] [2, 3] false [
           (none, .asg 2 (.c (.int .i64 0)) .copy),
           (none, .asg 3 (.c (.bool false)) .copy)])
         (.ret [2, 3]))
        (.skip [4])))
      (.seq
       (.region [] [] [2, 3] false [
         (none, .mv 28 (.v 4)),
         (none, .asg 2 (.v 28) .copy),
         (none, .asg 3 (.c (.bool true)) .copy)])
       (.ret [2, 3]))))))⟩
def F919 : PFunc :=
 ⟨[false], [.cell 2 true 3, .tmp 3],
  (.seq
   (.region [] [] [0, 2] false [
     (none, .new 2 (.agg [(.int .i64 0), (.int .i64 0), (.int .i64 0)])),
     (none, .asg 3 (.c (.bool false)) .copy)])
   (.seq
    (.region [] [] [0, 2, 4, 5] false [
      (none, .mv 18 (.v 0)),
      (none, .call (some 19) 937 false [((.v 18), false), ((.c (.str [120])), false)]),
      (none, .asg 17 (.v 19) .copy),
      (none, .extp 20 (.v 17) 0),
      (none, .extp 21 (.v 17) 1),
      (none, .extp 22 (.v 17) 2),
      (none, .asg 4 (.v 20) .copy),
      (none, .asg 5 (.v 21) .copy),
      (none, .asg 6 (.v 22) .copy)])
    (.seq
     (.region [] [] [0, 2, 4, 7, 8] false [
       (none, .mv 24 (.v 5)),
       (none, .call (some 25) 937 false [((.v 24), false), ((.c (.str [47])), false)]),
       (none, .asg 23 (.v 25) .copy),
       (none, .extp 26 (.v 23) 0),
       (none, .extp 27 (.v 23) 1),
       (none, .extp 28 (.v 23) 2),
       (none, .asg 7 (.v 26) .copy),
       (none, .asg 8 (.v 27) .copy),
       (none, .asg 9 (.v 28) .copy)])
     (.seq
      (.region [] [] [0, 2, 7, 8, 10, 11] false [
        (none, .mv 30 (.v 4)),
        (none, .call (some 31) 938 false [((.v 30), false)]),
        (none, .asg 29 (.v 31) .copy),
        (none, .extp 32 (.v 29) 0),
        (none, .extp 33 (.v 29) 1),
        (none, .asg 10 (.v 32) .copy),
        (none, .asg 11 (.v 33) .copy)])
      (.seq
       (.region [] [] [0, 2, 8, 10, 11, 12, 13] false [
         (none, .mv 35 (.v 7)),
         (none, .call (some 36) 938 false [((.v 35), false)]),
         (none, .asg 34 (.v 36) .copy),
         (none, .extp 37 (.v 34) 0),
         (none, .extp 38 (.v 34) 1),
         (none, .asg 12 (.v 37) .copy),
         (none, .asg 13 (.v 38) .copy)])
       (.seq
        (.region [] [] [0, 2, 10, 11, 12, 13, 14, 15] false [
          (none, .mv 40 (.v 8)),
          (none, .call (some 41) 938 false [((.v 40), false)]),
          (none, .asg 39 (.v 41) .copy),
          (none, .extp 42 (.v 39) 0),
          (none, .extp 43 (.v 39) 1),
          (none, .asg 14 (.v 42) .copy),
          (none, .asg 15 (.v 43) .copy)])
        (.seq
         (.region [] [] [0, 2, 11, 13, 15, 16] false [
           (none, .mv 44 (.v 10)),
           (none, .mv 45 (.v 12)),
           (none, .mv 46 (.v 14)),
           (none, .build 47 [(.int .i64 0), (.int .i64 0), (.int .i64 0)] [(0, 1, (.v 44), .copy), (1, 1, (.v 45), .copy), (2, 1, (.v 46), .copy)]),
           (none, .new 16 (.agg [(.int .i64 0), (.int .i64 0), (.int .i64 0)])),
           (none, .store 3 (.v 16) (.v 47) .copy)])
         (.seq
          (.seq
           (.region [] [] [2, 16, 63] false [
             (none, .mv 48 (.v 11)),
             (none, .un 49 .not (.v 48)),
             (none, .mv 50 (.v 49)),
             (some (50, false), .mv 51 (.v 13)),
             (some (50, false), .un 52 .not (.v 51)),
             (none, .pick 53 (.v 50) (.c (.bool true)) (.v 52)),
             (none, .mv 54 (.v 53)),
             (some (54, false), .mv 55 (.v 15)),
             (some (54, false), .un 56 .not (.v 55)),
             (none, .pick 57 (.v 54) (.c (.bool true)) (.v 56)),
             (none, .mv 58 (.v 57)),
             (some (58, false), .load 59 true 3 (.v 16) none),
             (some (58, false), .call (some 60) 918 false [((.v 59), false)]),
             (some (58, false), .mv 61 (.v 0)),
             (some (58, false), .bin 62 .neq (.v 60) (.v 61)),
             (none, .pick 63 (.v 58) (.c (.bool true)) (.v 62))])
           (.cond (.v 63)
            (.seq
             (.region [] [] [2, 3] false [
               (none, .build 64 [(.int .i64 0), (.int .i64 0), (.int .i64 0)] []),
               (none, .store 3 (.v 2) (.v 64) .copy),
               (none, .asg 3 (.c (.bool false)) .copy)])
             (.ret [2, 3]))
            (.skip [2, 16])))
          (.seq
           (.region [] [] [2, 3] false [
             (none, .load 65 true 3 (.v 16) none),
             (none, .store 3 (.v 2) (.v 65) .copy),
             (none, .asg 3 (.c (.bool true)) .copy)])
           (.ret [2, 3]))))))))))⟩
def F949 : PFunc :=
 ⟨[false], [.tmp 2],
  (.seq
   (.region [] [] [0] false [
     (none, .asg 2 (.c (.str [])) .copy)])
   (.seq
    (.region [] [] [0, 3] false [
      (none, .mksl 6 1 (.int .u8 0) 0 []),
      (none, .asg 3 (.v 6) .move)])
    (.seq
     (.seq
      (.region [] [] [0, 3, 4] false [
        (none, .mv 7 (.v 0)),
        (none, .asg 4 (.v 7) .copy)])
      (.block 0
       (.loop
        (.seq
         (.seq
          (.region [] [] [0, 3, 4, 9] false [
            (none, .mv 8 (.v 4)),
            (none, .bin 9 .neq (.v 8) (.c (.int .i64 0)))])
          (.cond (.v 9)
           (.skip [0, 3, 4])
           (.exit 0 [0, 3])))
         (.seq
          (.block 1
           (.seq
            (.region [] [] [0, 3, 4, 5] false [
              (none, .mv 12 (.v 4)),
              (none, .bin 13 .rem (.v 12) (.c (.int .i64 10))),
              (none, .asg 5 (.v 13) .copy)])
            (.seq
             (.seq
              (.region [] [] [0, 3, 4, 5, 15] false [
                (none, .mv 14 (.v 5)),
                (none, .bin 15 .lss (.v 14) (.c (.int .i64 0)))])
              (.cond (.v 15)
               (.region [] [] [0, 3, 4, 5] false [
                 (none, .mv 16 (.v 5)),
                 (none, .un 17 .neg (.v 16)),
                 (none, .asg 5 (.v 17) .copy)])
               (.skip [0, 3, 4, 5])))
             (.region [(22, 3, false)] [] [0, 3, 4] false [
               (none, .mv 18 (.v 5)),
               (none, .bin 19 .add (.c (.int .i64 48)) (.v 18)),
               (none, .conv 20 .u8 (.v 19)),
               (none, .mksl 21 1 (.int .u8 0) 1 [(0, (.v 20), .copy)]),
               (none, .mv 22 (.v 3)),
               (none, .app 23 1 (.v 21) (.v 22) .freeze),
               (none, .asg 3 (.v 23) .move)]))))
          (.region [] [] [0, 3, 4] false [
            (none, .mv 10 (.v 4)),
            (none, .bin 11 .quo (.v 10) (.c (.int .i64 10))),
            (none, .asg 4 (.v 11) .copy)]))))))
     (.seq
      (.seq
       (.region [(24, 3, false)] [] [0, 3, 26] false [
         (none, .mv 24 (.v 3)),
         (none, .len 25 false (.v 24)),
         (none, .bin 26 .eql (.v 25) (.c (.int .i64 0)))])
       (.cond (.v 26)
        (.seq
         (.region [] [] [2] false [
           (none, .asg 2 (.c (.str [48])) .copy)])
         (.ret [2]))
        (.skip [0, 3])))
      (.seq
       (.seq
        (.region [] [] [3, 28] false [
          (none, .mv 27 (.v 0)),
          (none, .bin 28 .lss (.v 27) (.c (.int .i64 0)))])
        (.cond (.v 28)
         (.seq
          (.region [(29, 3, false)] [] [2] false [
            (none, .mv 29 (.v 3)),
            (none, .b2s 30 (.v 29)),
            (none, .bin 31 .add (.c (.str [45])) (.v 30)),
            (none, .asg 2 (.v 31) .copy)])
          (.ret [2]))
         (.skip [3])))
       (.seq
        (.region [(32, 3, false)] [] [2] false [
          (none, .mv 32 (.v 3)),
          (none, .b2s 33 (.v 32)),
          (none, .asg 2 (.v 33) .copy)])
        (.ret [2])))))))⟩
def F942 : PFunc :=
 ⟨[false], [.tmp 2],
  (.seq
   (.region [] [] [0] false [
     (none, .asg 2 (.c (.str [])) .copy)])
   (.seq
    (.region [(18, 0, false), (17, 0, false), (16, 0, false), (11, 0, false), (10, 0, false), (9, 0, false), (5, 0, false), (4, 0, false), (3, 0, false)] [] [2] true [
      (none, .mv 3 (.v 0)),
      (none, .nchk 4 (.v 3)),
      (none, .fadr 5 0 1 (.v 4)),
      (none, .load 6 false 1 (.v 5) none),
      (none, .call (some 7) 949 false [((.v 6), false)]),
      (none, .bin 8 .add (.v 7) (.c (.str [120]))),
      (none, .mv 9 (.v 0)),
      (none, .nchk 10 (.v 9)),
      (none, .fadr 11 1 1 (.v 10)),
      (none, .load 12 false 1 (.v 11) none),
      (none, .call (some 13) 949 false [((.v 12), false)]),
      (none, .bin 14 .add (.v 8) (.v 13)),
      (none, .bin 15 .add (.v 14) (.c (.str [47]))),
      (none, .mv 16 (.v 0)),
      (none, .nchk 17 (.v 16)),
      (none, .fadr 18 2 1 (.v 17)),
      (none, .load 19 false 1 (.v 18) none),
      (none, .call (some 20) 949 false [((.v 19), false)]),
      (none, .bin 21 .add (.v 15) (.v 20)),
      (none, .asg 2 (.v 21) .copy)])
    (.ret [2])))⟩
def F8 : PFunc :=
 ⟨[true, false], [.tmp 4],
  (.seq
   (.region [] [] [0, 1] false [
     (none, .asg 4 (.c (.str [])) .copy)])
   (.seq
    (.region [(10, 1, false), (7, 1, false), (6, 0, false), (5, 1, false)] [] [0, 4] false [
      (none, .mv 5 (.v 1)),
      (none, .mv 6 (.v 0)),
      (none, .mv 7 (.v 1)),
      (none, .len 8 false (.v 7)),
      (none, .call (some 9) 7 true [((.v 6), true), ((.v 8), false)]),
      (none, .iadr 10 1 (.v 5) (.v 9)),
      (none, .load 11 false 1 (.v 10) none),
      (none, .asg 4 (.v 11) .copy)])
    (.ret [0, 4])))⟩
def F943 : PFunc :=
 ⟨[true, false], [.tmp 4],
  (.seq
   (.region [] [] [0, 1] false [
     (none, .asg 4 (.c (.str [])) .copy)])
   (.seq
    (.seq
     (.region [(7, 0, false)] [] [0, 1, 8] false [
       (none, .mv 7 (.v 0)),
       (none, .call (some 8) 7 true [((.v 7), true), ((.c (.int .i64 5)), false)])])
     (.block 0
      (.seq
       (.region [] [] [0, 1, 8, 9] false [
         (none, .bin 10 .eql (.v 8) (.c (.int .i64 0))),
         (none, .asg 9 (.v 10) .copy)])
       (.cond (.v 9)
        (.seq
         (.region [(11, 0, false)] [] [0, 1, 5] false [
           (none, .mv 11 (.v 0)),
           (none, .mv 12 (.v 1)),
           (none, .len 13 true (.v 12)),
           (none, .bin 14 .add (.v 13) (.c (.int .i64 1))),
           (none, .call (some 15) 7 true [((.v 11), true), ((.v 14), false)]),
           (none, .asg 5 (.v 15) .copy)])
         (.region [(19, 0, false)] [] [0, 1] true [
           (none, .mv 16 (.v 1)),
           (none, .mv 17 (.v 5)),
           (none, .slc 18 true 0 (.v 16) none (some (.v 17)) .copy),
           (none, .mvr 19 0),
           (none, .mksl 20 1 (.str []) 7 [(0, (.c (.str [32])), .copy), (1, (.c (.str [48])), .copy), (2, (.c (.str [45])), .copy), (3, (.c (.str [120])), .copy), (4, (.c (.str [49])), .copy), (5, (.c (.str [57])), .copy), (6, (.c (.str [46])), .copy)]),
           (none, .call (some 21) 8 true [((.v 19), true), ((.v 20), false)]),
           (none, .bin 22 .add (.v 18) (.v 21)),
           (none, .mv 23 (.v 1)),
           (none, .mv 24 (.v 5)),
           (none, .slc 25 true 0 (.v 23) (some (.v 24)) none .copy),
           (none, .bin 26 .add (.v 22) (.v 25)),
           (none, .asg 1 (.v 26) .copy)]))
        (.seq
         (.region [] [] [0, 1, 27] false [
           (none, .bin 28 .eql (.v 8) (.c (.int .i64 1))),
           (none, .asg 27 (.v 28) .copy)])
         (.cond (.v 27)
          (.seq
           (.region [] [] [0, 1, 30] false [
             (none, .mv 29 (.v 1)),
             (none, .bin 30 .neq (.v 29) (.c (.str [])))])
           (.cond (.v 30)
            (.seq
             (.region [(31, 0, false)] [] [0, 1, 6] false [
               (none, .mv 31 (.v 0)),
               (none, .mv 32 (.v 1)),
               (none, .len 33 true (.v 32)),
               (none, .call (some 34) 7 true [((.v 31), true), ((.v 33), false)]),
               (none, .asg 6 (.v 34) .copy)])
             (.region [] [] [0, 1] true [
               (none, .mv 35 (.v 1)),
               (none, .mv 36 (.v 6)),
               (none, .slc 37 true 0 (.v 35) none (some (.v 36)) .copy),
               (none, .mv 38 (.v 1)),
               (none, .mv 39 (.v 6)),
               (none, .bin 40 .add (.v 39) (.c (.int .i64 1))),
               (none, .slc 41 true 0 (.v 38) (some (.v 40)) none .copy),
               (none, .bin 42 .add (.v 37) (.v 41)),
               (none, .asg 1 (.v 42) .copy)]))
            (.skip [0, 1])))
          (.skip [0, 1])))))))
    (.seq
     (.region [] [] [0, 4] false [
       (none, .mv 43 (.v 1)),
       (none, .asg 4 (.v 43) .copy)])
     (.ret [0, 4]))))⟩
def F920 : PFunc :=
 ⟨[false], [.tmp 2],
  (.seq
   (.region [] [] [0] false [
     (none, .asg 2 (.c (.str [])) .copy)])
   (.seq
    (.region [(6, 0, false)] [] [3] false [
      (none, .mv 6 (.v 0)),
      (none, .call (some 7) 603 true [((.v 6), false)]),
      (none, .asg 3 (.v 7) .move)])
    (.seq
     (.region [(8, 3, false)] [] [3, 4] false [
       (none, .mv 8 (.v 3)),
       (none, .call (some 9) 654 true [((.v 8), true)]),
       (none, .new 4 (.agg [(.int .i64 0), (.int .i64 0), (.int .i64 0)])),
       (none, .store 3 (.v 4) (.v 9) .copy)])
     (.seq
      (.region [] [] [3, 5] false [
        (none, .call (some 10) 942 false [((.v 4), false)]),
        (none, .asg 5 (.v 10) .copy)])
      (.seq
       (.seq
        (.region [(11, 3, false)] [] [3, 5, 12] false [
          (none, .mv 11 (.v 3)),
          (none, .call (some 12) 6 true [((.v 11), true), ((.c (.int .i64 3)), false)])])
        (.cond (.v 12)
         (.seq
          (.region [(13, 3, false)] [] [2] false [
            (none, .mv 13 (.v 3)),
            (none, .mv 14 (.v 5)),
            (none, .call (some 15) 943 true [((.v 13), true), ((.v 14), false)]),
            (none, .asg 2 (.v 15) .copy)])
          (.ret [2]))
         (.skip [5])))
       (.seq
        (.region [] [] [2] false [
          (none, .mv 16 (.v 5)),
          (none, .asg 2 (.v 16) .copy)])
        (.ret [2])))))))⟩
def F944 : PFunc :=
 ⟨[false, false], [.tmp 4],
  (.seq
   (.region [] [] [0, 1] false [
     (none, .asg 4 (.c (.sl true 1 [])) .copy)])
   (.seq
    (.region [] [] [0, 1, 5] false [
      (none, .mksl 8 1 (.str []) 0 []),
      (none, .asg 5 (.v 8) .move)])
    (.seq
     (.region [] [] [0, 1, 5, 6] false [
       (none, .asg 6 (.c (.int .i64 0)) .copy)])
     (.seq
      (.seq
       (.region [] [] [0, 1, 5, 6, 7] false [
         (none, .asg 7 (.c (.int .i64 0)) .copy)])
       (.block 0
        (.loop
         (.seq
          (.seq
           (.region [] [] [0, 1, 5, 6, 7, 12] false [
             (none, .mv 9 (.v 7)),
             (none, .mv 10 (.v 0)),
             (none, .len 11 true (.v 10)),
             (none, .bin 12 .lss (.v 9) (.v 11))])
           (.cond (.v 12)
            (.skip [0, 1, 5, 6, 7])
            (.exit 0 [0, 5, 6])))
          (.seq
           (.block 1
            (.seq
             (.region [] [] [0, 1, 5, 6, 7, 19] false [
               (none, .mv 15 (.v 0)),
               (none, .mv 16 (.v 7)),
               (none, .idx 17 (.v 15) (.v 16)),
               (none, .mv 18 (.v 1)),
               (none, .bin 19 .eql (.v 17) (.v 18))])
             (.cond (.v 19)
              (.seq
               (.region [(20, 5, false)] [] [0, 1, 5, 7] false [
                 (none, .mv 20 (.v 5)),
                 (none, .mv 21 (.v 0)),
                 (none, .mv 22 (.v 6)),
                 (none, .mv 23 (.v 7)),
                 (none, .slc 24 true 0 (.v 21) (some (.v 22)) (some (.v 23)) .copy),
                 (none, .mksl 25 1 (.str []) 1 [(0, (.v 24), .copy)]),
                 (none, .app 26 1 (.v 20) (.v 25) .move),
                 (none, .asg 5 (.v 26) .move)])
               (.region [] [] [0, 1, 5, 6, 7] false [
                 (none, .mv 27 (.v 7)),
                 (none, .bin 28 .add (.v 27) (.c (.int .i64 1))),
                 (none, .asg 6 (.v 28) .copy)]))
              (.skip [0, 1, 5, 6, 7]))))
           (.region [] [] [0, 1, 5, 6, 7] false [
             (none, .mv 13 (.v 7)),
             (none, .bin 14 .add (.v 13) (.c (.int .i64 1))),
             (none, .asg 7 (.v 14) .copy)]))))))
      (.seq
       (.region [(29, 5, false)] [] [4] false [
         (none, .mv 29 (.v 5)),
         (none, .mv 30 (.v 0)),
         (none, .mv 31 (.v 6)),
         (none, .slc 32 true 0 (.v 30) (some (.v 31)) none .copy),
         (none, .mksl 33 1 (.str []) 1 [(0, (.v 32), .copy)]),
         (none, .app 34 1 (.v 29) (.v 33) .move),
         (none, .asg 4 (.v 34) .move)])
       (.ret [4]))))))⟩
def F612 : PFunc :=
 ⟨[false], [.tmp 2],
  (.seq
   (.region [] [] [0] false [
     (none, .asg 2 (.c (.bool false)) .copy)])
   (.seq
    (.region [] [] [2] false [
      (none, .mv 3 (.v 0)),
      (none, .bin 4 .geq (.v 3) (.c (.int .u8 48))),
      (none, .mv 5 (.v 4)),
      (some (5, true), .mv 6 (.v 0)),
      (some (5, true), .bin 7 .leq (.v 6) (.c (.int .u8 57))),
      (none, .pick 8 (.v 5) (.v 7) (.c (.bool false))),
      (none, .asg 2 (.v 8) .copy)])
    (.ret [2])))⟩
def F945 : PFunc :=
 ⟨[false], [.tmp 2, .tmp 3],
  (.seq
   (.region [] [] [0] false [
     (none, .asg 2 (.c (.int .i64 0)) .copy),
     (none, .asg 3 (.c (.bool false)) .copy)])
   (.seq
    (.region [] [] [0, 4] false [
      (none, .mv 7 (.v 0)),
      (none, .asg 4 (.v 7) .copy)])
    (.seq
     (.seq
      (.region [] [] [0, 4, 14] false [
        (none, .mv 8 (.v 4)),
        (none, .bin 9 .neq (.v 8) (.c (.str []))),
        (none, .mv 10 (.v 9)),
        (some (10, true), .mv 11 (.v 4)),
        (some (10, true), .idx 12 (.v 11) (.c (.int .i64 0))),
        (some (10, true), .bin 13 .eql (.v 12) (.c (.int .u8 45))),
        (none, .pick 14 (.v 10) (.v 13) (.c (.bool false)))])
      (.cond (.v 14)
       (.region [] [] [0, 4] false [
         (none, .mv 15 (.v 4)),
         (none, .slc 16 true 0 (.v 15) (some (.c (.int .i64 1))) none .copy),
         (none, .asg 4 (.v 16) .copy)])
       (.skip [0, 4])))
     (.seq
      (.seq
       (.region [] [] [0, 4, 24] false [
         (none, .mv 17 (.v 4)),
         (none, .len 18 true (.v 17)),
         (none, .bin 19 .lss (.v 18) (.c (.int .i64 1))),
         (none, .mv 20 (.v 19)),
         (some (20, false), .mv 21 (.v 4)),
         (some (20, false), .len 22 true (.v 21)),
         (some (20, false), .bin 23 .gtr (.v 22) (.c (.int .i64 18))),
         (none, .pick 24 (.v 20) (.c (.bool true)) (.v 23))])
       (.cond (.v 24)
        (.seq
         (.region [] [] [2, 3] false [
           (none, .asg 2 (.c (.int .i64 0)) .copy),
           (none, .asg 3 (.c (.bool false)) .copy)])
         (.ret [2, 3]))
        (.skip [0, 4])))
      (.seq
       (.region [] [] [0, 4, 5] false [
         (none, .asg 5 (.c (.int .i64 0)) .copy)])
       (.seq
        (.seq
         (.region [] [] [0, 4, 5, 6] false [
           (none, .asg 6 (.c (.int .i64 0)) .copy)])
         (.block 0
          (.loop
           (.seq
            (.seq
             (.region [] [] [0, 4, 5, 6, 28] false [
               (none, .mv 25 (.v 6)),
               (none, .mv 26 (.v 4)),
               (none, .len 27 true (.v 26)),
               (none, .bin 28 .lss (.v 25) (.v 27))])
             (.cond (.v 28)
              (.skip [0, 4, 5, 6])
              (.exit 0 [0, 4, 5])))
            (.seq
             (.block 1
              (.seq
               (.seq
                (.region [] [] [0, 4, 5, 6, 35] false [
                  (none, .mv 31 (.v 4)),
                  (none, .mv 32 (.v 6)),
                  (none, .idx 33 (.v 31) (.v 32)),
                  (none, .call (some 34) 612 false [((.v 33), false)]),
                  (none, .un 35 .not (.v 34))])
                (.cond (.v 35)
                 (.seq
                  (.region [] [] [2, 3] false [
                    (none, .asg 2 (.c (.int .i64 0)) .copy),
                    (none, .asg 3 (.c (.bool false)) .copy)])
                  (.ret [2, 3]))
                 (.skip [0, 4, 5, 6])))
               (.region [] [] [0, 4, 5, 6] false [
                 (none, .mv 36 (.v 5)),
                 (none, .bin 37 .mul (.c (.int .i64 10)) (.v 36)),
                 (none, .mv 38 (.v 4)),
                 (none, .mv 39 (.v 6)),
                 (none, .idx 40 (.v 38) (.v 39)),
                 (none, .bin 41 .sub (.v 40) (.c (.int .u8 48))),
                 (none, .conv 42 .i64 (.v 41)),
                 (none, .bin 43 .add (.v 37) (.v 42)),
                 (none, .asg 5 (.v 43) .copy)])))
             (.region [] [] [0, 4, 5, 6] false [
               (none, .mv 29 (.v 6)),
               (none, .bin 30 .add (.v 29) (.c (.int .i64 1))),
               (none, .asg 6 (.v 30) .copy)]))))))
        (.seq
         (.seq
          (.region [] [] [0, 5, 48] false [
            (none, .mv 44 (.v 4)),
            (none, .len 45 true (.v 44)),
            (none, .mv 46 (.v 0)),
            (none, .len 47 true (.v 46)),
            (none, .bin 48 .lss (.v 45) (.v 47))])
          (.cond (.v 48)
           (.region [] [] [0, 5] false [
             (none, .mv 49 (.v 5)),
             (none, .un 50 .neg (.v 49)),
             (none, .asg 5 (.v 50) .copy)])
           (.skip [0, 5])))
         (.seq
          (.seq
           (.region [] [] [5, 54] false [
             (none, .mv 51 (.v 5)),
             (none, .call (some 52) 949 false [((.v 51), false)]),
             (none, .mv 53 (.v 0)),
             (none, .bin 54 .neq (.v 52) (.v 53))])
           (.cond (.v 54)
            (.seq
             (.region [] [] [2, 3] false [
               (none, .asg 2 (.c (.int .i64 0)) .copy),
               (none, .asg 3 (.c (.bool false)) .copy)])
             (.ret [2, 3]))
            (.skip [5])))
          (.seq
           (.region [] [] [2, 3] false [
             (none, .mv 55 (.v 5)),
             (none, .asg 2 (.v 55) .copy),
             (none, .asg 3 (.c (.bool true)) .copy)])
           (.ret [2, 3]))))))))))⟩
def F921 : PFunc :=
 ⟨[false], [.cell 2 true 3, .tmp 3],
  (.seq
   (.region [] [] [0, 2] false [
     (none, .new 2 (.agg [(.int .i64 0), (.int .i64 0), (.int .i64 0)])),
     (none, .asg 3 (.c (.bool false)) .copy)])
   (.seq
    (.region [] [] [2, 4] false [
      (none, .mv 13 (.v 0)),
      (none, .call (some 14) 944 false [((.v 13), false), ((.c (.int .u8 47)), false)]),
      (none, .asg 4 (.v 14) .move)])
    (.seq
     (.seq
      (.region [(15, 4, false)] [] [2, 4, 17] false [
        (none, .mv 15 (.v 4)),
        (none, .len 16 false (.v 15)),
        (none, .bin 17 .neq (.v 16) (.c (.int .i64 2)))])
      (.cond (.v 17)
       (.seq
        (.region [] [] [2, 3] false [
          (none, .build 18 [(.int .i64 0), (.int .i64 0), (.int .i64 0)] []),
          (none, .store 3 (.v 2) (.v 18) .copy),
          (none, .asg 3 (.c (.bool false)) .copy)])
        (.ret [2, 3]))
       (.skip [2, 4])))
     (.seq
      (.region [(20, 4, false), (19, 4, false)] [] [2, 4, 5] false [
        (none, .mv 19 (.v 4)),
        (none, .iadr 20 1 (.v 19) (.c (.int .i64 0))),
        (none, .load 21 false 1 (.v 20) none),
        (none, .call (some 22) 944 false [((.v 21), false), ((.c (.int .u8 120)), false)]),
        (none, .asg 5 (.v 22) .move)])
      (.seq
       (.seq
        (.region [(23, 5, false)] [] [2, 4, 5, 25] false [
          (none, .mv 23 (.v 5)),
          (none, .len 24 false (.v 23)),
          (none, .bin 25 .neq (.v 24) (.c (.int .i64 2)))])
        (.cond (.v 25)
         (.seq
          (.region [] [] [2, 3] false [
            (none, .build 26 [(.int .i64 0), (.int .i64 0), (.int .i64 0)] []),
            (none, .store 3 (.v 2) (.v 26) .copy),
            (none, .asg 3 (.c (.bool false)) .copy)])
          (.ret [2, 3]))
         (.skip [2, 4, 5])))
       (.seq
        (.region [(29, 5, false), (28, 5, false)] [] [2, 4, 5, 6, 7] false [
          (none, .mv 28 (.v 5)),
          (none, .iadr 29 1 (.v 28) (.c (.int .i64 0))),
          (none, .load 30 false 1 (.v 29) none),
          (none, .call (some 31) 945 false [((.v 30), false)]),
          (none, .asg 27 (.v 31) .copy),
          (none, .extp 32 (.v 27) 0),
          (none, .extp 33 (.v 27) 1),
          (none, .asg 6 (.v 32) .copy),
          (none, .asg 7 (.v 33) .copy)])
        (.seq
         (.region [(36, 5, false), (35, 5, false)] [] [2, 4, 6, 7, 8, 9] false [
           (none, .mv 35 (.v 5)),
           (none, .iadr 36 1 (.v 35) (.c (.int .i64 1))),
           (none, .load 37 false 1 (.v 36) none),
           (none, .call (some 38) 945 false [((.v 37), false)]),
           (none, .asg 34 (.v 38) .copy),
           (none, .extp 39 (.v 34) 0),
           (none, .extp 40 (.v 34) 1),
           (none, .asg 8 (.v 39) .copy),
           (none, .asg 9 (.v 40) .copy)])
         (.seq
          (.region [(43, 4, false), (42, 4, false)] [] [2, 6, 7, 8, 9, 10, 11] false [
            (none, .mv 42 (.v 4)),
            (none, .iadr 43 1 (.v 42) (.c (.int .i64 1))),
            (none, .load 44 false 1 (.v 43) none),
            (none, .call (some 45) 945 false [((.v 44), false)]),
            (none, .asg 41 (.v 45) .copy),
            (none, .extp 46 (.v 41) 0),
            (none, .extp 47 (.v 41) 1),
            (none, .asg 10 (.v 46) .copy),
            (none, .asg 11 (.v 47) .copy)])
          (.seq
           (.region [] [] [2, 7, 9, 11, 12] false [
             (none, .mv 48 (.v 6)),
             (none, .mv 49 (.v 8)),
             (none, .mv 50 (.v 10)),
             (none, .build 51 [(.int .i64 0), (.int .i64 0), (.int .i64 0)] [(0, 1, (.v 48), .copy), (1, 1, (.v 49), .copy), (2, 1, (.v 50), .copy)]),
             (none, .new 12 (.agg [(.int .i64 0), (.int .i64 0), (.int .i64 0)])),
             (none, .store 3 (.v 12) (.v 51) .copy)])
           (.seq
            (.seq
             (.region [] [] [2, 12, 65] false [
               (none, .mv 52 (.v 7)),
               (none, .un 53 .not (.v 52)),
               (none, .mv 54 (.v 53)),
               (some (54, false), .mv 55 (.v 9)),
               (some (54, false), .un 56 .not (.v 55)),
               (none, .pick 57 (.v 54) (.c (.bool true)) (.v 56)),
               (none, .mv 58 (.v 57)),
               (some (58, false), .mv 59 (.v 11)),
               (some (58, false), .un 60 .not (.v 59)),
               (none, .pick 61 (.v 58) (.c (.bool true)) (.v 60)),
               (none, .mv 62 (.v 61)),
               (some (62, false), .call (some 63) 655 false [((.v 12), false)]),
               (some (62, false), .un 64 .not (.v 63)),
               (none, .pick 65 (.v 62) (.c (.bool true)) (.v 64))])
             (.cond (.v 65)
              (.seq
               (.region [] [] [2, 3] false [
                 (none, .build 66 [(.int .i64 0), (.int .i64 0), (.int .i64 0)] []),
                 (none, .store 3 (.v 2) (.v 66) .copy),
                 (none, .asg 3 (.c (.bool false)) .copy)])
               (.ret [2, 3]))
              (.skip [2, 12])))
            (.seq
             (.region [] [] [2, 3] false [
               (none, .load 67 true 3 (.v 12) none),
               (none, .store 3 (.v 2) (.v 67) .copy),
               (none, .asg 3 (.c (.bool true)) .copy)])
             (.ret [2, 3]))))))))))))⟩
def F922 : PFunc :=
 ⟨[false], [.tmp 2],
  (.seq
   (.region [] [] [1] false [
     (none, .box 1 (.v 0) .copy),
     (none, .asg 2 (.c (.str [])) .copy)])
   (.seq
    (.seq
     (.region [] [] [1, 4] false [
       (none, .call (some 3) 655 false [((.v 1), false)]),
       (none, .un 4 .not (.v 3))])
     (.cond (.v 4)
      (.seq
       (.region [] [] [2] false [
         (none, .asg 2 (.c (.str [])) .copy)])
       (.ret [2]))
      (.skip [1])))
    (.seq
     (.region [] [] [2] false [
       (none, .call (some 5) 942 false [((.v 1), false)]),
       (none, .asg 2 (.v 5) .copy)])
     (.ret [2]))))⟩
def F923 : PFunc :=
 ⟨[false], [.tmp 2],
  (.seq
   (.region [] [] [1] false [
     (none, .box 1 (.v 0) .copy),
     (none, .asg 2 (.c (.bool false)) .copy)])
   (.seq
    (.region [] [] [2] false [
      (none, .call (some 3) 655 false [((.v 1), false)]),
      (none, .asg 2 (.v 3) .copy)])
    (.ret [2])))⟩
def F924 : PFunc :=
 ⟨[false], [.tmp 2],
  (.seq
   (.region [] [] [0] false [
     (none, .asg 2 (.c (.bool false)) .copy)])
   (.seq
    (.seq
     (.region [] [] [0, 3] false [
       (none, .asg 3 (.c (.int .i64 1)) .copy)])
     (.block 0
      (.loop
       (.seq
        (.seq
         (.region [(5, 0, false)] [] [0, 3, 7] false [
           (none, .mv 4 (.v 3)),
           (none, .mv 5 (.v 0)),
           (none, .len 6 false (.v 5)),
           (none, .bin 7 .lss (.v 4) (.v 6))])
         (.cond (.v 7)
          (.skip [0, 3])
          (.exit 0 [])))
        (.seq
         (.block 1
          (.seq
           (.region [(17, 0, false), (15, 0, false), (13, 0, false), (10, 0, false)] [] [0, 3, 19] true [
             (none, .mv 10 (.v 0)),
             (none, .mv 11 (.v 3)),
             (none, .bin 12 .sub (.v 11) (.c (.int .i64 1))),
             (none, .iadr 13 1 (.v 10) (.v 12)),
             (none, .load 14 false 1 (.v 13) none),
             (none, .mv 15 (.v 0)),
             (none, .mv 16 (.v 3)),
             (none, .iadr 17 1 (.v 15) (.v 16)),
             (none, .load 18 false 1 (.v 17) none),
             (none, .bin 19 .geq (.v 14) (.v 18))])
           (.cond (.v 19)
            (.seq
             (.region [] [] [2] false [
               (none, .asg 2 (.c (.bool false)) .copy)])
             (.ret [2]))
            (.skip [0, 3]))))
         (.region [] [] [0, 3] false [
           (none, .mv 8 (.v 3)),
           (none, .bin 9 .add (.v 8) (.c (.int .i64 1))),
           (none, .asg 3 (.v 9) .copy)]))))))
    (.seq
     (.region [] [] [2] false [
       (none, .asg 2 (.c (.bool true)) .copy)])
     (.ret [2]))))⟩
def F897 : PFunc :=
 ⟨[false], [.tmp 2],
  (.seq
   (.region [] [] [0] false [
     (none, .asg 2 (.c (.bool false)) .copy)])
   (.seq
    (.seq
     (.region [(35, 0, false)] [] [0, 36] false [
       (none, .mv 35 (.v 0)),
       (none, .call (some 36) 398 false [((.v 35), false)])])
     (.cond (.v 36)
      (.seq
       (.region [] [] [2] false [
         (none, .asg 2 (.c (.bool true)) .copy)])
       (.ret [2]))
      (.skip [0])))
    (.seq
     (.region [(38, 0, false)] [] [0, 3, 4] false [
       (none, .mv 38 (.v 0)),
       (none, .call (some 39) 907 false [((.v 38), false)]),
       (none, .asg 37 (.v 39) .copy),
       (none, .extp 40 (.v 37) 0),
       (none, .extp 41 (.v 37) 1),
       (none, .new 3 (.agg [(.int .i64 0), (.int .i64 0), (.int .i64 0)])),
       (none, .store 3 (.v 3) (.v 40) .copy),
       (none, .asg 4 (.v 41) .copy)])
     (.seq
      (.region [] [] [0, 3, 4, 5, 6] false [
        (none, .load 43 true 3 (.v 3) none),
        (none, .mv 44 (.v 4)),
        (none, .call (some 45) 908 false [((.v 43), false), ((.v 44), false)]),
        (none, .asg 42 (.v 45) .move),
        (none, .ext 46 (.v 42) 0),
        (none, .extp 47 (.v 42) 1),
        (none, .asg 5 (.v 46) .move),
        (none, .asg 6 (.v 47) .copy)])
      (.seq
       (.region [] [] [0, 3, 4, 5, 6, 7, 8] false [
         (none, .load 49 true 3 (.v 3) none),
         (none, .mv 50 (.v 4)),
         (none, .call (some 51) 909 false [((.v 49), false), ((.v 50), false)]),
         (none, .asg 48 (.v 51) .move),
         (none, .ext 52 (.v 48) 0),
         (none, .extp 53 (.v 48) 1),
         (none, .asg 7 (.v 52) .move),
         (none, .asg 8 (.v 53) .copy)])
       (.seq
        (.region [] [] [0, 3, 4, 5, 6, 7, 8, 9, 10] false [
          (none, .load 55 true 3 (.v 3) none),
          (none, .call (some 56) 910 false [((.v 55), false)]),
          (none, .asg 54 (.v 56) .move),
          (none, .ext 57 (.v 54) 0),
          (none, .extp 58 (.v 54) 1),
          (none, .asg 9 (.v 57) .move),
          (none, .asg 10 (.v 58) .copy)])
        (.seq
         (.region [] [] [0, 3, 4, 5, 6, 7, 8, 9, 10, 11, 12] false [
           (none, .load 60 true 3 (.v 3) none),
           (none, .call (some 61) 911 false [((.v 60), false)]),
           (none, .asg 59 (.v 61) .move),
           (none, .ext 62 (.v 59) 0),
           (none, .extp 63 (.v 59) 1),
           (none, .asg 11 (.v 62) .move),
           (none, .asg 12 (.v 63) .copy)])
         (.seq
          (.region [(65, 0, false)] [] [0, 3, 4, 5, 6, 7, 8, 9, 10, 11, 12, 13, 14, 15] false [
            (none, .mv 65 (.v 0)),
            (none, .call (some 66) 912 false [((.v 65), false)]),
            (none, .asg 64 (.v 66) .copy),
            (none, .extp 67 (.v 64) 0),
            (none, .extp 68 (.v 64) 1),
            (none, .extp 69 (.v 64) 2),
            (none, .new 13 (.agg [(.int .i64 0), (.int .i64 0), (.int .i64 0)])),
            (none, .store 3 (.v 13) (.v 67) .copy),
            (none, .asg 14 (.v 68) .copy),
            (none, .asg 15 (.v 69) .copy)])
          (.seq
           (.region [] [] [0, 3, 4, 5, 6, 7, 8, 9, 10, 11, 12, 13, 14, 15, 16, 17] false [
             (none, .load 71 true 3 (.v 13) none),
             (none, .mv 72 (.v 14)),
             (none, .mv 73 (.v 15)),
             (none, .call (some 74) 913 false [((.v 71), false), ((.v 72), false), ((.v 73), false)]),
             (none, .asg 70 (.v 74) .copy),
             (none, .extp 75 (.v 70) 0),
             (none, .extp 76 (.v 70) 1),
             (none, .asg 16 (.v 75) .copy),
             (none, .asg 17 (.v 76) .copy)])
           (.seq
            (.region [] [] [0, 3, 4, 5, 6, 7, 8, 9, 10, 11, 12, 13, 14, 15, 16, 17, 18, 19] false [
              (none, .load 78 true 3 (.v 13) none),
              (none, .mv 79 (.v 14)),
              (none, .mv 80 (.v 15)),
              (none, .call (some 81) 914 false [((.v 78), false), ((.v 79), false), ((.v 80), false)]),
              (none, .asg 77 (.v 81) .copy),
              (none, .extp 82 (.v 77) 0),
              (none, .extp 83 (.v 77) 1),
              (none, .asg 18 (.v 82) .copy),
              (none, .asg 19 (.v 83) .copy)])
            (.seq
             (.region [] [] [0, 3, 4, 5, 6, 7, 8, 9, 10, 11, 12, 13, 14, 15, 16, 17, 18, 19, 20, 21, 22] false [
               (none, .load 85 true 3 (.v 3) none),
               (none, .mv 86 (.v 4)),
               (none, .call (some 87) 915 false [((.v 85), false), ((.v 86), false)]),
               (none, .asg 84 (.v 87) .copy),
               (none, .extp 88 (.v 84) 0),
               (none, .extp 89 (.v 84) 1),
               (none, .extp 90 (.v 84) 2),
               (none, .asg 20 (.v 88) .copy),
               (none, .asg 21 (.v 89) .copy),
               (none, .asg 22 (.v 90) .copy)])
             (.seq
              (.region [] [] [0, 3, 4, 5, 6, 7, 8, 9, 10, 11, 12, 13, 14, 15, 16, 17, 18, 19, 20, 21, 22, 23, 24, 25] false [
                (none, .load 92 true 3 (.v 3) none),
                (none, .mv 93 (.v 4)),
                (none, .call (some 94) 916 false [((.v 92), false), ((.v 93), false)]),
                (none, .asg 91 (.v 94) .copy),
                (none, .extp 95 (.v 91) 0),
                (none, .extp 96 (.v 91) 1),
                (none, .extp 97 (.v 91) 2),
                (none, .asg 23 (.v 95) .copy),
                (none, .asg 24 (.v 96) .copy),
                (none, .asg 25 (.v 97) .copy)])
              (.seq
               (.region [(98, 0, false)] [] [0, 3, 4, 5, 6, 7, 8, 9, 10, 11, 12, 13, 14, 15, 16, 17, 18, 19, 20, 21, 22, 23, 24, 25, 26] false [
                 (none, .mv 98 (.v 0)),
                 (none, .call (some 99) 917 false [((.v 98), false)]),
                 (none, .new 26 (.agg [(.int .i64 0), (.int .i64 0), (.int .i64 0)])),
                 (none, .store 3 (.v 26) (.v 99) .copy)])
               (.seq
                (.region [] [] [0, 3, 4, 5, 6, 7, 8, 9, 10, 11, 12, 13, 14, 15, 16, 17, 18, 19, 20, 21, 22, 23, 24, 25, 26, 27] false [
                  (none, .load 100 true 3 (.v 26) none),
                  (none, .call (some 101) 918 false [((.v 100), false)]),
                  (none, .asg 27 (.v 101) .copy)])
                (.seq
                 (.region [] [] [0, 3, 4, 5, 6, 7, 8, 9, 10, 11, 12, 13, 14, 15, 16, 17, 18, 19, 20, 21, 22, 23, 24, 25, 26, 27, 28, 29] false [
                   (none, .mv 103 (.v 27)),
                   (none, .call (some 104) 919 false [((.v 103), false)]),
                   (none, .asg 102 (.v 104) .copy),
                   (none, .extp 105 (.v 102) 0),
                   (none, .extp 106 (.v 102) 1),
                   (none, .new 28 (.agg [(.int .i64 0), (.int .i64 0), (.int .i64 0)])),
                   (none, .store 3 (.v 28) (.v 105) .copy),
                   (none, .asg 29 (.v 106) .copy)])
                 (.seq
                  (.region [(107, 0, false)] [] [3, 4, 5, 6, 7, 8, 9, 10, 11, 12, 13, 14, 15, 16, 17, 18, 19, 20, 21, 22, 23, 24, 25, 26, 27, 28, 29, 30] false [
                    (none, .mv 107 (.v 0)),
                    (none, .call (some 108) 920 false [((.v 107), false)]),
                    (none, .asg 30 (.v 108) .copy)])
                  (.seq
                   (.region [] [] [3, 4, 5, 6, 7, 8, 9, 10, 11, 12, 13, 14, 15, 16, 17, 18, 19, 20, 21, 22, 23, 24, 25, 26, 27, 28, 29, 30, 31, 32] false [
                     (none, .mv 110 (.v 30)),
                     (none, .call (some 111) 919 false [((.v 110), false)]),
                     (none, .asg 109 (.v 111) .copy),
                     (none, .extp 112 (.v 109) 0),
                     (none, .extp 113 (.v 109) 1),
                     (none, .new 31 (.agg [(.int .i64 0), (.int .i64 0), (.int .i64 0)])),
                     (none, .store 3 (.v 31) (.v 112) .copy),
                     (none, .asg 32 (.v 113) .copy)])
                   (.seq
                    (.region [] [] [3, 4, 5, 6, 7, 8, 9, 10, 11, 12, 13, 14, 15, 16, 17, 18, 19, 20, 21, 22, 23, 24, 25, 26, 27, 28, 29, 31, 32, 33, 34] false [
                      (none, .mv 115 (.v 30)),
                      (none, .call (some 116) 921 false [((.v 115), false)]),
                      (none, .asg 114 (.v 116) .copy),
                      (none, .extp 117 (.v 114) 0),
                      (none, .extp 118 (.v 114) 1),
                      (none, .new 33 (.agg [(.int .i64 0), (.int .i64 0), (.int .i64 0)])),
                      (none, .store 3 (.v 33) (.v 117) .copy),
                      (none, .asg 34 (.v 118) .copy)])
                    (.seq
                     (.seq
                      (.region [(135, 11, false), (134, 9, false), (124, 7, false), (123, 5, false)] [] [3, 4, 6, 7, 13, 14, 15, 17, 18, 22, 23, 24, 200] true [
                        (none, .mv 119 (.v 6)),
                        (none, .mv 120 (.v 8)),
                        (none, .bin 121 .neq (.v 119) (.v 120)),
                        (none, .mv 122 (.v 121)),
                        (some (122, false), .mvr 123 5),
                        (some (122, false), .mvr 124 7),
                        (some (122, false), .call (some 125) 400 false [((.v 123), false), ((.v 124), false)]),
                        (some (122, false), .un 126 .not (.v 125)),
                        (none, .pick 127 (.v 122) (.c (.bool true)) (.v 126)),
                        (none, .mv 128 (.v 127)),
                        (some (128, false), .mv 129 (.v 10)),
                        (some (128, false), .mv 130 (.v 12)),
                        (some (128, false), .bin 131 .neq (.v 129) (.v 130)),
                        (none, .pick 132 (.v 128) (.c (.bool true)) (.v 131)),
                        (none, .mv 133 (.v 132)),
                        (some (133, false), .mvr 134 9),
                        (some (133, false), .mvr 135 11),
                        (some (133, false), .call (some 136) 400 false [((.v 134), false), ((.v 135), false)]),
                        (some (133, false), .un 137 .not (.v 136)),
                        (none, .pick 138 (.v 133) (.c (.bool true)) (.v 137)),
                        (none, .mv 139 (.v 138)),
                        (some (139, false), .mv 140 (.v 17)),
                        (some (139, false), .mv 141 (.v 19)),
                        (some (139, false), .bin 142 .neq (.v 140) (.v 141)),
                        (none, .pick 143 (.v 139) (.c (.bool true)) (.v 142)),
                        (none, .mv 144 (.v 143)),
                        (some (144, false), .mv 145 (.v 16)),
                        (some (144, false), .mv 146 (.v 18)),
                        (some (144, false), .bin 147 .neq (.v 145) (.v 146)),
                        (none, .pick 148 (.v 144) (.c (.bool true)) (.v 147)),
                        (none, .mv 149 (.v 148)),
                        (some (149, false), .mv 150 (.v 22)),
                        (some (149, false), .mv 151 (.v 25)),
                        (some (149, false), .bin 152 .neq (.v 150) (.v 151)),
                        (none, .pick 153 (.v 149) (.c (.bool true)) (.v 152)),
                        (none, .mv 154 (.v 153)),
                        (some (154, false), .mv 155 (.v 20)),
                        (some (154, false), .mv 156 (.v 23)),
                        (some (154, false), .bin 157 .neq (.v 155) (.v 156)),
                        (none, .pick 158 (.v 154) (.c (.bool true)) (.v 157)),
                        (none, .mv 159 (.v 158)),
                        (some (159, false), .mv 160 (.v 21)),
                        (some (159, false), .mv 161 (.v 24)),
                        (some (159, false), .bin 162 .neq (.v 160) (.v 161)),
                        (none, .pick 163 (.v 159) (.c (.bool true)) (.v 162)),
                        (none, .mv 164 (.v 163)),
                        (some (164, false), .mv 165 (.v 27)),
                        (some (164, false), .load 166 true 3 (.v 26) none),
                        (some (164, false), .call (some 167) 922 false [((.v 166), false)]),
                        (some (164, false), .bin 168 .neq (.v 165) (.v 167)),
                        (none, .pick 169 (.v 164) (.c (.bool true)) (.v 168)),
                        (none, .mv 170 (.v 169)),
                        (some (170, false), .mv 171 (.v 29)),
                        (some (170, false), .mv 172 (.v 27)),
                        (some (170, false), .bin 173 .neq (.v 172) (.c (.str []))),
                        (some (170, false), .eqb 174 true (.v 171) (.v 173)),
                        (none, .pick 175 (.v 170) (.c (.bool true)) (.v 174)),
                        (none, .mv 176 (.v 175)),
                        (some (176, false), .mv 177 (.v 29)),
                        (some (176, false), .mv 178 (.v 177)),
                        (some (178, true), .load 179 true 3 (.v 28) none),
                        (some (178, true), .load 180 true 3 (.v 26) none),
                        (some (178, true), .eqv 181 true [.i, .i, .i] (.v 179) (.v 180)),
                        (some (176, false), .pick 182 (.v 178) (.v 181) (.c (.bool false))),
                        (none, .pick 183 (.v 176) (.c (.bool true)) (.v 182)),
                        (none, .mv 184 (.v 183)),
                        (some (184, false), .mv 185 (.v 32)),
                        (some (184, false), .mv 186 (.v 34)),
                        (some (184, false), .eqb 187 true (.v 185) (.v 186)),
                        (none, .pick 188 (.v 184) (.c (.bool true)) (.v 187)),
                        (none, .mv 189 (.v 188)),
                        (some (189, false), .load 190 true 3 (.v 31) none),
                        (some (189, false), .load 191 true 3 (.v 33) none),
                        (some (189, false), .eqv 192 true [.i, .i, .i] (.v 190) (.v 191)),
                        (none, .pick 193 (.v 189) (.c (.bool true)) (.v 192)),
                        (none, .mv 194 (.v 193)),
                        (some (194, false), .load 195 true 3 (.v 3) none),
                        (some (194, false), .call (some 196) 212 false [((.v 195), false)]),
                        (some (194, false), .load 197 true 3 (.v 3) none),
                        (some (194, false), .call (some 198) 923 false [((.v 197), false)]),
                        (some (194, false), .eqb 199 true (.v 196) (.v 198)),
                        (none, .pick 200 (.v 194) (.c (.bool true)) (.v 199))])
                      (.cond (.v 200)
                       (.seq
                        (.region [] [] [2] false [
                          (none, .asg 2 (.c (.bool false)) .copy)])
                        (.ret [2]))
                       (.skip [3, 4, 6, 7, 13, 14, 15, 17, 18, 22, 23, 24])))
                     (.seq
                      (.seq
                       (.region [(219, 13, false), (209, 13, false)] [] [3, 4, 6, 7, 22, 23, 24, 223] false [
                         (none, .mv 201 (.v 17)),
                         (none, .bin 202 .eql (.v 201) (.c (.int .i64 0))),
                         (none, .mv 203 (.v 202)),
                         (some (203, true), .mv 204 (.v 18)),
                         (some (203, true), .mv 205 (.v 15)),
                         (some (203, true), .mv 206 (.v 14)),
                         (some (203, true), .bin 207 .sub (.v 205) (.v 206)),
                         (some (203, true), .bin 208 .mul (.v 204) (.v 207)),
                         (some (203, true), .fadr 209 0 1 (.v 13)),
                         (some (203, true), .load 210 false 1 (.v 209) none),
                         (some (203, true), .bin 211 .lss (.v 208) (.v 210)),
                         (some (203, true), .mv 212 (.v 211)),
                         (some (212, false), .mv 213 (.v 18)),
                         (some (212, false), .bin 214 .sub (.v 213) (.c (.int .i64 1))),
                         (some (212, false), .mv 215 (.v 15)),
                         (some (212, false), .mv 216 (.v 14)),
                         (some (212, false), .bin 217 .sub (.v 215) (.v 216)),
                         (some (212, false), .bin 218 .mul (.v 214) (.v 217)),
                         (some (212, false), .fadr 219 0 1 (.v 13)),
                         (some (212, false), .load 220 false 1 (.v 219) none),
                         (some (212, false), .bin 221 .geq (.v 218) (.v 220)),
                         (some (203, true), .pick 222 (.v 212) (.c (.bool true)) (.v 221)),
                         (none, .pick 223 (.v 203) (.v 222) (.c (.bool false)))])
                       (.cond (.v 223)
                        (.seq
                         (.region [] [] [2] false [
                           (none, .asg 2 (.c (.bool false)) .copy)])
                         (.ret [2]))
                        (.skip [3, 4, 6, 7, 22, 23, 24])))
                      (.seq
                       (.seq
                        (.region [(239, 3, false), (232, 3, false)] [] [3, 4, 6, 7, 243] false [
                          (none, .mv 224 (.v 22)),
                          (none, .bin 225 .eql (.v 224) (.c (.int .i64 0))),
                          (none, .mv 226 (.v 225)),
                          (some (226, true), .mv 227 (.v 24)),
                          (some (226, true), .bin 228 .lss (.v 227) (.c (.int .i64 0))),
                          (some (226, true), .mv 229 (.v 228)),
                          (some (229, false), .mv 230 (.v 24)),
                          (some (229, false), .bin 231 .mul (.c (.int .i64 2)) (.v 230)),
                          (some (229, false), .fadr 232 0 1 (.v 3)),
                          (some (229, false), .load 233 false 1 (.v 232) none),
                          (some (229, false), .bin 234 .add (.v 233) (.c (.int .i64 1))),
                          (some (229, false), .bin 235 .gtr (.v 231) (.v 234)),
                          (some (226, true), .pick 236 (.v 229) (.c (.bool true)) (.v 235)),
                          (some (226, true), .mv 237 (.v 236)),
                          (some (237, false), .mv 238 (.v 23)),
                          (some (237, false), .fadr 239 2 1 (.v 3)),
                          (some (237, false), .load 240 false 1 (.v 239) none),
                          (some (237, false), .bin 241 .geq (.v 238) (.v 240)),
                          (some (226, true), .pick 242 (.v 237) (.c (.bool true)) (.v 241)),
                          (none, .pick 243 (.v 226) (.v 242) (.c (.bool false)))])
                        (.cond (.v 243)
                         (.seq
                          (.region [] [] [2] false [
                            (none, .asg 2 (.c (.bool false)) .copy)])
                          (.ret [2]))
                         (.skip [3, 4, 6, 7])))
                       (.seq
                        (.region [(268, 3, false), (266, 7, false), (263, 7, false), (262, 7, false), (257, 7, false), (256, 7, false), (252, 7, false), (247, 7, false)] [] [2] true [
                          (none, .mv 244 (.v 6)),
                          (none, .bin 245 .neq (.v 244) (.c (.int .i64 0))),
                          (none, .mv 246 (.v 245)),
                          (some (246, false), .mvr 247 7),
                          (some (246, false), .len 248 false (.v 247)),
                          (some (246, false), .mv 249 (.v 4)),
                          (some (246, false), .bin 250 .eql (.v 248) (.v 249)),
                          (some (246, false), .mv 251 (.v 250)),
                          (some (251, true), .mvr 252 7),
                          (some (251, true), .call (some 253) 924 false [((.v 252), false)]),
                          (some (246, false), .pick 254 (.v 251) (.v 253) (.c (.bool false))),
                          (some (246, false), .mv 255 (.v 254)),
                          (some (255, true), .mvr 256 7),
                          (some (255, true), .iadr 257 1 (.v 256) (.c (.int .i64 0))),
                          (some (255, true), .load 258 false 1 (.v 257) none),
                          (some (255, true), .bin 259 .eql (.v 258) (.c (.int .i64 0))),
                          (some (246, false), .pick 260 (.v 255) (.v 259) (.c (.bool false))),
                          (some (246, false), .mv 261 (.v 260)),
                          (some (261, true), .mvr 262 7),
                          (some (261, true), .mvr 263 7),
                          (some (261, true), .len 264 false (.v 263)),
                          (some (261, true), .bin 265 .sub (.v 264) (.c (.int .i64 1))),
                          (some (261, true), .iadr 266 1 (.v 262) (.v 265)),
                          (some (261, true), .load 267 false 1 (.v 266) none),
                          (some (261, true), .fadr 268 0 1 (.v 3)),
                          (some (261, true), .load 269 false 1 (.v 268) none),
                          (some (261, true), .bin 270 .lss (.v 267) (.v 269)),
                          (some (246, false), .pick 271 (.v 261) (.v 270) (.c (.bool false))),
                          (none, .pick 272 (.v 246) (.c (.bool true)) (.v 271)),
                          (none, .asg 2 (.v 272) .copy)])
                        (.ret [2])))))))))))))))))))))))⟩
def tabl : List (Nat × PFunc) := [(326, F326), (212, F212), (398, F398), (400, F400), (5, F5), (7, F7), (4, F4), (6, F6), (603, F603), (654, F654), (648, F648), (656, F656), (907, F907), (301, F301), (940, F940), (908, F908), (605, F605), (620, F620), (655, F655), (653, F653), (602, F602), (610, F610), (941, F941), (909, F909), (910, F910), (911, F911), (649, F649), (912, F912), (913, F913), (650, F650), (914, F914), (245, F245), (915, F915), (607, F607), (611, F611), (916, F916), (917, F917), (939, F939), (918, F918), (950, F950), (937, F937), (938, F938), (919, F919), (949, F949), (942, F942), (8, F8), (943, F943), (920, F920), (944, F944), (612, F612), (945, F945), (921, F921), (922, F922), (923, F923), (924, F924), (897, F897)]
def T : Nat → Option PFunc := tabOf tabl
end Go.Vs.G
