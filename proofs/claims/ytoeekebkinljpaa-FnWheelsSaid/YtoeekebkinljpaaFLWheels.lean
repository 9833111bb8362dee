/- The functions that the law reaches, in the small language, printed by program. No conditions. -/
import Derived.Test.YtoeekebkinljpaaDLWheels
import Derived.Test.YtoeekebkinljpaaV4
set_option maxRecDepth 100000
open Go Go.Vs
namespace Go.Vs.G
def F26 : PFunc :=
 ⟨[false, false], [.tmp 4],
  (.seq
   (.region [] [] [1, 2] false [
     (none, .box 2 (.v 0) .copy),
     (none, .asg 4 (.c (.int .i64 0)) .copy)])
   (.seq
    (.seq
     (.region [(5, 2, false)] [] [1, 2, 6] false [
       (none, .fadr 5 1 1 (.v 2)),
       (none, .load 6 false 1 (.v 5) none)])
     (.cond (.v 6)
      (.seq
       (.region [(14, 2, false), (10, 2, false), (7, 2, false)] [] [4] true [
         (none, .fadr 7 0 1 (.v 2)),
         (none, .load 8 false 1 (.v 7) none),
         (none, .mv 9 (.v 1)),
         (none, .fadr 10 0 1 (.v 2)),
         (none, .load 11 false 1 (.v 10) none),
         (none, .bin 12 .rem (.v 9) (.v 11)),
         (none, .bin 13 .sub (.v 8) (.v 12)),
         (none, .fadr 14 0 1 (.v 2)),
         (none, .load 15 false 1 (.v 14) none),
         (none, .bin 16 .rem (.v 13) (.v 15)),
         (none, .asg 4 (.v 16) .copy)])
       (.ret [4]))
      (.skip [1, 2])))
    (.seq
     (.region [(18, 2, false)] [] [4] false [
       (none, .mv 17 (.v 1)),
       (none, .fadr 18 0 1 (.v 2)),
       (none, .load 19 false 1 (.v 18) none),
       (none, .bin 20 .rem (.v 17) (.v 19)),
       (none, .asg 4 (.v 20) .copy)])
     (.ret [4]))))⟩
def F245 : PFunc :=
 ⟨[false, false], [.tmp 4],
  (.seq
   (.region [] [] [0, 1] false [
     (none, .asg 4 (.c (.int .i64 0)) .copy)])
   (.seq
    (.region [] [] [4] false [
      (none, .mv 5 (.v 0)),
      (none, .mv 6 (.v 1)),
      (none, .bin 7 .sub (.v 5) (.v 6)),
      (none, .mv 8 (.v 1)),
      (none, .mv 9 (.v 0)),
      (none, .bin 10 .sub (.v 8) (.v 9)),
      (none, .mm 11 true (.v 7) [(.v 10)]),
      (none, .asg 4 (.v 11) .copy)])
    (.ret [4])))⟩
def F326 : PFunc :=
 ⟨[false, false, false], [.tmp 6],
  (.seq
   (.region [] [] [0, 1, 2] false [
     (none, .asg 6 (.c (.bool false)) .copy)])
   (.seq
    (.region [] [] [6] false [
      (none, .mv 7 (.v 0)),
      (none, .mv 8 (.v 1)),
      (none, .bin 9 .geq (.v 7) (.v 8)),
      (none, .mv 10 (.v 9)),
      (some (10, true), .mv 11 (.v 0)),
      (some (10, true), .mv 12 (.v 2)),
      (some (10, true), .bin 13 .leq (.v 11) (.v 12)),
      (none, .pick 14 (.v 10) (.v 13) (.c (.bool false))),
      (none, .asg 6 (.v 14) .copy)])
    (.ret [6])))⟩
def F237 : PFunc :=
 ⟨[false], [.tmp 2],
  (.seq
   (.region [] [] [1] false [
     (none, .box 1 (.v 0) .copy),
     (none, .asg 2 (.c (.bool false)) .copy)])
   (.seq
    (.region [(3, 1, false)] [] [2] false [
      (none, .fadr 3 0 1 (.v 1)),
      (none, .load 4 false 1 (.v 3) none),
      (none, .call (some 5) 326 false [((.v 4), false), ((.c (.int .i64 2)), false), ((.c (.int .i64 200)), false)]),
      (none, .un 6 .not (.v 5)),
      (none, .asg 2 (.v 6) .copy)])
    (.ret [2])))⟩
def F829 : PFunc :=
 ⟨[false, false], [.tmp 4],
  (.seq
   (.region [] [] [0, 1] false [
     (none, .asg 4 (.c (.int .i64 0)) .copy)])
   (.seq
    (.seq
     (.region [(6, 0, false)] [] [0, 1, 7, 8] false [
       (none, .mv 6 (.v 0)),
       (none, .len 7 false (.v 6)),
       (none, .mv 8 (.c (.int .i64 0)))])
     (.block 0
      (.loop
       (.seq
        (.region [] [] [0, 1, 7, 8, 9] false [
          (none, .bin 9 .lss (.v 8) (.v 7))])
        (.seq
         (.cond (.v 9)
          (.skip [0, 1, 7, 8])
          (.exit 0 []))
         (.seq
          (.block 1
           (.seq
            (.region [] [] [0, 1, 5, 7, 8] false [
              (none, .mv 10 (.v 8)),
              (none, .asg 5 (.v 10) .copy)])
            (.seq
             (.region [(14, 0, false), (12, 0, false), (11, 1, false)] [] [0, 1, 5, 7, 8, 16] false [
               (none, .mv 11 (.v 1)),
               (none, .mv 12 (.v 0)),
               (none, .mv 13 (.v 5)),
               (none, .iadr 14 2 (.v 12) (.v 13)),
               (none, .load 15 true 2 (.v 14) none),
               (none, .callv (some 16) (.v 11) [(.v 15)])])
             (.cond (.v 16)
              (.seq
               (.region [] [] [4] false [
                 (none, .mv 17 (.v 5)),
                 (none, .asg 4 (.v 17) .copy)])
               (.ret [4]))
              (.skip [0, 1, 7, 8])))))
          (.region [] [] [0, 1, 7, 8] false [
            (none, .bin 18 .add (.v 8) (.c (.int .i64 1))),
            (none, .mv 8 (.v 18))])))))))
    (.seq
     (.region [] [] [4] false [
       (none, .asg 4 (.c (.int .i64 (-1))) .copy)])
     (.ret [4]))))⟩
def F807 : PFunc :=
 ⟨[false, false], [.tmp 4],
  (.seq
   (.region [] [] [0, 1] false [
     (none, .asg 4 (.c (.bool false)) .copy)])
   (.seq
    (.region [(6, 1, false), (5, 0, false)] [] [4] false [
      (none, .mv 5 (.v 0)),
      (none, .mv 6 (.v 1)),
      (none, .call (some 7) 829 false [((.v 5), false), ((.v 6), false)]),
      (none, .bin 8 .geq (.v 7) (.c (.int .i64 0))),
      (none, .asg 4 (.v 8) .copy)])
    (.ret [4])))⟩
def F236 : PFunc :=
 ⟨[false, false], [.tmp 4],
  (.seq
   (.region [] [] [0, 1] false [
     (none, .asg 4 (.c (.bool false)) .copy)])
   (.seq
    (.region [(13, 1, false), (8, 1, false)] [] [4] false [
      (none, .mv 5 (.v 0)),
      (none, .call (some 6) 326 false [((.v 5), false), ((.c (.int .i64 2)), false), ((.c (.int .i64 200)), false)]),
      (none, .mv 7 (.v 6)),
      (some (7, true), .mv 8 (.v 1)),
      (some (7, true), .len 9 false (.v 8)),
      (some (7, true), .bin 10 .leq (.v 9) (.c (.int .i64 8))),
      (none, .pick 11 (.v 7) (.v 10) (.c (.bool false))),
      (none, .mv 12 (.v 11)),
      (some (12, true), .mv 13 (.v 1)),
      (some (12, true), .call (some 14) 807 false [((.v 13), false), ((.c (.fn 237 [])), false)]),
      (some (12, true), .un 15 .not (.v 14)),
      (none, .pick 16 (.v 12) (.v 15) (.c (.bool false))),
      (none, .asg 4 (.v 16) .copy)])
    (.ret [4])))⟩
def F325 : PFunc :=
 ⟨[false, false, false, false], [.tmp 8],
  (.seq
   (.region [] [] [0, 1, 2, 3] false [
     (none, .asg 8 (.c (.int .i64 0)) .copy)])
   (.seq
    (.block 0
     (.seq
      (.region [(11, 1, false)] [] [1, 2, 3, 9] false [
        (none, .mv 10 (.v 0)),
        (none, .mv 11 (.v 1)),
        (none, .call (some 12) 236 false [((.v 10), false), ((.v 11), false)]),
        (none, .un 13 .not (.v 12)),
        (none, .asg 9 (.v 13) .copy)])
      (.cond (.v 9)
       (.seq
        (.region [] [] [8] false [
          (none, .asg 8 (.c (.int .i64 1)) .copy)])
        (.ret [8]))
       (.seq
        (.region [(16, 1, false)] [] [14] false [
          (none, .mv 15 (.v 2)),
          (none, .mv 16 (.v 1)),
          (none, .len 17 false (.v 16)),
          (none, .bin 18 .sub (.v 17) (.c (.int .i64 1))),
          (none, .call (some 19) 326 false [((.v 15), false), ((.c (.int .i64 0)), false), ((.v 18), false)]),
          (none, .un 20 .not (.v 19)),
          (none, .mv 21 (.v 20)),
          (some (21, false), .mv 22 (.v 3)),
          (some (21, false), .call (some 23) 326 false [((.v 22), false), ((.c (.int .i64 0)), false), ((.c (.int .i64 100000)), false)]),
          (some (21, false), .un 24 .not (.v 23)),
          (none, .pick 25 (.v 21) (.c (.bool true)) (.v 24)),
          (none, .asg 14 (.v 25) .copy)])
        (.cond (.v 14)
         (.seq
          (.region [] [] [8] false [
            (none, .asg 8 (.c (.int .i64 2)) .copy)])
          (.ret [8]))
         (.skip []))))))
    (.seq
     (.region [] [] [8] false [
       (none, .asg 8 (.c (.int .i64 0)) .copy)])
     (.ret [8]))))⟩
def F185 : PFunc :=
 ⟨[false, false, false, false, false], [.tmp 10, .tmp 11],
  (.seq
   (.region [] [] [0, 1, 2, 3, 4] false [
     (none, .asg 10 (.c (.int .i64 0)) .copy),
     (none, .asg 11 (.c (.int .i64 0)) .copy)])
   (.seq
    (.region [(16, 1, false)] [] [1, 2, 3, 4, 12] false [
      (none, .mv 15 (.v 0)),
      (none, .mv 16 (.v 1)),
      (none, .mv 17 (.v 2)),
      (none, .mv 18 (.v 3)),
      (none, .call (some 19) 325 false [((.v 15), false), ((.v 16), false), ((.v 17), false), ((.v 18), false)]),
      (none, .asg 12 (.v 19) .copy)])
    (.seq
     (.block 0
      (.seq
       (.region [] [] [1, 2, 3, 4, 12, 20] false [
         (none, .mv 21 (.v 12)),
         (none, .bin 22 .neq (.v 21) (.c (.int .i64 0))),
         (none, .asg 20 (.v 22) .copy)])
       (.cond (.v 20)
        (.seq
         (.region [] [] [10, 11] false [
           (none, .mv 23 (.v 12)),
           (none, .asg 10 (.c (.int .i64 0)) .copy),
           (none, .asg 11 (.v 23) .copy)])
         (.ret [10, 11]))
        (.seq
         (.region [] [] [1, 2, 3, 4, 24] false [
           (none, .mv 25 (.v 4)),
           (none, .mv 26 (.v 3)),
           (none, .call (some 27) 326 false [((.v 25), false), ((.c (.int .i64 0)), false), ((.v 26), false)]),
           (none, .un 28 .not (.v 27)),
           (none, .asg 24 (.v 28) .copy)])
         (.cond (.v 24)
          (.seq
           (.region [] [] [10, 11] false [
             (none, .asg 10 (.c (.int .i64 0)) .copy),
             (none, .asg 11 (.c (.int .i64 2)) .copy)])
           (.ret [10, 11]))
          (.skip [1, 2, 3, 4]))))))
     (.seq
      (.region [(31, 1, false), (29, 1, false)] [] [3, 4, 13] false [
        (none, .mv 29 (.v 1)),
        (none, .mv 30 (.v 2)),
        (none, .iadr 31 2 (.v 29) (.v 30)),
        (none, .load 32 true 2 (.v 31) none),
        (none, .new 13 (.agg [(.int .i64 0), (.bool false)])),
        (none, .store 2 (.v 13) (.v 32) .copy)])
      (.seq
       (.region [] [] [13, 14] true [
         (none, .load 33 true 2 (.v 13) none),
         (none, .mv 34 (.v 3)),
         (none, .call (some 35) 26 false [((.v 33), false), ((.v 34), false)]),
         (none, .load 36 true 2 (.v 13) none),
         (none, .mv 37 (.v 3)),
         (none, .mv 38 (.v 4)),
         (none, .bin 39 .sub (.v 37) (.v 38)),
         (none, .call (some 40) 26 false [((.v 36), false), ((.v 39), false)]),
         (none, .call (some 41) 245 false [((.v 35), false), ((.v 40), false)]),
         (none, .asg 14 (.v 41) .copy)])
       (.seq
        (.region [(43, 13, false)] [] [10, 11] false [
          (none, .mv 42 (.v 14)),
          (none, .fadr 43 0 1 (.v 13)),
          (none, .load 44 false 1 (.v 43) none),
          (none, .mv 45 (.v 14)),
          (none, .bin 46 .sub (.v 44) (.v 45)),
          (none, .mm 47 false (.v 42) [(.v 46)]),
          (none, .asg 10 (.v 47) .copy),
          (none, .asg 11 (.c (.int .i64 0)) .copy)])
        (.ret [10, 11])))))))⟩
def F269 : PFunc :=
 ⟨[false, false], [.tmp 4],
  (.seq
   (.region [] [] [0, 1] false [
     (none, .asg 4 (.c (.int .i64 0)) .copy)])
   (.seq
    (.block 0
     (.loop
      (.seq
       (.seq
        (.region [] [] [0, 1, 6] false [
          (none, .mv 5 (.v 1)),
          (none, .bin 6 .neq (.v 5) (.c (.int .i64 0)))])
        (.cond (.v 6)
         (.skip [0, 1])
         (.exit 0 [0])))
       (.block 1
        (.region [] [] [0, 1] true [
          (none, .mv 7 (.v 1)),
          (none, .mv 8 (.v 0)),
          (none, .mv 9 (.v 1)),
          (none, .bin 10 .rem (.v 8) (.v 9)),
          (none, .asg 0 (.v 7) .copy),
          (none, .asg 1 (.v 10) .copy)])))))
    (.seq
     (.region [] [] [4] false [
       (none, .mv 11 (.v 0)),
       (none, .mv 12 (.v 0)),
       (none, .un 13 .neg (.v 12)),
       (none, .mm 14 true (.v 11) [(.v 13)]),
       (none, .asg 4 (.v 14) .copy)])
     (.ret [4]))))⟩
def F292 : PFunc :=
 ⟨[false, false], [.cell 4 true 2],
  (.seq
   (.region [] [] [0, 1, 4] false [
     (none, .new 4 (.agg [(.int .i64 0), (.int .i64 0)]))])
   (.seq
    (.seq
     (.region [] [] [0, 1, 4, 7] false [
       (none, .mv 6 (.v 1)),
       (none, .bin 7 .lss (.v 6) (.c (.int .i64 0)))])
     (.cond (.v 7)
      (.region [] [] [0, 1, 4] false [
        (none, .mv 8 (.v 0)),
        (none, .un 9 .neg (.v 8)),
        (none, .mv 10 (.v 1)),
        (none, .un 11 .neg (.v 10)),
        (none, .asg 0 (.v 9) .copy),
        (none, .asg 1 (.v 11) .copy)])
      (.skip [0, 1, 4])))
    (.seq
     (.region [] [] [0, 1, 4, 5] false [
       (none, .mv 12 (.v 0)),
       (none, .mv 13 (.v 1)),
       (none, .call (some 14) 269 false [((.v 12), false), ((.v 13), false)]),
       (none, .asg 5 (.v 14) .copy)])
     (.seq
      (.region [] [] [4] true [
        (none, .mv 15 (.v 0)),
        (none, .mv 16 (.v 5)),
        (none, .bin 17 .quo (.v 15) (.v 16)),
        (none, .mv 18 (.v 1)),
        (none, .mv 19 (.v 5)),
        (none, .bin 20 .quo (.v 18) (.v 19)),
        (none, .build 21 [(.int .i64 0), (.int .i64 0)] [(0, 1, (.v 17), .copy), (1, 1, (.v 20), .copy)]),
        (none, .store 2 (.v 4) (.v 21) .copy)])
      (.ret [4])))))⟩
def F203 : PFunc :=
 ⟨[false, false, false, false], [.cell 8 true 2, .tmp 9],
  (.seq
   (.region [] [] [0, 1, 2, 3, 8] false [
     (none, .new 8 (.agg [(.int .i64 0), (.int .i64 0)])),
     (none, .asg 9 (.c (.int .i64 0)) .copy)])
   (.seq
    (.seq
     (.region [(13, 1, false)] [] [0, 1, 2, 3, 8, 10] false [
       (none, .mv 12 (.v 0)),
       (none, .mv 13 (.v 1)),
       (none, .mv 14 (.v 2)),
       (none, .mv 15 (.v 3)),
       (none, .call (some 16) 325 false [((.v 12), false), ((.v 13), false), ((.v 14), false), ((.v 15), false)]),
       (none, .asg 10 (.v 16) .copy)])
     (.seq
      (.region [] [] [0, 1, 2, 3, 8, 10, 18] false [
        (none, .mv 17 (.v 10)),
        (none, .bin 18 .neq (.v 17) (.c (.int .i64 0)))])
      (.cond (.v 18)
       (.seq
        (.region [] [] [8, 9] false [
          (none, .build 19 [(.int .i64 0), (.int .i64 0)] []),
          (none, .mv 20 (.v 10)),
          (none, .store 2 (.v 8) (.v 19) .copy),
          (none, .asg 9 (.v 20) .copy)])
        (.ret [8, 9]))
       (.skip [0, 1, 2, 3, 8]))))
    (.seq
     (.region [(27, 1, false), (26, 1, false), (24, 1, false)] [] [1, 2, 8, 11] false [
       (none, .mv 21 (.v 3)),
       (none, .mv 22 (.v 0)),
       (none, .bin 23 .mul (.v 21) (.v 22)),
       (none, .mv 24 (.v 1)),
       (none, .mv 25 (.v 2)),
       (none, .iadr 26 2 (.v 24) (.v 25)),
       (none, .fadr 27 0 1 (.v 26)),
       (none, .load 28 false 1 (.v 27) none),
       (none, .call (some 29) 292 false [((.v 23), false), ((.v 28), false)]),
       (none, .new 11 (.agg [(.int .i64 0), (.int .i64 0)])),
       (none, .store 2 (.v 11) (.v 29) .copy)])
     (.seq
      (.seq
       (.region [(33, 1, false), (32, 1, false), (30, 1, false)] [] [8, 11, 34] false [
         (none, .mv 30 (.v 1)),
         (none, .mv 31 (.v 2)),
         (none, .iadr 32 2 (.v 30) (.v 31)),
         (none, .fadr 33 1 1 (.v 32)),
         (none, .load 34 false 1 (.v 33) none)])
       (.cond (.v 34)
        (.region [(38, 11, false), (35, 11, false)] [] [8, 11] false [
          (none, .fadr 35 0 1 (.v 11)),
          (none, .load 36 false 1 (.v 35) none),
          (none, .un 37 .neg (.v 36)),
          (none, .fadr 38 0 1 (.v 11)),
          (none, .store 1 (.v 38) (.v 37) .copy)])
        (.skip [8, 11])))
      (.seq
       (.region [] [] [8, 9] false [
         (none, .load 39 true 2 (.v 11) none),
         (none, .store 2 (.v 8) (.v 39) .copy),
         (none, .asg 9 (.c (.int .i64 0)) .copy)])
       (.ret [8, 9]))))))⟩
def F213 : PFunc :=
 ⟨[false], [.tmp 2],
  (.seq
   (.region [] [] [1] false [
     (none, .box 1 (.v 0) .copy),
     (none, .asg 2 (.c (.bool false)) .copy)])
   (.seq
    (.region [(14, 1, false), (12, 1, false), (7, 1, false), (3, 1, false)] [] [2] false [
      (none, .fadr 3 1 1 (.v 1)),
      (none, .load 4 false 1 (.v 3) none),
      (none, .call (some 5) 326 false [((.v 4), false), ((.c (.int .i64 1)), false), ((.c (.int .i64 1000000)), false)]),
      (none, .mv 6 (.v 5)),
      (some (6, true), .fadr 7 0 1 (.v 1)),
      (some (6, true), .load 8 false 1 (.v 7) none),
      (some (6, true), .call (some 9) 326 false [((.v 8), false), ((.c (.int .i64 (-1000000))), false), ((.c (.int .i64 1000000)), false)]),
      (none, .pick 10 (.v 6) (.v 9) (.c (.bool false))),
      (none, .mv 11 (.v 10)),
      (some (11, true), .fadr 12 0 1 (.v 1)),
      (some (11, true), .load 13 false 1 (.v 12) none),
      (some (11, true), .fadr 14 1 1 (.v 1)),
      (some (11, true), .load 15 false 1 (.v 14) none),
      (some (11, true), .call (some 16) 269 false [((.v 13), false), ((.v 15), false)]),
      (some (11, true), .bin 17 .eql (.v 16) (.c (.int .i64 1))),
      (none, .pick 18 (.v 11) (.v 17) (.c (.bool false))),
      (none, .asg 2 (.v 18) .copy)])
    (.ret [2])))⟩
def F238 : PFunc :=
 ⟨[false, false], [.tmp 4, .tmp 5],
  (.seq
   (.region [] [] [0, 3] false [
     (none, .box 3 (.v 1) .copy),
     (none, .asg 4 (.c (.int .i64 0)) .copy),
     (none, .asg 5 (.c (.int .i64 0)) .copy)])
   (.seq
    (.block 0
     (.seq
      (.region [] [] [0, 3, 10] false [
        (none, .mv 11 (.v 0)),
        (none, .call (some 12) 236 false [((.v 11), false), ((.c (.sl false 2 [])), false)]),
        (none, .un 13 .not (.v 12)),
        (none, .mv 14 (.v 13)),
        (some (14, false), .load 15 true 2 (.v 3) none),
        (some (14, false), .call (some 16) 213 false [((.v 15), false)]),
        (some (14, false), .un 17 .not (.v 16)),
        (none, .pick 18 (.v 14) (.c (.bool true)) (.v 17)),
        (none, .asg 10 (.v 18) .copy)])
      (.cond (.v 10)
       (.seq
        (.region [] [] [4, 5] false [
          (none, .asg 4 (.c (.int .i64 0)) .copy),
          (none, .asg 5 (.c (.int .i64 1)) .copy)])
        (.ret [4, 5]))
       (.seq
        (.region [(25, 3, false), (20, 3, false)] [] [0, 3, 19] false [
          (none, .fadr 20 0 1 (.v 3)),
          (none, .load 21 false 1 (.v 20) none),
          (none, .call (some 22) 326 false [((.v 21), false), ((.c (.int .i64 1)), false), ((.c (.int .i64 1000)), false)]),
          (none, .un 23 .not (.v 22)),
          (none, .mv 24 (.v 23)),
          (some (24, false), .fadr 25 1 1 (.v 3)),
          (some (24, false), .load 26 false 1 (.v 25) none),
          (some (24, false), .bin 27 .gtr (.v 26) (.c (.int .i64 1000))),
          (none, .pick 28 (.v 24) (.c (.bool true)) (.v 27)),
          (none, .asg 19 (.v 28) .copy)])
        (.cond (.v 19)
         (.seq
          (.region [] [] [4, 5] false [
            (none, .asg 4 (.c (.int .i64 0)) .copy),
            (none, .asg 5 (.c (.int .i64 2)) .copy)])
          (.ret [4, 5]))
         (.skip [0, 3]))))))
    (.seq
     (.region [] [] [0, 3, 6, 7] false [
       (none, .asg 6 (.c (.int .i64 0)) .copy),
       (none, .asg 7 (.c (.int .i64 0)) .copy)])
     (.seq
      (.seq
       (.region [] [] [0, 3, 6, 7, 8] false [
         (none, .asg 8 (.c (.int .i64 2)) .copy)])
       (.block 1
        (.loop
         (.seq
          (.seq
           (.region [] [] [0, 3, 6, 7, 8, 30] false [
             (none, .mv 29 (.v 8)),
             (none, .bin 30 .leq (.v 29) (.c (.int .i64 200)))])
           (.cond (.v 30)
            (.skip [0, 3, 6, 7, 8])
            (.exit 1 [6])))
          (.seq
           (.block 2
            (.seq
             (.region [(37, 3, false), (34, 3, false)] [] [0, 3, 6, 7, 8, 9] false [
               (none, .mv 33 (.v 0)),
               (none, .fadr 34 1 1 (.v 3)),
               (none, .load 35 false 1 (.v 34) none),
               (none, .bin 36 .mul (.v 33) (.v 35)),
               (none, .fadr 37 0 1 (.v 3)),
               (none, .load 38 false 1 (.v 37) none),
               (none, .mv 39 (.v 8)),
               (none, .bin 40 .mul (.v 38) (.v 39)),
               (none, .call (some 41) 245 false [((.v 36), false), ((.v 40), false)]),
               (none, .asg 9 (.v 41) .copy)])
             (.seq
              (.region [] [] [0, 3, 6, 7, 8, 9, 52] false [
                (none, .mv 42 (.v 6)),
                (none, .bin 43 .eql (.v 42) (.c (.int .i64 0))),
                (none, .mv 44 (.v 43)),
                (some (44, false), .mv 45 (.v 9)),
                (some (44, false), .mv 46 (.v 6)),
                (some (44, false), .bin 47 .mul (.v 45) (.v 46)),
                (some (44, false), .mv 48 (.v 7)),
                (some (44, false), .mv 49 (.v 8)),
                (some (44, false), .bin 50 .mul (.v 48) (.v 49)),
                (some (44, false), .bin 51 .lss (.v 47) (.v 50)),
                (none, .pick 52 (.v 44) (.c (.bool true)) (.v 51))])
              (.cond (.v 52)
               (.region [] [] [0, 3, 6, 7, 8] false [
                 (none, .mv 53 (.v 8)),
                 (none, .mv 54 (.v 9)),
                 (none, .asg 6 (.v 53) .copy),
                 (none, .asg 7 (.v 54) .copy)])
               (.skip [0, 3, 6, 7, 8])))))
           (.region [] [] [0, 3, 6, 7, 8] false [
             (none, .mv 31 (.v 8)),
             (none, .bin 32 .add (.v 31) (.c (.int .i64 1))),
             (none, .asg 8 (.v 32) .copy)]))))))
      (.seq
       (.region [] [] [4, 5] false [
         (none, .mv 55 (.v 6)),
         (none, .asg 4 (.v 55) .copy),
         (none, .asg 5 (.c (.int .i64 0)) .copy)])
       (.ret [4, 5]))))))⟩
def F397 : PFunc :=
 ⟨[false], [.tmp 2],
  (.seq
   (.region [] [] [0] false [
     (none, .asg 2 (.c (.int .i64 0)) .copy)])
   (.seq
    (.seq
     (.region [] [] [0, 4] false [
       (none, .mv 3 (.v 0)),
       (none, .bin 4 .lss (.v 3) (.c (.int .i64 0)))])
     (.cond (.v 4)
      (.seq
       (.region [] [] [2] false [
         (none, .mv 5 (.v 0)),
         (none, .un 6 .neg (.v 5)),
         (none, .asg 2 (.v 6) .copy)])
       (.ret [2]))
      (.skip [0])))
    (.seq
     (.region [] [] [2] false [
       (none, .mv 7 (.v 0)),
       (none, .asg 2 (.v 7) .copy)])
     (.ret [2]))))⟩
def F398 : PFunc :=
 ⟨[false], [.tmp 2],
  (.seq
   (.region [] [] [0] false [
     (none, .asg 2 (.c (.bool false)) .copy)])
   (.seq
    (.region [(3, 0, false)] [] [2] false [
      (none, .mv 3 (.v 0)),
      (none, .len 4 false (.v 3)),
      (none, .bin 5 .gtr (.v 4) (.c (.int .i64 4096))),
      (none, .asg 2 (.v 5) .copy)])
    (.ret [2])))⟩
def F5 : PFunc :=
 ⟨[true], [.tmp 2],
  (.seq
   (.region [] [] [0] false [
     (none, .asg 2 (.c (.int .i64 0)) .copy)])
   (.seq
    (.region [] [] [0, 3] false [
      (none, .asg 3 (.c (.int .i64 0)) .copy)])
    (.seq
     (.seq
      (.region [(11, 0, true), (10, 0, false), (9, 0, false), (8, 0, false), (6, 0, false), (5, 0, false), (4, 0, false)] [] [0, 3, 13] true [
        (none, .mv 4 (.v 0)),
        (none, .nchk 5 (.v 4)),
        (none, .fadr 6 1 1 (.v 5)),
        (none, .load 7 false 1 (.v 6) none),
        (none, .mv 8 (.v 0)),
        (none, .nchk 9 (.v 8)),
        (none, .fadr 10 0 1 (.v 9)),
        (none, .load 11 false 1 (.v 10) none),
        (none, .len 12 false (.v 11)),
        (none, .bin 13 .lss (.v 7) (.v 12))])
      (.cond (.v 13)
       (.region [(22, 0, true), (20, 0, false), (19, 0, false), (18, 0, false), (17, 0, true), (16, 0, false), (15, 0, false), (14, 0, false)] [] [0, 3] true [
         (none, .mv 14 (.v 0)),
         (none, .nchk 15 (.v 14)),
         (none, .fadr 16 0 1 (.v 15)),
         (none, .load 17 false 1 (.v 16) none),
         (none, .mv 18 (.v 0)),
         (none, .nchk 19 (.v 18)),
         (none, .fadr 20 1 1 (.v 19)),
         (none, .load 21 false 1 (.v 20) none),
         (none, .iadr 22 1 (.v 17) (.v 21)),
         (none, .load 23 false 1 (.v 22) none),
         (none, .conv 24 .i64 (.v 23)),
         (none, .asg 3 (.v 24) .copy)])
       (.skip [0, 3])))
     (.seq
      (.region [(31, 0, false), (30, 0, false), (27, 0, false), (26, 0, false), (25, 0, false)] [] [0, 3] false [
        (none, .mv 25 (.v 0)),
        (none, .nchk 26 (.v 25)),
        (none, .fadr 27 1 1 (.v 26)),
        (none, .load 28 false 1 (.v 27) none),
        (none, .bin 29 .add (.v 28) (.c (.int .i64 1))),
        (none, .nchk 30 (.v 25)),
        (none, .fadr 31 1 1 (.v 30)),
        (none, .store 1 (.v 31) (.v 29) .copy)])
      (.seq
       (.region [(43, 0, false), (42, 0, false), (35, 0, false), (34, 0, false), (33, 0, false), (32, 0, false)] [] [0, 3] false [
         (none, .mv 32 (.v 0)),
         (none, .mv 33 (.v 0)),
         (none, .nchk 34 (.v 33)),
         (none, .fadr 35 2 1 (.v 34)),
         (none, .load 36 false 1 (.v 35) none),
         (none, .bin 37 .mul (.v 36) (.c (.int .u64 6364136223846793005))),
         (none, .mv 38 (.v 3)),
         (none, .conv 39 .u64 (.v 38)),
         (none, .bin 40 .add (.v 37) (.v 39)),
         (none, .bin 41 .add (.v 40) (.c (.int .u64 1442695040888963407))),
         (none, .nchk 42 (.v 32)),
         (none, .fadr 43 2 1 (.v 42)),
         (none, .store 1 (.v 43) (.v 41) .copy)])
       (.seq
        (.seq
         (.region [(51, 0, true), (50, 0, false), (49, 0, false), (48, 0, false), (46, 0, false), (45, 0, false), (44, 0, false)] [] [0, 3, 53] true [
           (none, .mv 44 (.v 0)),
           (none, .nchk 45 (.v 44)),
           (none, .fadr 46 1 1 (.v 45)),
           (none, .load 47 false 1 (.v 46) none),
           (none, .mv 48 (.v 0)),
           (none, .nchk 49 (.v 48)),
           (none, .fadr 50 0 1 (.v 49)),
           (none, .load 51 false 1 (.v 50) none),
           (none, .len 52 false (.v 51)),
           (none, .bin 53 .leq (.v 47) (.v 52))])
         (.cond (.v 53)
          (.seq
           (.region [] [] [0, 2] false [
             (none, .mv 54 (.v 3)),
             (none, .asg 2 (.v 54) .copy)])
           (.ret [0, 2]))
          (.skip [0])))
        (.seq
         (.region [(57, 0, false), (56, 0, false), (55, 0, false)] [] [0, 2] false [
           (none, .mv 55 (.v 0)),
           (none, .nchk 56 (.v 55)),
           (none, .fadr 57 2 1 (.v 56)),
           (none, .load 58 false 1 (.v 57) none),
           (none, .bin 59 .shr (.v 58) (.c (.int .u64 40))),
           (none, .bin 60 .and (.v 59) (.c (.int .u64 255))),
           (none, .conv 61 .i64 (.v 60)),
           (none, .asg 2 (.v 61) .copy)])
         (.ret [0, 2]))))))))⟩
def F7 : PFunc :=
 ⟨[true, false], [.tmp 4],
  (.seq
   (.region [] [] [0, 1] false [
     (none, .asg 4 (.c (.int .i64 0)) .copy)])
   (.seq
    (.seq
     (.region [] [] [0, 1, 7] false [
       (none, .mv 6 (.v 1)),
       (none, .bin 7 .leq (.v 6) (.c (.int .i64 1)))])
     (.cond (.v 7)
      (.seq
       (.region [] [] [0, 4] false [
         (none, .asg 4 (.c (.int .i64 0)) .copy)])
       (.ret [0, 4]))
      (.skip [0, 1])))
    (.seq
     (.region [(8, 0, false)] [] [0, 1, 5] false [
       (none, .mv 8 (.v 0)),
       (none, .call (some 9) 5 true [((.v 8), true)]),
       (none, .asg 5 (.v 9) .copy)])
     (.seq
      (.seq
       (.region [] [] [0, 1, 5, 11] false [
         (none, .mv 10 (.v 1)),
         (none, .bin 11 .gtr (.v 10) (.c (.int .i64 200)))])
       (.cond (.v 11)
        (.region [(14, 0, false)] [] [0, 1, 5] false [
          (none, .mv 12 (.v 5)),
          (none, .bin 13 .mul (.v 12) (.c (.int .i64 256))),
          (none, .mv 14 (.v 0)),
          (none, .call (some 15) 5 true [((.v 14), true)]),
          (none, .bin 16 .add (.v 13) (.v 15)),
          (none, .asg 5 (.v 16) .copy)])
        (.skip [0, 1, 5])))
      (.seq
       (.region [] [] [0, 4] false [
         (none, .mv 17 (.v 5)),
         (none, .mv 18 (.v 1)),
         (none, .bin 19 .rem (.v 17) (.v 18)),
         (none, .asg 4 (.v 19) .copy)])
       (.ret [0, 4]))))))⟩
def F4 : PFunc :=
 ⟨[true, false], [.tmp 4],
  (.seq
   (.region [] [] [0, 1] false [
     (none, .asg 4 (.c (.int .i64 0)) .copy)])
   (.seq
    (.region [(10, 1, false), (7, 1, false), (6, 0, false), (5, 1, false)] [] [0, 4] false [
      (none, .mv 5 (.v 1)),
      (none, .mv 6 (.v 0)),
      (none, .mv 7 (.v 1)),
      (none, .len 8 false (.v 7)),
      (none, .call (some 9) 7 true [((.v 6), true), ((.v 8), false)]),
      (none, .iadr 10 1 (.v 5) (.v 9)),
      (none, .load 11 false 1 (.v 10) none),
      (none, .asg 4 (.v 11) .copy)])
    (.ret [0, 4])))⟩
def F6 : PFunc :=
 ⟨[true, false], [.tmp 4],
  (.seq
   (.region [] [] [0, 1] false [
     (none, .asg 4 (.c (.bool false)) .copy)])
   (.seq
    (.region [(5, 0, false)] [] [0, 4] false [
      (none, .mv 5 (.v 0)),
      (none, .mv 6 (.v 1)),
      (none, .call (some 7) 7 true [((.v 5), true), ((.v 6), false)]),
      (none, .bin 8 .eql (.v 7) (.c (.int .i64 0))),
      (none, .asg 4 (.v 8) .copy)])
    (.ret [0, 4])))⟩
def F603 : PFunc :=
 ⟨[false], [.tmp 2],
  (.seq
   (.region [] [] [0] false [
     (none, .asg 2 (.c .nilp) .copy)])
   (.seq
    (.region [(3, 0, false)] [] [2] false [
      (none, .mv 3 (.v 0)),
      (none, .build 4 [(.sl false 1 []), (.int .i64 0), (.int .u64 0)] [(0, 1, (.v 3), .move)]),
      (none, .box 5 (.v 4) .move),
      (none, .asg 2 (.v 5) .move)])
    (.ret [2])))⟩
def F709 : PFunc :=
 ⟨[true], [.tmp 2],
  (.seq
   (.region [] [] [0] false [
     (none, .asg 2 (.c (.int .i64 0)) .copy)])
   (.seq
    (.seq
     (.region [(3, 0, false)] [] [0, 4] false [
       (none, .mv 3 (.v 0)),
       (none, .call (some 4) 6 true [((.v 3), true), ((.c (.int .i64 12)), false)])])
     (.cond (.v 4)
      (.seq
       (.region [(5, 0, false)] [] [0, 2] false [
         (none, .mv 5 (.v 0)),
         (none, .mksl 6 1 (.int .i64 0) 6 [(0, (.c (.int .i64 (-1))), .copy), (1, (.c (.int .i64 1)), .copy), (2, (.c (.int .i64 2)), .copy), (3, (.c (.int .i64 200)), .copy), (4, (.c (.int .i64 201)), .copy), (5, (.c (.int .i64 (-9223372036854775808))), .copy)]),
         (none, .call (some 7) 4 true [((.v 5), true), ((.v 6), false)]),
         (none, .asg 2 (.v 7) .copy)])
       (.ret [0, 2]))
      (.skip [0])))
    (.seq
     (.region [(8, 0, false)] [] [0, 2] false [
       (none, .mv 8 (.v 0)),
       (none, .mksl 9 1 (.int .i64 0) 10 [(0, (.c (.int .i64 6)), .copy), (1, (.c (.int .i64 8)), .copy), (2, (.c (.int .i64 10)), .copy), (3, (.c (.int .i64 12)), .copy), (4, (.c (.int .i64 15)), .copy), (5, (.c (.int .i64 20)), .copy), (6, (.c (.int .i64 24)), .copy), (7, (.c (.int .i64 30)), .copy), (8, (.c (.int .i64 36)), .copy), (9, (.c (.int .i64 7)), .copy)]),
       (none, .call (some 10) 4 true [((.v 8), true), ((.v 9), false)]),
       (none, .asg 2 (.v 10) .copy)])
     (.ret [0, 2]))))⟩
def F707 : PFunc :=
 ⟨[true], [.tmp 2, .tmp 3],
  (.seq
   (.region [] [] [0] false [
     (none, .asg 2 (.c (.int .i64 0)) .copy),
     (none, .asg 3 (.c (.sl true 2 [])) .copy)])
   (.seq
    (.region [(9, 0, false)] [] [0, 4] false [
      (none, .mv 9 (.v 0)),
      (none, .call (some 10) 709 true [((.v 9), true)]),
      (none, .asg 4 (.v 10) .copy)])
    (.seq
     (.region [] [] [0, 4, 5] false [
       (none, .mksl 11 2 (.agg [(.int .i64 0), (.bool false)]) 0 []),
       (none, .asg 5 (.v 11) .move)])
     (.seq
      (.region [(12, 0, false)] [] [0, 4, 5, 6] false [
        (none, .mv 12 (.v 0)),
        (none, .call (some 13) 7 true [((.v 12), true), ((.c (.int .i64 4)), false)]),
        (none, .asg 6 (.v 13) .copy)])
      (.seq
       (.seq
        (.region [(14, 0, false)] [] [0, 4, 5, 6, 15] false [
          (none, .mv 14 (.v 0)),
          (none, .call (some 15) 6 true [((.v 14), true), ((.c (.int .i64 20)), false)])])
        (.cond (.v 15)
         (.region [(16, 0, false)] [] [0, 4, 5, 6] false [
           (none, .mv 16 (.v 0)),
           (none, .call (some 17) 7 true [((.v 16), true), ((.c (.int .i64 2)), false)]),
           (none, .bin 18 .add (.c (.int .i64 8)) (.v 17)),
           (none, .asg 6 (.v 18) .copy)])
         (.skip [0, 4, 5, 6])))
       (.seq
        (.seq
         (.region [] [] [0, 4, 5, 7] false [
           (none, .mv 19 (.v 6)),
           (none, .asg 7 (.v 19) .copy)])
         (.block 0
          (.loop
           (.seq
            (.seq
             (.region [] [] [0, 4, 5, 7, 21] false [
               (none, .mv 20 (.v 7)),
               (none, .bin 21 .gtr (.v 20) (.c (.int .i64 0)))])
             (.cond (.v 21)
              (.skip [0, 4, 5, 7])
              (.exit 0 [0, 4, 5])))
            (.seq
             (.block 1
              (.seq
               (.region [(24, 0, false)] [] [0, 4, 5, 7, 8] false [
                 (none, .mv 24 (.v 0)),
                 (none, .mksl 25 1 (.int .i64 0) 8 [(0, (.c (.int .i64 6)), .copy), (1, (.c (.int .i64 8)), .copy), (2, (.c (.int .i64 9)), .copy), (3, (.c (.int .i64 10)), .copy), (4, (.c (.int .i64 12)), .copy), (5, (.c (.int .i64 15)), .copy), (6, (.c (.int .i64 7)), .copy), (7, (.c (.int .i64 25)), .copy)]),
                 (none, .call (some 26) 4 true [((.v 24), true), ((.v 25), false)]),
                 (none, .build 27 [(.int .i64 0), (.bool false)] [(0, 1, (.v 26), .copy)]),
                 (none, .new 8 (.agg [(.int .i64 0), (.bool false)])),
                 (none, .store 2 (.v 8) (.v 27) .copy)])
               (.seq
                (.region [(30, 8, false), (28, 0, false)] [] [0, 4, 5, 7, 8] false [
                  (none, .mv 28 (.v 0)),
                  (none, .call (some 29) 6 true [((.v 28), true), ((.c (.int .i64 3)), false)]),
                  (none, .fadr 30 1 1 (.v 8)),
                  (none, .store 1 (.v 30) (.v 29) .copy)])
                (.region [(31, 5, false)] [] [0, 4, 5, 7] false [
                  (none, .mv 31 (.v 5)),
                  (none, .load 32 true 2 (.v 8) none),
                  (none, .mksl 33 2 (.agg [(.int .i64 0), (.bool false)]) 1 [(0, (.v 32), .copy)]),
                  (none, .app 34 2 (.v 31) (.v 33) .move),
                  (none, .asg 5 (.v 34) .move)]))))
             (.region [] [] [0, 4, 5, 7] false [
               (none, .mv 22 (.v 7)),
               (none, .bin 23 .sub (.v 22) (.c (.int .i64 1))),
               (none, .asg 7 (.v 23) .copy)]))))))
        (.seq
         (.seq
          (.region [(35, 0, false)] [] [0, 4, 5, 36] false [
            (none, .mv 35 (.v 0)),
            (none, .call (some 36) 6 true [((.v 35), true), ((.c (.int .i64 24)), false)])])
          (.cond (.v 36)
           (.region [] [] [0, 4, 5] false [
             (none, .build 37 [(.int .i64 0), (.bool false)] [(0, 1, (.c (.int .i64 199)), .copy)]),
             (none, .build 38 [(.int .i64 0), (.bool false)] [(0, 1, (.c (.int .i64 197)), .copy)]),
             (none, .build 39 [(.int .i64 0), (.bool false)] [(0, 1, (.c (.int .i64 193)), .copy)]),
             (none, .build 40 [(.int .i64 0), (.bool false)] [(0, 1, (.c (.int .i64 191)), .copy)]),
             (none, .mksl 41 2 (.agg [(.int .i64 0), (.bool false)]) 4 [(0, (.v 37), .copy), (1, (.v 38), .copy), (2, (.v 39), .copy), (3, (.v 40), .copy)]),
             (none, .asg 5 (.v 41) .move)])
           (.skip [0, 4, 5])))
         (.seq
          (.seq
           (.region [(46, 0, false), (42, 5, false)] [] [0, 4, 5, 48] false [
             (none, .mv 42 (.v 5)),
             (none, .len 43 false (.v 42)),
             (none, .bin 44 .gtr (.v 43) (.c (.int .i64 0))),
             (none, .mv 45 (.v 44)),
             (some (45, true), .mv 46 (.v 0)),
             (some (45, true), .call (some 47) 6 true [((.v 46), true), ((.c (.int .i64 14)), false)]),
             (none, .pick 48 (.v 45) (.v 47) (.c (.bool false)))])
           (.cond (.v 48)
            (.region [(53, 5, false), (52, 5, false), (50, 0, false), (49, 5, false)] [] [0, 4, 5] false [
              (none, .mv 49 (.v 5)),
              (none, .mv 50 (.v 0)),
              (none, .call (some 51) 709 true [((.v 50), true)]),
              (none, .iadr 52 2 (.v 49) (.c (.int .i64 0))),
              (none, .fadr 53 0 1 (.v 52)),
              (none, .store 1 (.v 53) (.v 51) .copy)])
            (.skip [0, 4, 5])))
          (.seq
           (.region [(55, 5, false)] [] [0, 2, 3] false [
             (none, .mv 54 (.v 4)),
             (none, .mv 55 (.v 5)),
             (none, .asg 2 (.v 54) .copy),
             (none, .asg 3 (.v 55) .move)])
           (.ret [0, 2, 3]))))))))))⟩
def F708 : PFunc :=
 ⟨[true], [.tmp 2],
  (.seq
   (.region [] [] [0] false [
     (none, .asg 2 (.c (.int .i64 0)) .copy)])
   (.seq
    (.seq
     (.region [(3, 0, false)] [] [0, 4] false [
       (none, .mv 3 (.v 0)),
       (none, .call (some 4) 6 true [((.v 3), true), ((.c (.int .i64 10)), false)])])
     (.cond (.v 4)
      (.seq
       (.region [(5, 0, false)] [] [0, 2] false [
         (none, .mv 5 (.v 0)),
         (none, .mksl 6 1 (.int .i64 0) 5 [(0, (.c (.int .i64 (-1))), .copy), (1, (.c (.int .i64 0)), .copy), (2, (.c (.int .i64 100000)), .copy), (3, (.c (.int .i64 100001)), .copy), (4, (.c (.int .i64 (-9223372036854775808))), .copy)]),
         (none, .call (some 7) 4 true [((.v 5), true), ((.v 6), false)]),
         (none, .asg 2 (.v 7) .copy)])
       (.ret [0, 2]))
      (.skip [0])))
    (.seq
     (.region [(8, 0, false)] [] [0, 2] false [
       (none, .mv 8 (.v 0)),
       (none, .call (some 9) 7 true [((.v 8), true), ((.c (.int .i64 400)), false)]),
       (none, .asg 2 (.v 9) .copy)])
     (.ret [0, 2]))))⟩
def F713 : PFunc :=
 ⟨[true, false], [.tmp 4],
  (.seq
   (.region [] [] [0, 1] false [
     (none, .asg 4 (.c (.int .i64 0)) .copy)])
   (.seq
    (.region [(10, 0, false), (6, 1, false), (5, 0, false)] [] [0, 4] false [
      (none, .mv 5 (.v 0)),
      (none, .mv 6 (.v 1)),
      (none, .len 7 false (.v 6)),
      (none, .bin 8 .add (.v 7) (.c (.int .i64 1))),
      (none, .call (some 9) 7 true [((.v 5), true), ((.v 8), false)]),
      (none, .mv 10 (.v 0)),
      (none, .call (some 11) 7 true [((.v 10), true), ((.c (.int .i64 16)), false)]),
      (none, .bin 12 .quo (.v 11) (.c (.int .i64 15))),
      (none, .bin 13 .sub (.v 9) (.v 12)),
      (none, .asg 4 (.v 13) .copy)])
    (.ret [0, 4])))⟩
def F497 : PFunc :=
 ⟨[false], [.tmp 2, .tmp 3, .tmp 4, .tmp 5, .tmp 6],
  (.seq
   (.region [] [] [0] false [
     (none, .asg 2 (.c (.int .i64 0)) .copy),
     (none, .asg 3 (.c (.sl true 2 [])) .copy),
     (none, .asg 4 (.c (.int .i64 0)) .copy),
     (none, .asg 5 (.c (.int .i64 0)) .copy),
     (none, .asg 6 (.c (.int .i64 0)) .copy)])
   (.seq
    (.region [(12, 0, false)] [] [7] false [
      (none, .mv 12 (.v 0)),
      (none, .call (some 13) 603 true [((.v 12), false)]),
      (none, .asg 7 (.v 13) .move)])
    (.seq
     (.region [(15, 7, false)] [] [7, 8, 9] false [
       (none, .mv 15 (.v 7)),
       (none, .call (some 16) 707 true [((.v 15), true)]),
       (none, .asg 14 (.v 16) .move),
       (none, .extp 17 (.v 14) 0),
       (none, .ext 18 (.v 14) 1),
       (none, .asg 8 (.v 17) .copy),
       (none, .asg 9 (.v 18) .move)])
     (.seq
      (.region [(20, 9, false), (19, 7, false)] [] [7, 8, 9, 10] false [
        (none, .mv 19 (.v 7)),
        (none, .mv 20 (.v 9)),
        (none, .call (some 21) 713 true [((.v 19), true), ((.v 20), false)]),
        (none, .asg 10 (.v 21) .copy)])
      (.seq
       (.region [(22, 7, false)] [] [7, 8, 9, 10, 11] false [
         (none, .mv 22 (.v 7)),
         (none, .call (some 23) 708 true [((.v 22), true)]),
         (none, .asg 11 (.v 23) .copy)])
       (.seq
        (.seq
         (.region [(24, 7, false)] [] [7, 8, 9, 10, 11, 25] false [
           (none, .mv 24 (.v 7)),
           (none, .call (some 25) 6 true [((.v 24), true), ((.c (.int .i64 10)), false)])])
         (.cond (.v 25)
          (.seq
           (.region [(30, 7, false), (27, 9, false)] [] [2, 3, 4, 5, 6] false [
             (none, .mv 26 (.v 8)),
             (none, .mv 27 (.v 9)),
             (none, .mv 28 (.v 10)),
             (none, .mv 29 (.v 11)),
             (none, .mv 30 (.v 7)),
             (none, .mv 31 (.v 11)),
             (none, .mv 32 (.v 11)),
             (none, .bin 33 .add (.v 32) (.c (.int .i64 1))),
             (none, .mksl 34 1 (.int .i64 0) 4 [(0, (.c (.int .i64 (-1))), .copy), (1, (.c (.int .i64 0)), .copy), (2, (.v 31), .copy), (3, (.v 33), .copy)]),
             (none, .call (some 35) 4 true [((.v 30), true), ((.v 34), false)]),
             (none, .asg 2 (.v 26) .copy),
             (none, .asg 3 (.v 27) .move),
             (none, .asg 4 (.v 28) .copy),
             (none, .asg 5 (.v 29) .copy),
             (none, .asg 6 (.v 35) .copy)])
           (.ret [2, 3, 4, 5, 6]))
          (.skip [7, 8, 9, 10, 11])))
        (.seq
         (.region [(40, 7, false), (37, 9, false)] [] [2, 3, 4, 5, 6] false [
           (none, .mv 36 (.v 8)),
           (none, .mv 37 (.v 9)),
           (none, .mv 38 (.v 10)),
           (none, .mv 39 (.v 11)),
           (none, .mv 40 (.v 7)),
           (none, .call (some 41) 7 true [((.v 40), true), ((.c (.int .i64 6)), false)]),
           (none, .asg 2 (.v 36) .copy),
           (none, .asg 3 (.v 37) .move),
           (none, .asg 4 (.v 38) .copy),
           (none, .asg 5 (.v 39) .copy),
           (none, .asg 6 (.v 41) .copy)])
         (.ret [2, 3, 4, 5, 6]))))))))⟩
def F508 : PFunc :=
 ⟨[false], [.tmp 2, .tmp 3, .tmp 4, .tmp 5],
  (.seq
   (.region [] [] [0] false [
     (none, .asg 2 (.c (.int .i64 0)) .copy),
     (none, .asg 3 (.c (.sl true 2 [])) .copy),
     (none, .asg 4 (.c (.int .i64 0)) .copy),
     (none, .asg 5 (.c (.int .i64 0)) .copy)])
   (.seq
    (.region [(10, 0, false)] [] [6] false [
      (none, .mv 10 (.v 0)),
      (none, .call (some 11) 603 true [((.v 10), false)]),
      (none, .asg 6 (.v 11) .move)])
    (.seq
     (.region [(13, 6, false)] [] [6, 7, 8] false [
       (none, .mv 13 (.v 6)),
       (none, .call (some 14) 707 true [((.v 13), true)]),
       (none, .asg 12 (.v 14) .move),
       (none, .extp 15 (.v 12) 0),
       (none, .ext 16 (.v 12) 1),
       (none, .asg 7 (.v 15) .copy),
       (none, .asg 8 (.v 16) .move)])
     (.seq
      (.region [(18, 8, false), (17, 6, false)] [] [6, 7, 8, 9] false [
        (none, .mv 17 (.v 6)),
        (none, .mv 18 (.v 8)),
        (none, .call (some 19) 713 true [((.v 17), true), ((.v 18), false)]),
        (none, .asg 9 (.v 19) .copy)])
      (.seq
       (.region [(23, 6, false), (21, 8, false)] [] [2, 3, 4, 5] false [
         (none, .mv 20 (.v 7)),
         (none, .mv 21 (.v 8)),
         (none, .mv 22 (.v 9)),
         (none, .mv 23 (.v 6)),
         (none, .call (some 24) 708 true [((.v 23), true)]),
         (none, .asg 2 (.v 20) .copy),
         (none, .asg 3 (.v 21) .move),
         (none, .asg 4 (.v 22) .copy),
         (none, .asg 5 (.v 24) .copy)])
       (.ret [2, 3, 4, 5]))))))⟩
def F604 : PFunc :=
 ⟨[false, false], [.tmp 4],
  (.seq
   (.region [] [] [0, 1] false [
     (none, .asg 4 (.c (.int .i64 0)) .copy)])
   (.seq
    (.block 0
     (.loop
      (.seq
       (.seq
        (.region [] [] [0, 1, 7] false [
          (none, .mv 6 (.v 1)),
          (none, .bin 7 .neq (.v 6) (.c (.int .i64 0)))])
        (.cond (.v 7)
         (.skip [0, 1])
         (.exit 0 [0])))
       (.block 1
        (.seq
         (.region [] [] [1, 5] false [
           (none, .mv 8 (.v 0)),
           (none, .mv 9 (.v 1)),
           (none, .bin 10 .rem (.v 8) (.v 9)),
           (none, .asg 5 (.v 10) .copy)])
         (.seq
          (.region [] [] [0, 5] false [
            (none, .mv 11 (.v 1)),
            (none, .asg 0 (.v 11) .copy)])
          (.region [] [] [0, 1] false [
            (none, .mv 12 (.v 5)),
            (none, .asg 1 (.v 12) .copy)])))))))
    (.seq
     (.region [] [] [4] false [
       (none, .mv 13 (.v 0)),
       (none, .asg 4 (.v 13) .copy)])
     (.ret [4]))))⟩
def F611 : PFunc :=
 ⟨[false], [.tmp 2],
  (.seq
   (.region [] [] [0] false [
     (none, .asg 2 (.c (.int .i64 0)) .copy)])
   (.seq
    (.seq
     (.region [] [] [0, 4] false [
       (none, .mv 3 (.v 0)),
       (none, .bin 4 .lss (.v 3) (.c (.int .i64 0)))])
     (.cond (.v 4)
      (.seq
       (.region [] [] [2] false [
         (none, .mv 5 (.v 0)),
         (none, .un 6 .neg (.v 5)),
         (none, .asg 2 (.v 6) .copy)])
       (.ret [2]))
      (.skip [0])))
    (.seq
     (.region [] [] [2] false [
       (none, .mv 7 (.v 0)),
       (none, .asg 2 (.v 7) .copy)])
     (.ret [2]))))⟩
def F616 : PFunc :=
 ⟨[false, false], [.cell 4 true 2],
  (.seq
   (.region [] [] [0, 1, 4] false [
     (none, .new 4 (.agg [(.int .i64 0), (.int .i64 0)]))])
   (.seq
    (.region [] [] [0, 1, 4, 5] false [
      (none, .mv 6 (.v 0)),
      (none, .call (some 7) 611 false [((.v 6), false)]),
      (none, .mv 8 (.v 1)),
      (none, .call (some 9) 604 false [((.v 7), false), ((.v 8), false)]),
      (none, .asg 5 (.v 9) .copy)])
    (.seq
     (.region [] [] [4] true [
       (none, .mv 10 (.v 0)),
       (none, .mv 11 (.v 5)),
       (none, .bin 12 .quo (.v 10) (.v 11)),
       (none, .mv 13 (.v 1)),
       (none, .mv 14 (.v 5)),
       (none, .bin 15 .quo (.v 13) (.v 14)),
       (none, .build 16 [(.int .i64 0), (.int .i64 0)] [(0, 1, (.v 12), .copy), (1, 1, (.v 15), .copy)]),
       (none, .store 2 (.v 4) (.v 16) .copy)])
     (.ret [4]))))⟩
def F615 : PFunc :=
 ⟨[true], [.cell 2 true 2],
  (.seq
   (.region [] [] [0, 2] false [
     (none, .new 2 (.agg [(.int .i64 0), (.int .i64 0)]))])
   (.seq
    (.region [(4, 0, false)] [] [0, 2, 3] false [
      (none, .mv 4 (.v 0)),
      (none, .call (some 5) 7 true [((.v 4), true), ((.c (.int .i64 60)), false)]),
      (none, .bin 6 .sub (.v 5) (.c (.int .i64 15))),
      (none, .asg 3 (.v 6) .copy)])
    (.seq
     (.region [(8, 0, false)] [] [0, 2] false [
       (none, .mv 7 (.v 3)),
       (none, .mv 8 (.v 0)),
       (none, .call (some 9) 7 true [((.v 8), true), ((.c (.int .i64 20)), false)]),
       (none, .bin 10 .add (.c (.int .i64 1)) (.v 9)),
       (none, .call (some 11) 616 false [((.v 7), false), ((.v 10), false)]),
       (none, .store 2 (.v 2) (.v 11) .copy)])
     (.ret [0, 2]))))⟩
def F614 : PFunc :=
 ⟨[true], [.cell 2 true 2],
  (.seq
   (.region [] [] [0, 2] false [
     (none, .new 2 (.agg [(.int .i64 0), (.int .i64 0)]))])
   (.seq
    (.region [(4, 0, false)] [] [0, 2, 3] false [
      (none, .mv 4 (.v 0)),
      (none, .call (some 5) 615 true [((.v 4), true)]),
      (none, .new 3 (.agg [(.int .i64 0), (.int .i64 0)])),
      (none, .store 2 (.v 3) (.v 5) .copy)])
    (.seq
     (.seq
      (.region [(6, 0, false)] [] [0, 2, 3, 7] false [
        (none, .mv 6 (.v 0)),
        (none, .call (some 7) 7 true [((.v 6), true), ((.c (.int .i64 20)), false)])])
      (.block 0
       (.seq
        (.region [] [] [0, 2, 3, 7, 8] false [
          (none, .bin 9 .eql (.v 7) (.c (.int .i64 0))),
          (none, .asg 8 (.v 9) .copy)])
        (.cond (.v 8)
         (.region [(13, 3, false), (10, 0, false)] [] [0, 2, 3] false [
           (none, .mv 10 (.v 0)),
           (none, .mksl 11 1 (.int .i64 0) 5 [(0, (.c (.int .i64 (-1))), .copy), (1, (.c (.int .i64 0)), .copy), (2, (.c (.int .i64 1)), .copy), (3, (.c (.int .i64 1000000)), .copy), (4, (.c (.int .i64 1000001)), .copy)]),
           (none, .call (some 12) 4 true [((.v 10), true), ((.v 11), false)]),
           (none, .fadr 13 1 1 (.v 3)),
           (none, .store 1 (.v 13) (.v 12) .copy)])
         (.seq
          (.region [] [] [0, 2, 3, 7, 14] false [
            (none, .bin 15 .eql (.v 7) (.c (.int .i64 1))),
            (none, .asg 14 (.v 15) .copy)])
          (.cond (.v 14)
           (.region [(19, 3, false), (16, 0, false)] [] [0, 2, 3] false [
             (none, .mv 16 (.v 0)),
             (none, .mksl 17 1 (.int .i64 0) 5 [(0, (.c (.int .i64 (-1000001))), .copy), (1, (.c (.int .i64 (-1000000))), .copy), (2, (.c (.int .i64 1000000)), .copy), (3, (.c (.int .i64 1000001)), .copy), (4, (.c (.int .i64 (-9223372036854775808))), .copy)]),
             (none, .call (some 18) 4 true [((.v 16), true), ((.v 17), false)]),
             (none, .fadr 19 0 1 (.v 3)),
             (none, .store 1 (.v 19) (.v 18) .copy)])
           (.seq
            (.region [] [] [0, 2, 3, 7, 20] false [
              (none, .bin 21 .eql (.v 7) (.c (.int .i64 2))),
              (none, .asg 20 (.v 21) .copy)])
            (.cond (.v 20)
             (.region [(22, 0, false)] [] [0, 2, 3] false [
               (none, .mv 22 (.v 0)),
               (none, .call (some 23) 7 true [((.v 22), true), ((.c (.int .i64 5)), false)]),
               (none, .bin 24 .mul (.c (.int .i64 2)) (.v 23)),
               (none, .build 25 [(.int .i64 0), (.int .i64 0)] [(0, 1, (.v 24), .copy), (1, 1, (.c (.int .i64 4)), .copy)]),
               (none, .store 2 (.v 3) (.v 25) .copy)])
             (.seq
              (.region [] [] [0, 2, 3, 26] false [
                (none, .bin 27 .eql (.v 7) (.c (.int .i64 3))),
                (none, .asg 26 (.v 27) .copy)])
              (.cond (.v 26)
               (.region [(28, 0, false)] [] [0, 2, 3] false [
                 (none, .mv 28 (.v 0)),
                 (none, .call (some 29) 7 true [((.v 28), true), ((.c (.int .i64 3)), false)]),
                 (none, .bin 30 .sub (.c (.int .i64 999983)) (.v 29)),
                 (none, .build 31 [(.int .i64 0), (.int .i64 0)] [(0, 1, (.v 30), .copy), (1, 1, (.c (.int .i64 1000000)), .copy)]),
                 (none, .store 2 (.v 3) (.v 31) .copy)])
               (.skip [0, 2, 3])))))))))))
     (.seq
      (.region [] [] [0, 2] false [
        (none, .load 32 true 2 (.v 3) none),
        (none, .store 2 (.v 2) (.v 32) .copy)])
      (.ret [0, 2])))))⟩
def F510 : PFunc :=
 ⟨[false], [.tmp 2, .cell 3 true 2],
  (.seq
   (.region [] [] [0, 3] false [
     (none, .asg 2 (.c (.int .i64 0)) .copy),
     (none, .new 3 (.agg [(.int .i64 0), (.int .i64 0)]))])
   (.seq
    (.region [(6, 0, false)] [] [3, 4] false [
      (none, .mv 6 (.v 0)),
      (none, .call (some 7) 603 true [((.v 6), false)]),
      (none, .asg 4 (.v 7) .move)])
    (.seq
     (.region [(8, 4, false)] [] [3, 4, 5] false [
       (none, .mv 8 (.v 4)),
       (none, .call (some 9) 709 true [((.v 8), true)]),
       (none, .asg 5 (.v 9) .copy)])
     (.seq
      (.seq
       (.region [(10, 4, false)] [] [3, 4, 5, 11] false [
         (none, .mv 10 (.v 4)),
         (none, .call (some 11) 7 true [((.v 10), true), ((.c (.int .i64 10)), false)])])
       (.block 0
        (.seq
         (.region [] [] [3, 4, 5, 11, 12] false [
           (none, .bin 13 .eql (.v 11) (.c (.int .i64 0))),
           (none, .asg 12 (.v 13) .copy)])
         (.cond (.v 12)
          (.seq
           (.region [(15, 4, false)] [] [2, 3] false [
             (none, .mv 14 (.v 5)),
             (none, .mv 15 (.v 4)),
             (none, .call (some 16) 614 true [((.v 15), true)]),
             (none, .asg 2 (.v 14) .copy),
             (none, .store 2 (.v 3) (.v 16) .copy)])
           (.ret [2, 3]))
          (.seq
           (.region [] [] [3, 4, 5, 11, 17] false [
             (none, .bin 18 .eql (.v 11) (.c (.int .i64 1))),
             (none, .asg 17 (.v 18) .copy)])
           (.cond (.v 17)
            (.seq
             (.region [(20, 4, false)] [] [2, 3] false [
               (none, .mv 19 (.v 5)),
               (none, .mv 20 (.v 4)),
               (none, .mksl 21 1 (.int .i64 0) 5 [(0, (.c (.int .i64 (-1))), .copy), (1, (.c (.int .i64 0)), .copy), (2, (.c (.int .i64 1)), .copy), (3, (.c (.int .i64 1000)), .copy), (4, (.c (.int .i64 1001)), .copy)]),
               (none, .call (some 22) 4 true [((.v 20), true), ((.v 21), false)]),
               (none, .build 23 [(.int .i64 0), (.int .i64 0)] [(0, 1, (.v 22), .copy), (1, 1, (.c (.int .i64 1)), .copy)]),
               (none, .asg 2 (.v 19) .copy),
               (none, .store 2 (.v 3) (.v 23) .copy)])
             (.ret [2, 3]))
            (.seq
             (.region [] [] [3, 4, 5, 24] false [
               (none, .bin 25 .eql (.v 11) (.c (.int .i64 2))),
               (none, .asg 24 (.v 25) .copy)])
             (.cond (.v 24)
              (.seq
               (.region [(27, 4, false)] [] [2, 3] false [
                 (none, .mv 26 (.v 5)),
                 (none, .mv 27 (.v 4)),
                 (none, .mksl 28 1 (.int .i64 0) 2 [(0, (.c (.int .i64 1000)), .copy), (1, (.c (.int .i64 1001)), .copy)]),
                 (none, .call (some 29) 4 true [((.v 27), true), ((.v 28), false)]),
                 (none, .build 30 [(.int .i64 0), (.int .i64 0)] [(0, 1, (.c (.int .i64 1)), .copy), (1, 1, (.v 29), .copy)]),
                 (none, .asg 2 (.v 26) .copy),
                 (none, .store 2 (.v 3) (.v 30) .copy)])
               (.ret [2, 3]))
              (.skip [3, 4, 5])))))))))
      (.seq
       (.region [(35, 4, false), (32, 4, false)] [] [2, 3] false [
         (none, .mv 31 (.v 5)),
         (none, .mv 32 (.v 4)),
         (none, .call (some 33) 7 true [((.v 32), true), ((.c (.int .i64 12)), false)]),
         (none, .bin 34 .add (.c (.int .i64 1)) (.v 33)),
         (none, .mv 35 (.v 4)),
         (none, .call (some 36) 7 true [((.v 35), true), ((.c (.int .i64 12)), false)]),
         (none, .bin 37 .add (.c (.int .i64 1)) (.v 36)),
         (none, .call (some 38) 616 false [((.v 34), false), ((.v 37), false)]),
         (none, .asg 2 (.v 31) .copy),
         (none, .store 2 (.v 3) (.v 38) .copy)])
       (.ret [2, 3]))))))⟩
def F605 : PFunc :=
 ⟨[false, false, false], [.tmp 6],
  (.seq
   (.region [] [] [0, 1, 2] false [
     (none, .asg 6 (.c (.bool false)) .copy)])
   (.seq
    (.region [] [] [6] false [
      (none, .mv 7 (.v 0)),
      (none, .mv 8 (.v 1)),
      (none, .bin 9 .geq (.v 7) (.v 8)),
      (none, .mv 10 (.v 9)),
      (some (10, true), .mv 11 (.v 0)),
      (some (10, true), .mv 12 (.v 2)),
      (some (10, true), .bin 13 .leq (.v 11) (.v 12)),
      (none, .pick 14 (.v 10) (.v 13) (.c (.bool false))),
      (none, .asg 6 (.v 14) .copy)])
    (.ret [6])))⟩
def F607 : PFunc :=
 ⟨[false, false], [.tmp 4],
  (.seq
   (.region [] [] [0, 1] false [
     (none, .asg 4 (.c (.int .i64 0)) .copy)])
   (.seq
    (.seq
     (.region [] [] [0, 1, 7] false [
       (none, .mv 5 (.v 0)),
       (none, .mv 6 (.v 1)),
       (none, .bin 7 .lss (.v 5) (.v 6))])
     (.cond (.v 7)
      (.seq
       (.region [] [] [4] false [
         (none, .mv 8 (.v 0)),
         (none, .asg 4 (.v 8) .copy)])
       (.ret [4]))
      (.skip [1])))
    (.seq
     (.region [] [] [4] false [
       (none, .mv 9 (.v 1)),
       (none, .asg 4 (.v 9) .copy)])
     (.ret [4]))))⟩
def F710 : PFunc :=
 ⟨[false], [.tmp 2],
  (.seq
   (.region [] [] [0] false [
     (none, .asg 2 (.c (.bool false)) .copy)])
   (.seq
    (.region [] [] [2] false [
      (none, .mv 3 (.v 0)),
      (none, .call (some 4) 605 false [((.v 3), false), ((.c (.int .i64 0)), false), ((.c (.int .i64 100000)), false)]),
      (none, .asg 2 (.v 4) .copy)])
    (.ret [2])))⟩
def F716 : PFunc :=
 ⟨[false], [.tmp 2],
  (.seq
   (.region [] [] [0] false [
     (none, .asg 2 (.c (.bool false)) .copy)])
   (.seq
    (.region [] [] [2] false [
      (none, .mv 3 (.v 0)),
      (none, .call (some 4) 605 false [((.v 3), false), ((.c (.int .i64 2)), false), ((.c (.int .i64 200)), false)]),
      (none, .asg 2 (.v 4) .copy)])
    (.ret [2])))⟩
def F711 : PFunc :=
 ⟨[false, false], [.tmp 4],
  (.seq
   (.region [] [] [0, 1] false [
     (none, .asg 4 (.c (.bool false)) .copy)])
   (.seq
    (.seq
     (.region [] [] [0, 1, 5] false [
       (none, .asg 5 (.c (.int .i64 0)) .copy)])
     (.block 0
      (.loop
       (.seq
        (.seq
         (.region [(7, 1, false)] [] [0, 1, 5, 9] false [
           (none, .mv 6 (.v 5)),
           (none, .mv 7 (.v 1)),
           (none, .len 8 false (.v 7)),
           (none, .bin 9 .lss (.v 6) (.v 8))])
         (.cond (.v 9)
          (.skip [0, 1, 5])
          (.exit 0 [0, 1])))
        (.seq
         (.block 1
          (.seq
           (.region [(15, 1, false), (14, 1, false), (12, 1, false)] [] [0, 1, 5, 18] false [
             (none, .mv 12 (.v 1)),
             (none, .mv 13 (.v 5)),
             (none, .iadr 14 2 (.v 12) (.v 13)),
             (none, .fadr 15 0 1 (.v 14)),
             (none, .load 16 false 1 (.v 15) none),
             (none, .call (some 17) 716 false [((.v 16), false)]),
             (none, .un 18 .not (.v 17))])
           (.cond (.v 18)
            (.seq
             (.region [] [] [4] false [
               (none, .asg 4 (.c (.bool false)) .copy)])
             (.ret [4]))
            (.skip [0, 1, 5]))))
         (.region [] [] [0, 1, 5] false [
           (none, .mv 10 (.v 5)),
           (none, .bin 11 .add (.v 10) (.c (.int .i64 1))),
           (none, .asg 5 (.v 11) .copy)]))))))
    (.seq
     (.region [(22, 1, false)] [] [4] false [
       (none, .mv 19 (.v 0)),
       (none, .call (some 20) 716 false [((.v 19), false)]),
       (none, .mv 21 (.v 20)),
       (some (21, true), .mv 22 (.v 1)),
       (some (21, true), .len 23 false (.v 22)),
       (some (21, true), .bin 24 .leq (.v 23) (.c (.int .i64 8))),
       (none, .pick 25 (.v 21) (.v 24) (.c (.bool false))),
       (none, .asg 4 (.v 25) .copy)])
     (.ret [4]))))⟩
def F712 : PFunc :=
 ⟨[false, false, false], [.tmp 6],
  (.seq
   (.region [] [] [0, 1, 2] false [
     (none, .asg 6 (.c (.int .i64 0)) .copy)])
   (.seq
    (.seq
     (.region [(8, 1, false)] [] [1, 2, 10] false [
       (none, .mv 7 (.v 0)),
       (none, .mv 8 (.v 1)),
       (none, .call (some 9) 711 false [((.v 7), false), ((.v 8), false)]),
       (none, .un 10 .not (.v 9))])
     (.cond (.v 10)
      (.seq
       (.region [] [] [6] false [
         (none, .asg 6 (.c (.int .i64 1)) .copy)])
       (.ret [6]))
      (.skip [1, 2])))
    (.seq
     (.seq
      (.region [(12, 1, false)] [] [16] false [
        (none, .mv 11 (.v 2)),
        (none, .mv 12 (.v 1)),
        (none, .len 13 false (.v 12)),
        (none, .bin 14 .sub (.v 13) (.c (.int .i64 1))),
        (none, .call (some 15) 605 false [((.v 11), false), ((.c (.int .i64 0)), false), ((.v 14), false)]),
        (none, .un 16 .not (.v 15))])
      (.cond (.v 16)
       (.seq
        (.region [] [] [6] false [
          (none, .asg 6 (.c (.int .i64 2)) .copy)])
        (.ret [6]))
       (.skip [])))
     (.seq
      (.region [] [] [6] false [
        (none, .asg 6 (.c (.int .i64 0)) .copy)])
      (.ret [6])))))⟩
def F714 : PFunc :=
 ⟨[false, false], [.tmp 4],
  (.seq
   (.region [] [] [0, 1] false [
     (none, .asg 4 (.c (.int .i64 0)) .copy)])
   (.seq
    (.region [(9, 0, false), (8, 0, false), (7, 0, false)] [] [0, 5] false [
      (none, .mv 6 (.v 1)),
      (none, .mv 7 (.v 0)),
      (none, .nchk 8 (.v 7)),
      (none, .fadr 9 0 1 (.v 8)),
      (none, .load 10 false 1 (.v 9) none),
      (none, .bin 11 .rem (.v 6) (.v 10)),
      (none, .asg 5 (.v 11) .copy)])
    (.seq
     (.seq
      (.region [(14, 0, false), (13, 0, false), (12, 0, false)] [] [0, 5, 19] false [
        (none, .mv 12 (.v 0)),
        (none, .nchk 13 (.v 12)),
        (none, .fadr 14 1 1 (.v 13)),
        (none, .load 15 false 1 (.v 14) none),
        (none, .mv 16 (.v 15)),
        (some (16, true), .mv 17 (.v 5)),
        (some (16, true), .bin 18 .gtr (.v 17) (.c (.int .i64 0))),
        (none, .pick 19 (.v 16) (.v 18) (.c (.bool false)))])
      (.cond (.v 19)
       (.seq
        (.region [(22, 0, false), (21, 0, false), (20, 0, false)] [] [4] false [
          (none, .mv 20 (.v 0)),
          (none, .nchk 21 (.v 20)),
          (none, .fadr 22 0 1 (.v 21)),
          (none, .load 23 false 1 (.v 22) none),
          (none, .mv 24 (.v 5)),
          (none, .bin 25 .sub (.v 23) (.v 24)),
          (none, .asg 4 (.v 25) .copy)])
        (.ret [4]))
       (.skip [5])))
     (.seq
      (.region [] [] [4] false [
        (none, .mv 26 (.v 5)),
        (none, .asg 4 (.v 26) .copy)])
      (.ret [4])))))⟩
def F572 : PFunc :=
 ⟨[false, false, false, false, false], [.tmp 10, .tmp 11],
  (.seq
   (.region [] [] [0, 1, 2, 3, 4] false [
     (none, .asg 10 (.c (.int .i64 0)) .copy),
     (none, .asg 11 (.c (.int .i64 0)) .copy)])
   (.seq
    (.region [(15, 1, false)] [] [1, 2, 3, 4, 12] false [
      (none, .mv 14 (.v 0)),
      (none, .mv 15 (.v 1)),
      (none, .mv 16 (.v 2)),
      (none, .call (some 17) 712 false [((.v 14), false), ((.v 15), false), ((.v 16), false)]),
      (none, .asg 12 (.v 17) .copy)])
    (.seq
     (.seq
      (.region [] [] [1, 2, 3, 4, 12, 30] false [
        (none, .mv 18 (.v 12)),
        (none, .bin 19 .eql (.v 18) (.c (.int .i64 0))),
        (none, .mv 20 (.v 19)),
        (some (20, true), .mv 21 (.v 3)),
        (some (20, true), .call (some 22) 710 false [((.v 21), false)]),
        (some (20, true), .un 23 .not (.v 22)),
        (some (20, true), .mv 24 (.v 23)),
        (some (24, false), .mv 25 (.v 4)),
        (some (24, false), .mv 26 (.v 3)),
        (some (24, false), .call (some 27) 605 false [((.v 25), false), ((.c (.int .i64 0)), false), ((.v 26), false)]),
        (some (24, false), .un 28 .not (.v 27)),
        (some (20, true), .pick 29 (.v 24) (.c (.bool true)) (.v 28)),
        (none, .pick 30 (.v 20) (.v 29) (.c (.bool false)))])
      (.cond (.v 30)
       (.region [] [] [1, 2, 3, 4, 12] false [
         (none, .asg 12 (.c (.int .i64 2)) .copy)])
       (.skip [1, 2, 3, 4, 12])))
     (.seq
      (.seq
       (.region [] [] [1, 2, 3, 4, 12, 32] false [
         (none, .mv 31 (.v 12)),
         (none, .bin 32 .neq (.v 31) (.c (.int .i64 0)))])
       (.cond (.v 32)
        (.seq
         (.region [] [] [10, 11] false [
           (none, .mv 33 (.v 12)),
           (none, .asg 10 (.c (.int .i64 0)) .copy),
           (none, .asg 11 (.v 33) .copy)])
         (.ret [10, 11]))
        (.skip [1, 2, 3, 4])))
      (.seq
       (.region [(41, 1, false), (39, 1, false), (36, 1, false), (34, 1, false)] [] [1, 2, 13] true [
         (none, .mv 34 (.v 1)),
         (none, .mv 35 (.v 2)),
         (none, .iadr 36 2 (.v 34) (.v 35)),
         (none, .mv 37 (.v 3)),
         (none, .call (some 38) 714 false [((.v 36), false), ((.v 37), false)]),
         (none, .mv 39 (.v 1)),
         (none, .mv 40 (.v 2)),
         (none, .iadr 41 2 (.v 39) (.v 40)),
         (none, .mv 42 (.v 3)),
         (none, .mv 43 (.v 4)),
         (none, .bin 44 .sub (.v 42) (.v 43)),
         (none, .call (some 45) 714 false [((.v 41), false), ((.v 44), false)]),
         (none, .bin 46 .sub (.v 38) (.v 45)),
         (none, .call (some 47) 611 false [((.v 46), false)]),
         (none, .asg 13 (.v 47) .copy)])
       (.seq
        (.region [(52, 1, false), (51, 1, false), (49, 1, false)] [] [10, 11] false [
          (none, .mv 48 (.v 13)),
          (none, .mv 49 (.v 1)),
          (none, .mv 50 (.v 2)),
          (none, .iadr 51 2 (.v 49) (.v 50)),
          (none, .fadr 52 0 1 (.v 51)),
          (none, .load 53 false 1 (.v 52) none),
          (none, .mv 54 (.v 13)),
          (none, .bin 55 .sub (.v 53) (.v 54)),
          (none, .call (some 56) 607 false [((.v 48), false), ((.v 55), false)]),
          (none, .asg 10 (.v 56) .copy),
          (none, .asg 11 (.c (.int .i64 0)) .copy)])
        (.ret [10, 11])))))))⟩
def F586 : PFunc :=
 ⟨[false, false, false, false], [.cell 8 true 2, .tmp 9],
  (.seq
   (.region [] [] [0, 1, 2, 3, 8] false [
     (none, .new 8 (.agg [(.int .i64 0), (.int .i64 0)])),
     (none, .asg 9 (.c (.int .i64 0)) .copy)])
   (.seq
    (.region [(13, 1, false)] [] [0, 1, 2, 3, 8, 10] false [
      (none, .mv 12 (.v 0)),
      (none, .mv 13 (.v 1)),
      (none, .mv 14 (.v 2)),
      (none, .call (some 15) 712 false [((.v 12), false), ((.v 13), false), ((.v 14), false)]),
      (none, .asg 10 (.v 15) .copy)])
    (.seq
     (.seq
      (.region [] [] [0, 1, 2, 3, 8, 10, 22] false [
        (none, .mv 16 (.v 10)),
        (none, .bin 17 .eql (.v 16) (.c (.int .i64 0))),
        (none, .mv 18 (.v 17)),
        (some (18, true), .mv 19 (.v 3)),
        (some (18, true), .call (some 20) 710 false [((.v 19), false)]),
        (some (18, true), .un 21 .not (.v 20)),
        (none, .pick 22 (.v 18) (.v 21) (.c (.bool false)))])
      (.cond (.v 22)
       (.region [] [] [0, 1, 2, 3, 8, 10] false [
         (none, .asg 10 (.c (.int .i64 2)) .copy)])
       (.skip [0, 1, 2, 3, 8, 10])))
     (.seq
      (.seq
       (.region [] [] [0, 1, 2, 3, 8, 10, 24] false [
         (none, .mv 23 (.v 10)),
         (none, .bin 24 .neq (.v 23) (.c (.int .i64 0)))])
       (.cond (.v 24)
        (.seq
         (.region [] [] [8, 9] false [
           (none, .build 25 [(.int .i64 0), (.int .i64 0)] []),
           (none, .mv 26 (.v 10)),
           (none, .store 2 (.v 8) (.v 25) .copy),
           (none, .asg 9 (.v 26) .copy)])
         (.ret [8, 9]))
        (.skip [0, 1, 2, 3, 8])))
      (.seq
       (.region [] [] [1, 2, 8, 11] false [
         (none, .mv 27 (.v 3)),
         (none, .mv 28 (.v 0)),
         (none, .bin 29 .mul (.v 27) (.v 28)),
         (none, .asg 11 (.v 29) .copy)])
       (.seq
        (.seq
         (.region [(33, 1, false), (32, 1, false), (30, 1, false)] [] [1, 2, 8, 11, 34] false [
           (none, .mv 30 (.v 1)),
           (none, .mv 31 (.v 2)),
           (none, .iadr 32 2 (.v 30) (.v 31)),
           (none, .fadr 33 1 1 (.v 32)),
           (none, .load 34 false 1 (.v 33) none)])
         (.cond (.v 34)
          (.region [] [] [1, 2, 8, 11] false [
            (none, .mv 35 (.v 11)),
            (none, .un 36 .neg (.v 35)),
            (none, .asg 11 (.v 36) .copy)])
          (.skip [1, 2, 8, 11])))
        (.seq
         (.region [(41, 1, false), (40, 1, false), (38, 1, false)] [] [8, 9] false [
           (none, .mv 37 (.v 11)),
           (none, .mv 38 (.v 1)),
           (none, .mv 39 (.v 2)),
           (none, .iadr 40 2 (.v 38) (.v 39)),
           (none, .fadr 41 0 1 (.v 40)),
           (none, .load 42 false 1 (.v 41) none),
           (none, .call (some 43) 616 false [((.v 37), false), ((.v 42), false)]),
           (none, .store 2 (.v 8) (.v 43) .copy),
           (none, .asg 9 (.c (.int .i64 0)) .copy)])
         (.ret [8, 9]))))))))⟩
def F617 : PFunc :=
 ⟨[false], [.tmp 2],
  (.seq
   (.region [] [] [1] false [
     (none, .box 1 (.v 0) .copy),
     (none, .asg 2 (.c (.bool false)) .copy)])
   (.seq
    (.region [(15, 1, false), (12, 1, false), (7, 1, false), (3, 1, false)] [] [2] true [
      (none, .fadr 3 1 1 (.v 1)),
      (none, .load 4 false 1 (.v 3) none),
      (none, .call (some 5) 605 false [((.v 4), false), ((.c (.int .i64 1)), false), ((.c (.int .i64 1000000)), false)]),
      (none, .mv 6 (.v 5)),
      (some (6, true), .fadr 7 0 1 (.v 1)),
      (some (6, true), .load 8 false 1 (.v 7) none),
      (some (6, true), .call (some 9) 605 false [((.v 8), false), ((.c (.int .i64 (-1000000))), false), ((.c (.int .i64 1000000)), false)]),
      (none, .pick 10 (.v 6) (.v 9) (.c (.bool false))),
      (none, .mv 11 (.v 10)),
      (some (11, true), .fadr 12 0 1 (.v 1)),
      (some (11, true), .load 13 false 1 (.v 12) none),
      (some (11, true), .call (some 14) 611 false [((.v 13), false)]),
      (some (11, true), .fadr 15 1 1 (.v 1)),
      (some (11, true), .load 16 false 1 (.v 15) none),
      (some (11, true), .call (some 17) 604 false [((.v 14), false), ((.v 16), false)]),
      (some (11, true), .bin 18 .eql (.v 17) (.c (.int .i64 1))),
      (none, .pick 19 (.v 11) (.v 18) (.c (.bool false))),
      (none, .asg 2 (.v 19) .copy)])
    (.ret [2])))⟩
def F599 : PFunc :=
 ⟨[false, false], [.tmp 4, .tmp 5],
  (.seq
   (.region [] [] [0, 3] false [
     (none, .box 3 (.v 1) .copy),
     (none, .asg 4 (.c (.int .i64 0)) .copy),
     (none, .asg 5 (.c (.int .i64 0)) .copy)])
   (.seq
    (.seq
     (.region [] [] [0, 3, 17] false [
       (none, .load 10 true 2 (.v 3) none),
       (none, .call (some 11) 617 false [((.v 10), false)]),
       (none, .un 12 .not (.v 11)),
       (none, .mv 13 (.v 12)),
       (some (13, false), .mv 14 (.v 0)),
       (some (13, false), .call (some 15) 716 false [((.v 14), false)]),
       (some (13, false), .un 16 .not (.v 15)),
       (none, .pick 17 (.v 13) (.c (.bool true)) (.v 16))])
     (.cond (.v 17)
      (.seq
       (.region [] [] [4, 5] false [
         (none, .asg 4 (.c (.int .i64 0)) .copy),
         (none, .asg 5 (.c (.int .i64 1)) .copy)])
       (.ret [4, 5]))
      (.skip [0, 3])))
    (.seq
     (.seq
      (.region [(23, 3, false), (18, 3, false)] [] [0, 3, 26] false [
        (none, .fadr 18 0 1 (.v 3)),
        (none, .load 19 false 1 (.v 18) none),
        (none, .call (some 20) 605 false [((.v 19), false), ((.c (.int .i64 1)), false), ((.c (.int .i64 1000)), false)]),
        (none, .un 21 .not (.v 20)),
        (none, .mv 22 (.v 21)),
        (some (22, false), .fadr 23 1 1 (.v 3)),
        (some (22, false), .load 24 false 1 (.v 23) none),
        (some (22, false), .bin 25 .gtr (.v 24) (.c (.int .i64 1000))),
        (none, .pick 26 (.v 22) (.c (.bool true)) (.v 25))])
      (.cond (.v 26)
       (.seq
        (.region [] [] [4, 5] false [
          (none, .asg 4 (.c (.int .i64 0)) .copy),
          (none, .asg 5 (.c (.int .i64 2)) .copy)])
        (.ret [4, 5]))
       (.skip [0, 3])))
     (.seq
      (.region [] [] [0, 3, 6] false [
        (none, .asg 6 (.c (.int .i64 2)) .copy)])
      (.seq
       (.seq
        (.region [] [] [0, 3, 6, 7] false [
          (none, .asg 7 (.c (.int .i64 3)) .copy)])
        (.block 0
         (.loop
          (.seq
           (.seq
            (.region [] [] [0, 3, 6, 7, 28] false [
              (none, .mv 27 (.v 7)),
              (none, .bin 28 .leq (.v 27) (.c (.int .i64 200)))])
            (.cond (.v 28)
             (.skip [0, 3, 6, 7])
             (.exit 0 [6])))
           (.seq
            (.block 1
             (.seq
              (.region [(35, 3, false), (32, 3, false)] [] [0, 3, 6, 7, 8] false [
                (none, .mv 31 (.v 0)),
                (none, .fadr 32 1 1 (.v 3)),
                (none, .load 33 false 1 (.v 32) none),
                (none, .bin 34 .mul (.v 31) (.v 33)),
                (none, .fadr 35 0 1 (.v 3)),
                (none, .load 36 false 1 (.v 35) none),
                (none, .mv 37 (.v 7)),
                (none, .bin 38 .mul (.v 36) (.v 37)),
                (none, .bin 39 .sub (.v 34) (.v 38)),
                (none, .call (some 40) 611 false [((.v 39), false)]),
                (none, .asg 8 (.v 40) .copy)])
              (.seq
               (.region [(45, 3, false), (42, 3, false)] [] [0, 3, 6, 7, 8, 9] false [
                 (none, .mv 41 (.v 0)),
                 (none, .fadr 42 1 1 (.v 3)),
                 (none, .load 43 false 1 (.v 42) none),
                 (none, .bin 44 .mul (.v 41) (.v 43)),
                 (none, .fadr 45 0 1 (.v 3)),
                 (none, .load 46 false 1 (.v 45) none),
                 (none, .mv 47 (.v 6)),
                 (none, .bin 48 .mul (.v 46) (.v 47)),
                 (none, .bin 49 .sub (.v 44) (.v 48)),
                 (none, .call (some 50) 611 false [((.v 49), false)]),
                 (none, .asg 9 (.v 50) .copy)])
               (.seq
                (.region [] [] [0, 3, 6, 7, 57] false [
                  (none, .mv 51 (.v 8)),
                  (none, .mv 52 (.v 6)),
                  (none, .bin 53 .mul (.v 51) (.v 52)),
                  (none, .mv 54 (.v 9)),
                  (none, .mv 55 (.v 7)),
                  (none, .bin 56 .mul (.v 54) (.v 55)),
                  (none, .bin 57 .lss (.v 53) (.v 56))])
                (.cond (.v 57)
                 (.region [] [] [0, 3, 6, 7] false [
                   (none, .mv 58 (.v 7)),
                   (none, .asg 6 (.v 58) .copy)])
                 (.skip [0, 3, 6, 7]))))))
            (.region [] [] [0, 3, 6, 7] false [
              (none, .mv 29 (.v 7)),
              (none, .bin 30 .add (.v 29) (.c (.int .i64 1))),
              (none, .asg 7 (.v 30) .copy)]))))))
       (.seq
        (.region [] [] [4, 5] false [
          (none, .mv 59 (.v 6)),
          (none, .asg 4 (.v 59) .copy),
          (none, .asg 5 (.c (.int .i64 0)) .copy)])
        (.ret [4, 5])))))))⟩
def F382 : PFunc :=
 ⟨[false], [.tmp 2],
  (.seq
   (.region [] [] [0] false [
     (none, .asg 2 (.c (.bool false)) .copy)])
   (.seq
    (.seq
     (.region [(30, 0, false)] [] [0, 31] false [
       (none, .mv 30 (.v 0)),
       (none, .call (some 31) 398 false [((.v 30), false)])])
     (.cond (.v 31)
      (.seq
       (.region [] [] [2] false [
         (none, .asg 2 (.c (.bool true)) .copy)])
       (.ret [2]))
      (.skip [0])))
    (.seq
     (.region [(33, 0, false)] [] [0, 3, 4, 5, 6] false [
       (none, .mv 33 (.v 0)),
       (none, .call (some 34) 508 true [((.v 33), false)]),
       (none, .asg 32 (.v 34) .move),
       (none, .extp 35 (.v 32) 0),
       (none, .extp 36 (.v 32) 1),
       (none, .extp 37 (.v 32) 2),
       (none, .extp 38 (.v 32) 3),
       (none, .asg 3 (.v 35) .copy),
       (none, .asg 4 (.v 36) .move),
       (none, .asg 5 (.v 37) .copy),
       (none, .asg 6 (.v 38) .copy)])
     (.seq
      (.region [(41, 4, false)] [] [0, 3, 4, 5, 6, 7, 8] false [
        (none, .mv 40 (.v 3)),
        (none, .mv 41 (.v 4)),
        (none, .mv 42 (.v 5)),
        (none, .mv 43 (.v 6)),
        (none, .call (some 44) 203 false [((.v 40), false), ((.v 41), false), ((.v 42), false), ((.v 43), false)]),
        (none, .asg 39 (.v 44) .copy),
        (none, .extp 45 (.v 39) 0),
        (none, .extp 46 (.v 39) 1),
        (none, .new 7 (.agg [(.int .i64 0), (.int .i64 0)])),
        (none, .store 2 (.v 7) (.v 45) .copy),
        (none, .asg 8 (.v 46) .copy)])
      (.seq
       (.region [(49, 4, false)] [] [0, 3, 4, 5, 6, 7, 8, 9, 10] false [
         (none, .mv 48 (.v 3)),
         (none, .mv 49 (.v 4)),
         (none, .mv 50 (.v 5)),
         (none, .mv 51 (.v 6)),
         (none, .call (some 52) 586 false [((.v 48), false), ((.v 49), false), ((.v 50), false), ((.v 51), false)]),
         (none, .asg 47 (.v 52) .copy),
         (none, .extp 53 (.v 47) 0),
         (none, .extp 54 (.v 47) 1),
         (none, .new 9 (.agg [(.int .i64 0), (.int .i64 0)])),
         (none, .store 2 (.v 9) (.v 53) .copy),
         (none, .asg 10 (.v 54) .copy)])
       (.seq
        (.region [(56, 0, false)] [] [0, 3, 4, 5, 6, 7, 8, 9, 10, 11, 12] false [
          (none, .mv 56 (.v 0)),
          (none, .call (some 57) 510 false [((.v 56), false)]),
          (none, .asg 55 (.v 57) .copy),
          (none, .extp 58 (.v 55) 0),
          (none, .extp 59 (.v 55) 1),
          (none, .new 12 (.agg [(.int .i64 0), (.int .i64 0)])),
          (none, .asg 11 (.v 58) .copy),
          (none, .store 2 (.v 12) (.v 59) .copy)])
        (.seq
         (.region [] [] [0, 3, 4, 5, 6, 7, 8, 9, 10, 11, 12, 13, 14] false [
           (none, .mv 61 (.v 11)),
           (none, .load 62 true 2 (.v 12) none),
           (none, .call (some 63) 238 false [((.v 61), false), ((.v 62), false)]),
           (none, .asg 60 (.v 63) .copy),
           (none, .extp 64 (.v 60) 0),
           (none, .extp 65 (.v 60) 1),
           (none, .asg 13 (.v 64) .copy),
           (none, .asg 14 (.v 65) .copy)])
         (.seq
          (.region [] [] [0, 3, 4, 5, 6, 7, 8, 9, 10, 11, 12, 13, 14, 15, 16] false [
            (none, .mv 67 (.v 11)),
            (none, .load 68 true 2 (.v 12) none),
            (none, .call (some 69) 599 false [((.v 67), false), ((.v 68), false)]),
            (none, .asg 66 (.v 69) .copy),
            (none, .extp 70 (.v 66) 0),
            (none, .extp 71 (.v 66) 1),
            (none, .asg 15 (.v 70) .copy),
            (none, .asg 16 (.v 71) .copy)])
          (.seq
           (.region [(73, 0, false)] [] [3, 4, 5, 6, 7, 8, 9, 10, 11, 12, 13, 14, 15, 16, 17, 18, 19, 20, 21] false [
             (none, .mv 73 (.v 0)),
             (none, .call (some 74) 497 true [((.v 73), false)]),
             (none, .asg 72 (.v 74) .move),
             (none, .extp 75 (.v 72) 0),
             (none, .extp 76 (.v 72) 1),
             (none, .extp 77 (.v 72) 2),
             (none, .extp 78 (.v 72) 3),
             (none, .extp 79 (.v 72) 4),
             (none, .asg 17 (.v 75) .copy),
             (none, .asg 18 (.v 76) .move),
             (none, .asg 19 (.v 77) .copy),
             (none, .asg 20 (.v 78) .copy),
             (none, .asg 21 (.v 79) .copy)])
           (.seq
            (.region [(82, 18, false)] [] [3, 4, 5, 6, 7, 8, 9, 10, 11, 12, 13, 14, 15, 16, 17, 18, 19, 20, 21, 22, 23] false [
              (none, .mv 81 (.v 17)),
              (none, .mv 82 (.v 18)),
              (none, .mv 83 (.v 19)),
              (none, .mv 84 (.v 20)),
              (none, .mv 85 (.v 21)),
              (none, .call (some 86) 185 false [((.v 81), false), ((.v 82), false), ((.v 83), false), ((.v 84), false), ((.v 85), false)]),
              (none, .asg 80 (.v 86) .copy),
              (none, .extp 87 (.v 80) 0),
              (none, .extp 88 (.v 80) 1),
              (none, .asg 22 (.v 87) .copy),
              (none, .asg 23 (.v 88) .copy)])
            (.seq
             (.region [(91, 18, false)] [] [3, 4, 5, 6, 7, 8, 9, 10, 11, 12, 13, 14, 15, 16, 18, 19, 21, 22, 23, 24, 25] false [
               (none, .mv 90 (.v 17)),
               (none, .mv 91 (.v 18)),
               (none, .mv 92 (.v 19)),
               (none, .mv 93 (.v 20)),
               (none, .mv 94 (.v 21)),
               (none, .call (some 95) 572 false [((.v 90), false), ((.v 91), false), ((.v 92), false), ((.v 93), false), ((.v 94), false)]),
               (none, .asg 89 (.v 95) .copy),
               (none, .extp 96 (.v 89) 0),
               (none, .extp 97 (.v 89) 1),
               (none, .asg 24 (.v 96) .copy),
               (none, .asg 25 (.v 97) .copy)])
             (.seq
              (.seq
               (.region [] [] [3, 4, 5, 6, 8, 9, 11, 12, 14, 15, 18, 19, 21, 23, 24, 125] false [
                 (none, .mv 98 (.v 8)),
                 (none, .mv 99 (.v 10)),
                 (none, .bin 100 .neq (.v 98) (.v 99)),
                 (none, .mv 101 (.v 100)),
                 (some (101, false), .load 102 true 2 (.v 7) none),
                 (some (101, false), .load 103 true 2 (.v 9) none),
                 (some (101, false), .eqv 104 true [.i, .i] (.v 102) (.v 103)),
                 (none, .pick 105 (.v 101) (.c (.bool true)) (.v 104)),
                 (none, .mv 106 (.v 105)),
                 (some (106, false), .mv 107 (.v 14)),
                 (some (106, false), .mv 108 (.v 16)),
                 (some (106, false), .bin 109 .neq (.v 107) (.v 108)),
                 (none, .pick 110 (.v 106) (.c (.bool true)) (.v 109)),
                 (none, .mv 111 (.v 110)),
                 (some (111, false), .mv 112 (.v 13)),
                 (some (111, false), .mv 113 (.v 15)),
                 (some (111, false), .bin 114 .neq (.v 112) (.v 113)),
                 (none, .pick 115 (.v 111) (.c (.bool true)) (.v 114)),
                 (none, .mv 116 (.v 115)),
                 (some (116, false), .mv 117 (.v 23)),
                 (some (116, false), .mv 118 (.v 25)),
                 (some (116, false), .bin 119 .neq (.v 117) (.v 118)),
                 (none, .pick 120 (.v 116) (.c (.bool true)) (.v 119)),
                 (none, .mv 121 (.v 120)),
                 (some (121, false), .mv 122 (.v 22)),
                 (some (121, false), .mv 123 (.v 24)),
                 (some (121, false), .bin 124 .neq (.v 122) (.v 123)),
                 (none, .pick 125 (.v 121) (.c (.bool true)) (.v 124))])
               (.cond (.v 125)
                (.seq
                 (.region [] [] [2] false [
                   (none, .asg 2 (.c (.bool false)) .copy)])
                 (.ret [2]))
                (.skip [3, 4, 5, 6, 8, 9, 11, 12, 14, 15, 18, 19, 21, 23, 24])))
              (.seq
               (.seq
                (.region [] [] [3, 4, 5, 6, 8, 9, 11, 12, 15, 18, 19, 21, 23, 24, 127] false [
                  (none, .mv 126 (.v 14)),
                  (none, .bin 127 .eql (.v 126) (.c (.int .i64 0)))])
                (.cond (.v 127)
                 (.seq
                  (.region [] [] [3, 4, 5, 6, 8, 9, 11, 12, 15, 18, 19, 21, 23, 24, 26] false [
                    (none, .asg 26 (.c (.int .i64 2)) .copy)])
                  (.block 0
                   (.loop
                    (.seq
                     (.seq
                      (.region [] [] [3, 4, 5, 6, 8, 9, 11, 12, 15, 18, 19, 21, 23, 24, 26, 129] false [
                        (none, .mv 128 (.v 26)),
                        (none, .bin 129 .leq (.v 128) (.c (.int .i64 200)))])
                      (.cond (.v 129)
                       (.skip [3, 4, 5, 6, 8, 9, 11, 12, 15, 18, 19, 21, 23, 24, 26])
                       (.exit 0 [3, 4, 5, 6, 8, 9, 18, 19, 21, 23, 24])))
                     (.seq
                      (.block 1
                       (.seq
                        (.region [(136, 12, false), (133, 12, false)] [] [3, 4, 5, 6, 8, 9, 11, 12, 15, 18, 19, 21, 23, 24, 26, 27] false [
                          (none, .mv 132 (.v 11)),
                          (none, .fadr 133 1 1 (.v 12)),
                          (none, .load 134 false 1 (.v 133) none),
                          (none, .bin 135 .mul (.v 132) (.v 134)),
                          (none, .fadr 136 0 1 (.v 12)),
                          (none, .load 137 false 1 (.v 136) none),
                          (none, .mv 138 (.v 26)),
                          (none, .bin 139 .mul (.v 137) (.v 138)),
                          (none, .bin 140 .sub (.v 135) (.v 139)),
                          (none, .call (some 141) 397 false [((.v 140), false)]),
                          (none, .asg 27 (.v 141) .copy)])
                        (.seq
                         (.region [(146, 12, false), (143, 12, false)] [] [3, 4, 5, 6, 8, 9, 11, 12, 15, 18, 19, 21, 23, 24, 26, 27, 28] false [
                           (none, .mv 142 (.v 11)),
                           (none, .fadr 143 1 1 (.v 12)),
                           (none, .load 144 false 1 (.v 143) none),
                           (none, .bin 145 .mul (.v 142) (.v 144)),
                           (none, .fadr 146 0 1 (.v 12)),
                           (none, .load 147 false 1 (.v 146) none),
                           (none, .mv 148 (.v 15)),
                           (none, .bin 149 .mul (.v 147) (.v 148)),
                           (none, .bin 150 .sub (.v 145) (.v 149)),
                           (none, .call (some 151) 397 false [((.v 150), false)]),
                           (none, .asg 28 (.v 151) .copy)])
                         (.seq
                          (.region [] [] [3, 4, 5, 6, 8, 9, 11, 12, 15, 18, 19, 21, 23, 24, 26, 158] false [
                            (none, .mv 152 (.v 27)),
                            (none, .mv 153 (.v 15)),
                            (none, .bin 154 .mul (.v 152) (.v 153)),
                            (none, .mv 155 (.v 28)),
                            (none, .mv 156 (.v 26)),
                            (none, .bin 157 .mul (.v 155) (.v 156)),
                            (none, .bin 158 .lss (.v 154) (.v 157))])
                          (.cond (.v 158)
                           (.seq
                            (.region [] [] [2] false [
                              (none, .asg 2 (.c (.bool false)) .copy)])
                            (.ret [2]))
                           (.skip [3, 4, 5, 6, 8, 9, 11, 12, 15, 18, 19, 21, 23, 24, 26]))))))
                      (.region [] [] [3, 4, 5, 6, 8, 9, 11, 12, 15, 18, 19, 21, 23, 24, 26] false [
                        (none, .mv 130 (.v 26)),
                        (none, .bin 131 .add (.v 130) (.c (.int .i64 1))),
                        (none, .asg 26 (.v 131) .copy)]))))))
                 (.skip [3, 4, 5, 6, 8, 9, 18, 19, 21, 23, 24])))
               (.seq
                (.seq
                 (.region [(175, 18, false), (174, 18, false), (172, 18, false)] [] [3, 4, 5, 6, 8, 9, 179] false [
                   (none, .mv 159 (.v 23)),
                   (none, .bin 160 .eql (.v 159) (.c (.int .i64 0))),
                   (none, .mv 161 (.v 160)),
                   (some (161, true), .mv 162 (.v 24)),
                   (some (161, true), .bin 163 .lss (.v 162) (.c (.int .i64 0))),
                   (some (161, true), .mv 164 (.v 163)),
                   (some (164, false), .mv 165 (.v 24)),
                   (some (164, false), .mv 166 (.v 21)),
                   (some (164, false), .bin 167 .gtr (.v 165) (.v 166)),
                   (some (161, true), .pick 168 (.v 164) (.c (.bool true)) (.v 167)),
                   (some (161, true), .mv 169 (.v 168)),
                   (some (169, false), .mv 170 (.v 24)),
                   (some (169, false), .bin 171 .mul (.c (.int .i64 2)) (.v 170)),
                   (some (169, false), .mv 172 (.v 18)),
                   (some (169, false), .mv 173 (.v 19)),
                   (some (169, false), .iadr 174 2 (.v 172) (.v 173)),
                   (some (169, false), .fadr 175 0 1 (.v 174)),
                   (some (169, false), .load 176 false 1 (.v 175) none),
                   (some (169, false), .bin 177 .gtr (.v 171) (.v 176)),
                   (some (161, true), .pick 178 (.v 169) (.c (.bool true)) (.v 177)),
                   (none, .pick 179 (.v 161) (.v 178) (.c (.bool false)))])
                 (.cond (.v 179)
                  (.seq
                   (.region [] [] [2] false [
                     (none, .asg 2 (.c (.bool false)) .copy)])
                   (.ret [2]))
                  (.skip [3, 4, 5, 6, 8, 9])))
                (.seq
                 (.seq
                  (.region [] [] [3, 4, 5, 6, 9, 181] false [
                    (none, .mv 180 (.v 8)),
                    (none, .bin 181 .neq (.v 180) (.c (.int .i64 0)))])
                  (.cond (.v 181)
                   (.seq
                    (.region [] [] [2] false [
                      (none, .asg 2 (.c (.bool true)) .copy)])
                    (.ret [2]))
                   (.skip [3, 4, 5, 6, 9])))
                 (.seq
                  (.region [(188, 4, false), (187, 4, false), (185, 4, false), (182, 9, false)] [] [3, 4, 5, 6, 9, 29] true [
                    (none, .fadr 182 0 1 (.v 9)),
                    (none, .load 183 false 1 (.v 182) none),
                    (none, .call (some 184) 397 false [((.v 183), false)]),
                    (none, .mv 185 (.v 4)),
                    (none, .mv 186 (.v 5)),
                    (none, .iadr 187 2 (.v 185) (.v 186)),
                    (none, .fadr 188 0 1 (.v 187)),
                    (none, .load 189 false 1 (.v 188) none),
                    (none, .bin 190 .mul (.v 184) (.v 189)),
                    (none, .asg 29 (.v 190) .copy)])
                  (.seq
                   (.region [(206, 4, false), (205, 4, false), (203, 4, false), (200, 9, false), (195, 9, false)] [] [2] true [
                     (none, .mv 191 (.v 29)),
                     (none, .mv 192 (.v 6)),
                     (none, .mv 193 (.v 3)),
                     (none, .bin 194 .mul (.v 192) (.v 193)),
                     (none, .fadr 195 1 1 (.v 9)),
                     (none, .load 196 false 1 (.v 195) none),
                     (none, .bin 197 .mul (.v 194) (.v 196)),
                     (none, .bin 198 .eql (.v 191) (.v 197)),
                     (none, .mv 199 (.v 198)),
                     (some (199, true), .fadr 200 0 1 (.v 9)),
                     (some (199, true), .load 201 false 1 (.v 200) none),
                     (some (199, true), .bin 202 .lss (.v 201) (.c (.int .i64 0))),
                     (some (199, true), .mv 203 (.v 4)),
                     (some (199, true), .mv 204 (.v 5)),
                     (some (199, true), .iadr 205 2 (.v 203) (.v 204)),
                     (some (199, true), .fadr 206 1 1 (.v 205)),
                     (some (199, true), .load 207 false 1 (.v 206) none),
                     (some (199, true), .mv 208 (.v 207)),
                     (some (208, true), .mv 209 (.v 6)),
                     (some (208, true), .bin 210 .gtr (.v 209) (.c (.int .i64 0))),
                     (some (199, true), .pick 211 (.v 208) (.v 210) (.c (.bool false))),
                     (some (199, true), .eqb 212 false (.v 202) (.v 211)),
                     (none, .pick 213 (.v 199) (.v 212) (.c (.bool false))),
                     (none, .asg 2 (.v 213) .copy)])
                   (.ret [2]))))))))))))))))))⟩
def tabl : List (Nat × PFunc) := [(26, F26), (245, F245), (326, F326), (237, F237), (829, F829), (807, F807), (236, F236), (325, F325), (185, F185), (269, F269), (292, F292), (203, F203), (213, F213), (238, F238), (397, F397), (398, F398), (5, F5), (7, F7), (4, F4), (6, F6), (603, F603), (709, F709), (707, F707), (708, F708), (713, F713), (497, F497), (508, F508), (604, F604), (611, F611), (616, F616), (615, F615), (614, F614), (510, F510), (605, F605), (607, F607), (710, F710), (716, F716), (711, F711), (712, F712), (714, F714), (572, F572), (586, F586), (617, F617), (599, F599), (382, F382)]
def T : Nat → Option PFunc := tabOf tabl
end Go.Vs.G
