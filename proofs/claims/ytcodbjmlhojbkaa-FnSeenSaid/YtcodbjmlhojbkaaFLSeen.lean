/- The functions that the law reaches, in the small language, printed by program. No conditions. -/
import Derived.Test.YtcodbjmlhojbkaaDLSeen
import Derived.Test.YtcodbjmlhojbkaaV4
set_option maxRecDepth 100000
open Go Go.Vs
namespace Go.Vs.G
def F326 : PFunc :=
 ⟨[false, false, false], [.tmp 6],
  (.seq
   (.region [] [] [0, 1, 2] false [
     (none, .asg 6 (.c (.bool false)) .copy)])
   (.seq
    (.region [] [] [6] false [
      (none, .mv 7 (.v 0)),
      (none, .mv 8 (.v 1)),
      (none, .bin 9 .geq (.v 7) (.v 8)),
      (none, .mv 10 (.v 9)),
      (some (10, true), .mv 11 (.v 0)),
      (some (10, true), .mv 12 (.v 2)),
      (some (10, true), .bin 13 .leq (.v 11) (.v 12)),
      (none, .pick 14 (.v 10) (.v 13) (.c (.bool false))),
      (none, .asg 6 (.v 14) .copy)])
    (.ret [6])))⟩
def F262 : PFunc :=
 ⟨[false, false], [.tmp 4],
  (.seq
   (.region [] [] [0, 1] false [
     (none, .asg 4 (.c (.bool false)) .copy)])
   (.seq
    (.region [] [] [4] false [
      (none, .mv 5 (.v 0)),
      (none, .call (some 6) 326 false [((.v 5), false), ((.c (.int .i64 1)), false), ((.c (.int .i64 48)), false)]),
      (none, .mv 7 (.v 6)),
      (some (7, true), .mv 8 (.v 1)),
      (some (7, true), .call (some 9) 326 false [((.v 8), false), ((.c (.int .i64 1)), false), ((.c (.int .i64 48)), false)]),
      (none, .pick 10 (.v 7) (.v 9) (.c (.bool false))),
      (none, .asg 4 (.v 10) .copy)])
    (.ret [4])))⟩
def F294 : PFunc :=
 ⟨[false, false, false], [.tmp 6],
  (.seq
   (.region [] [] [0, 1, 2] false [
     (none, .asg 6 (.c (.int .i64 0)) .copy)])
   (.seq
    (.region [] [] [6] false [
      (none, .mv 7 (.v 2)),
      (none, .bin 8 .mul (.c (.int .i64 2)) (.v 7)),
      (none, .mv 9 (.v 0)),
      (none, .bin 10 .mul (.v 8) (.v 9)),
      (none, .mv 11 (.v 1)),
      (none, .bin 12 .add (.v 10) (.v 11)),
      (none, .mv 13 (.v 1)),
      (none, .bin 14 .mul (.c (.int .i64 2)) (.v 13)),
      (none, .bin 15 .quo (.v 12) (.v 14)),
      (none, .asg 6 (.v 15) .copy)])
    (.ret [6])))⟩
def F304 : PFunc :=
 ⟨[false, false], [.tmp 4],
  (.seq
   (.region [] [] [0, 1] false [
     (none, .asg 4 (.c (.sl true 1 [])) .copy)])
   (.seq
    (.region [] [] [0, 1, 5] false [
      (none, .mksl 7 1 (.int .i64 0) 0 []),
      (none, .asg 5 (.v 7) .move)])
    (.seq
     (.seq
      (.region [] [] [0, 1, 5, 8, 9] false [
        (none, .mv 8 (.v 1)),
        (none, .mv 9 (.c (.int .i64 0)))])
      (.block 0
       (.loop
        (.seq
         (.region [] [] [0, 1, 5, 8, 9, 10] false [
           (none, .bin 10 .lss (.v 9) (.v 8))])
         (.seq
          (.cond (.v 10)
           (.skip [0, 1, 5, 8, 9])
           (.exit 0 [5]))
          (.seq
           (.block 1
            (.seq
             (.region [] [] [0, 1, 5, 6, 8, 9] false [
               (none, .mv 11 (.v 9)),
               (none, .asg 6 (.v 11) .copy)])
             (.region [(12, 5, false)] [] [0, 1, 5, 8, 9] false [
               (none, .mv 12 (.v 5)),
               (none, .mv 13 (.v 0)),
               (none, .mv 14 (.v 1)),
               (none, .mv 15 (.v 6)),
               (none, .call (some 16) 294 false [((.v 13), false), ((.v 14), false), ((.v 15), false)]),
               (none, .mv 17 (.v 0)),
               (none, .bin 18 .rem (.v 16) (.v 17)),
               (none, .mksl 19 1 (.int .i64 0) 1 [(0, (.v 18), .copy)]),
               (none, .app 20 1 (.v 12) (.v 19) .move),
               (none, .asg 5 (.v 20) .move)])))
           (.region [] [] [0, 1, 5, 8, 9] false [
             (none, .bin 21 .add (.v 9) (.c (.int .i64 1))),
             (none, .mv 9 (.v 21))])))))))
     (.seq
      (.region [(22, 5, false)] [] [4] false [
        (none, .mv 22 (.v 5)),
        (none, .asg 4 (.v 22) .move)])
      (.ret [4])))))⟩
def F144 : PFunc :=
 ⟨[false, false], [.tmp 4, .tmp 5],
  (.seq
   (.region [] [] [0, 1] false [
     (none, .asg 4 (.c (.sl true 1 [])) .copy),
     (none, .asg 5 (.c (.int .i64 0)) .copy)])
   (.seq
    (.seq
     (.region [] [] [0, 1, 15] false [
       (none, .mv 12 (.v 0)),
       (none, .mv 13 (.v 1)),
       (none, .call (some 14) 262 false [((.v 12), false), ((.v 13), false)]),
       (none, .un 15 .not (.v 14))])
     (.cond (.v 15)
      (.seq
       (.region [] [] [4, 5] false [
         (none, .asg 4 (.c (.sl true 1 [])) .copy),
         (none, .asg 5 (.c (.int .i64 2)) .copy)])
       (.ret [4, 5]))
      (.skip [0, 1])))
    (.seq
     (.region [] [] [0, 1, 6, 7] false [
       (none, .mv 16 (.v 0)),
       (none, .make 17 1 (.bool false) (.v 16)),
       (none, .mksl 18 1 (.int .i64 0) 0 []),
       (none, .asg 6 (.v 17) .move),
       (none, .asg 7 (.v 18) .move)])
     (.seq
      (.seq
       (.region [] [] [6, 7, 21, 22, 23] false [
         (none, .mv 19 (.v 0)),
         (none, .mv 20 (.v 1)),
         (none, .call (some 21) 304 false [((.v 19), false), ((.v 20), false)]),
         (none, .len 22 false (.v 21)),
         (none, .mv 23 (.c (.int .i64 0)))])
       (.block 0
        (.loop
         (.seq
          (.region [] [] [6, 7, 21, 22, 23, 24] false [
            (none, .bin 24 .lss (.v 23) (.v 22))])
          (.seq
           (.cond (.v 24)
            (.skip [6, 7, 21, 22, 23])
            (.exit 0 [6, 7]))
           (.seq
            (.block 1
             (.seq
              (.region [(25, 21, false)] [] [6, 7, 9, 21, 22, 23] false [
                (none, .iadr 25 1 (.v 21) (.v 23)),
                (none, .load 26 false 1 (.v 25) none),
                (none, .asg 9 (.v 26) .copy)])
              (.region [(29, 6, false), (27, 6, false)] [] [6, 7, 21, 22, 23] false [
                (none, .mv 27 (.v 6)),
                (none, .mv 28 (.v 9)),
                (none, .iadr 29 1 (.v 27) (.v 28)),
                (none, .store 1 (.v 29) (.c (.bool true)) .copy)])))
            (.region [] [] [6, 7, 21, 22, 23] false [
              (none, .bin 30 .add (.v 23) (.c (.int .i64 1))),
              (none, .mv 23 (.v 30))])))))))
      (.seq
       (.seq
        (.region [(31, 6, false)] [] [6, 7, 31, 32, 33] false [
          (none, .mv 31 (.v 6)),
          (none, .len 32 false (.v 31)),
          (none, .mv 33 (.c (.int .i64 0)))])
        (.block 2
         (.loop
          (.seq
           (.region [(31, 6, false)] [] [6, 7, 31, 32, 33, 34] false [
             (none, .bin 34 .lss (.v 33) (.v 32))])
           (.seq
            (.cond (.v 34)
             (.skip [6, 7, 31, 32, 33])
             (.exit 2 [7]))
            (.seq
             (.block 3
              (.seq
               (.region [(36, 6, false), (31, 6, false)] [] [6, 7, 10, 11, 31, 32, 33] false [
                 (none, .mv 35 (.v 33)),
                 (none, .iadr 36 1 (.v 31) (.v 33)),
                 (none, .load 37 false 1 (.v 36) none),
                 (none, .asg 10 (.v 35) .copy),
                 (none, .asg 11 (.v 37) .copy)])
               (.seq
                (.region [(31, 6, false)] [] [6, 7, 10, 31, 32, 33, 39] false [
                  (none, .mv 38 (.v 11)),
                  (none, .un 39 .not (.v 38))])
                (.cond (.v 39)
                 (.region [(40, 7, false), (31, 6, false)] [] [6, 7, 31, 32, 33] false [
                   (none, .mv 40 (.v 7)),
                   (none, .mv 41 (.v 10)),
                   (none, .mksl 42 1 (.int .i64 0) 1 [(0, (.v 41), .copy)]),
                   (none, .app 43 1 (.v 40) (.v 42) .move),
                   (none, .asg 7 (.v 43) .move)])
                 (.skip [6, 7, 31, 32, 33])))))
             (.region [(31, 6, false)] [] [6, 7, 31, 32, 33] false [
               (none, .bin 44 .add (.v 33) (.c (.int .i64 1))),
               (none, .mv 33 (.v 44))])))))))
       (.seq
        (.region [(45, 7, false)] [] [4, 5] false [
          (none, .mv 45 (.v 7)),
          (none, .asg 4 (.v 45) .move),
          (none, .asg 5 (.c (.int .i64 0)) .copy)])
        (.ret [4, 5])))))))⟩
def F269 : PFunc :=
 ⟨[false, false], [.tmp 4],
  (.seq
   (.region [] [] [0, 1] false [
     (none, .asg 4 (.c (.int .i64 0)) .copy)])
   (.seq
    (.block 0
     (.loop
      (.seq
       (.seq
        (.region [] [] [0, 1, 6] false [
          (none, .mv 5 (.v 1)),
          (none, .bin 6 .neq (.v 5) (.c (.int .i64 0)))])
        (.cond (.v 6)
         (.skip [0, 1])
         (.exit 0 [0])))
       (.block 1
        (.region [] [] [0, 1] true [
          (none, .mv 7 (.v 1)),
          (none, .mv 8 (.v 0)),
          (none, .mv 9 (.v 1)),
          (none, .bin 10 .rem (.v 8) (.v 9)),
          (none, .asg 0 (.v 7) .copy),
          (none, .asg 1 (.v 10) .copy)])))))
    (.seq
     (.region [] [] [4] false [
       (none, .mv 11 (.v 0)),
       (none, .mv 12 (.v 0)),
       (none, .un 13 .neg (.v 12)),
       (none, .mm 14 true (.v 11) [(.v 13)]),
       (none, .asg 4 (.v 14) .copy)])
     (.ret [4]))))⟩
def F213 : PFunc :=
 ⟨[false], [.tmp 2],
  (.seq
   (.region [] [] [1] false [
     (none, .box 1 (.v 0) .copy),
     (none, .asg 2 (.c (.bool false)) .copy)])
   (.seq
    (.region [(14, 1, false), (12, 1, false), (7, 1, false), (3, 1, false)] [] [2] false [
      (none, .fadr 3 1 1 (.v 1)),
      (none, .load 4 false 1 (.v 3) none),
      (none, .call (some 5) 326 false [((.v 4), false), ((.c (.int .i64 1)), false), ((.c (.int .i64 1000000)), false)]),
      (none, .mv 6 (.v 5)),
      (some (6, true), .fadr 7 0 1 (.v 1)),
      (some (6, true), .load 8 false 1 (.v 7) none),
      (some (6, true), .call (some 9) 326 false [((.v 8), false), ((.c (.int .i64 (-1000000))), false), ((.c (.int .i64 1000000)), false)]),
      (none, .pick 10 (.v 6) (.v 9) (.c (.bool false))),
      (none, .mv 11 (.v 10)),
      (some (11, true), .fadr 12 0 1 (.v 1)),
      (some (11, true), .load 13 false 1 (.v 12) none),
      (some (11, true), .fadr 14 1 1 (.v 1)),
      (some (11, true), .load 15 false 1 (.v 14) none),
      (some (11, true), .call (some 16) 269 false [((.v 13), false), ((.v 15), false)]),
      (some (11, true), .bin 17 .eql (.v 16) (.c (.int .i64 1))),
      (none, .pick 18 (.v 11) (.v 17) (.c (.bool false))),
      (none, .asg 2 (.v 18) .copy)])
    (.ret [2])))⟩
def F257 : PFunc :=
 ⟨[false], [.cell 2 true 2, .tmp 3],
  (.seq
   (.region [] [] [1, 2] false [
     (none, .box 1 (.v 0) .copy),
     (none, .new 2 (.agg [(.int .i64 0), (.int .i64 0)])),
     (none, .asg 3 (.c (.int .i64 0)) .copy)])
   (.seq
    (.seq
     (.region [] [] [1, 2, 6] false [
       (none, .load 4 true 2 (.v 1) none),
       (none, .call (some 5) 213 false [((.v 4), false)]),
       (none, .un 6 .not (.v 5))])
     (.cond (.v 6)
      (.seq
       (.region [] [] [2, 3] false [
         (none, .build 7 [(.int .i64 0), (.int .i64 0)] []),
         (none, .store 2 (.v 2) (.v 7) .copy),
         (none, .asg 3 (.c (.int .i64 5)) .copy)])
       (.ret [2, 3]))
      (.skip [1, 2])))
    (.seq
     (.region [] [] [2, 3] false [
       (none, .load 8 true 2 (.v 1) none),
       (none, .store 2 (.v 2) (.v 8) .copy),
       (none, .asg 3 (.c (.int .i64 0)) .copy)])
     (.ret [2, 3]))))⟩
def F292 : PFunc :=
 ⟨[false, false], [.cell 4 true 2],
  (.seq
   (.region [] [] [0, 1, 4] false [
     (none, .new 4 (.agg [(.int .i64 0), (.int .i64 0)]))])
   (.seq
    (.seq
     (.region [] [] [0, 1, 4, 7] false [
       (none, .mv 6 (.v 1)),
       (none, .bin 7 .lss (.v 6) (.c (.int .i64 0)))])
     (.cond (.v 7)
      (.region [] [] [0, 1, 4] false [
        (none, .mv 8 (.v 0)),
        (none, .un 9 .neg (.v 8)),
        (none, .mv 10 (.v 1)),
        (none, .un 11 .neg (.v 10)),
        (none, .asg 0 (.v 9) .copy),
        (none, .asg 1 (.v 11) .copy)])
      (.skip [0, 1, 4])))
    (.seq
     (.region [] [] [0, 1, 4, 5] false [
       (none, .mv 12 (.v 0)),
       (none, .mv 13 (.v 1)),
       (none, .call (some 14) 269 false [((.v 12), false), ((.v 13), false)]),
       (none, .asg 5 (.v 14) .copy)])
     (.seq
      (.region [] [] [4] true [
        (none, .mv 15 (.v 0)),
        (none, .mv 16 (.v 5)),
        (none, .bin 17 .quo (.v 15) (.v 16)),
        (none, .mv 18 (.v 1)),
        (none, .mv 19 (.v 5)),
        (none, .bin 20 .quo (.v 18) (.v 19)),
        (none, .build 21 [(.int .i64 0), (.int .i64 0)] [(0, 1, (.v 17), .copy), (1, 1, (.v 20), .copy)]),
        (none, .store 2 (.v 4) (.v 21) .copy)])
      (.ret [4])))))⟩
def F176 : PFunc :=
 ⟨[false, false, false], [.tmp 6, .cell 7 true 2, .tmp 8],
  (.seq
   (.region [] [] [0, 1, 2, 7] false [
     (none, .asg 6 (.c (.int .i64 0)) .copy),
     (none, .new 7 (.agg [(.int .i64 0), (.int .i64 0)])),
     (none, .asg 8 (.c (.int .i64 0)) .copy)])
   (.seq
    (.seq
     (.region [] [] [0, 1, 2, 7, 20] false [
       (none, .mv 12 (.v 0)),
       (none, .mv 13 (.v 1)),
       (none, .call (some 14) 262 false [((.v 12), false), ((.v 13), false)]),
       (none, .un 15 .not (.v 14)),
       (none, .mv 16 (.v 15)),
       (some (16, false), .mv 17 (.v 2)),
       (some (16, false), .call (some 18) 326 false [((.v 17), false), ((.c (.int .i64 0)), false), ((.c (.int .i64 1000000)), false)]),
       (some (16, false), .un 19 .not (.v 18)),
       (none, .pick 20 (.v 16) (.c (.bool true)) (.v 19))])
     (.cond (.v 20)
      (.seq
       (.region [] [] [6, 7, 8] false [
         (none, .build 21 [(.int .i64 0), (.int .i64 0)] []),
         (none, .asg 6 (.c (.int .i64 0)) .copy),
         (none, .store 2 (.v 7) (.v 21) .copy),
         (none, .asg 8 (.c (.int .i64 2)) .copy)])
       (.ret [6, 7, 8]))
      (.skip [0, 1, 2, 7])))
    (.seq
     (.region [] [] [0, 1, 2, 7, 9] false [
       (none, .mv 22 (.v 0)),
       (none, .mv 23 (.v 1)),
       (none, .mv 24 (.v 2)),
       (none, .call (some 25) 294 false [((.v 22), false), ((.v 23), false), ((.v 24), false)]),
       (none, .asg 9 (.v 25) .copy)])
     (.seq
      (.region [] [] [0, 7, 9, 10, 11] false [
        (none, .mv 27 (.v 9)),
        (none, .mv 28 (.v 1)),
        (none, .bin 29 .mul (.v 27) (.v 28)),
        (none, .mv 30 (.v 2)),
        (none, .mv 31 (.v 0)),
        (none, .bin 32 .mul (.v 30) (.v 31)),
        (none, .bin 33 .sub (.v 29) (.v 32)),
        (none, .mv 34 (.v 1)),
        (none, .call (some 35) 292 false [((.v 33), false), ((.v 34), false)]),
        (none, .call (some 36) 257 false [((.v 35), false)]),
        (none, .asg 26 (.v 36) .copy),
        (none, .extp 37 (.v 26) 0),
        (none, .extp 38 (.v 26) 1),
        (none, .new 10 (.agg [(.int .i64 0), (.int .i64 0)])),
        (none, .store 2 (.v 10) (.v 37) .copy),
        (none, .asg 11 (.v 38) .copy)])
      (.seq
       (.seq
        (.region [] [] [0, 7, 9, 10, 11, 40] false [
          (none, .mv 39 (.v 11)),
          (none, .bin 40 .neq (.v 39) (.c (.int .i64 0)))])
        (.cond (.v 40)
         (.seq
          (.region [] [] [6, 7, 8] false [
            (none, .build 41 [(.int .i64 0), (.int .i64 0)] []),
            (none, .mv 42 (.v 11)),
            (none, .asg 6 (.c (.int .i64 0)) .copy),
            (none, .store 2 (.v 7) (.v 41) .copy),
            (none, .asg 8 (.v 42) .copy)])
          (.ret [6, 7, 8]))
         (.skip [0, 7, 9, 10])))
       (.seq
        (.region [] [] [6, 7, 8] true [
          (none, .mv 43 (.v 9)),
          (none, .mv 44 (.v 0)),
          (none, .bin 45 .rem (.v 43) (.v 44)),
          (none, .load 46 true 2 (.v 10) none),
          (none, .asg 6 (.v 45) .copy),
          (none, .store 2 (.v 7) (.v 46) .copy),
          (none, .asg 8 (.c (.int .i64 0)) .copy)])
        (.ret [6, 7, 8])))))))⟩
def F178 : PFunc :=
 ⟨[false, false], [.tmp 4, .tmp 5],
  (.seq
   (.region [] [] [0, 1] false [
     (none, .asg 4 (.c (.sl true 1 [])) .copy),
     (none, .asg 5 (.c (.int .i64 0)) .copy)])
   (.seq
    (.seq
     (.region [] [] [0, 1, 9] false [
       (none, .mv 6 (.v 0)),
       (none, .mv 7 (.v 1)),
       (none, .call (some 8) 262 false [((.v 6), false), ((.v 7), false)]),
       (none, .un 9 .not (.v 8))])
     (.cond (.v 9)
      (.seq
       (.region [] [] [4, 5] false [
         (none, .asg 4 (.c (.sl true 1 [])) .copy),
         (none, .asg 5 (.c (.int .i64 2)) .copy)])
       (.ret [4, 5]))
      (.skip [0, 1])))
    (.seq
     (.region [] [] [4, 5] false [
       (none, .mv 10 (.v 0)),
       (none, .mv 11 (.v 1)),
       (none, .call (some 12) 304 false [((.v 10), false), ((.v 11), false)]),
       (none, .asg 4 (.v 12) .move),
       (none, .asg 5 (.c (.int .i64 0)) .copy)])
     (.ret [4, 5]))))⟩
def F384 : PFunc :=
 ⟨[false, false, false], [.tmp 6],
  (.seq
   (.region [] [] [0, 1, 2] false [
     (none, .asg 6 (.c (.int .i64 0)) .copy)])
   (.seq
    (.seq
     (.region [(8, 0, false)] [] [0, 1, 2, 14] false [
       (none, .mv 7 (.v 1)),
       (none, .mv 8 (.v 0)),
       (none, .len 9 false (.v 8)),
       (none, .bin 10 .geq (.v 7) (.v 9)),
       (none, .mv 11 (.v 10)),
       (some (11, false), .mv 12 (.v 2)),
       (some (11, false), .bin 13 .lss (.v 12) (.c (.int .i64 1))),
       (none, .pick 14 (.v 11) (.c (.bool true)) (.v 13))])
     (.cond (.v 14)
      (.seq
       (.region [] [] [6] false [
         (none, .asg 6 (.c (.int .i64 0)) .copy)])
       (.ret [6]))
      (.skip [0, 1, 2])))
    (.seq
     (.region [(17, 0, false), (15, 0, false)] [] [6] false [
       (none, .mv 15 (.v 0)),
       (none, .mv 16 (.v 1)),
       (none, .iadr 17 1 (.v 15) (.v 16)),
       (none, .load 18 false 1 (.v 17) none),
       (none, .conv 19 .i64 (.v 18)),
       (none, .mv 20 (.v 2)),
       (none, .bin 21 .rem (.v 19) (.v 20)),
       (none, .asg 6 (.v 21) .copy)])
     (.ret [6]))))⟩
def F385 : PFunc :=
 ⟨[false, false], [.tmp 4],
  (.seq
   (.region [] [] [0, 1] false [
     (none, .asg 4 (.c (.bool false)) .copy)])
   (.seq
    (.seq
     (.region [] [] [0, 1, 5] false [
       (none, .asg 5 (.c (.int .i64 0)) .copy)])
     (.block 0
      (.loop
       (.seq
        (.seq
         (.region [(7, 0, false)] [] [0, 1, 5, 9] false [
           (none, .mv 6 (.v 5)),
           (none, .mv 7 (.v 0)),
           (none, .len 8 false (.v 7)),
           (none, .bin 9 .lss (.v 6) (.v 8))])
         (.cond (.v 9)
          (.skip [0, 1, 5])
          (.exit 0 [])))
        (.seq
         (.block 1
          (.seq
           (.region [(14, 0, false), (12, 0, false)] [] [0, 1, 5, 17] false [
             (none, .mv 12 (.v 0)),
             (none, .mv 13 (.v 5)),
             (none, .iadr 14 1 (.v 12) (.v 13)),
             (none, .load 15 false 1 (.v 14) none),
             (none, .mv 16 (.v 1)),
             (none, .bin 17 .eql (.v 15) (.v 16))])
           (.cond (.v 17)
            (.seq
             (.region [] [] [4] false [
               (none, .asg 4 (.c (.bool true)) .copy)])
             (.ret [4]))
            (.skip [0, 1, 5]))))
         (.region [] [] [0, 1, 5] false [
           (none, .mv 10 (.v 5)),
           (none, .bin 11 .add (.v 10) (.c (.int .i64 1))),
           (none, .asg 5 (.v 11) .copy)]))))))
    (.seq
     (.region [] [] [4] false [
       (none, .asg 4 (.c (.bool false)) .copy)])
     (.ret [4]))))⟩
def F386 : PFunc :=
 ⟨[false, false], [.tmp 4],
  (.seq
   (.region [] [] [0, 1] false [
     (none, .asg 4 (.c (.bool false)) .copy)])
   (.seq
    (.region [(9, 1, false), (5, 0, false)] [] [4] false [
      (none, .mv 5 (.v 0)),
      (none, .len 6 false (.v 5)),
      (none, .bin 7 .gtr (.v 6) (.c (.int .i64 3000))),
      (none, .mv 8 (.v 7)),
      (some (8, false), .mv 9 (.v 1)),
      (some (8, false), .len 10 false (.v 9)),
      (some (8, false), .bin 11 .gtr (.v 10) (.c (.int .i64 3000))),
      (none, .pick 12 (.v 8) (.c (.bool true)) (.v 11)),
      (none, .asg 4 (.v 12) .copy)])
    (.ret [4])))⟩
def F388 : PFunc :=
 ⟨[false, false], [.tmp 4],
  (.seq
   (.region [] [] [0, 1] false [
     (none, .asg 4 (.c (.bool false)) .copy)])
   (.seq
    (.seq
     (.region [] [] [0, 1, 5] false [
       (none, .asg 5 (.c (.int .i64 0)) .copy)])
     (.block 0
      (.loop
       (.seq
        (.seq
         (.region [(7, 0, false)] [] [0, 1, 5, 9] false [
           (none, .mv 6 (.v 5)),
           (none, .mv 7 (.v 0)),
           (none, .len 8 false (.v 7)),
           (none, .bin 9 .lss (.v 6) (.v 8))])
         (.cond (.v 9)
          (.skip [0, 1, 5])
          (.exit 0 [])))
        (.seq
         (.block 1
          (.seq
           (.region [(36, 0, false), (34, 0, false), (32, 0, false), (29, 0, false), (20, 0, false), (18, 0, false), (14, 0, false), (12, 0, false)] [] [0, 1, 5, 40] true [
             (none, .mv 12 (.v 0)),
             (none, .mv 13 (.v 5)),
             (none, .iadr 14 1 (.v 12) (.v 13)),
             (none, .load 15 false 1 (.v 14) none),
             (none, .bin 16 .lss (.v 15) (.c (.int .i64 0))),
             (none, .mv 17 (.v 16)),
             (some (17, false), .mv 18 (.v 0)),
             (some (17, false), .mv 19 (.v 5)),
             (some (17, false), .iadr 20 1 (.v 18) (.v 19)),
             (some (17, false), .load 21 false 1 (.v 20) none),
             (some (17, false), .mv 22 (.v 1)),
             (some (17, false), .bin 23 .geq (.v 21) (.v 22)),
             (none, .pick 24 (.v 17) (.c (.bool true)) (.v 23)),
             (none, .mv 25 (.v 24)),
             (some (25, false), .mv 26 (.v 5)),
             (some (25, false), .bin 27 .gtr (.v 26) (.c (.int .i64 0))),
             (some (25, false), .mv 28 (.v 27)),
             (some (28, true), .mv 29 (.v 0)),
             (some (28, true), .mv 30 (.v 5)),
             (some (28, true), .bin 31 .sub (.v 30) (.c (.int .i64 1))),
             (some (28, true), .iadr 32 1 (.v 29) (.v 31)),
             (some (28, true), .load 33 false 1 (.v 32) none),
             (some (28, true), .mv 34 (.v 0)),
             (some (28, true), .mv 35 (.v 5)),
             (some (28, true), .iadr 36 1 (.v 34) (.v 35)),
             (some (28, true), .load 37 false 1 (.v 36) none),
             (some (28, true), .bin 38 .geq (.v 33) (.v 37)),
             (some (25, false), .pick 39 (.v 28) (.v 38) (.c (.bool false))),
             (none, .pick 40 (.v 25) (.c (.bool true)) (.v 39))])
           (.cond (.v 40)
            (.seq
             (.region [] [] [4] false [
               (none, .asg 4 (.c (.bool false)) .copy)])
             (.ret [4]))
            (.skip [0, 1, 5]))))
         (.region [] [] [0, 1, 5] false [
           (none, .mv 10 (.v 5)),
           (none, .bin 11 .add (.v 10) (.c (.int .i64 1))),
           (none, .asg 5 (.v 11) .copy)]))))))
    (.seq
     (.region [] [] [4] false [
       (none, .asg 4 (.c (.bool true)) .copy)])
     (.ret [4]))))⟩
def F5 : PFunc :=
 ⟨[true], [.tmp 2],
  (.seq
   (.region [] [] [0] false [
     (none, .asg 2 (.c (.int .i64 0)) .copy)])
   (.seq
    (.region [] [] [0, 3] false [
      (none, .asg 3 (.c (.int .i64 0)) .copy)])
    (.seq
     (.seq
      (.region [(11, 0, true), (10, 0, false), (9, 0, false), (8, 0, false), (6, 0, false), (5, 0, false), (4, 0, false)] [] [0, 3, 13] true [
        (none, .mv 4 (.v 0)),
        (none, .nchk 5 (.v 4)),
        (none, .fadr 6 1 1 (.v 5)),
        (none, .load 7 false 1 (.v 6) none),
        (none, .mv 8 (.v 0)),
        (none, .nchk 9 (.v 8)),
        (none, .fadr 10 0 1 (.v 9)),
        (none, .load 11 false 1 (.v 10) none),
        (none, .len 12 false (.v 11)),
        (none, .bin 13 .lss (.v 7) (.v 12))])
      (.cond (.v 13)
       (.region [(22, 0, true), (20, 0, false), (19, 0, false), (18, 0, false), (17, 0, true), (16, 0, false), (15, 0, false), (14, 0, false)] [] [0, 3] true [
         (none, .mv 14 (.v 0)),
         (none, .nchk 15 (.v 14)),
         (none, .fadr 16 0 1 (.v 15)),
         (none, .load 17 false 1 (.v 16) none),
         (none, .mv 18 (.v 0)),
         (none, .nchk 19 (.v 18)),
         (none, .fadr 20 1 1 (.v 19)),
         (none, .load 21 false 1 (.v 20) none),
         (none, .iadr 22 1 (.v 17) (.v 21)),
         (none, .load 23 false 1 (.v 22) none),
         (none, .conv 24 .i64 (.v 23)),
         (none, .asg 3 (.v 24) .copy)])
       (.skip [0, 3])))
     (.seq
      (.region [(31, 0, false), (30, 0, false), (27, 0, false), (26, 0, false), (25, 0, false)] [] [0, 3] false [
        (none, .mv 25 (.v 0)),
        (none, .nchk 26 (.v 25)),
        (none, .fadr 27 1 1 (.v 26)),
        (none, .load 28 false 1 (.v 27) none),
        (none, .bin 29 .add (.v 28) (.c (.int .i64 1))),
        (none, .nchk 30 (.v 25)),
        (none, .fadr 31 1 1 (.v 30)),
        (none, .store 1 (.v 31) (.v 29) .copy)])
      (.seq
       (.region [(43, 0, false), (42, 0, false), (35, 0, false), (34, 0, false), (33, 0, false), (32, 0, false)] [] [0, 3] false [
         (none, .mv 32 (.v 0)),
         (none, .mv 33 (.v 0)),
         (none, .nchk 34 (.v 33)),
         (none, .fadr 35 2 1 (.v 34)),
         (none, .load 36 false 1 (.v 35) none),
         (none, .bin 37 .mul (.v 36) (.c (.int .u64 6364136223846793005))),
         (none, .mv 38 (.v 3)),
         (none, .conv 39 .u64 (.v 38)),
         (none, .bin 40 .add (.v 37) (.v 39)),
         (none, .bin 41 .add (.v 40) (.c (.int .u64 1442695040888963407))),
         (none, .nchk 42 (.v 32)),
         (none, .fadr 43 2 1 (.v 42)),
         (none, .store 1 (.v 43) (.v 41) .copy)])
       (.seq
        (.seq
         (.region [(51, 0, true), (50, 0, false), (49, 0, false), (48, 0, false), (46, 0, false), (45, 0, false), (44, 0, false)] [] [0, 3, 53] true [
           (none, .mv 44 (.v 0)),
           (none, .nchk 45 (.v 44)),
           (none, .fadr 46 1 1 (.v 45)),
           (none, .load 47 false 1 (.v 46) none),
           (none, .mv 48 (.v 0)),
           (none, .nchk 49 (.v 48)),
           (none, .fadr 50 0 1 (.v 49)),
           (none, .load 51 false 1 (.v 50) none),
           (none, .len 52 false (.v 51)),
           (none, .bin 53 .leq (.v 47) (.v 52))])
         (.cond (.v 53)
          (.seq
           (.region [] [] [0, 2] false [
             (none, .mv 54 (.v 3)),
             (none, .asg 2 (.v 54) .copy)])
           (.ret [0, 2]))
          (.skip [0])))
        (.seq
         (.region [(57, 0, false), (56, 0, false), (55, 0, false)] [] [0, 2] false [
           (none, .mv 55 (.v 0)),
           (none, .nchk 56 (.v 55)),
           (none, .fadr 57 2 1 (.v 56)),
           (none, .load 58 false 1 (.v 57) none),
           (none, .bin 59 .shr (.v 58) (.c (.int .u64 40))),
           (none, .bin 60 .and (.v 59) (.c (.int .u64 255))),
           (none, .conv 61 .i64 (.v 60)),
           (none, .asg 2 (.v 61) .copy)])
         (.ret [0, 2]))))))))⟩
def F7 : PFunc :=
 ⟨[true, false], [.tmp 4],
  (.seq
   (.region [] [] [0, 1] false [
     (none, .asg 4 (.c (.int .i64 0)) .copy)])
   (.seq
    (.seq
     (.region [] [] [0, 1, 7] false [
       (none, .mv 6 (.v 1)),
       (none, .bin 7 .leq (.v 6) (.c (.int .i64 1)))])
     (.cond (.v 7)
      (.seq
       (.region [] [] [0, 4] false [
         (none, .asg 4 (.c (.int .i64 0)) .copy)])
       (.ret [0, 4]))
      (.skip [0, 1])))
    (.seq
     (.region [(8, 0, false)] [] [0, 1, 5] false [
       (none, .mv 8 (.v 0)),
       (none, .call (some 9) 5 true [((.v 8), true)]),
       (none, .asg 5 (.v 9) .copy)])
     (.seq
      (.seq
       (.region [] [] [0, 1, 5, 11] false [
         (none, .mv 10 (.v 1)),
         (none, .bin 11 .gtr (.v 10) (.c (.int .i64 200)))])
       (.cond (.v 11)
        (.region [(14, 0, false)] [] [0, 1, 5] false [
          (none, .mv 12 (.v 5)),
          (none, .bin 13 .mul (.v 12) (.c (.int .i64 256))),
          (none, .mv 14 (.v 0)),
          (none, .call (some 15) 5 true [((.v 14), true)]),
          (none, .bin 16 .add (.v 13) (.v 15)),
          (none, .asg 5 (.v 16) .copy)])
        (.skip [0, 1, 5])))
      (.seq
       (.region [] [] [0, 4] false [
         (none, .mv 17 (.v 5)),
         (none, .mv 18 (.v 1)),
         (none, .bin 19 .rem (.v 17) (.v 18)),
         (none, .asg 4 (.v 19) .copy)])
       (.ret [0, 4]))))))⟩
def F603 : PFunc :=
 ⟨[false], [.tmp 2],
  (.seq
   (.region [] [] [0] false [
     (none, .asg 2 (.c .nilp) .copy)])
   (.seq
    (.region [(3, 0, false)] [] [2] false [
      (none, .mv 3 (.v 0)),
      (none, .build 4 [(.sl false 1 []), (.int .i64 0), (.int .u64 0)] [(0, 1, (.v 3), .move)]),
      (none, .box 5 (.v 4) .move),
      (none, .asg 2 (.v 5) .move)])
    (.ret [2])))⟩
def F606 : PFunc :=
 ⟨[false, false], [.tmp 4],
  (.seq
   (.region [] [] [0, 1] false [
     (none, .asg 4 (.c (.int .i64 0)) .copy)])
   (.seq
    (.seq
     (.region [] [] [0, 1, 7] false [
       (none, .mv 5 (.v 0)),
       (none, .mv 6 (.v 1)),
       (none, .bin 7 .gtr (.v 5) (.v 6))])
     (.cond (.v 7)
      (.seq
       (.region [] [] [4] false [
         (none, .mv 8 (.v 0)),
         (none, .asg 4 (.v 8) .copy)])
       (.ret [4]))
      (.skip [1])))
    (.seq
     (.region [] [] [4] false [
       (none, .mv 9 (.v 1)),
       (none, .asg 4 (.v 9) .copy)])
     (.ret [4]))))⟩
def F425 : PFunc :=
 ⟨[false], [.tmp 2, .tmp 3],
  (.seq
   (.region [] [] [0] false [
     (none, .asg 2 (.c (.int .i64 0)) .copy),
     (none, .asg 3 (.c (.int .i64 0)) .copy)])
   (.seq
    (.region [(6, 0, false)] [] [4] false [
      (none, .mv 6 (.v 0)),
      (none, .call (some 7) 603 true [((.v 6), false)]),
      (none, .asg 4 (.v 7) .move)])
    (.seq
     (.region [(8, 4, false)] [] [4, 5] false [
       (none, .mv 8 (.v 4)),
       (none, .call (some 9) 7 true [((.v 8), true), ((.c (.int .i64 16)), false)]),
       (none, .bin 10 .add (.c (.int .i64 1)) (.v 9)),
       (none, .asg 5 (.v 10) .copy)])
     (.seq
      (.region [(13, 4, false)] [] [2, 3] false [
        (none, .mv 11 (.v 5)),
        (none, .mv 12 (.v 5)),
        (none, .mv 13 (.v 4)),
        (none, .call (some 14) 7 true [((.v 13), true), ((.c (.int .i64 9)), false)]),
        (none, .bin 15 .add (.v 12) (.v 14)),
        (none, .bin 16 .sub (.v 15) (.c (.int .i64 4))),
        (none, .call (some 17) 606 false [((.c (.int .i64 1)), false), ((.v 16), false)]),
        (none, .asg 2 (.v 11) .copy),
        (none, .asg 3 (.v 17) .copy)])
      (.ret [2, 3])))))⟩
def F373 : PFunc :=
 ⟨[false, false], [.tmp 4],
  (.seq
   (.region [] [] [0, 1] false [
     (none, .asg 4 (.c (.bool false)) .copy)])
   (.seq
    (.seq
     (.region [(20, 1, false), (19, 0, false)] [] [0, 1, 21] false [
       (none, .mv 19 (.v 0)),
       (none, .mv 20 (.v 1)),
       (none, .call (some 21) 386 false [((.v 19), false), ((.v 20), false)])])
     (.cond (.v 21)
      (.seq
       (.region [] [] [4] false [
         (none, .asg 4 (.c (.bool true)) .copy)])
       (.ret [4]))
      (.skip [0, 1])))
    (.seq
     (.region [(23, 0, false)] [] [1, 5, 6] false [
       (none, .mv 23 (.v 0)),
       (none, .call (some 24) 425 false [((.v 23), false)]),
       (none, .asg 22 (.v 24) .copy),
       (none, .extp 25 (.v 22) 0),
       (none, .extp 26 (.v 22) 1),
       (none, .asg 5 (.v 25) .copy),
       (none, .asg 6 (.v 26) .copy)])
     (.seq
      (.region [] [] [1, 5, 6, 7, 8] false [
        (none, .mv 28 (.v 5)),
        (none, .mv 29 (.v 6)),
        (none, .call (some 30) 178 false [((.v 28), false), ((.v 29), false)]),
        (none, .asg 27 (.v 30) .move),
        (none, .ext 31 (.v 27) 0),
        (none, .extp 32 (.v 27) 1),
        (none, .asg 7 (.v 31) .move),
        (none, .asg 8 (.v 32) .copy)])
      (.seq
       (.region [] [] [1, 5, 6, 7, 8, 9, 10] false [
         (none, .mv 34 (.v 5)),
         (none, .mv 35 (.v 6)),
         (none, .call (some 36) 144 false [((.v 34), false), ((.v 35), false)]),
         (none, .asg 33 (.v 36) .move),
         (none, .ext 37 (.v 33) 0),
         (none, .extp 38 (.v 33) 1),
         (none, .asg 9 (.v 37) .move),
         (none, .asg 10 (.v 38) .copy)])
       (.seq
        (.seq
         (.region [(52, 9, false), (42, 7, false)] [] [1, 5, 6, 7, 9, 56] false [
           (none, .mv 39 (.v 8)),
           (none, .bin 40 .neq (.v 39) (.c (.int .i64 0))),
           (none, .mv 41 (.v 40)),
           (some (41, false), .mv 42 (.v 7)),
           (some (41, false), .len 43 false (.v 42)),
           (some (41, false), .mv 44 (.v 6)),
           (some (41, false), .bin 45 .neq (.v 43) (.v 44)),
           (none, .pick 46 (.v 41) (.c (.bool true)) (.v 45)),
           (none, .mv 47 (.v 46)),
           (some (47, false), .mv 48 (.v 10)),
           (some (47, false), .bin 49 .neq (.v 48) (.c (.int .i64 0))),
           (none, .pick 50 (.v 47) (.c (.bool true)) (.v 49)),
           (none, .mv 51 (.v 50)),
           (some (51, false), .mv 52 (.v 9)),
           (some (51, false), .mv 53 (.v 5)),
           (some (51, false), .call (some 54) 388 false [((.v 52), false), ((.v 53), false)]),
           (some (51, false), .un 55 .not (.v 54)),
           (none, .pick 56 (.v 51) (.c (.bool true)) (.v 55))])
         (.cond (.v 56)
          (.seq
           (.region [] [] [4] false [
             (none, .asg 4 (.c (.bool false)) .copy)])
           (.ret [4]))
          (.skip [1, 5, 6, 7, 9])))
        (.seq
         (.seq
          (.region [] [] [1, 5, 6, 7, 9, 11] false [
            (none, .asg 11 (.c (.int .i64 0)) .copy)])
          (.block 0
           (.loop
            (.seq
             (.seq
              (.region [] [] [1, 5, 6, 7, 9, 11, 59] false [
                (none, .mv 57 (.v 11)),
                (none, .mv 58 (.v 6)),
                (none, .bin 59 .lss (.v 57) (.v 58))])
              (.cond (.v 59)
               (.skip [1, 5, 6, 7, 9, 11])
               (.exit 0 [5, 7, 9])))
             (.seq
              (.block 1
               (.seq
                (.region [(62, 1, false)] [] [1, 5, 6, 7, 9, 11, 12] false [
                  (none, .mv 62 (.v 1)),
                  (none, .mv 63 (.v 11)),
                  (none, .call (some 64) 384 false [((.v 62), false), ((.v 63), false), ((.c (.int .i64 9)), false)]),
                  (none, .mv 65 (.v 6)),
                  (none, .bin 66 .mul (.v 64) (.v 65)),
                  (none, .asg 12 (.v 66) .copy)])
                (.seq
                 (.region [] [] [1, 5, 6, 7, 9, 11, 13, 14, 15] false [
                   (none, .mv 68 (.v 5)),
                   (none, .mv 69 (.v 6)),
                   (none, .mv 70 (.v 11)),
                   (none, .mv 71 (.v 12)),
                   (none, .bin 72 .add (.v 70) (.v 71)),
                   (none, .call (some 73) 176 false [((.v 68), false), ((.v 69), false), ((.v 72), false)]),
                   (none, .asg 67 (.v 73) .copy),
                   (none, .extp 74 (.v 67) 0),
                   (none, .extp 75 (.v 67) 1),
                   (none, .extp 76 (.v 67) 2),
                   (none, .new 14 (.agg [(.int .i64 0), (.int .i64 0)])),
                   (none, .asg 13 (.v 74) .copy),
                   (none, .store 2 (.v 14) (.v 75) .copy),
                   (none, .asg 15 (.v 76) .copy)])
                 (.seq
                  (.region [] [] [1, 5, 6, 7, 9, 11, 13, 14, 15, 16] false [
                    (none, .mv 77 (.v 11)),
                    (none, .mv 78 (.v 5)),
                    (none, .bin 79 .mul (.v 77) (.v 78)),
                    (none, .asg 16 (.v 79) .copy)])
                  (.seq
                   (.seq
                    (.region [(122, 14, false), (119, 14, false), (114, 14, false), (111, 14, false), (105, 14, false), (100, 14, false), (86, 7, false), (84, 7, false)] [] [1, 5, 6, 7, 9, 11, 13, 14, 16, 126] false [
                      (none, .mv 80 (.v 15)),
                      (none, .bin 81 .neq (.v 80) (.c (.int .i64 0))),
                      (none, .mv 82 (.v 81)),
                      (some (82, false), .mv 83 (.v 13)),
                      (some (82, false), .mv 84 (.v 7)),
                      (some (82, false), .mv 85 (.v 11)),
                      (some (82, false), .iadr 86 1 (.v 84) (.v 85)),
                      (some (82, false), .load 87 false 1 (.v 86) none),
                      (some (82, false), .bin 88 .neq (.v 83) (.v 87)),
                      (none, .pick 89 (.v 82) (.c (.bool true)) (.v 88)),
                      (none, .mv 90 (.v 89)),
                      (some (90, false), .mv 91 (.v 13)),
                      (some (90, false), .bin 92 .lss (.v 91) (.c (.int .i64 0))),
                      (none, .pick 93 (.v 90) (.c (.bool true)) (.v 92)),
                      (none, .mv 94 (.v 93)),
                      (some (94, false), .mv 95 (.v 13)),
                      (some (94, false), .mv 96 (.v 5)),
                      (some (94, false), .bin 97 .geq (.v 95) (.v 96)),
                      (none, .pick 98 (.v 94) (.c (.bool true)) (.v 97)),
                      (none, .mv 99 (.v 98)),
                      (some (99, false), .fadr 100 1 1 (.v 14)),
                      (some (99, false), .load 101 false 1 (.v 100) none),
                      (some (99, false), .bin 102 .lss (.v 101) (.c (.int .i64 1))),
                      (none, .pick 103 (.v 99) (.c (.bool true)) (.v 102)),
                      (none, .mv 104 (.v 103)),
                      (some (104, false), .fadr 105 1 1 (.v 14)),
                      (some (104, false), .load 106 false 1 (.v 105) none),
                      (some (104, false), .mv 107 (.v 6)),
                      (some (104, false), .bin 108 .gtr (.v 106) (.v 107)),
                      (none, .pick 109 (.v 104) (.c (.bool true)) (.v 108)),
                      (none, .mv 110 (.v 109)),
                      (some (110, false), .fadr 111 0 1 (.v 14)),
                      (some (110, false), .load 112 false 1 (.v 111) none),
                      (some (110, false), .bin 113 .mul (.c (.int .i64 2)) (.v 112)),
                      (some (110, false), .fadr 114 1 1 (.v 14)),
                      (some (110, false), .load 115 false 1 (.v 114) none),
                      (some (110, false), .bin 116 .gtr (.v 113) (.v 115)),
                      (none, .pick 117 (.v 110) (.c (.bool true)) (.v 116)),
                      (none, .mv 118 (.v 117)),
                      (some (118, false), .fadr 119 0 1 (.v 14)),
                      (some (118, false), .load 120 false 1 (.v 119) none),
                      (some (118, false), .bin 121 .mul (.c (.int .i64 2)) (.v 120)),
                      (some (118, false), .fadr 122 1 1 (.v 14)),
                      (some (118, false), .load 123 false 1 (.v 122) none),
                      (some (118, false), .un 124 .neg (.v 123)),
                      (some (118, false), .bin 125 .leq (.v 121) (.v 124)),
                      (none, .pick 126 (.v 118) (.c (.bool true)) (.v 125))])
                    (.cond (.v 126)
                     (.seq
                      (.region [] [] [4] false [
                        (none, .asg 4 (.c (.bool false)) .copy)])
                      (.ret [4]))
                     (.skip [1, 5, 6, 7, 9, 11, 13, 14, 16])))
                   (.seq
                    (.region [(131, 14, false), (128, 14, false)] [] [1, 5, 6, 7, 9, 11, 13, 14, 17] false [
                      (none, .mv 127 (.v 16)),
                      (none, .fadr 128 1 1 (.v 14)),
                      (none, .load 129 false 1 (.v 128) none),
                      (none, .bin 130 .mul (.v 127) (.v 129)),
                      (none, .fadr 131 0 1 (.v 14)),
                      (none, .load 132 false 1 (.v 131) none),
                      (none, .mv 133 (.v 6)),
                      (none, .bin 134 .mul (.v 132) (.v 133)),
                      (none, .bin 135 .add (.v 130) (.v 134)),
                      (none, .asg 17 (.v 135) .copy)])
                    (.seq
                     (.region [(146, 14, false), (138, 14, false)] [] [1, 5, 6, 7, 9, 11, 154] false [
                       (none, .mv 136 (.v 17)),
                       (none, .mv 137 (.v 6)),
                       (none, .fadr 138 1 1 (.v 14)),
                       (none, .load 139 false 1 (.v 138) none),
                       (none, .bin 140 .mul (.v 137) (.v 139)),
                       (none, .bin 141 .rem (.v 136) (.v 140)),
                       (none, .bin 142 .neq (.v 141) (.c (.int .i64 0))),
                       (none, .mv 143 (.v 142)),
                       (some (143, false), .mv 144 (.v 17)),
                       (some (143, false), .mv 145 (.v 6)),
                       (some (143, false), .fadr 146 1 1 (.v 14)),
                       (some (143, false), .load 147 false 1 (.v 146) none),
                       (some (143, false), .bin 148 .mul (.v 145) (.v 147)),
                       (some (143, false), .bin 149 .quo (.v 144) (.v 148)),
                       (some (143, false), .mv 150 (.v 5)),
                       (some (143, false), .bin 151 .rem (.v 149) (.v 150)),
                       (some (143, false), .mv 152 (.v 13)),
                       (some (143, false), .bin 153 .neq (.v 151) (.v 152)),
                       (none, .pick 154 (.v 143) (.c (.bool true)) (.v 153))])
                     (.cond (.v 154)
                      (.seq
                       (.region [] [] [4] false [
                         (none, .asg 4 (.c (.bool false)) .copy)])
                       (.ret [4]))
                      (.skip [1, 5, 6, 7, 9, 11])))))))))
              (.region [] [] [1, 5, 6, 7, 9, 11] false [
                (none, .mv 60 (.v 11)),
                (none, .bin 61 .add (.v 60) (.c (.int .i64 1))),
                (none, .asg 11 (.v 61) .copy)]))))))
         (.seq
          (.seq
           (.region [] [] [5, 7, 9, 18] false [
             (none, .asg 18 (.c (.int .i64 0)) .copy)])
           (.block 2
            (.loop
             (.seq
              (.seq
               (.region [] [] [5, 7, 9, 18, 157] false [
                 (none, .mv 155 (.v 18)),
                 (none, .mv 156 (.v 5)),
                 (none, .bin 157 .lss (.v 155) (.v 156))])
               (.cond (.v 157)
                (.skip [5, 7, 9, 18])
                (.exit 2 [])))
              (.seq
               (.block 3
                (.seq
                 (.region [(163, 7, false), (160, 9, false)] [] [5, 7, 9, 18, 166] false [
                   (none, .mv 160 (.v 9)),
                   (none, .mv 161 (.v 18)),
                   (none, .call (some 162) 385 false [((.v 160), false), ((.v 161), false)]),
                   (none, .mv 163 (.v 7)),
                   (none, .mv 164 (.v 18)),
                   (none, .call (some 165) 385 false [((.v 163), false), ((.v 164), false)]),
                   (none, .eqb 166 false (.v 162) (.v 165))])
                 (.cond (.v 166)
                  (.seq
                   (.region [] [] [4] false [
                     (none, .asg 4 (.c (.bool false)) .copy)])
                   (.ret [4]))
                  (.skip [5, 7, 9, 18]))))
               (.region [] [] [5, 7, 9, 18] false [
                 (none, .mv 158 (.v 18)),
                 (none, .bin 159 .add (.v 158) (.c (.int .i64 1))),
                 (none, .asg 18 (.v 159) .copy)]))))))
          (.seq
           (.region [] [] [4] false [
             (none, .asg 4 (.c (.bool true)) .copy)])
           (.ret [4]))))))))))⟩
def tabl : List (Nat × PFunc) := [(326, F326), (262, F262), (294, F294), (304, F304), (144, F144), (269, F269), (213, F213), (257, F257), (292, F292), (176, F176), (178, F178), (384, F384), (385, F385), (386, F386), (388, F388), (5, F5), (7, F7), (603, F603), (606, F606), (425, F425), (373, F373)]
def T : Nat → Option PFunc := tabOf tabl
end Go.Vs.G
