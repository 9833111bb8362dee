/- The functions that the law reaches, in the small language, printed by program. No conditions. -/
import Derived.Test.YtolinhiimdajhaaDLJoinedLoops
import Derived.Test.YtolinhiimdajhaaV4
set_option maxRecDepth 100000
open Go Go.Vs
namespace Go.Vs.G
def F326 : PFunc :=
 ⟨[false, false, false], [.tmp 6],
  (.seq
   (.region [] [] [0, 1, 2] false [
     (none, .asg 6 (.c (.bool false)) .copy)])
   (.seq
    (.region [] [] [6] false [
      (none, .mv 7 (.v 0)),
      (none, .mv 8 (.v 1)),
      (none, .bin 9 .geq (.v 7) (.v 8)),
      (none, .mv 10 (.v 9)),
      (some (10, true), .mv 11 (.v 0)),
      (some (10, true), .mv 12 (.v 2)),
      (some (10, true), .bin 13 .leq (.v 11) (.v 12)),
      (none, .pick 14 (.v 10) (.v 13) (.c (.bool false))),
      (none, .asg 6 (.v 14) .copy)])
    (.ret [6])))⟩
def F221 : PFunc :=
 ⟨[false], [.tmp 2],
  (.seq
   (.region [] [] [0] false [
     (none, .asg 2 (.c (.bool false)) .copy)])
   (.seq
    (.region [] [] [2] false [
      (none, .mv 3 (.v 0)),
      (none, .call (some 4) 326 false [((.v 3), false), ((.c (.int .i64 0)), false), ((.c (.int .i64 1000)), false)]),
      (none, .un 5 .not (.v 4)),
      (none, .asg 2 (.v 5) .copy)])
    (.ret [2])))⟩
def F818 : PFunc :=
 ⟨[false, false], [.tmp 4],
  (.seq
   (.region [] [] [0, 1] false [
     (none, .asg 4 (.c (.int .i64 0)) .copy)])
   (.seq
    (.seq
     (.region [(6, 0, false)] [] [0, 1, 7, 8] false [
       (none, .mv 6 (.v 0)),
       (none, .len 7 false (.v 6)),
       (none, .mv 8 (.c (.int .i64 0)))])
     (.block 0
      (.loop
       (.seq
        (.region [] [] [0, 1, 7, 8, 9] false [
          (none, .bin 9 .lss (.v 8) (.v 7))])
        (.seq
         (.cond (.v 9)
          (.skip [0, 1, 7, 8])
          (.exit 0 []))
         (.seq
          (.block 1
           (.seq
            (.region [] [] [0, 1, 5, 7, 8] false [
              (none, .mv 10 (.v 8)),
              (none, .asg 5 (.v 10) .copy)])
            (.seq
             (.region [(14, 0, false), (12, 0, false), (11, 1, false)] [] [0, 1, 5, 7, 8, 16] false [
               (none, .mv 11 (.v 1)),
               (none, .mv 12 (.v 0)),
               (none, .mv 13 (.v 5)),
               (none, .iadr 14 1 (.v 12) (.v 13)),
               (none, .load 15 false 1 (.v 14) none),
               (none, .callv (some 16) (.v 11) [(.v 15)])])
             (.cond (.v 16)
              (.seq
               (.region [] [] [4] false [
                 (none, .mv 17 (.v 5)),
                 (none, .asg 4 (.v 17) .copy)])
               (.ret [4]))
              (.skip [0, 1, 7, 8])))))
          (.region [] [] [0, 1, 7, 8] false [
            (none, .bin 18 .add (.v 8) (.c (.int .i64 1))),
            (none, .mv 8 (.v 18))])))))))
    (.seq
     (.region [] [] [4] false [
       (none, .asg 4 (.c (.int .i64 (-1))) .copy)])
     (.ret [4]))))⟩
def F796 : PFunc :=
 ⟨[false, false], [.tmp 4],
  (.seq
   (.region [] [] [0, 1] false [
     (none, .asg 4 (.c (.bool false)) .copy)])
   (.seq
    (.region [(6, 1, false), (5, 0, false)] [] [4] false [
      (none, .mv 5 (.v 0)),
      (none, .mv 6 (.v 1)),
      (none, .call (some 7) 818 false [((.v 5), false), ((.v 6), false)]),
      (none, .bin 8 .geq (.v 7) (.c (.int .i64 0))),
      (none, .asg 4 (.v 8) .copy)])
    (.ret [4])))⟩
def F220 : PFunc :=
 ⟨[false], [.tmp 2],
  (.seq
   (.region [] [] [0] false [
     (none, .asg 2 (.c (.bool false)) .copy)])
   (.seq
    (.region [(12, 0, false), (7, 0, false), (3, 0, false)] [] [2] false [
      (none, .mv 3 (.v 0)),
      (none, .len 4 false (.v 3)),
      (none, .bin 5 .geq (.v 4) (.c (.int .i64 1))),
      (none, .mv 6 (.v 5)),
      (some (6, true), .mv 7 (.v 0)),
      (some (6, true), .len 8 false (.v 7)),
      (some (6, true), .bin 9 .leq (.v 8) (.c (.int .i64 60))),
      (none, .pick 10 (.v 6) (.v 9) (.c (.bool false))),
      (none, .mv 11 (.v 10)),
      (some (11, true), .mv 12 (.v 0)),
      (some (11, true), .call (some 13) 796 false [((.v 12), false), ((.c (.fn 221 [])), false)]),
      (some (11, true), .un 14 .not (.v 13)),
      (none, .pick 15 (.v 11) (.v 14) (.c (.bool false))),
      (none, .asg 2 (.v 15) .copy)])
    (.ret [2])))⟩
def F301 : PFunc :=
 ⟨[false, false], [.tmp 4],
  (.seq
   (.region [] [] [0, 1] false [
     (none, .asg 4 (.c (.int .i64 0)) .copy)])
   (.seq
    (.region [] [] [0, 1] false [
      (none, .mv 6 (.v 0)),
      (none, .bin 7 .mul (.c (.int .i64 2)) (.v 6)),
      (none, .mv 8 (.v 1)),
      (none, .bin 9 .add (.v 7) (.v 8)),
      (none, .mv 10 (.v 1)),
      (none, .bin 11 .mul (.c (.int .i64 2)) (.v 10)),
      (none, .asg 0 (.v 9) .copy),
      (none, .asg 1 (.v 11) .copy)])
    (.seq
     (.region [] [] [0, 1, 5] false [
       (none, .mv 12 (.v 0)),
       (none, .mv 13 (.v 1)),
       (none, .bin 14 .quo (.v 12) (.v 13)),
       (none, .asg 5 (.v 14) .copy)])
     (.seq
      (.seq
       (.region [] [] [5, 18] false [
         (none, .mv 15 (.v 0)),
         (none, .mv 16 (.v 1)),
         (none, .bin 17 .rem (.v 15) (.v 16)),
         (none, .bin 18 .lss (.v 17) (.c (.int .i64 0)))])
       (.cond (.v 18)
        (.region [] [] [5] false [
          (none, .mv 19 (.v 5)),
          (none, .bin 20 .sub (.v 19) (.c (.int .i64 1))),
          (none, .asg 5 (.v 20) .copy)])
        (.skip [5])))
      (.seq
       (.region [] [] [4] false [
         (none, .mv 21 (.v 5)),
         (none, .asg 4 (.v 21) .copy)])
       (.ret [4]))))))⟩
def F65 : PFunc :=
 ⟨[false, false], [.tmp 4, .tmp 5],
  (.seq
   (.region [] [] [0, 1] false [
     (none, .asg 4 (.c (.sl true 1 [])) .copy),
     (none, .asg 5 (.c (.int .i64 0)) .copy)])
   (.seq
    (.region [(11, 0, false)] [] [0, 1, 6] false [
      (none, .mv 11 (.v 0)),
      (none, .len 12 false (.v 11)),
      (none, .asg 6 (.v 12) .copy)])
    (.seq
     (.block 0
      (.seq
       (.region [(14, 0, false)] [] [0, 1, 6, 13] false [
         (none, .mv 14 (.v 0)),
         (none, .call (some 15) 220 false [((.v 14), false)]),
         (none, .un 16 .not (.v 15)),
         (none, .asg 13 (.v 16) .copy)])
       (.cond (.v 13)
        (.seq
         (.region [] [] [4, 5] false [
           (none, .asg 4 (.c (.sl true 1 [])) .copy),
           (none, .asg 5 (.c (.int .i64 1)) .copy)])
         (.ret [4, 5]))
        (.seq
         (.region [] [] [0, 1, 6, 17] false [
           (none, .mv 18 (.v 1)),
           (none, .mv 19 (.v 6)),
           (none, .call (some 20) 326 false [((.v 18), false), ((.c (.int .i64 1)), false), ((.v 19), false)]),
           (none, .un 21 .not (.v 20)),
           (none, .asg 17 (.v 21) .copy)])
         (.cond (.v 17)
          (.seq
           (.region [] [] [4, 5] false [
             (none, .asg 4 (.c (.sl true 1 [])) .copy),
             (none, .asg 5 (.c (.int .i64 2)) .copy)])
           (.ret [4, 5]))
          (.skip [0, 1, 6]))))))
     (.seq
      (.region [(30, 0, false), (27, 0, false), (25, 0, false), (24, 0, false), (22, 0, false)] [] [1, 6, 7, 8] true [
        (none, .mv 22 (.v 0)),
        (none, .call (some 23) 784 false [((.v 22), false)]),
        (none, .mv 24 (.v 0)),
        (none, .iadr 25 1 (.v 24) (.c (.int .i64 0))),
        (none, .load 26 false 1 (.v 25) none),
        (none, .mv 27 (.v 0)),
        (none, .mv 28 (.v 6)),
        (none, .bin 29 .sub (.v 28) (.c (.int .i64 1))),
        (none, .iadr 30 1 (.v 27) (.v 29)),
        (none, .load 31 false 1 (.v 30) none),
        (none, .bin 32 .sub (.v 26) (.v 31)),
        (none, .asg 7 (.v 23) .move),
        (none, .asg 8 (.v 32) .copy)])
      (.seq
       (.seq
        (.region [] [] [1, 6, 7, 8, 9] false [
          (none, .asg 9 (.c (.int .i64 1)) .copy)])
        (.block 1
         (.loop
          (.seq
           (.seq
            (.region [] [] [1, 6, 7, 8, 9, 35] false [
              (none, .mv 33 (.v 9)),
              (none, .mv 34 (.v 1)),
              (none, .bin 35 .leq (.v 33) (.v 34))])
            (.cond (.v 35)
             (.skip [1, 6, 7, 8, 9])
             (.exit 1 [7])))
           (.seq
            (.block 2
             (.seq
              (.region [] [] [1, 6, 7, 8, 9, 10] false [
                (none, .mv 38 (.v 6)),
                (none, .mv 39 (.v 1)),
                (none, .bin 40 .sub (.v 38) (.v 39)),
                (none, .mv 41 (.v 9)),
                (none, .bin 42 .add (.v 40) (.v 41)),
                (none, .bin 43 .sub (.v 42) (.c (.int .i64 1))),
                (none, .asg 10 (.v 43) .copy)])
              (.region [(59, 7, false), (48, 7, false), (46, 7, false), (44, 7, false)] [] [1, 6, 7, 8, 9] true [
                (none, .mvr 44 7),
                (none, .mv 45 (.v 10)),
                (none, .mvr 46 7),
                (none, .mv 47 (.v 10)),
                (none, .iadr 48 1 (.v 46) (.v 47)),
                (none, .load 49 false 1 (.v 48) none),
                (none, .mv 50 (.v 9)),
                (none, .mv 51 (.v 8)),
                (none, .bin 52 .mul (.v 50) (.v 51)),
                (none, .mv 53 (.v 1)),
                (none, .bin 54 .add (.v 53) (.c (.int .i64 1))),
                (none, .call (some 55) 301 false [((.v 52), false), ((.v 54), false)]),
                (none, .bin 56 .add (.v 49) (.v 55)),
                (none, .mm 57 true (.v 56) [(.c (.int .i64 0))]),
                (none, .mm 58 false (.v 57) [(.c (.int .i64 1000))]),
                (none, .iadr 59 1 (.v 44) (.v 45)),
                (none, .store 1 (.v 59) (.v 58) .copy)])))
            (.region [] [] [1, 6, 7, 8, 9] false [
              (none, .mv 36 (.v 9)),
              (none, .bin 37 .add (.v 36) (.c (.int .i64 1))),
              (none, .asg 9 (.v 37) .copy)]))))))
       (.seq
        (.region [(60, 7, false)] [] [4, 5] false [
          (none, .mv 60 (.v 7)),
          (none, .asg 4 (.v 60) .move),
          (none, .asg 5 (.c (.int .i64 0)) .copy)])
        (.ret [4, 5])))))))⟩
def F269 : PFunc :=
 ⟨[false, false], [.tmp 4],
  (.seq
   (.region [] [] [0, 1] false [
     (none, .asg 4 (.c (.int .i64 0)) .copy)])
   (.seq
    (.block 0
     (.loop
      (.seq
       (.seq
        (.region [] [] [0, 1, 6] false [
          (none, .mv 5 (.v 1)),
          (none, .bin 6 .neq (.v 5) (.c (.int .i64 0)))])
        (.cond (.v 6)
         (.skip [0, 1])
         (.exit 0 [0])))
       (.block 1
        (.region [] [] [0, 1] true [
          (none, .mv 7 (.v 1)),
          (none, .mv 8 (.v 0)),
          (none, .mv 9 (.v 1)),
          (none, .bin 10 .rem (.v 8) (.v 9)),
          (none, .asg 0 (.v 7) .copy),
          (none, .asg 1 (.v 10) .copy)])))))
    (.seq
     (.region [] [] [4] false [
       (none, .mv 11 (.v 0)),
       (none, .mv 12 (.v 0)),
       (none, .un 13 .neg (.v 12)),
       (none, .mm 14 true (.v 11) [(.v 13)]),
       (none, .asg 4 (.v 14) .copy)])
     (.ret [4]))))⟩
def F259 : PFunc :=
 ⟨[false, false], [.tmp 4],
  (.seq
   (.region [] [] [0, 1] false [
     (none, .asg 4 (.c (.int .i64 0)) .copy)])
   (.seq
    (.region [] [] [4] false [
      (none, .mv 5 (.v 0)),
      (none, .mv 6 (.v 0)),
      (none, .mv 7 (.v 1)),
      (none, .call (some 8) 269 false [((.v 6), false), ((.v 7), false)]),
      (none, .bin 9 .quo (.v 5) (.v 8)),
      (none, .mv 10 (.v 1)),
      (none, .bin 11 .mul (.v 9) (.v 10)),
      (none, .asg 4 (.v 11) .copy)])
    (.ret [4])))⟩
def F120 : PFunc :=
 ⟨[false, false], [.tmp 4, .tmp 5],
  (.seq
   (.region [] [] [0, 1] false [
     (none, .asg 4 (.c (.sl true 1 [])) .copy),
     (none, .asg 5 (.c (.int .i64 0)) .copy)])
   (.seq
    (.seq
     (.region [(13, 1, false), (9, 0, false)] [] [0, 1, 16] false [
       (none, .mv 9 (.v 0)),
       (none, .call (some 10) 220 false [((.v 9), false)]),
       (none, .un 11 .not (.v 10)),
       (none, .mv 12 (.v 11)),
       (some (12, false), .mv 13 (.v 1)),
       (some (12, false), .call (some 14) 220 false [((.v 13), false)]),
       (some (12, false), .un 15 .not (.v 14)),
       (none, .pick 16 (.v 12) (.c (.bool true)) (.v 15))])
     (.cond (.v 16)
      (.seq
       (.region [] [] [4, 5] false [
         (none, .asg 4 (.c (.sl true 1 [])) .copy),
         (none, .asg 5 (.c (.int .i64 1)) .copy)])
       (.ret [4, 5]))
      (.skip [0, 1])))
    (.seq
     (.region [(19, 1, false), (17, 0, false)] [] [0, 1, 6] false [
       (none, .mv 17 (.v 0)),
       (none, .len 18 false (.v 17)),
       (none, .mv 19 (.v 1)),
       (none, .len 20 false (.v 19)),
       (none, .call (some 21) 259 false [((.v 18), false), ((.v 20), false)]),
       (none, .asg 6 (.v 21) .copy)])
     (.seq
      (.seq
       (.region [] [] [0, 1, 6, 23] false [
         (none, .mv 22 (.v 6)),
         (none, .bin 23 .gtr (.v 22) (.c (.int .i64 360)))])
       (.cond (.v 23)
        (.seq
         (.region [] [] [4, 5] false [
           (none, .asg 4 (.c (.sl true 1 [])) .copy),
           (none, .asg 5 (.c (.int .i64 5)) .copy)])
         (.ret [4, 5]))
        (.skip [0, 1, 6])))
      (.seq
       (.region [] [] [0, 1, 6, 7] false [
         (none, .mksl 24 1 (.sl true 1 []) 0 []),
         (none, .asg 7 (.v 24) .move)])
       (.seq
        (.seq
         (.region [] [] [0, 1, 7, 25, 26] false [
           (none, .mv 25 (.v 6)),
           (none, .mv 26 (.c (.int .i64 0)))])
         (.block 0
          (.loop
           (.seq
            (.region [] [] [0, 1, 7, 25, 26, 27] false [
              (none, .bin 27 .lss (.v 26) (.v 25))])
            (.seq
             (.cond (.v 27)
              (.skip [0, 1, 7, 25, 26])
              (.exit 0 [7]))
             (.seq
              (.block 1
               (.seq
                (.region [] [] [0, 1, 7, 8, 25, 26] false [
                  (none, .mv 28 (.v 26)),
                  (none, .asg 8 (.v 28) .copy)])
                (.region [(42, 1, false), (39, 1, false), (37, 1, false), (35, 0, false), (32, 0, false), (30, 0, false), (29, 7, false)] [] [0, 1, 7, 25, 26] true [
                  (none, .mvr 29 7),
                  (none, .mv 30 (.v 0)),
                  (none, .mv 31 (.v 8)),
                  (none, .mv 32 (.v 0)),
                  (none, .len 33 false (.v 32)),
                  (none, .bin 34 .rem (.v 31) (.v 33)),
                  (none, .iadr 35 1 (.v 30) (.v 34)),
                  (none, .load 36 false 1 (.v 35) none),
                  (none, .mv 37 (.v 1)),
                  (none, .mv 38 (.v 8)),
                  (none, .mv 39 (.v 1)),
                  (none, .len 40 false (.v 39)),
                  (none, .bin 41 .rem (.v 38) (.v 40)),
                  (none, .iadr 42 1 (.v 37) (.v 41)),
                  (none, .load 43 false 1 (.v 42) none),
                  (none, .mksl 44 1 (.int .i64 0) 2 [(0, (.v 36), .copy), (1, (.v 43), .copy)]),
                  (none, .mksl 45 1 (.sl true 1 []) 1 [(0, (.v 44), .move)]),
                  (none, .app 46 1 (.v 29) (.v 45) .move),
                  (none, .asg 7 (.v 46) .move)])))
              (.region [] [] [0, 1, 7, 25, 26] false [
                (none, .bin 47 .add (.v 26) (.c (.int .i64 1))),
                (none, .mv 26 (.v 47))])))))))
        (.seq
         (.region [(48, 7, false)] [] [4, 5] false [
           (none, .mv 48 (.v 7)),
           (none, .asg 4 (.v 48) .move),
           (none, .asg 5 (.c (.int .i64 0)) .copy)])
         (.ret [4, 5]))))))))⟩
def F197 : PFunc :=
 ⟨[false, false], [.tmp 4, .tmp 5],
  (.seq
   (.region [] [] [0, 1] false [
     (none, .asg 4 (.c (.sl true 1 [])) .copy),
     (none, .asg 5 (.c (.int .i64 0)) .copy)])
   (.seq
    (.block 0
     (.seq
      (.region [(9, 0, false)] [] [0, 1, 8] false [
        (none, .mv 9 (.v 0)),
        (none, .call (some 10) 220 false [((.v 9), false)]),
        (none, .un 11 .not (.v 10)),
        (none, .asg 8 (.v 11) .copy)])
      (.cond (.v 8)
       (.seq
        (.region [] [] [4, 5] false [
          (none, .asg 4 (.c (.sl true 1 [])) .copy),
          (none, .asg 5 (.c (.int .i64 1)) .copy)])
        (.ret [4, 5]))
       (.seq
        (.region [] [] [0, 1, 12] false [
          (none, .mv 13 (.v 1)),
          (none, .call (some 14) 326 false [((.v 13), false), ((.c (.int .i64 1)), false), ((.c (.int .i64 60)), false)]),
          (none, .un 15 .not (.v 14)),
          (none, .asg 12 (.v 15) .copy)])
        (.cond (.v 12)
         (.seq
          (.region [] [] [4, 5] false [
            (none, .asg 4 (.c (.sl true 1 [])) .copy),
            (none, .asg 5 (.c (.int .i64 2)) .copy)])
          (.ret [4, 5]))
         (.seq
          (.region [(17, 0, false)] [] [0, 1, 16] false [
            (none, .mv 17 (.v 0)),
            (none, .len 18 false (.v 17)),
            (none, .mv 19 (.v 1)),
            (none, .bin 20 .rem (.v 18) (.v 19)),
            (none, .bin 21 .neq (.v 20) (.c (.int .i64 0))),
            (none, .asg 16 (.v 21) .copy)])
          (.cond (.v 16)
           (.seq
            (.region [] [] [4, 5] false [
              (none, .asg 4 (.c (.sl true 1 [])) .copy),
              (none, .asg 5 (.c (.int .i64 8)) .copy)])
            (.ret [4, 5]))
           (.skip [0, 1]))))))))
    (.seq
     (.region [] [] [0, 1, 6] false [
       (none, .mksl 22 1 (.int .i64 0) 0 []),
       (none, .asg 6 (.v 22) .move)])
     (.seq
      (.seq
       (.region [] [] [0, 1, 6, 7] false [
         (none, .asg 7 (.c (.int .i64 0)) .copy)])
       (.block 1
        (.loop
         (.seq
          (.seq
           (.region [(24, 0, false)] [] [0, 1, 6, 7, 26] false [
             (none, .mv 23 (.v 7)),
             (none, .mv 24 (.v 0)),
             (none, .len 25 false (.v 24)),
             (none, .bin 26 .lss (.v 23) (.v 25))])
           (.cond (.v 26)
            (.skip [0, 1, 6, 7])
            (.exit 1 [6])))
          (.seq
           (.block 2
            (.region [(33, 0, false), (31, 0, false), (30, 6, false)] [] [0, 1, 6, 7] false [
              (none, .mv 30 (.v 6)),
              (none, .mv 31 (.v 0)),
              (none, .mv 32 (.v 7)),
              (none, .iadr 33 1 (.v 31) (.v 32)),
              (none, .load 34 false 1 (.v 33) none),
              (none, .mksl 35 1 (.int .i64 0) 1 [(0, (.v 34), .copy)]),
              (none, .app 36 1 (.v 30) (.v 35) .move),
              (none, .asg 6 (.v 36) .move)]))
           (.region [] [] [0, 1, 6, 7] false [
             (none, .mv 27 (.v 7)),
             (none, .mv 28 (.v 1)),
             (none, .bin 29 .add (.v 27) (.v 28)),
             (none, .asg 7 (.v 29) .copy)]))))))
      (.seq
       (.region [(37, 6, false)] [] [4, 5] false [
         (none, .mv 37 (.v 6)),
         (none, .asg 4 (.v 37) .move),
         (none, .asg 5 (.c (.int .i64 0)) .copy)])
       (.ret [4, 5]))))))⟩
def F793 : PFunc :=
 ⟨[false], [.tmp 2],
  (.seq
   (.region [] [] [0] false [
     (none, .asg 2 (.c (.sl true 1 [])) .copy)])
   (.seq
    (.region [] [] [0, 3] false [
      (none, .asg 3 (.c (.int .i64 0)) .copy)])
    (.seq
     (.seq
      (.region [(9, 0, false)] [] [0, 3, 9, 10, 11] false [
        (none, .mv 9 (.v 0)),
        (none, .len 10 false (.v 9)),
        (none, .mv 11 (.c (.int .i64 0)))])
      (.block 0
       (.loop
        (.seq
         (.region [(9, 0, false)] [] [0, 3, 9, 10, 11, 12] false [
           (none, .bin 12 .lss (.v 11) (.v 10))])
         (.seq
          (.cond (.v 12)
           (.skip [0, 3, 9, 10, 11])
           (.exit 0 [0, 3]))
          (.seq
           (.block 1
            (.seq
             (.region [(14, 0, true), (13, 0, false), (9, 0, false)] [] [0, 3, 5, 9, 10, 11] false [
               (none, .iadr 13 1 (.v 9) (.v 11)),
               (none, .load 14 false 1 (.v 13) none),
               (none, .asg 5 (.v 14) .freeze)])
             (.seq
              (.region [(16, 5, false), (9, 0, false)] [] [0, 3, 9, 10, 11] false [
                (none, .mv 15 (.v 3)),
                (none, .mv 16 (.v 5)),
                (none, .len 17 false (.v 16)),
                (none, .bin 18 .add (.v 15) (.v 17)),
                (none, .asg 3 (.v 18) .copy)])
              (.seq
               (.region [(9, 0, false)] [] [0, 3, 9, 10, 11, 20] false [
                 (none, .mv 19 (.v 3)),
                 (none, .bin 20 .lss (.v 19) (.c (.int .i64 0)))])
               (.cond (.v 20)
                (.region [(9, 0, false)] [] [0, 3, 9, 10, 11] false [
                  (none, .nope (some 21)),
                  (none, .nope none)])
                (.skip [0, 3, 9, 10, 11]))))))
           (.region [(9, 0, false)] [] [0, 3, 9, 10, 11] false [
             (none, .bin 22 .add (.v 11) (.c (.int .i64 1))),
             (none, .mv 11 (.v 22))])))))))
     (.seq
      (.region [] [] [0, 6] false [
        (none, .mv 23 (.v 3)),
        (none, .call (some 24) 815 false [((.c (.nil 1001)), false), ((.v 23), false)]),
        (none, .asg 6 (.v 24) .move)])
      (.seq
       (.seq
        (.region [(25, 0, false)] [] [0, 6, 25, 26, 27] false [
          (none, .mv 25 (.v 0)),
          (none, .len 26 false (.v 25)),
          (none, .mv 27 (.c (.int .i64 0)))])
        (.block 2
         (.loop
          (.seq
           (.region [(25, 0, false)] [] [0, 6, 25, 26, 27, 28] false [
             (none, .bin 28 .lss (.v 27) (.v 26))])
           (.seq
            (.cond (.v 28)
             (.skip [0, 6, 25, 26, 27])
             (.exit 2 [6]))
            (.seq
             (.block 3
              (.seq
               (.region [(30, 0, true), (29, 0, false), (25, 0, false)] [] [0, 6, 8, 25, 26, 27] false [
                 (none, .iadr 29 1 (.v 25) (.v 27)),
                 (none, .load 30 false 1 (.v 29) none),
                 (none, .asg 8 (.v 30) .freeze)])
               (.region [(32, 8, false), (31, 6, false), (25, 0, false)] [] [0, 6, 25, 26, 27] false [
                 (none, .mv 31 (.v 6)),
                 (none, .mv 32 (.v 8)),
                 (none, .app 33 1 (.v 31) (.v 32) .move),
                 (none, .asg 6 (.v 33) .move)])))
             (.region [(25, 0, false)] [] [0, 6, 25, 26, 27] false [
               (none, .bin 34 .add (.v 27) (.c (.int .i64 1))),
               (none, .mv 27 (.v 34))])))))))
       (.seq
        (.region [(35, 6, false)] [] [2] false [
          (none, .mv 35 (.v 6)),
          (none, .asg 2 (.v 35) .move)])
        (.ret [2])))))))⟩
def F319 : PFunc :=
 ⟨[false, false], [.tmp 4],
  (.seq
   (.region [] [] [0, 1] false [
     (none, .asg 4 (.c (.sl true 1 [])) .copy)])
   (.seq
    (.region [(7, 0, false)] [] [0, 5] false [
      (none, .mv 6 (.v 1)),
      (none, .mv 7 (.v 0)),
      (none, .len 8 false (.v 7)),
      (none, .bin 9 .rem (.v 6) (.v 8)),
      (none, .asg 5 (.v 9) .copy)])
    (.seq
     (.region [(13, 0, false), (10, 0, false)] [] [4] true [
       (none, .mv 10 (.v 0)),
       (none, .mv 11 (.v 5)),
       (none, .slc 12 false 1 (.v 10) (some (.v 11)) none .copy),
       (none, .mv 13 (.v 0)),
       (none, .mv 14 (.v 5)),
       (none, .slc 15 false 1 (.v 13) none (some (.v 14)) .copy),
       (none, .mksl 16 1 (.sl false 1 []) 2 [(0, (.v 12), .copy), (1, (.v 15), .copy)]),
       (none, .call (some 17) 793 false [((.v 16), false)]),
       (none, .asg 4 (.v 17) .move)])
     (.ret [4]))))⟩
def F202 : PFunc :=
 ⟨[false, false], [.tmp 4, .tmp 5],
  (.seq
   (.region [] [] [0, 1] false [
     (none, .asg 4 (.c (.sl true 1 [])) .copy),
     (none, .asg 5 (.c (.int .i64 0)) .copy)])
   (.seq
    (.block 0
     (.seq
      (.region [(7, 0, false)] [] [0, 1, 6] false [
        (none, .mv 7 (.v 0)),
        (none, .call (some 8) 220 false [((.v 7), false)]),
        (none, .un 9 .not (.v 8)),
        (none, .asg 6 (.v 9) .copy)])
      (.cond (.v 6)
       (.seq
        (.region [] [] [4, 5] false [
          (none, .asg 4 (.c (.sl true 1 [])) .copy),
          (none, .asg 5 (.c (.int .i64 1)) .copy)])
        (.ret [4, 5]))
       (.seq
        (.region [] [] [0, 1, 10] false [
          (none, .mv 11 (.v 1)),
          (none, .call (some 12) 326 false [((.v 11), false), ((.c (.int .i64 0)), false), ((.c (.int .i64 60)), false)]),
          (none, .un 13 .not (.v 12)),
          (none, .asg 10 (.v 13) .copy)])
        (.cond (.v 10)
         (.seq
          (.region [] [] [4, 5] false [
            (none, .asg 4 (.c (.sl true 1 [])) .copy),
            (none, .asg 5 (.c (.int .i64 2)) .copy)])
          (.ret [4, 5]))
         (.skip [0, 1]))))))
    (.seq
     (.region [(14, 0, false)] [] [4, 5] false [
       (none, .mv 14 (.v 0)),
       (none, .mv 15 (.v 1)),
       (none, .call (some 16) 319 false [((.v 14), false), ((.v 15), false)]),
       (none, .asg 4 (.v 16) .move),
       (none, .asg 5 (.c (.int .i64 0)) .copy)])
     (.ret [4, 5]))))⟩
def F398 : PFunc :=
 ⟨[false], [.tmp 2],
  (.seq
   (.region [] [] [0] false [
     (none, .asg 2 (.c (.bool false)) .copy)])
   (.seq
    (.region [(3, 0, false)] [] [2] false [
      (none, .mv 3 (.v 0)),
      (none, .len 4 false (.v 3)),
      (none, .bin 5 .gtr (.v 4) (.c (.int .i64 4096))),
      (none, .asg 2 (.v 5) .copy)])
    (.ret [2])))⟩
def F400 : PFunc :=
 ⟨[false, false], [.tmp 4],
  (.seq
   (.region [] [] [0, 1] false [
     (none, .asg 4 (.c (.bool false)) .copy)])
   (.seq
    (.seq
     (.region [(8, 1, false), (6, 0, false)] [] [0, 1, 10] false [
       (none, .mv 6 (.v 0)),
       (none, .len 7 false (.v 6)),
       (none, .mv 8 (.v 1)),
       (none, .len 9 false (.v 8)),
       (none, .bin 10 .neq (.v 7) (.v 9))])
     (.cond (.v 10)
      (.seq
       (.region [] [] [4] false [
         (none, .asg 4 (.c (.bool false)) .copy)])
       (.ret [4]))
      (.skip [0, 1])))
    (.seq
     (.seq
      (.region [] [] [0, 1, 5] false [
        (none, .asg 5 (.c (.int .i64 0)) .copy)])
      (.block 0
       (.loop
        (.seq
         (.seq
          (.region [(12, 0, false)] [] [0, 1, 5, 14] false [
            (none, .mv 11 (.v 5)),
            (none, .mv 12 (.v 0)),
            (none, .len 13 false (.v 12)),
            (none, .bin 14 .lss (.v 11) (.v 13))])
          (.cond (.v 14)
           (.skip [0, 1, 5])
           (.exit 0 [])))
         (.seq
          (.block 1
           (.seq
            (.region [(23, 1, false), (21, 1, false), (19, 0, false), (17, 0, false)] [] [0, 1, 5, 25] true [
              (none, .mv 17 (.v 0)),
              (none, .mv 18 (.v 5)),
              (none, .iadr 19 1 (.v 17) (.v 18)),
              (none, .load 20 false 1 (.v 19) none),
              (none, .mv 21 (.v 1)),
              (none, .mv 22 (.v 5)),
              (none, .iadr 23 1 (.v 21) (.v 22)),
              (none, .load 24 false 1 (.v 23) none),
              (none, .bin 25 .neq (.v 20) (.v 24))])
            (.cond (.v 25)
             (.seq
              (.region [] [] [4] false [
                (none, .asg 4 (.c (.bool false)) .copy)])
              (.ret [4]))
             (.skip [0, 1, 5]))))
          (.region [] [] [0, 1, 5] false [
            (none, .mv 15 (.v 5)),
            (none, .bin 16 .add (.v 15) (.c (.int .i64 1))),
            (none, .asg 5 (.v 16) .copy)]))))))
     (.seq
      (.region [] [] [4] false [
        (none, .asg 4 (.c (.bool true)) .copy)])
      (.ret [4])))))⟩
def F402 : PFunc :=
 ⟨[false], [.tmp 2],
  (.seq
   (.region [] [] [0] false [
     (none, .asg 2 (.c (.int .i64 0)) .copy)])
   (.seq
    (.region [] [] [0, 3] false [
      (none, .asg 3 (.c (.int .i64 0)) .copy)])
    (.seq
     (.seq
      (.region [] [] [0, 3, 4] false [
        (none, .asg 4 (.c (.int .i64 0)) .copy)])
      (.block 0
       (.loop
        (.seq
         (.seq
          (.region [(6, 0, false)] [] [0, 3, 4, 8] false [
            (none, .mv 5 (.v 4)),
            (none, .mv 6 (.v 0)),
            (none, .len 7 false (.v 6)),
            (none, .bin 8 .lss (.v 5) (.v 7))])
          (.cond (.v 8)
           (.skip [0, 3, 4])
           (.exit 0 [3])))
         (.seq
          (.block 1
           (.region [(14, 0, false), (12, 0, false)] [] [0, 3, 4] false [
             (none, .mv 11 (.v 3)),
             (none, .mv 12 (.v 0)),
             (none, .mv 13 (.v 4)),
             (none, .iadr 14 1 (.v 12) (.v 13)),
             (none, .load 15 false 1 (.v 14) none),
             (none, .bin 16 .add (.v 11) (.v 15)),
             (none, .asg 3 (.v 16) .copy)]))
          (.region [] [] [0, 3, 4] false [
            (none, .mv 9 (.v 4)),
            (none, .bin 10 .add (.v 9) (.c (.int .i64 1))),
            (none, .asg 4 (.v 10) .copy)]))))))
     (.seq
      (.region [] [] [2] false [
        (none, .mv 17 (.v 3)),
        (none, .asg 2 (.v 17) .copy)])
      (.ret [2])))))⟩
def F605 : PFunc :=
 ⟨[false, false, false], [.tmp 6],
  (.seq
   (.region [] [] [0, 1, 2] false [
     (none, .asg 6 (.c (.bool false)) .copy)])
   (.seq
    (.region [] [] [6] false [
      (none, .mv 7 (.v 0)),
      (none, .mv 8 (.v 1)),
      (none, .bin 9 .geq (.v 7) (.v 8)),
      (none, .mv 10 (.v 9)),
      (some (10, true), .mv 11 (.v 0)),
      (some (10, true), .mv 12 (.v 2)),
      (some (10, true), .bin 13 .leq (.v 11) (.v 12)),
      (none, .pick 14 (.v 10) (.v 13) (.c (.bool false))),
      (none, .asg 6 (.v 14) .copy)])
    (.ret [6])))⟩
def F606 : PFunc :=
 ⟨[false, false], [.tmp 4],
  (.seq
   (.region [] [] [0, 1] false [
     (none, .asg 4 (.c (.int .i64 0)) .copy)])
   (.seq
    (.seq
     (.region [] [] [0, 1, 7] false [
       (none, .mv 5 (.v 0)),
       (none, .mv 6 (.v 1)),
       (none, .bin 7 .gtr (.v 5) (.v 6))])
     (.cond (.v 7)
      (.seq
       (.region [] [] [4] false [
         (none, .mv 8 (.v 0)),
         (none, .asg 4 (.v 8) .copy)])
       (.ret [4]))
      (.skip [1])))
    (.seq
     (.region [] [] [4] false [
       (none, .mv 9 (.v 1)),
       (none, .asg 4 (.v 9) .copy)])
     (.ret [4]))))⟩
def F607 : PFunc :=
 ⟨[false, false], [.tmp 4],
  (.seq
   (.region [] [] [0, 1] false [
     (none, .asg 4 (.c (.int .i64 0)) .copy)])
   (.seq
    (.seq
     (.region [] [] [0, 1, 7] false [
       (none, .mv 5 (.v 0)),
       (none, .mv 6 (.v 1)),
       (none, .bin 7 .lss (.v 5) (.v 6))])
     (.cond (.v 7)
      (.seq
       (.region [] [] [4] false [
         (none, .mv 8 (.v 0)),
         (none, .asg 4 (.v 8) .copy)])
       (.ret [4]))
      (.skip [1])))
    (.seq
     (.region [] [] [4] false [
       (none, .mv 9 (.v 1)),
       (none, .asg 4 (.v 9) .copy)])
     (.ret [4]))))⟩
def F602 : PFunc :=
 ⟨[false, false], [.tmp 4],
  (.seq
   (.region [] [] [0, 1] false [
     (none, .asg 4 (.c (.int .i64 0)) .copy)])
   (.seq
    (.region [] [] [0, 1, 5] false [
      (none, .mv 6 (.v 0)),
      (none, .mv 7 (.v 1)),
      (none, .bin 8 .quo (.v 6) (.v 7)),
      (none, .asg 5 (.v 8) .copy)])
    (.seq
     (.seq
      (.region [] [] [5, 12] false [
        (none, .mv 9 (.v 0)),
        (none, .mv 10 (.v 1)),
        (none, .bin 11 .rem (.v 9) (.v 10)),
        (none, .bin 12 .lss (.v 11) (.c (.int .i64 0)))])
      (.cond (.v 12)
       (.region [] [] [5] false [
         (none, .mv 13 (.v 5)),
         (none, .bin 14 .sub (.v 13) (.c (.int .i64 1))),
         (none, .asg 5 (.v 14) .copy)])
       (.skip [5])))
     (.seq
      (.region [] [] [4] false [
        (none, .mv 15 (.v 5)),
        (none, .asg 4 (.v 15) .copy)])
      (.ret [4])))))⟩
def F610 : PFunc :=
 ⟨[false, false], [.tmp 4],
  (.seq
   (.region [] [] [0, 1] false [
     (none, .asg 4 (.c (.int .i64 0)) .copy)])
   (.seq
    (.region [] [] [4] false [
      (none, .mv 5 (.v 0)),
      (none, .bin 6 .mul (.c (.int .i64 2)) (.v 5)),
      (none, .mv 7 (.v 1)),
      (none, .bin 8 .add (.v 6) (.v 7)),
      (none, .mv 9 (.v 1)),
      (none, .bin 10 .mul (.c (.int .i64 2)) (.v 9)),
      (none, .call (some 11) 602 false [((.v 8), false), ((.v 10), false)]),
      (none, .asg 4 (.v 11) .copy)])
    (.ret [4])))⟩
def F637 : PFunc :=
 ⟨[false], [.tmp 2],
  (.seq
   (.region [] [] [0] false [
     (none, .asg 2 (.c (.bool false)) .copy)])
   (.seq
    (.seq
     (.region [] [] [0, 3] false [
       (none, .asg 3 (.c (.int .i64 0)) .copy)])
     (.block 0
      (.loop
       (.seq
        (.seq
         (.region [(5, 0, false)] [] [0, 3, 7] false [
           (none, .mv 4 (.v 3)),
           (none, .mv 5 (.v 0)),
           (none, .len 6 false (.v 5)),
           (none, .bin 7 .lss (.v 4) (.v 6))])
         (.cond (.v 7)
          (.skip [0, 3])
          (.exit 0 [0])))
        (.seq
         (.block 1
          (.seq
           (.region [(12, 0, false), (10, 0, false)] [] [0, 3, 15] false [
             (none, .mv 10 (.v 0)),
             (none, .mv 11 (.v 3)),
             (none, .iadr 12 1 (.v 10) (.v 11)),
             (none, .load 13 false 1 (.v 12) none),
             (none, .call (some 14) 605 false [((.v 13), false), ((.c (.int .i64 0)), false), ((.c (.int .i64 1000)), false)]),
             (none, .un 15 .not (.v 14))])
           (.cond (.v 15)
            (.seq
             (.region [] [] [2] false [
               (none, .asg 2 (.c (.bool false)) .copy)])
             (.ret [2]))
            (.skip [0, 3]))))
         (.region [] [] [0, 3] false [
           (none, .mv 8 (.v 3)),
           (none, .bin 9 .add (.v 8) (.c (.int .i64 1))),
           (none, .asg 3 (.v 9) .copy)]))))))
    (.seq
     (.region [(16, 0, false)] [] [2] false [
       (none, .mv 16 (.v 0)),
       (none, .len 17 false (.v 16)),
       (none, .call (some 18) 605 false [((.v 17), false), ((.c (.int .i64 1)), false), ((.c (.int .i64 60)), false)]),
       (none, .asg 2 (.v 18) .copy)])
     (.ret [2]))))⟩
def F448 : PFunc :=
 ⟨[false, false], [.tmp 4, .tmp 5],
  (.seq
   (.region [] [] [0, 1] false [
     (none, .asg 4 (.c (.sl true 1 [])) .copy),
     (none, .asg 5 (.c (.int .i64 0)) .copy)])
   (.seq
    (.seq
     (.region [(11, 0, false)] [] [0, 1, 13] false [
       (none, .mv 11 (.v 0)),
       (none, .call (some 12) 637 false [((.v 11), false)]),
       (none, .un 13 .not (.v 12))])
     (.cond (.v 13)
      (.seq
       (.region [] [] [4, 5] false [
         (none, .asg 4 (.c (.sl true 1 [])) .copy),
         (none, .asg 5 (.c (.int .i64 1)) .copy)])
       (.ret [4, 5]))
      (.skip [0, 1])))
    (.seq
     (.region [(14, 0, false)] [] [0, 1, 6] false [
       (none, .mv 14 (.v 0)),
       (none, .len 15 false (.v 14)),
       (none, .asg 6 (.v 15) .copy)])
     (.seq
      (.seq
       (.region [] [] [0, 1, 6, 19] false [
         (none, .mv 16 (.v 1)),
         (none, .mv 17 (.v 6)),
         (none, .call (some 18) 605 false [((.v 16), false), ((.c (.int .i64 1)), false), ((.v 17), false)]),
         (none, .un 19 .not (.v 18))])
       (.cond (.v 19)
        (.seq
         (.region [] [] [4, 5] false [
           (none, .asg 4 (.c (.sl true 1 [])) .copy),
           (none, .asg 5 (.c (.int .i64 2)) .copy)])
         (.ret [4, 5]))
        (.skip [0, 1, 6])))
      (.seq
       (.region [(26, 0, false), (23, 0, false), (21, 0, false), (20, 0, false)] [] [0, 1, 6, 7] true [
         (none, .mv 20 (.v 0)),
         (none, .iadr 21 1 (.v 20) (.c (.int .i64 0))),
         (none, .load 22 false 1 (.v 21) none),
         (none, .mv 23 (.v 0)),
         (none, .mv 24 (.v 6)),
         (none, .bin 25 .sub (.v 24) (.c (.int .i64 1))),
         (none, .iadr 26 1 (.v 23) (.v 25)),
         (none, .load 27 false 1 (.v 26) none),
         (none, .bin 28 .sub (.v 22) (.v 27)),
         (none, .asg 7 (.v 28) .copy)])
       (.seq
        (.region [] [] [0, 1, 6, 7, 8] false [
          (none, .mksl 29 1 (.int .i64 0) 0 []),
          (none, .asg 8 (.v 29) .move)])
        (.seq
         (.seq
          (.region [] [] [0, 1, 6, 7, 8, 9] false [
            (none, .asg 9 (.c (.int .i64 0)) .copy)])
          (.block 0
           (.loop
            (.seq
             (.seq
              (.region [] [] [0, 1, 6, 7, 8, 9, 32] false [
                (none, .mv 30 (.v 9)),
                (none, .mv 31 (.v 6)),
                (none, .bin 32 .lss (.v 30) (.v 31))])
              (.cond (.v 32)
               (.skip [0, 1, 6, 7, 8, 9])
               (.exit 0 [8])))
             (.seq
              (.block 1
               (.seq
                (.region [] [] [0, 1, 6, 7, 8, 9, 10] false [
                  (none, .mv 35 (.v 9)),
                  (none, .mv 36 (.v 6)),
                  (none, .mv 37 (.v 1)),
                  (none, .bin 38 .sub (.v 36) (.v 37)),
                  (none, .bin 39 .sub (.v 35) (.v 38)),
                  (none, .bin 40 .add (.v 39) (.c (.int .i64 1))),
                  (none, .call (some 41) 606 false [((.c (.int .i64 0)), false), ((.v 40), false)]),
                  (none, .asg 10 (.v 41) .copy)])
                (.region [(45, 0, false), (43, 0, false), (42, 8, false)] [] [0, 1, 6, 7, 8, 9] true [
                  (none, .mvr 42 8),
                  (none, .mv 43 (.v 0)),
                  (none, .mv 44 (.v 9)),
                  (none, .iadr 45 1 (.v 43) (.v 44)),
                  (none, .load 46 false 1 (.v 45) none),
                  (none, .mv 47 (.v 7)),
                  (none, .mv 48 (.v 10)),
                  (none, .bin 49 .mul (.v 47) (.v 48)),
                  (none, .mv 50 (.v 1)),
                  (none, .bin 51 .add (.v 50) (.c (.int .i64 1))),
                  (none, .call (some 52) 610 false [((.v 49), false), ((.v 51), false)]),
                  (none, .bin 53 .add (.v 46) (.v 52)),
                  (none, .call (some 54) 606 false [((.c (.int .i64 0)), false), ((.v 53), false)]),
                  (none, .call (some 55) 607 false [((.c (.int .i64 1000)), false), ((.v 54), false)]),
                  (none, .mksl 56 1 (.int .i64 0) 1 [(0, (.v 55), .copy)]),
                  (none, .app 57 1 (.v 42) (.v 56) .move),
                  (none, .asg 8 (.v 57) .move)])))
              (.region [] [] [0, 1, 6, 7, 8, 9] false [
                (none, .mv 33 (.v 9)),
                (none, .bin 34 .add (.v 33) (.c (.int .i64 1))),
                (none, .asg 9 (.v 34) .copy)]))))))
         (.seq
          (.region [(58, 8, false)] [] [4, 5] false [
            (none, .mv 58 (.v 8)),
            (none, .asg 4 (.v 58) .move),
            (none, .asg 5 (.c (.int .i64 0)) .copy)])
          (.ret [4, 5])))))))))⟩
def F5 : PFunc :=
 ⟨[true], [.tmp 2],
  (.seq
   (.region [] [] [0] false [
     (none, .asg 2 (.c (.int .i64 0)) .copy)])
   (.seq
    (.region [] [] [0, 3] false [
      (none, .asg 3 (.c (.int .i64 0)) .copy)])
    (.seq
     (.seq
      (.region [(11, 0, true), (10, 0, false), (9, 0, false), (8, 0, false), (6, 0, false), (5, 0, false), (4, 0, false)] [] [0, 3, 13] true [
        (none, .mvr 4 0),
        (none, .nchk 5 (.v 4)),
        (none, .fadr 6 1 1 (.v 5)),
        (none, .load 7 false 1 (.v 6) none),
        (none, .mvr 8 0),
        (none, .nchk 9 (.v 8)),
        (none, .fadr 10 0 1 (.v 9)),
        (none, .load 11 false 1 (.v 10) none),
        (none, .len 12 false (.v 11)),
        (none, .bin 13 .lss (.v 7) (.v 12))])
      (.cond (.v 13)
       (.region [(22, 0, true), (20, 0, false), (19, 0, false), (18, 0, false), (17, 0, true), (16, 0, false), (15, 0, false), (14, 0, false)] [] [0, 3] true [
         (none, .mvr 14 0),
         (none, .nchk 15 (.v 14)),
         (none, .fadr 16 0 1 (.v 15)),
         (none, .load 17 false 1 (.v 16) none),
         (none, .mvr 18 0),
         (none, .nchk 19 (.v 18)),
         (none, .fadr 20 1 1 (.v 19)),
         (none, .load 21 false 1 (.v 20) none),
         (none, .iadr 22 1 (.v 17) (.v 21)),
         (none, .load 23 false 1 (.v 22) none),
         (none, .conv 24 .i64 (.v 23)),
         (none, .asg 3 (.v 24) .copy)])
       (.skip [0, 3])))
     (.seq
      (.region [(31, 0, false), (30, 0, false), (27, 0, false), (26, 0, false), (25, 0, false)] [] [0, 3] false [
        (none, .mv 25 (.v 0)),
        (none, .nchk 26 (.v 25)),
        (none, .fadr 27 1 1 (.v 26)),
        (none, .load 28 false 1 (.v 27) none),
        (none, .bin 29 .add (.v 28) (.c (.int .i64 1))),
        (none, .nchk 30 (.v 25)),
        (none, .fadr 31 1 1 (.v 30)),
        (none, .store 1 (.v 31) (.v 29) .copy)])
      (.seq
       (.region [(43, 0, false), (42, 0, false), (35, 0, false), (34, 0, false), (33, 0, false), (32, 0, false)] [] [0, 3] false [
         (none, .mv 32 (.v 0)),
         (none, .mv 33 (.v 0)),
         (none, .nchk 34 (.v 33)),
         (none, .fadr 35 2 1 (.v 34)),
         (none, .load 36 false 1 (.v 35) none),
         (none, .bin 37 .mul (.v 36) (.c (.int .u64 6364136223846793005))),
         (none, .mv 38 (.v 3)),
         (none, .conv 39 .u64 (.v 38)),
         (none, .bin 40 .add (.v 37) (.v 39)),
         (none, .bin 41 .add (.v 40) (.c (.int .u64 1442695040888963407))),
         (none, .nchk 42 (.v 32)),
         (none, .fadr 43 2 1 (.v 42)),
         (none, .store 1 (.v 43) (.v 41) .copy)])
       (.seq
        (.seq
         (.region [(51, 0, true), (50, 0, false), (49, 0, false), (48, 0, false), (46, 0, false), (45, 0, false), (44, 0, false)] [] [0, 3, 53] true [
           (none, .mvr 44 0),
           (none, .nchk 45 (.v 44)),
           (none, .fadr 46 1 1 (.v 45)),
           (none, .load 47 false 1 (.v 46) none),
           (none, .mvr 48 0),
           (none, .nchk 49 (.v 48)),
           (none, .fadr 50 0 1 (.v 49)),
           (none, .load 51 false 1 (.v 50) none),
           (none, .len 52 false (.v 51)),
           (none, .bin 53 .leq (.v 47) (.v 52))])
         (.cond (.v 53)
          (.seq
           (.region [] [] [0, 2] false [
             (none, .mv 54 (.v 3)),
             (none, .asg 2 (.v 54) .copy)])
           (.ret [0, 2]))
          (.skip [0])))
        (.seq
         (.region [(57, 0, false), (56, 0, false), (55, 0, false)] [] [0, 2] false [
           (none, .mv 55 (.v 0)),
           (none, .nchk 56 (.v 55)),
           (none, .fadr 57 2 1 (.v 56)),
           (none, .load 58 false 1 (.v 57) none),
           (none, .bin 59 .shr (.v 58) (.c (.int .u64 40))),
           (none, .bin 60 .and (.v 59) (.c (.int .u64 255))),
           (none, .conv 61 .i64 (.v 60)),
           (none, .asg 2 (.v 61) .copy)])
         (.ret [0, 2]))))))))⟩
def F7 : PFunc :=
 ⟨[true, false], [.tmp 4],
  (.seq
   (.region [] [] [0, 1] false [
     (none, .asg 4 (.c (.int .i64 0)) .copy)])
   (.seq
    (.seq
     (.region [] [] [0, 1, 7] false [
       (none, .mv 6 (.v 1)),
       (none, .bin 7 .leq (.v 6) (.c (.int .i64 1)))])
     (.cond (.v 7)
      (.seq
       (.region [] [] [0, 4] false [
         (none, .asg 4 (.c (.int .i64 0)) .copy)])
       (.ret [0, 4]))
      (.skip [0, 1])))
    (.seq
     (.region [(8, 0, false)] [] [0, 1, 5] false [
       (none, .mv 8 (.v 0)),
       (none, .call (some 9) 5 true [((.v 8), true)]),
       (none, .asg 5 (.v 9) .copy)])
     (.seq
      (.seq
       (.region [] [] [0, 1, 5, 11] false [
         (none, .mv 10 (.v 1)),
         (none, .bin 11 .gtr (.v 10) (.c (.int .i64 200)))])
       (.cond (.v 11)
        (.region [(14, 0, false)] [] [0, 1, 5] false [
          (none, .mv 12 (.v 5)),
          (none, .bin 13 .mul (.v 12) (.c (.int .i64 256))),
          (none, .mv 14 (.v 0)),
          (none, .call (some 15) 5 true [((.v 14), true)]),
          (none, .bin 16 .add (.v 13) (.v 15)),
          (none, .asg 5 (.v 16) .copy)])
        (.skip [0, 1, 5])))
      (.seq
       (.region [] [] [0, 4] false [
         (none, .mv 17 (.v 5)),
         (none, .mv 18 (.v 1)),
         (none, .bin 19 .rem (.v 17) (.v 18)),
         (none, .asg 4 (.v 19) .copy)])
       (.ret [0, 4]))))))⟩
def F4 : PFunc :=
 ⟨[true, false], [.tmp 4],
  (.seq
   (.region [] [] [0, 1] false [
     (none, .asg 4 (.c (.int .i64 0)) .copy)])
   (.seq
    (.region [(10, 1, false), (7, 1, false), (6, 0, false), (5, 1, false)] [] [0, 4] false [
      (none, .mv 5 (.v 1)),
      (none, .mv 6 (.v 0)),
      (none, .mv 7 (.v 1)),
      (none, .len 8 false (.v 7)),
      (none, .call (some 9) 7 true [((.v 6), true), ((.v 8), false)]),
      (none, .iadr 10 1 (.v 5) (.v 9)),
      (none, .load 11 false 1 (.v 10) none),
      (none, .asg 4 (.v 11) .copy)])
    (.ret [0, 4])))⟩
def F6 : PFunc :=
 ⟨[true, false], [.tmp 4],
  (.seq
   (.region [] [] [0, 1] false [
     (none, .asg 4 (.c (.bool false)) .copy)])
   (.seq
    (.region [(5, 0, false)] [] [0, 4] false [
      (none, .mv 5 (.v 0)),
      (none, .mv 6 (.v 1)),
      (none, .call (some 7) 7 true [((.v 5), true), ((.v 6), false)]),
      (none, .bin 8 .eql (.v 7) (.c (.int .i64 0))),
      (none, .asg 4 (.v 8) .copy)])
    (.ret [0, 4])))⟩
def F603 : PFunc :=
 ⟨[false], [.tmp 2],
  (.seq
   (.region [] [] [0] false [
     (none, .asg 2 (.c .nilp) .copy)])
   (.seq
    (.region [(3, 0, false)] [] [2] false [
      (none, .mv 3 (.v 0)),
      (none, .build 4 [(.sl false 1 []), (.int .i64 0), (.int .u64 0)] [(0, 1, (.v 3), .move)]),
      (none, .box 5 (.v 4) .move),
      (none, .asg 2 (.v 5) .move)])
    (.ret [2])))⟩
def F636 : PFunc :=
 ⟨[true, false], [.tmp 4],
  (.seq
   (.region [] [] [0, 1] false [
     (none, .asg 4 (.c (.sl true 1 [])) .copy)])
   (.seq
    (.region [] [] [0, 1, 5] false [
      (none, .mksl 8 1 (.int .i64 0) 0 []),
      (none, .asg 5 (.v 8) .move)])
    (.seq
     (.region [(9, 0, false)] [] [0, 1, 5, 6] false [
       (none, .mv 9 (.v 0)),
       (none, .call (some 10) 7 true [((.v 9), true), ((.c (.int .i64 100)), false)]),
       (none, .asg 6 (.v 10) .copy)])
     (.seq
      (.seq
       (.region [] [] [0, 5, 6, 7] false [
         (none, .mv 11 (.v 1)),
         (none, .asg 7 (.v 11) .copy)])
       (.block 0
        (.loop
         (.seq
          (.seq
           (.region [] [] [0, 5, 6, 7, 13] false [
             (none, .mv 12 (.v 7)),
             (none, .bin 13 .gtr (.v 12) (.c (.int .i64 0)))])
           (.cond (.v 13)
            (.skip [0, 5, 6, 7])
            (.exit 0 [0, 5])))
          (.seq
           (.block 1
            (.seq
             (.region [(16, 5, false)] [] [0, 5, 6, 7] false [
               (none, .mv 16 (.v 5)),
               (none, .mv 17 (.v 6)),
               (none, .mksl 18 1 (.int .i64 0) 1 [(0, (.v 17), .copy)]),
               (none, .app 19 1 (.v 16) (.v 18) .move),
               (none, .asg 5 (.v 19) .move)])
             (.region [(21, 0, false)] [] [0, 5, 6, 7] false [
               (none, .mv 20 (.v 6)),
               (none, .mv 21 (.v 0)),
               (none, .call (some 22) 7 true [((.v 21), true), ((.c (.int .i64 30)), false)]),
               (none, .bin 23 .add (.v 20) (.v 22)),
               (none, .bin 24 .sub (.v 23) (.c (.int .i64 14))),
               (none, .call (some 25) 606 false [((.c (.int .i64 0)), false), ((.v 24), false)]),
               (none, .asg 6 (.v 25) .copy)])))
           (.region [] [] [0, 5, 6, 7] false [
             (none, .mv 14 (.v 7)),
             (none, .bin 15 .sub (.v 14) (.c (.int .i64 1))),
             (none, .asg 7 (.v 15) .copy)]))))))
      (.seq
       (.region [(26, 5, false)] [] [0, 4] false [
         (none, .mv 26 (.v 5)),
         (none, .asg 4 (.v 26) .move)])
       (.ret [0, 4]))))))⟩
def F635 : PFunc :=
 ⟨[true], [.tmp 2],
  (.seq
   (.region [] [] [0] false [
     (none, .asg 2 (.c (.sl true 1 [])) .copy)])
   (.seq
    (.region [(5, 0, false)] [] [0, 3] false [
      (none, .mv 5 (.v 0)),
      (none, .call (some 6) 7 true [((.v 5), true), ((.c (.int .i64 12)), false)]),
      (none, .bin 7 .add (.c (.int .i64 1)) (.v 6)),
      (none, .asg 3 (.v 7) .copy)])
    (.seq
     (.seq
      (.region [(8, 0, false)] [] [0, 3, 9] false [
        (none, .mv 8 (.v 0)),
        (none, .call (some 9) 6 true [((.v 8), true), ((.c (.int .i64 16)), false)])])
      (.cond (.v 9)
       (.region [(10, 0, false)] [] [0, 3] false [
         (none, .mv 10 (.v 0)),
         (none, .mksl 11 1 (.int .i64 0) 4 [(0, (.c (.int .i64 0)), .copy), (1, (.c (.int .i64 1)), .copy), (2, (.c (.int .i64 60)), .copy), (3, (.c (.int .i64 61)), .copy)]),
         (none, .call (some 12) 4 true [((.v 10), true), ((.v 11), false)]),
         (none, .asg 3 (.v 12) .copy)])
       (.skip [0, 3])))
     (.seq
      (.region [(13, 0, false)] [] [0, 3, 4] false [
        (none, .mv 13 (.v 0)),
        (none, .mv 14 (.v 3)),
        (none, .call (some 15) 636 true [((.v 13), true), ((.v 14), false)]),
        (none, .asg 4 (.v 15) .move)])
      (.seq
       (.seq
        (.region [(19, 0, false)] [] [0, 3, 4, 21] false [
          (none, .mv 16 (.v 3)),
          (none, .bin 17 .gtr (.v 16) (.c (.int .i64 0))),
          (none, .mv 18 (.v 17)),
          (some (18, true), .mv 19 (.v 0)),
          (some (18, true), .call (some 20) 6 true [((.v 19), true), ((.c (.int .i64 12)), false)]),
          (none, .pick 21 (.v 18) (.v 20) (.c (.bool false)))])
        (.cond (.v 21)
         (.region [(29, 4, false), (26, 0, false), (23, 0, false), (22, 4, false)] [] [0, 4] false [
           (none, .mv 22 (.v 4)),
           (none, .mv 23 (.v 0)),
           (none, .mv 24 (.v 3)),
           (none, .call (some 25) 7 true [((.v 23), true), ((.v 24), false)]),
           (none, .mv 26 (.v 0)),
           (none, .mksl 27 1 (.int .i64 0) 5 [(0, (.c (.int .i64 (-1))), .copy), (1, (.c (.int .i64 0)), .copy), (2, (.c (.int .i64 1000)), .copy), (3, (.c (.int .i64 1001)), .copy), (4, (.c (.int .i64 (-9223372036854775808))), .copy)]),
           (none, .call (some 28) 4 true [((.v 26), true), ((.v 27), false)]),
           (none, .iadr 29 1 (.v 22) (.v 25)),
           (none, .store 1 (.v 29) (.v 28) .copy)])
         (.skip [0, 4])))
       (.seq
        (.region [(30, 4, false)] [] [0, 2] false [
          (none, .mv 30 (.v 4)),
          (none, .asg 2 (.v 30) .move)])
        (.ret [0, 2])))))))⟩
def F633 : PFunc :=
 ⟨[false], [.tmp 2, .tmp 3],
  (.seq
   (.region [] [] [0] false [
     (none, .asg 2 (.c (.sl true 1 [])) .copy),
     (none, .asg 3 (.c (.int .i64 0)) .copy)])
   (.seq
    (.region [(6, 0, false)] [] [4] false [
      (none, .mv 6 (.v 0)),
      (none, .call (some 7) 603 true [((.v 6), false)]),
      (none, .asg 4 (.v 7) .move)])
    (.seq
     (.region [(8, 4, false)] [] [4, 5] false [
       (none, .mv 8 (.v 4)),
       (none, .call (some 9) 635 true [((.v 8), true)]),
       (none, .asg 5 (.v 9) .move)])
     (.seq
      (.seq
       (.region [(10, 4, false)] [] [4, 5, 11] false [
         (none, .mv 10 (.v 4)),
         (none, .call (some 11) 6 true [((.v 10), true), ((.c (.int .i64 8)), false)])])
       (.cond (.v 11)
        (.seq
         (.region [(16, 5, false), (14, 5, false), (13, 4, false), (12, 5, false)] [] [2, 3] false [
           (none, .mv 12 (.v 5)),
           (none, .mv 13 (.v 4)),
           (none, .mv 14 (.v 5)),
           (none, .len 15 false (.v 14)),
           (none, .mv 16 (.v 5)),
           (none, .len 17 false (.v 16)),
           (none, .bin 18 .add (.v 17) (.c (.int .i64 1))),
           (none, .mksl 19 1 (.int .i64 0) 7 [(0, (.c (.int .i64 (-1))), .copy), (1, (.c (.int .i64 0)), .copy), (2, (.c (.int .i64 1)), .copy), (3, (.v 15), .copy), (4, (.v 18), .copy), (5, (.c (.int .i64 60)), .copy), (6, (.c (.int .i64 61)), .copy)]),
           (none, .call (some 20) 4 true [((.v 13), true), ((.v 19), false)]),
           (none, .asg 2 (.v 12) .move),
           (none, .asg 3 (.v 20) .copy)])
         (.ret [2, 3]))
        (.skip [4, 5])))
      (.seq
       (.region [(22, 4, false), (21, 5, false)] [] [2, 3] false [
         (none, .mv 21 (.v 5)),
         (none, .mv 22 (.v 4)),
         (none, .call (some 23) 7 true [((.v 22), true), ((.c (.int .i64 6)), false)]),
         (none, .bin 24 .add (.c (.int .i64 1)) (.v 23)),
         (none, .asg 2 (.v 21) .move),
         (none, .asg 3 (.v 24) .copy)])
       (.ret [2, 3]))))))⟩
def F462 : PFunc :=
 ⟨[false], [.tmp 2, .tmp 3],
  (.seq
   (.region [] [] [0] false [
     (none, .asg 2 (.c (.sl true 1 [])) .copy),
     (none, .asg 3 (.c (.int .i64 0)) .copy)])
   (.seq
    (.region [(4, 0, false)] [] [2, 3] false [
      (none, .mv 4 (.v 0)),
      (none, .call (some 5) 633 false [((.v 4), false)]),
      (none, .ext 6 (.v 5) 0),
      (none, .extp 7 (.v 5) 1),
      (none, .asg 2 (.v 6) .move),
      (none, .asg 3 (.v 7) .copy)])
    (.ret [2, 3])))⟩
def F479 : PFunc :=
 ⟨[false], [.tmp 2, .tmp 3],
  (.seq
   (.region [] [] [0] false [
     (none, .asg 2 (.c (.sl true 1 [])) .copy),
     (none, .asg 3 (.c (.sl true 1 [])) .copy)])
   (.seq
    (.region [(6, 0, false)] [] [4] false [
      (none, .mv 6 (.v 0)),
      (none, .call (some 7) 603 true [((.v 6), false)]),
      (none, .asg 4 (.v 7) .move)])
    (.seq
     (.region [(8, 4, false)] [] [4, 5] false [
       (none, .mv 8 (.v 4)),
       (none, .call (some 9) 635 true [((.v 8), true)]),
       (none, .asg 5 (.v 9) .move)])
     (.seq
      (.seq
       (.region [(10, 4, false)] [] [4, 5, 11] false [
         (none, .mv 10 (.v 4)),
         (none, .call (some 11) 6 true [((.v 10), true), ((.c (.int .i64 12)), false)])])
       (.cond (.v 11)
        (.seq
         (.region [(15, 4, false), (14, 4, false), (12, 4, false)] [] [2, 3] false [
           (none, .mv 12 (.v 4)),
           (none, .call (some 13) 636 true [((.v 12), true), ((.c (.int .i64 20)), false)]),
           (none, .mv 14 (.v 4)),
           (none, .mv 15 (.v 4)),
           (none, .call (some 16) 7 true [((.v 15), true), ((.c (.int .i64 2)), false)]),
           (none, .bin 17 .add (.c (.int .i64 18)) (.v 16)),
           (none, .call (some 18) 636 true [((.v 14), true), ((.v 17), false)]),
           (none, .asg 2 (.v 13) .move),
           (none, .asg 3 (.v 18) .move)])
         (.ret [2, 3]))
        (.skip [4, 5])))
      (.seq
       (.region [(20, 4, false), (19, 5, false)] [] [2, 3] false [
         (none, .mv 19 (.v 5)),
         (none, .mv 20 (.v 4)),
         (none, .call (some 21) 635 true [((.v 20), true)]),
         (none, .asg 2 (.v 19) .move),
         (none, .asg 3 (.v 21) .move)])
       (.ret [2, 3]))))))⟩
def F505 : PFunc :=
 ⟨[false], [.tmp 2, .tmp 3],
  (.seq
   (.region [] [] [0] false [
     (none, .asg 2 (.c (.sl true 1 [])) .copy),
     (none, .asg 3 (.c (.int .i64 0)) .copy)])
   (.seq
    (.region [(8, 0, false)] [] [0, 4, 5] false [
      (none, .mv 8 (.v 0)),
      (none, .call (some 9) 633 false [((.v 8), false)]),
      (none, .asg 7 (.v 9) .move),
      (none, .ext 10 (.v 7) 0),
      (none, .extp 11 (.v 7) 1),
      (none, .asg 4 (.v 10) .move),
      (none, .asg 5 (.v 11) .copy)])
    (.seq
     (.region [(12, 0, false)] [] [4, 5, 6] false [
       (none, .mv 12 (.v 0)),
       (none, .call (some 13) 603 true [((.v 12), false)]),
       (none, .asg 6 (.v 13) .move)])
     (.seq
      (.seq
       (.region [(18, 6, false), (14, 4, false)] [] [4, 5, 6, 20] false [
         (none, .mv 14 (.v 4)),
         (none, .len 15 false (.v 14)),
         (none, .bin 16 .gtr (.v 15) (.c (.int .i64 0))),
         (none, .mv 17 (.v 16)),
         (some (17, true), .mv 18 (.v 6)),
         (some (17, true), .call (some 19) 6 true [((.v 18), true), ((.c (.int .i64 2)), false)]),
         (none, .pick 20 (.v 17) (.v 19) (.c (.bool false)))])
       (.cond (.v 20)
        (.seq
         (.region [(23, 6, false), (21, 6, false)] [] [2, 3] false [
           (none, .mv 21 (.v 6)),
           (none, .call (some 22) 636 true [((.v 21), true), ((.c (.int .i64 12)), false)]),
           (none, .mv 23 (.v 6)),
           (none, .call (some 24) 7 true [((.v 23), true), ((.c (.int .i64 6)), false)]),
           (none, .bin 25 .add (.c (.int .i64 1)) (.v 24)),
           (none, .asg 2 (.v 22) .move),
           (none, .asg 3 (.v 25) .copy)])
         (.ret [2, 3]))
        (.skip [4, 5])))
      (.seq
       (.region [(26, 4, false)] [] [2, 3] false [
         (none, .mv 26 (.v 4)),
         (none, .mv 27 (.v 5)),
         (none, .asg 2 (.v 26) .move),
         (none, .asg 3 (.v 27) .copy)])
       (.ret [2, 3]))))))⟩
def F507 : PFunc :=
 ⟨[false], [.tmp 2, .tmp 3],
  (.seq
   (.region [] [] [0] false [
     (none, .asg 2 (.c (.sl true 1 [])) .copy),
     (none, .asg 3 (.c (.int .i64 0)) .copy)])
   (.seq
    (.region [(4, 0, false)] [] [2, 3] false [
      (none, .mv 4 (.v 0)),
      (none, .call (some 5) 633 false [((.v 4), false)]),
      (none, .ext 6 (.v 5) 0),
      (none, .extp 7 (.v 5) 1),
      (none, .asg 2 (.v 6) .move),
      (none, .asg 3 (.v 7) .copy)])
    (.ret [2, 3])))⟩
def F604 : PFunc :=
 ⟨[false, false], [.tmp 4],
  (.seq
   (.region [] [] [0, 1] false [
     (none, .asg 4 (.c (.int .i64 0)) .copy)])
   (.seq
    (.block 0
     (.loop
      (.seq
       (.seq
        (.region [] [] [0, 1, 7] false [
          (none, .mv 6 (.v 1)),
          (none, .bin 7 .neq (.v 6) (.c (.int .i64 0)))])
        (.cond (.v 7)
         (.skip [0, 1])
         (.exit 0 [0])))
       (.block 1
        (.seq
         (.region [] [] [1, 5] false [
           (none, .mv 8 (.v 0)),
           (none, .mv 9 (.v 1)),
           (none, .bin 10 .rem (.v 8) (.v 9)),
           (none, .asg 5 (.v 10) .copy)])
         (.seq
          (.region [] [] [0, 5] false [
            (none, .mv 11 (.v 1)),
            (none, .asg 0 (.v 11) .copy)])
          (.region [] [] [0, 1] false [
            (none, .mv 12 (.v 5)),
            (none, .asg 1 (.v 12) .copy)])))))))
    (.seq
     (.region [] [] [4] false [
       (none, .mv 13 (.v 0)),
       (none, .asg 4 (.v 13) .copy)])
     (.ret [4]))))⟩
def F634 : PFunc :=
 ⟨[false, false], [.tmp 4],
  (.seq
   (.region [] [] [0, 1] false [
     (none, .asg 4 (.c (.int .i64 0)) .copy)])
   (.seq
    (.region [] [] [4] false [
      (none, .mv 5 (.v 0)),
      (none, .mv 6 (.v 0)),
      (none, .mv 7 (.v 1)),
      (none, .call (some 8) 604 false [((.v 6), false), ((.v 7), false)]),
      (none, .bin 9 .quo (.v 5) (.v 8)),
      (none, .mv 10 (.v 1)),
      (none, .bin 11 .mul (.v 9) (.v 10)),
      (none, .asg 4 (.v 11) .copy)])
    (.ret [4])))⟩
def F536 : PFunc :=
 ⟨[false, false], [.tmp 4, .tmp 5],
  (.seq
   (.region [] [] [0, 1] false [
     (none, .asg 4 (.c (.sl true 1 [])) .copy),
     (none, .asg 5 (.c (.int .i64 0)) .copy)])
   (.seq
    (.seq
     (.region [(13, 1, false), (9, 0, false)] [] [0, 1, 16] false [
       (none, .mv 9 (.v 0)),
       (none, .call (some 10) 637 false [((.v 9), false)]),
       (none, .un 11 .not (.v 10)),
       (none, .mv 12 (.v 11)),
       (some (12, false), .mv 13 (.v 1)),
       (some (12, false), .call (some 14) 637 false [((.v 13), false)]),
       (some (12, false), .un 15 .not (.v 14)),
       (none, .pick 16 (.v 12) (.c (.bool true)) (.v 15))])
     (.cond (.v 16)
      (.seq
       (.region [] [] [4, 5] false [
         (none, .asg 4 (.c (.sl true 1 [])) .copy),
         (none, .asg 5 (.c (.int .i64 1)) .copy)])
       (.ret [4, 5]))
      (.skip [0, 1])))
    (.seq
     (.region [(19, 1, false), (17, 0, false)] [] [0, 1, 6] false [
       (none, .mv 17 (.v 0)),
       (none, .len 18 false (.v 17)),
       (none, .mv 19 (.v 1)),
       (none, .len 20 false (.v 19)),
       (none, .call (some 21) 634 false [((.v 18), false), ((.v 20), false)]),
       (none, .asg 6 (.v 21) .copy)])
     (.seq
      (.seq
       (.region [] [] [0, 1, 6, 23] false [
         (none, .mv 22 (.v 6)),
         (none, .bin 23 .gtr (.v 22) (.c (.int .i64 360)))])
       (.cond (.v 23)
        (.seq
         (.region [] [] [4, 5] false [
           (none, .asg 4 (.c (.sl true 1 [])) .copy),
           (none, .asg 5 (.c (.int .i64 5)) .copy)])
         (.ret [4, 5]))
        (.skip [0, 1, 6])))
      (.seq
       (.region [] [] [0, 1, 6, 7] false [
         (none, .mksl 24 1 (.sl true 1 []) 0 []),
         (none, .asg 7 (.v 24) .move)])
       (.seq
        (.seq
         (.region [] [] [0, 1, 6, 7, 8] false [
           (none, .asg 8 (.c (.int .i64 0)) .copy)])
         (.block 0
          (.loop
           (.seq
            (.seq
             (.region [] [] [0, 1, 6, 7, 8, 27] false [
               (none, .mv 25 (.v 8)),
               (none, .mv 26 (.v 6)),
               (none, .bin 27 .lss (.v 25) (.v 26))])
             (.cond (.v 27)
              (.skip [0, 1, 6, 7, 8])
              (.exit 0 [7])))
            (.seq
             (.block 1
              (.region [(43, 1, false), (40, 1, false), (38, 1, false), (36, 0, false), (33, 0, false), (31, 0, false), (30, 7, false)] [] [0, 1, 6, 7, 8] true [
                (none, .mvr 30 7),
                (none, .mv 31 (.v 0)),
                (none, .mv 32 (.v 8)),
                (none, .mv 33 (.v 0)),
                (none, .len 34 false (.v 33)),
                (none, .bin 35 .rem (.v 32) (.v 34)),
                (none, .iadr 36 1 (.v 31) (.v 35)),
                (none, .load 37 false 1 (.v 36) none),
                (none, .mv 38 (.v 1)),
                (none, .mv 39 (.v 8)),
                (none, .mv 40 (.v 1)),
                (none, .len 41 false (.v 40)),
                (none, .bin 42 .rem (.v 39) (.v 41)),
                (none, .iadr 43 1 (.v 38) (.v 42)),
                (none, .load 44 false 1 (.v 43) none),
                (none, .mksl 45 1 (.int .i64 0) 2 [(0, (.v 37), .copy), (1, (.v 44), .copy)]),
                (none, .mksl 46 1 (.sl true 1 []) 1 [(0, (.v 45), .move)]),
                (none, .app 47 1 (.v 30) (.v 46) .move),
                (none, .asg 7 (.v 47) .move)]))
             (.region [] [] [0, 1, 6, 7, 8] false [
               (none, .mv 28 (.v 8)),
               (none, .bin 29 .add (.v 28) (.c (.int .i64 1))),
               (none, .asg 8 (.v 29) .copy)]))))))
        (.seq
         (.region [(48, 7, false)] [] [4, 5] false [
           (none, .mv 48 (.v 7)),
           (none, .asg 4 (.v 48) .move),
           (none, .asg 5 (.c (.int .i64 0)) .copy)])
         (.ret [4, 5]))))))))⟩
def F582 : PFunc :=
 ⟨[false, false], [.tmp 4, .tmp 5],
  (.seq
   (.region [] [] [0, 1] false [
     (none, .asg 4 (.c (.sl true 1 [])) .copy),
     (none, .asg 5 (.c (.int .i64 0)) .copy)])
   (.seq
    (.seq
     (.region [(8, 0, false)] [] [0, 1, 10] false [
       (none, .mv 8 (.v 0)),
       (none, .call (some 9) 637 false [((.v 8), false)]),
       (none, .un 10 .not (.v 9))])
     (.cond (.v 10)
      (.seq
       (.region [] [] [4, 5] false [
         (none, .asg 4 (.c (.sl true 1 [])) .copy),
         (none, .asg 5 (.c (.int .i64 1)) .copy)])
       (.ret [4, 5]))
      (.skip [0, 1])))
    (.seq
     (.seq
      (.region [] [] [0, 1, 13] false [
        (none, .mv 11 (.v 1)),
        (none, .call (some 12) 605 false [((.v 11), false), ((.c (.int .i64 1)), false), ((.c (.int .i64 60)), false)]),
        (none, .un 13 .not (.v 12))])
      (.cond (.v 13)
       (.seq
        (.region [] [] [4, 5] false [
          (none, .asg 4 (.c (.sl true 1 [])) .copy),
          (none, .asg 5 (.c (.int .i64 2)) .copy)])
        (.ret [4, 5]))
       (.skip [0, 1])))
     (.seq
      (.seq
       (.region [(14, 0, false)] [] [0, 1, 18] false [
         (none, .mv 14 (.v 0)),
         (none, .len 15 false (.v 14)),
         (none, .mv 16 (.v 1)),
         (none, .bin 17 .rem (.v 15) (.v 16)),
         (none, .bin 18 .neq (.v 17) (.c (.int .i64 0)))])
       (.cond (.v 18)
        (.seq
         (.region [] [] [4, 5] false [
           (none, .asg 4 (.c (.sl true 1 [])) .copy),
           (none, .asg 5 (.c (.int .i64 8)) .copy)])
         (.ret [4, 5]))
        (.skip [0, 1])))
      (.seq
       (.region [] [] [0, 1, 6] false [
         (none, .mksl 19 1 (.int .i64 0) 0 []),
         (none, .asg 6 (.v 19) .move)])
       (.seq
        (.seq
         (.region [] [] [0, 1, 6, 7] false [
           (none, .asg 7 (.c (.int .i64 0)) .copy)])
         (.block 0
          (.loop
           (.seq
            (.seq
             (.region [(21, 0, false)] [] [0, 1, 6, 7, 23] false [
               (none, .mv 20 (.v 7)),
               (none, .mv 21 (.v 0)),
               (none, .len 22 false (.v 21)),
               (none, .bin 23 .lss (.v 20) (.v 22))])
             (.cond (.v 23)
              (.skip [0, 1, 6, 7])
              (.exit 0 [6])))
            (.seq
             (.block 1
              (.region [(30, 0, false), (28, 0, false), (27, 6, false)] [] [0, 1, 6, 7] false [
                (none, .mv 27 (.v 6)),
                (none, .mv 28 (.v 0)),
                (none, .mv 29 (.v 7)),
                (none, .iadr 30 1 (.v 28) (.v 29)),
                (none, .load 31 false 1 (.v 30) none),
                (none, .mksl 32 1 (.int .i64 0) 1 [(0, (.v 31), .copy)]),
                (none, .app 33 1 (.v 27) (.v 32) .move),
                (none, .asg 6 (.v 33) .move)]))
             (.region [] [] [0, 1, 6, 7] false [
               (none, .mv 24 (.v 7)),
               (none, .mv 25 (.v 1)),
               (none, .bin 26 .add (.v 24) (.v 25)),
               (none, .asg 7 (.v 26) .copy)]))))))
        (.seq
         (.region [(34, 6, false)] [] [4, 5] false [
           (none, .mv 34 (.v 6)),
           (none, .asg 4 (.v 34) .move),
           (none, .asg 5 (.c (.int .i64 0)) .copy)])
         (.ret [4, 5]))))))))⟩
def F639 : PFunc :=
 ⟨[false, false], [.tmp 4],
  (.seq
   (.region [] [] [0, 1] false [
     (none, .asg 4 (.c (.sl true 1 [])) .copy)])
   (.seq
    (.region [(8, 0, false)] [] [0, 1, 5] false [
      (none, .mv 8 (.v 0)),
      (none, .len 9 false (.v 8)),
      (none, .asg 5 (.v 9) .copy)])
    (.seq
     (.region [] [] [0, 1, 5, 6] false [
       (none, .mksl 10 1 (.int .i64 0) 0 []),
       (none, .asg 6 (.v 10) .move)])
     (.seq
      (.seq
       (.region [] [] [0, 1, 5, 6, 7] false [
         (none, .asg 7 (.c (.int .i64 0)) .copy)])
       (.block 0
        (.loop
         (.seq
          (.seq
           (.region [] [] [0, 1, 5, 6, 7, 13] false [
             (none, .mv 11 (.v 7)),
             (none, .mv 12 (.v 5)),
             (none, .bin 13 .lss (.v 11) (.v 12))])
           (.cond (.v 13)
            (.skip [0, 1, 5, 6, 7])
            (.exit 0 [6])))
          (.seq
           (.block 1
            (.region [(23, 0, false), (17, 0, false), (16, 6, false)] [] [0, 1, 5, 6, 7] false [
              (none, .mv 16 (.v 6)),
              (none, .mv 17 (.v 0)),
              (none, .mv 18 (.v 7)),
              (none, .mv 19 (.v 1)),
              (none, .bin 20 .add (.v 18) (.v 19)),
              (none, .mv 21 (.v 5)),
              (none, .bin 22 .rem (.v 20) (.v 21)),
              (none, .iadr 23 1 (.v 17) (.v 22)),
              (none, .load 24 false 1 (.v 23) none),
              (none, .mksl 25 1 (.int .i64 0) 1 [(0, (.v 24), .copy)]),
              (none, .app 26 1 (.v 16) (.v 25) .move),
              (none, .asg 6 (.v 26) .move)]))
           (.region [] [] [0, 1, 5, 6, 7] false [
             (none, .mv 14 (.v 7)),
             (none, .bin 15 .add (.v 14) (.c (.int .i64 1))),
             (none, .asg 7 (.v 15) .copy)]))))))
      (.seq
       (.region [(27, 6, false)] [] [4] false [
         (none, .mv 27 (.v 6)),
         (none, .asg 4 (.v 27) .move)])
       (.ret [4]))))))⟩
def F585 : PFunc :=
 ⟨[false, false], [.tmp 4, .tmp 5],
  (.seq
   (.region [] [] [0, 1] false [
     (none, .asg 4 (.c (.sl true 1 [])) .copy),
     (none, .asg 5 (.c (.int .i64 0)) .copy)])
   (.seq
    (.seq
     (.region [(6, 0, false)] [] [0, 1, 8] false [
       (none, .mv 6 (.v 0)),
       (none, .call (some 7) 637 false [((.v 6), false)]),
       (none, .un 8 .not (.v 7))])
     (.cond (.v 8)
      (.seq
       (.region [] [] [4, 5] false [
         (none, .asg 4 (.c (.sl true 1 [])) .copy),
         (none, .asg 5 (.c (.int .i64 1)) .copy)])
       (.ret [4, 5]))
      (.skip [0, 1])))
    (.seq
     (.seq
      (.region [] [] [0, 1, 11] false [
        (none, .mv 9 (.v 1)),
        (none, .call (some 10) 605 false [((.v 9), false), ((.c (.int .i64 0)), false), ((.c (.int .i64 60)), false)]),
        (none, .un 11 .not (.v 10))])
      (.cond (.v 11)
       (.seq
        (.region [] [] [4, 5] false [
          (none, .asg 4 (.c (.sl true 1 [])) .copy),
          (none, .asg 5 (.c (.int .i64 2)) .copy)])
        (.ret [4, 5]))
       (.skip [0, 1])))
     (.seq
      (.region [(12, 0, false)] [] [4, 5] false [
        (none, .mv 12 (.v 0)),
        (none, .mv 13 (.v 1)),
        (none, .call (some 14) 639 false [((.v 12), false), ((.v 13), false)]),
        (none, .asg 4 (.v 14) .move),
        (none, .asg 5 (.c (.int .i64 0)) .copy)])
      (.ret [4, 5])))))⟩
def F355 : PFunc :=
 ⟨[false], [.tmp 2],
  (.seq
   (.region [] [] [0] false [
     (none, .asg 2 (.c (.bool false)) .copy)])
   (.seq
    (.seq
     (.region [(29, 0, false)] [] [0, 30] false [
       (none, .mv 29 (.v 0)),
       (none, .call (some 30) 398 false [((.v 29), false)])])
     (.cond (.v 30)
      (.seq
       (.region [] [] [2] false [
         (none, .asg 2 (.c (.bool true)) .copy)])
       (.ret [2]))
      (.skip [0])))
    (.seq
     (.region [(32, 0, false)] [] [0, 3, 4] false [
       (none, .mv 32 (.v 0)),
       (none, .call (some 33) 479 false [((.v 32), false)]),
       (none, .asg 31 (.v 33) .move),
       (none, .ext 34 (.v 31) 0),
       (none, .ext 35 (.v 31) 1),
       (none, .asg 3 (.v 34) .move),
       (none, .asg 4 (.v 35) .move)])
     (.seq
      (.region [(38, 4, false), (37, 3, false)] [] [0, 3, 4, 5, 6] false [
        (none, .mv 37 (.v 3)),
        (none, .mv 38 (.v 4)),
        (none, .call (some 39) 120 false [((.v 37), false), ((.v 38), false)]),
        (none, .asg 36 (.v 39) .move),
        (none, .ext 40 (.v 36) 0),
        (none, .extp 41 (.v 36) 1),
        (none, .asg 5 (.v 40) .move),
        (none, .asg 6 (.v 41) .copy)])
      (.seq
       (.region [(44, 4, false), (43, 3, false)] [] [0, 3, 4, 5, 6, 7, 8] false [
         (none, .mv 43 (.v 3)),
         (none, .mv 44 (.v 4)),
         (none, .call (some 45) 536 false [((.v 43), false), ((.v 44), false)]),
         (none, .asg 42 (.v 45) .move),
         (none, .ext 46 (.v 42) 0),
         (none, .extp 47 (.v 42) 1),
         (none, .asg 7 (.v 46) .move),
         (none, .asg 8 (.v 47) .copy)])
       (.seq
        (.region [(49, 0, false)] [] [0, 3, 4, 5, 6, 7, 8, 9, 10] false [
          (none, .mv 49 (.v 0)),
          (none, .call (some 50) 462 false [((.v 49), false)]),
          (none, .asg 48 (.v 50) .move),
          (none, .ext 51 (.v 48) 0),
          (none, .extp 52 (.v 48) 1),
          (none, .asg 9 (.v 51) .move),
          (none, .asg 10 (.v 52) .copy)])
        (.seq
         (.region [(54, 9, false)] [] [0, 3, 4, 5, 6, 7, 8, 9, 10, 11, 12] false [
           (none, .mv 54 (.v 9)),
           (none, .mv 55 (.v 10)),
           (none, .call (some 56) 65 false [((.v 54), false), ((.v 55), false)]),
           (none, .asg 53 (.v 56) .move),
           (none, .ext 57 (.v 53) 0),
           (none, .extp 58 (.v 53) 1),
           (none, .asg 11 (.v 57) .move),
           (none, .asg 12 (.v 58) .copy)])
         (.seq
          (.region [(60, 9, false)] [] [0, 3, 4, 5, 6, 7, 8, 9, 10, 11, 12, 13, 14] false [
            (none, .mv 60 (.v 9)),
            (none, .mv 61 (.v 10)),
            (none, .call (some 62) 448 false [((.v 60), false), ((.v 61), false)]),
            (none, .asg 59 (.v 62) .move),
            (none, .ext 63 (.v 59) 0),
            (none, .extp 64 (.v 59) 1),
            (none, .asg 13 (.v 63) .move),
            (none, .asg 14 (.v 64) .copy)])
          (.seq
           (.region [(66, 0, false)] [] [0, 3, 4, 5, 6, 7, 8, 9, 10, 11, 12, 13, 14, 15, 16] false [
             (none, .mv 66 (.v 0)),
             (none, .call (some 67) 505 false [((.v 66), false)]),
             (none, .asg 65 (.v 67) .move),
             (none, .ext 68 (.v 65) 0),
             (none, .extp 69 (.v 65) 1),
             (none, .asg 15 (.v 68) .move),
             (none, .asg 16 (.v 69) .copy)])
           (.seq
            (.region [(71, 15, false)] [] [0, 3, 4, 5, 6, 7, 8, 9, 10, 11, 12, 13, 14, 15, 16, 17, 18] false [
              (none, .mv 71 (.v 15)),
              (none, .mv 72 (.v 16)),
              (none, .call (some 73) 197 false [((.v 71), false), ((.v 72), false)]),
              (none, .asg 70 (.v 73) .move),
              (none, .ext 74 (.v 70) 0),
              (none, .extp 75 (.v 70) 1),
              (none, .asg 17 (.v 74) .move),
              (none, .asg 18 (.v 75) .copy)])
            (.seq
             (.region [(77, 15, false)] [] [0, 3, 4, 5, 6, 7, 8, 9, 10, 11, 12, 13, 14, 15, 16, 17, 18, 19, 20] false [
               (none, .mv 77 (.v 15)),
               (none, .mv 78 (.v 16)),
               (none, .call (some 79) 582 false [((.v 77), false), ((.v 78), false)]),
               (none, .asg 76 (.v 79) .move),
               (none, .ext 80 (.v 76) 0),
               (none, .extp 81 (.v 76) 1),
               (none, .asg 19 (.v 80) .move),
               (none, .asg 20 (.v 81) .copy)])
             (.seq
              (.region [(83, 0, false)] [] [3, 4, 5, 6, 7, 8, 9, 10, 11, 12, 13, 14, 15, 16, 17, 18, 19, 20, 21, 22] false [
                (none, .mv 83 (.v 0)),
                (none, .call (some 84) 507 false [((.v 83), false)]),
                (none, .asg 82 (.v 84) .move),
                (none, .ext 85 (.v 82) 0),
                (none, .extp 86 (.v 82) 1),
                (none, .asg 21 (.v 85) .move),
                (none, .asg 22 (.v 86) .copy)])
              (.seq
               (.region [(88, 21, false)] [] [3, 4, 5, 6, 7, 8, 9, 10, 11, 12, 13, 14, 15, 16, 17, 18, 19, 20, 21, 22, 23, 24] false [
                 (none, .mv 88 (.v 21)),
                 (none, .mv 89 (.v 22)),
                 (none, .call (some 90) 202 false [((.v 88), false), ((.v 89), false)]),
                 (none, .asg 87 (.v 90) .move),
                 (none, .ext 91 (.v 87) 0),
                 (none, .extp 92 (.v 87) 1),
                 (none, .asg 23 (.v 91) .move),
                 (none, .asg 24 (.v 92) .copy)])
               (.seq
                (.region [(94, 21, false)] [] [3, 4, 5, 6, 7, 8, 9, 10, 11, 12, 13, 14, 15, 16, 17, 18, 19, 20, 21, 23, 24, 25, 26] false [
                  (none, .mv 94 (.v 21)),
                  (none, .mv 95 (.v 22)),
                  (none, .call (some 96) 585 false [((.v 94), false), ((.v 95), false)]),
                  (none, .asg 93 (.v 96) .move),
                  (none, .ext 97 (.v 93) 0),
                  (none, .extp 98 (.v 93) 1),
                  (none, .asg 25 (.v 97) .move),
                  (none, .asg 26 (.v 98) .copy)])
                (.seq
                 (.seq
                  (.region [(138, 25, false), (137, 23, false), (127, 19, false), (126, 17, false), (116, 13, false), (115, 11, false), (105, 7, false), (103, 5, false)] [] [3, 4, 5, 6, 7, 9, 10, 12, 13, 15, 16, 18, 19, 21, 24, 25, 141] false [
                    (none, .mv 99 (.v 6)),
                    (none, .mv 100 (.v 8)),
                    (none, .bin 101 .neq (.v 99) (.v 100)),
                    (none, .mv 102 (.v 101)),
                    (some (102, false), .mv 103 (.v 5)),
                    (some (102, false), .len 104 false (.v 103)),
                    (some (102, false), .mv 105 (.v 7)),
                    (some (102, false), .len 106 false (.v 105)),
                    (some (102, false), .bin 107 .neq (.v 104) (.v 106)),
                    (none, .pick 108 (.v 102) (.c (.bool true)) (.v 107)),
                    (none, .mv 109 (.v 108)),
                    (some (109, false), .mv 110 (.v 12)),
                    (some (109, false), .mv 111 (.v 14)),
                    (some (109, false), .bin 112 .neq (.v 110) (.v 111)),
                    (none, .pick 113 (.v 109) (.c (.bool true)) (.v 112)),
                    (none, .mv 114 (.v 113)),
                    (some (114, false), .mv 115 (.v 11)),
                    (some (114, false), .mv 116 (.v 13)),
                    (some (114, false), .call (some 117) 400 false [((.v 115), false), ((.v 116), false)]),
                    (some (114, false), .un 118 .not (.v 117)),
                    (none, .pick 119 (.v 114) (.c (.bool true)) (.v 118)),
                    (none, .mv 120 (.v 119)),
                    (some (120, false), .mv 121 (.v 18)),
                    (some (120, false), .mv 122 (.v 20)),
                    (some (120, false), .bin 123 .neq (.v 121) (.v 122)),
                    (none, .pick 124 (.v 120) (.c (.bool true)) (.v 123)),
                    (none, .mv 125 (.v 124)),
                    (some (125, false), .mv 126 (.v 17)),
                    (some (125, false), .mv 127 (.v 19)),
                    (some (125, false), .call (some 128) 400 false [((.v 126), false), ((.v 127), false)]),
                    (some (125, false), .un 129 .not (.v 128)),
                    (none, .pick 130 (.v 125) (.c (.bool true)) (.v 129)),
                    (none, .mv 131 (.v 130)),
                    (some (131, false), .mv 132 (.v 24)),
                    (some (131, false), .mv 133 (.v 26)),
                    (some (131, false), .bin 134 .neq (.v 132) (.v 133)),
                    (none, .pick 135 (.v 131) (.c (.bool true)) (.v 134)),
                    (none, .mv 136 (.v 135)),
                    (some (136, false), .mv 137 (.v 23)),
                    (some (136, false), .mv 138 (.v 25)),
                    (some (136, false), .call (some 139) 400 false [((.v 137), false), ((.v 138), false)]),
                    (some (136, false), .un 140 .not (.v 139)),
                    (none, .pick 141 (.v 136) (.c (.bool true)) (.v 140))])
                  (.cond (.v 141)
                   (.seq
                    (.region [] [] [2] false [
                      (none, .asg 2 (.c (.bool false)) .copy)])
                    (.ret [2]))
                   (.skip [3, 4, 5, 6, 7, 9, 10, 12, 13, 15, 16, 18, 19, 21, 24, 25])))
                 (.seq
                  (.seq
                   (.region [] [] [3, 4, 5, 6, 7, 9, 10, 13, 15, 16, 18, 19, 21, 24, 25, 143] false [
                     (none, .mv 142 (.v 12)),
                     (none, .bin 143 .eql (.v 142) (.c (.int .i64 0)))])
                   (.cond (.v 143)
                    (.seq
                     (.region [] [] [3, 4, 5, 6, 7, 9, 10, 13, 15, 16, 18, 19, 21, 24, 25, 27] false [
                       (none, .asg 27 (.c (.int .i64 0)) .copy)])
                     (.block 0
                      (.loop
                       (.seq
                        (.seq
                         (.region [(145, 9, false)] [] [3, 4, 5, 6, 7, 9, 10, 13, 15, 16, 18, 19, 21, 24, 25, 27, 149] false [
                           (none, .mv 144 (.v 27)),
                           (none, .mv 145 (.v 9)),
                           (none, .len 146 false (.v 145)),
                           (none, .mv 147 (.v 10)),
                           (none, .bin 148 .sub (.v 146) (.v 147)),
                           (none, .bin 149 .lss (.v 144) (.v 148))])
                         (.cond (.v 149)
                          (.skip [3, 4, 5, 6, 7, 9, 10, 13, 15, 16, 18, 19, 21, 24, 25, 27])
                          (.exit 0 [3, 4, 5, 6, 7, 15, 16, 18, 19, 21, 24, 25])))
                        (.seq
                         (.block 1
                          (.seq
                           (.region [(158, 9, false), (156, 9, false), (154, 13, false), (152, 13, false)] [] [3, 4, 5, 6, 7, 9, 10, 13, 15, 16, 18, 19, 21, 24, 25, 27, 160] true [
                             (none, .mvr 152 13),
                             (none, .mv 153 (.v 27)),
                             (none, .iadr 154 1 (.v 152) (.v 153)),
                             (none, .load 155 false 1 (.v 154) none),
                             (none, .mvr 156 9),
                             (none, .mv 157 (.v 27)),
                             (none, .iadr 158 1 (.v 156) (.v 157)),
                             (none, .load 159 false 1 (.v 158) none),
                             (none, .bin 160 .neq (.v 155) (.v 159))])
                           (.cond (.v 160)
                            (.seq
                             (.region [] [] [2] false [
                               (none, .asg 2 (.c (.bool false)) .copy)])
                             (.ret [2]))
                            (.skip [3, 4, 5, 6, 7, 9, 10, 13, 15, 16, 18, 19, 21, 24, 25, 27]))))
                         (.region [] [] [3, 4, 5, 6, 7, 9, 10, 13, 15, 16, 18, 19, 21, 24, 25, 27] false [
                           (none, .mv 150 (.v 27)),
                           (none, .bin 151 .add (.v 150) (.c (.int .i64 1))),
                           (none, .asg 27 (.v 151) .copy)]))))))
                    (.skip [3, 4, 5, 6, 7, 15, 16, 18, 19, 21, 24, 25])))
                  (.seq
                   (.seq
                    (.region [(168, 15, false), (164, 19, false)] [] [3, 4, 5, 6, 7, 21, 24, 25, 171] false [
                      (none, .mv 161 (.v 18)),
                      (none, .bin 162 .eql (.v 161) (.c (.int .i64 0))),
                      (none, .mv 163 (.v 162)),
                      (some (163, true), .mv 164 (.v 19)),
                      (some (163, true), .len 165 false (.v 164)),
                      (some (163, true), .mv 166 (.v 16)),
                      (some (163, true), .bin 167 .mul (.v 165) (.v 166)),
                      (some (163, true), .mv 168 (.v 15)),
                      (some (163, true), .len 169 false (.v 168)),
                      (some (163, true), .bin 170 .neq (.v 167) (.v 169)),
                      (none, .pick 171 (.v 163) (.v 170) (.c (.bool false)))])
                    (.cond (.v 171)
                     (.seq
                      (.region [] [] [2] false [
                        (none, .asg 2 (.c (.bool false)) .copy)])
                      (.ret [2]))
                     (.skip [3, 4, 5, 6, 7, 21, 24, 25])))
                   (.seq
                    (.seq
                     (.region [(177, 21, false), (175, 25, false)] [] [3, 4, 5, 6, 7, 180] false [
                       (none, .mv 172 (.v 24)),
                       (none, .bin 173 .eql (.v 172) (.c (.int .i64 0))),
                       (none, .mv 174 (.v 173)),
                       (some (174, true), .mv 175 (.v 25)),
                       (some (174, true), .call (some 176) 402 false [((.v 175), false)]),
                       (some (174, true), .mv 177 (.v 21)),
                       (some (174, true), .call (some 178) 402 false [((.v 177), false)]),
                       (some (174, true), .bin 179 .neq (.v 176) (.v 178)),
                       (none, .pick 180 (.v 174) (.v 179) (.c (.bool false)))])
                     (.cond (.v 180)
                      (.seq
                       (.region [] [] [2] false [
                         (none, .asg 2 (.c (.bool false)) .copy)])
                       (.ret [2]))
                      (.skip [3, 4, 5, 6, 7])))
                    (.seq
                     (.seq
                      (.region [] [] [3, 4, 5, 6, 7, 28] false [
                        (none, .asg 28 (.c (.int .i64 0)) .copy)])
                      (.block 2
                       (.loop
                        (.seq
                         (.seq
                          (.region [(182, 7, false)] [] [3, 4, 5, 6, 7, 28, 184] false [
                            (none, .mv 181 (.v 28)),
                            (none, .mv 182 (.v 7)),
                            (none, .len 183 false (.v 182)),
                            (none, .bin 184 .lss (.v 181) (.v 183))])
                          (.cond (.v 184)
                           (.skip [3, 4, 5, 6, 7, 28])
                           (.exit 2 [3, 4, 6, 7])))
                         (.seq
                          (.block 3
                           (.seq
                            (.region [(233, 4, false), (230, 4, false), (228, 4, false), (226, 7, true), (225, 7, true), (224, 7, false), (222, 7, false), (217, 3, false), (214, 3, false), (212, 3, false), (210, 7, true), (209, 7, true), (208, 7, false), (206, 7, false), (201, 7, true), (200, 7, false), (198, 7, false), (194, 7, true), (193, 7, false), (191, 7, false), (190, 5, true), (189, 5, false), (187, 5, false)] [] [3, 4, 5, 6, 7, 28, 236] true [
                              (none, .mvr 187 5),
                              (none, .mv 188 (.v 28)),
                              (none, .iadr 189 1 (.v 187) (.v 188)),
                              (none, .load 190 false 1 (.v 189) none),
                              (none, .mvr 191 7),
                              (none, .mv 192 (.v 28)),
                              (none, .iadr 193 1 (.v 191) (.v 192)),
                              (none, .load 194 false 1 (.v 193) none),
                              (none, .call (some 195) 400 false [((.v 190), false), ((.v 194), false)]),
                              (none, .un 196 .not (.v 195)),
                              (none, .mv 197 (.v 196)),
                              (some (197, false), .mvr 198 7),
                              (some (197, false), .mv 199 (.v 28)),
                              (some (197, false), .iadr 200 1 (.v 198) (.v 199)),
                              (some (197, false), .load 201 false 1 (.v 200) none),
                              (some (197, false), .len 202 false (.v 201)),
                              (some (197, false), .bin 203 .neq (.v 202) (.c (.int .i64 2))),
                              (none, .pick 204 (.v 197) (.c (.bool true)) (.v 203)),
                              (none, .mv 205 (.v 204)),
                              (some (205, false), .mvr 206 7),
                              (some (205, false), .mv 207 (.v 28)),
                              (some (205, false), .iadr 208 1 (.v 206) (.v 207)),
                              (some (205, false), .load 209 false 1 (.v 208) none),
                              (some (205, false), .iadr 210 1 (.v 209) (.c (.int .i64 0))),
                              (some (205, false), .load 211 false 1 (.v 210) none),
                              (some (205, false), .mvr 212 3),
                              (some (205, false), .mv 213 (.v 28)),
                              (some (205, false), .mvr 214 3),
                              (some (205, false), .len 215 false (.v 214)),
                              (some (205, false), .bin 216 .rem (.v 213) (.v 215)),
                              (some (205, false), .iadr 217 1 (.v 212) (.v 216)),
                              (some (205, false), .load 218 false 1 (.v 217) none),
                              (some (205, false), .bin 219 .neq (.v 211) (.v 218)),
                              (none, .pick 220 (.v 205) (.c (.bool true)) (.v 219)),
                              (none, .mv 221 (.v 220)),
                              (some (221, false), .mvr 222 7),
                              (some (221, false), .mv 223 (.v 28)),
                              (some (221, false), .iadr 224 1 (.v 222) (.v 223)),
                              (some (221, false), .load 225 false 1 (.v 224) none),
                              (some (221, false), .iadr 226 1 (.v 225) (.c (.int .i64 1))),
                              (some (221, false), .load 227 false 1 (.v 226) none),
                              (some (221, false), .mvr 228 4),
                              (some (221, false), .mv 229 (.v 28)),
                              (some (221, false), .mvr 230 4),
                              (some (221, false), .len 231 false (.v 230)),
                              (some (221, false), .bin 232 .rem (.v 229) (.v 231)),
                              (some (221, false), .iadr 233 1 (.v 228) (.v 232)),
                              (some (221, false), .load 234 false 1 (.v 233) none),
                              (some (221, false), .bin 235 .neq (.v 227) (.v 234)),
                              (none, .pick 236 (.v 221) (.c (.bool true)) (.v 235))])
                            (.cond (.v 236)
                             (.seq
                              (.region [] [] [2] false [
                                (none, .asg 2 (.c (.bool false)) .copy)])
                              (.ret [2]))
                             (.skip [3, 4, 5, 6, 7, 28]))))
                          (.region [] [] [3, 4, 5, 6, 7, 28] false [
                            (none, .mv 185 (.v 28)),
                            (none, .bin 186 .add (.v 185) (.c (.int .i64 1))),
                            (none, .asg 28 (.v 186) .copy)]))))))
                     (.seq
                      (.region [(249, 4, false), (247, 7, false), (242, 3, false), (240, 7, false)] [] [2] false [
                        (none, .mv 237 (.v 6)),
                        (none, .bin 238 .neq (.v 237) (.c (.int .i64 0))),
                        (none, .mv 239 (.v 238)),
                        (some (239, false), .mv 240 (.v 7)),
                        (some (239, false), .len 241 false (.v 240)),
                        (some (239, false), .mv 242 (.v 3)),
                        (some (239, false), .len 243 false (.v 242)),
                        (some (239, false), .bin 244 .rem (.v 241) (.v 243)),
                        (some (239, false), .bin 245 .eql (.v 244) (.c (.int .i64 0))),
                        (some (239, false), .mv 246 (.v 245)),
                        (some (246, true), .mv 247 (.v 7)),
                        (some (246, true), .len 248 false (.v 247)),
                        (some (246, true), .mv 249 (.v 4)),
                        (some (246, true), .len 250 false (.v 249)),
                        (some (246, true), .bin 251 .rem (.v 248) (.v 250)),
                        (some (246, true), .bin 252 .eql (.v 251) (.c (.int .i64 0))),
                        (some (239, false), .pick 253 (.v 246) (.v 252) (.c (.bool false))),
                        (none, .pick 254 (.v 239) (.c (.bool true)) (.v 253)),
                        (none, .asg 2 (.v 254) .copy)])
                      (.ret [2])))))))))))))))))))))⟩
def tabl : List (Nat × PFunc) := [(326, F326), (221, F221), (818, F818), (796, F796), (220, F220), (301, F301), (65, F65), (269, F269), (259, F259), (120, F120), (197, F197), (793, F793), (319, F319), (202, F202), (398, F398), (400, F400), (402, F402), (605, F605), (606, F606), (607, F607), (602, F602), (610, F610), (637, F637), (448, F448), (5, F5), (7, F7), (4, F4), (6, F6), (603, F603), (636, F636), (635, F635), (633, F633), (462, F462), (479, F479), (505, F505), (507, F507), (604, F604), (634, F634), (536, F536), (582, F582), (639, F639), (585, F585), (355, F355)]
def T : Nat → Option PFunc := tabOf tabl
end Go.Vs.G
