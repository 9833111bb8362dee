/- The functions that the law reaches, in the small language, printed by program. No conditions. -/
import Derived.Test.YtomlgmfkjibijaaDoorDLLampRests
import Derived.Test.YtomlgmfkjibijaaDoorV4
set_option maxRecDepth 100000
open Go Go.Vs
namespace Go.Vs.G
def F207 : PFunc :=
 ⟨[false], [.tmp 2],
  (.seq
   (.region [] [] [0] false [
     (none, .asg 2 (.c (.bool false)) .copy)])
   (.seq
    (.region [] [] [2] false [
      (none, .mv 3 (.v 0)),
      (none, .len 4 true (.v 3)),
      (none, .bin 5 .leq (.v 4) (.c (.int .i64 60))),
      (none, .mv 6 (.v 5)),
      (some (6, true), .mv 7 (.v 0)),
      (some (6, true), .call (some 8) 876 false [((.v 7), false), ((.c (.str [48, 49])), false)]),
      (some (6, true), .bin 9 .eql (.v 8) (.c (.str []))),
      (none, .pick 10 (.v 6) (.v 9) (.c (.bool false))),
      (none, .asg 2 (.v 10) .copy)])
    (.ret [2])))⟩
def F255 : PFunc :=
 ⟨[false], [.tmp 2],
  (.seq
   (.region [] [] [0] false [
     (none, .asg 2 (.c (.sl true 1 [])) .copy)])
   (.seq
    (.region [] [] [0, 3] false [
      (none, .mksl 5 1 (.sl true 1 []) 0 []),
      (none, .asg 3 (.v 5) .move)])
    (.seq
     (.seq
      (.region [] [] [0, 3, 7, 8] false [
        (none, .mv 6 (.v 0)),
        (none, .len 7 true (.v 6)),
        (none, .mv 8 (.c (.int .i64 0)))])
      (.block 0
       (.loop
        (.seq
         (.region [] [] [0, 3, 7, 8, 9] false [
           (none, .bin 9 .lss (.v 8) (.v 7))])
         (.seq
          (.cond (.v 9)
           (.skip [0, 3, 7, 8])
           (.exit 0 [3]))
          (.seq
           (.block 1
            (.seq
             (.region [] [] [0, 3, 4, 7, 8] false [
               (none, .mv 10 (.v 8)),
               (none, .asg 4 (.v 10) .copy)])
             (.block 2
              (.seq
               (.region [] [] [0, 3, 4, 7, 8, 16] false [
                 (none, .mv 17 (.v 0)),
                 (none, .mv 18 (.v 4)),
                 (none, .idx 19 (.v 17) (.v 18)),
                 (none, .bin 20 .eql (.v 19) (.c (.int .u8 48))),
                 (none, .asg 16 (.v 20) .copy)])
               (.cond (.v 16)
                (.skip [0, 3, 7, 8])
                (.seq
                 (.region [] [] [0, 3, 4, 7, 8, 21] false [
                   (none, .mv 22 (.v 4)),
                   (none, .bin 23 .gtr (.v 22) (.c (.int .i64 0))),
                   (none, .mv 24 (.v 23)),
                   (some (24, true), .mv 25 (.v 0)),
                   (some (24, true), .mv 26 (.v 4)),
                   (some (24, true), .bin 27 .sub (.v 26) (.c (.int .i64 1))),
                   (some (24, true), .idx 28 (.v 25) (.v 27)),
                   (some (24, true), .bin 29 .eql (.v 28) (.c (.int .u8 49))),
                   (none, .pick 30 (.v 24) (.v 29) (.c (.bool false))),
                   (none, .asg 21 (.v 30) .copy)])
                 (.cond (.v 21)
                  (.region [(40, 3, true), (37, 3, true), (36, 3, true), (35, 3, false), (32, 3, false), (31, 3, false)] [] [0, 3, 7, 8] false [
                    (none, .mv 31 (.v 3)),
                    (none, .mv 32 (.v 3)),
                    (none, .len 33 false (.v 32)),
                    (none, .bin 34 .sub (.v 33) (.c (.int .i64 1))),
                    (none, .iadr 35 1 (.v 31) (.v 34)),
                    (none, .load 36 false 1 (.v 35) none),
                    (none, .iadr 37 1 (.v 36) (.c (.int .i64 1))),
                    (none, .load 38 false 1 (.v 37) none),
                    (none, .bin 39 .add (.v 38) (.c (.int .i64 1))),
                    (none, .iadr 40 1 (.v 36) (.c (.int .i64 1))),
                    (none, .store 1 (.v 40) (.v 39) .copy)])
                  (.region [(11, 3, false)] [] [0, 3, 7, 8] false [
                    (none, .mv 11 (.v 3)),
                    (none, .mv 12 (.v 4)),
                    (none, .mksl 13 1 (.int .i64 0) 2 [(0, (.v 12), .copy), (1, (.c (.int .i64 1)), .copy)]),
                    (none, .mksl 14 1 (.sl true 1 []) 1 [(0, (.v 13), .move)]),
                    (none, .app 15 1 (.v 11) (.v 14) .move),
                    (none, .asg 3 (.v 15) .move)]))))))))
           (.region [] [] [0, 3, 7, 8] false [
             (none, .bin 41 .add (.v 8) (.c (.int .i64 1))),
             (none, .mv 8 (.v 41))])))))))
     (.seq
      (.region [(42, 3, false)] [] [2] false [
        (none, .mv 42 (.v 3)),
        (none, .asg 2 (.v 42) .move)])
      (.ret [2])))))⟩
def F61 : PFunc :=
 ⟨[false], [.tmp 2, .tmp 3],
  (.seq
   (.region [] [] [0] false [
     (none, .asg 2 (.c (.sl true 1 [])) .copy),
     (none, .asg 3 (.c (.int .i64 0)) .copy)])
   (.seq
    (.seq
     (.region [] [] [0, 6] false [
       (none, .mv 4 (.v 0)),
       (none, .call (some 5) 207 false [((.v 4), false)]),
       (none, .un 6 .not (.v 5))])
     (.cond (.v 6)
      (.seq
       (.region [] [] [2, 3] false [
         (none, .asg 2 (.c (.sl true 1 [])) .copy),
         (none, .asg 3 (.c (.int .i64 1)) .copy)])
       (.ret [2, 3]))
      (.skip [0])))
    (.seq
     (.region [] [] [2, 3] false [
       (none, .mv 7 (.v 0)),
       (none, .call (some 8) 255 false [((.v 7), false)]),
       (none, .asg 2 (.v 8) .move),
       (none, .asg 3 (.c (.int .i64 0)) .copy)])
     (.ret [2, 3]))))⟩
def F326 : PFunc :=
 ⟨[false, false, false], [.tmp 6],
  (.seq
   (.region [] [] [0, 1, 2] false [
     (none, .asg 6 (.c (.bool false)) .copy)])
   (.seq
    (.region [] [] [6] false [
      (none, .mv 7 (.v 0)),
      (none, .mv 8 (.v 1)),
      (none, .bin 9 .geq (.v 7) (.v 8)),
      (none, .mv 10 (.v 9)),
      (some (10, true), .mv 11 (.v 0)),
      (some (10, true), .mv 12 (.v 2)),
      (some (10, true), .bin 13 .leq (.v 11) (.v 12)),
      (none, .pick 14 (.v 10) (.v 13) (.c (.bool false))),
      (none, .asg 6 (.v 14) .copy)])
    (.ret [6])))⟩
def F104 : PFunc :=
 ⟨[false, false, false], [.tmp 6, .tmp 7],
  (.seq
   (.region [] [] [0, 1, 2] false [
     (none, .asg 6 (.c (.int .i64 0)) .copy),
     (none, .asg 7 (.c (.int .i64 0)) .copy)])
   (.seq
    (.block 0
     (.seq
      (.region [] [] [0, 1, 2, 8] false [
        (none, .mv 9 (.v 0)),
        (none, .call (some 10) 207 false [((.v 9), false)]),
        (none, .un 11 .not (.v 10)),
        (none, .asg 8 (.v 11) .copy)])
      (.cond (.v 8)
       (.seq
        (.region [] [] [6, 7] false [
          (none, .asg 6 (.c (.int .i64 0)) .copy),
          (none, .asg 7 (.c (.int .i64 1)) .copy)])
        (.ret [6, 7]))
       (.seq
        (.region [] [] [0, 1, 2, 12] false [
          (none, .mv 13 (.v 1)),
          (none, .call (some 14) 326 false [((.v 13), false), ((.c (.int .i64 0)), false), ((.c (.int .i64 1000)), false)]),
          (none, .un 15 .not (.v 14)),
          (none, .mv 16 (.v 15)),
          (some (16, false), .mv 17 (.v 2)),
          (some (16, false), .call (some 18) 326 false [((.v 17), false), ((.c (.int .i64 0)), false), ((.c (.int .i64 1000)), false)]),
          (some (16, false), .un 19 .not (.v 18)),
          (none, .pick 20 (.v 16) (.c (.bool true)) (.v 19)),
          (none, .asg 12 (.v 20) .copy)])
        (.cond (.v 12)
         (.seq
          (.region [] [] [6, 7] false [
            (none, .asg 6 (.c (.int .i64 0)) .copy),
            (none, .asg 7 (.c (.int .i64 2)) .copy)])
          (.ret [6, 7]))
         (.skip [0, 1, 2]))))))
    (.seq
     (.region [] [] [6, 7] false [
       (none, .mv 21 (.v 1)),
       (none, .mv 22 (.v 0)),
       (none, .call (some 23) 870 false [((.v 22), false), ((.c (.str [49])), false)]),
       (none, .bin 24 .mul (.v 21) (.v 23)),
       (none, .mv 25 (.v 2)),
       (none, .mv 26 (.v 0)),
       (none, .call (some 27) 255 false [((.v 26), false)]),
       (none, .len 28 false (.v 27)),
       (none, .bin 29 .mul (.v 25) (.v 28)),
       (none, .bin 30 .add (.v 24) (.v 29)),
       (none, .asg 6 (.v 30) .copy),
       (none, .asg 7 (.c (.int .i64 0)) .copy)])
     (.ret [6, 7]))))⟩
def F217 : PFunc :=
 ⟨[false], [.tmp 2],
  (.seq
   (.region [] [] [1] false [
     (none, .box 1 (.v 0) .copy),
     (none, .asg 2 (.c (.bool false)) .copy)])
   (.seq
    (.region [(12, 1, false), (7, 1, false), (3, 1, false)] [] [2] false [
      (none, .fadr 3 0 1 (.v 1)),
      (none, .load 4 false 1 (.v 3) none),
      (none, .call (some 5) 326 false [((.v 4), false), ((.c (.int .i64 1)), false), ((.c (.int .i64 20)), false)]),
      (none, .mv 6 (.v 5)),
      (some (6, true), .fadr 7 1 1 (.v 1)),
      (some (6, true), .load 8 false 1 (.v 7) none),
      (some (6, true), .call (some 9) 326 false [((.v 8), false), ((.c (.int .i64 1)), false), ((.c (.int .i64 20)), false)]),
      (none, .pick 10 (.v 6) (.v 9) (.c (.bool false))),
      (none, .mv 11 (.v 10)),
      (some (11, true), .fadr 12 2 1 (.v 1)),
      (some (11, true), .load 13 false 1 (.v 12) none),
      (some (11, true), .call (some 14) 326 false [((.v 13), false), ((.c (.int .i64 1)), false), ((.c (.int .i64 100)), false)]),
      (none, .pick 15 (.v 11) (.v 14) (.c (.bool false))),
      (none, .asg 2 (.v 15) .copy)])
    (.ret [2])))⟩
def F139 : PFunc :=
 ⟨[false], [.tmp 2, .tmp 3],
  (.seq
   (.region [] [] [1] false [
     (none, .box 1 (.v 0) .copy),
     (none, .asg 2 (.c (.int .i64 0)) .copy),
     (none, .asg 3 (.c (.int .i64 0)) .copy)])
   (.seq
    (.seq
     (.region [] [] [1, 6] false [
       (none, .load 4 true 3 (.v 1) none),
       (none, .call (some 5) 217 false [((.v 4), false)]),
       (none, .un 6 .not (.v 5))])
     (.cond (.v 6)
      (.seq
       (.region [] [] [2, 3] false [
         (none, .asg 2 (.c (.int .i64 0)) .copy),
         (none, .asg 3 (.c (.int .i64 1)) .copy)])
       (.ret [2, 3]))
      (.skip [1])))
    (.seq
     (.region [(9, 1, false), (7, 1, false)] [] [2, 3] false [
       (none, .fadr 7 2 1 (.v 1)),
       (none, .load 8 false 1 (.v 7) none),
       (none, .fadr 9 0 1 (.v 1)),
       (none, .load 10 false 1 (.v 9) none),
       (none, .bin 11 .quo (.v 8) (.v 10)),
       (none, .asg 2 (.v 11) .copy),
       (none, .asg 3 (.c (.int .i64 0)) .copy)])
     (.ret [2, 3]))))⟩
def F167 : PFunc :=
 ⟨[false, false], [.tmp 4, .tmp 5],
  (.seq
   (.region [] [] [1, 2] false [
     (none, .box 2 (.v 0) .copy),
     (none, .asg 4 (.c (.int .i64 0)) .copy),
     (none, .asg 5 (.c (.int .i64 0)) .copy)])
   (.seq
    (.block 0
     (.seq
      (.region [] [] [1, 2, 6] false [
        (none, .load 7 true 3 (.v 2) none),
        (none, .call (some 8) 217 false [((.v 7), false)]),
        (none, .un 9 .not (.v 8)),
        (none, .asg 6 (.v 9) .copy)])
      (.cond (.v 6)
       (.seq
        (.region [] [] [4, 5] false [
          (none, .asg 4 (.c (.int .i64 0)) .copy),
          (none, .asg 5 (.c (.int .i64 1)) .copy)])
        (.ret [4, 5]))
       (.seq
        (.region [] [] [1, 2, 10] false [
          (none, .mv 11 (.v 1)),
          (none, .call (some 12) 326 false [((.v 11), false), ((.c (.int .i64 0)), false), ((.c (.int .i64 100)), false)]),
          (none, .un 13 .not (.v 12)),
          (none, .asg 10 (.v 13) .copy)])
        (.cond (.v 10)
         (.seq
          (.region [] [] [4, 5] false [
            (none, .asg 4 (.c (.int .i64 0)) .copy),
            (none, .asg 5 (.c (.int .i64 2)) .copy)])
          (.ret [4, 5]))
         (.seq
          (.region [(18, 2, false), (16, 2, false)] [] [1, 2, 14] false [
            (none, .mv 15 (.v 1)),
            (none, .fadr 16 2 1 (.v 2)),
            (none, .load 17 false 1 (.v 16) none),
            (none, .fadr 18 0 1 (.v 2)),
            (none, .load 19 false 1 (.v 18) none),
            (none, .bin 20 .quo (.v 17) (.v 19)),
            (none, .bin 21 .gtr (.v 15) (.v 20)),
            (none, .asg 14 (.v 21) .copy)])
          (.cond (.v 14)
           (.seq
            (.region [] [] [4, 5] false [
              (none, .asg 4 (.c (.int .i64 0)) .copy),
              (none, .asg 5 (.c (.int .i64 6)) .copy)])
            (.ret [4, 5]))
           (.skip [1, 2]))))))))
    (.seq
     (.region [(30, 2, false), (26, 2, false), (23, 2, false)] [] [4, 5] false [
       (none, .mv 22 (.v 1)),
       (none, .fadr 23 0 1 (.v 2)),
       (none, .load 24 false 1 (.v 23) none),
       (none, .bin 25 .mul (.v 22) (.v 24)),
       (none, .fadr 26 1 1 (.v 2)),
       (none, .load 27 false 1 (.v 26) none),
       (none, .bin 28 .add (.v 25) (.v 27)),
       (none, .bin 29 .sub (.v 28) (.c (.int .i64 1))),
       (none, .fadr 30 1 1 (.v 2)),
       (none, .load 31 false 1 (.v 30) none),
       (none, .bin 32 .quo (.v 29) (.v 31)),
       (none, .asg 4 (.v 32) .copy),
       (none, .asg 5 (.c (.int .i64 0)) .copy)])
     (.ret [4, 5]))))⟩
def F384 : PFunc :=
 ⟨[false, false, false], [.tmp 6],
  (.seq
   (.region [] [] [0, 1, 2] false [
     (none, .asg 6 (.c (.int .i64 0)) .copy)])
   (.seq
    (.seq
     (.region [(8, 0, false)] [] [0, 1, 2, 14] false [
       (none, .mv 7 (.v 1)),
       (none, .mv 8 (.v 0)),
       (none, .len 9 false (.v 8)),
       (none, .bin 10 .geq (.v 7) (.v 9)),
       (none, .mv 11 (.v 10)),
       (some (11, false), .mv 12 (.v 2)),
       (some (11, false), .bin 13 .lss (.v 12) (.c (.int .i64 1))),
       (none, .pick 14 (.v 11) (.c (.bool true)) (.v 13))])
     (.cond (.v 14)
      (.seq
       (.region [] [] [6] false [
         (none, .asg 6 (.c (.int .i64 0)) .copy)])
       (.ret [6]))
      (.skip [0, 1, 2])))
    (.seq
     (.region [(17, 0, false), (15, 0, false)] [] [6] false [
       (none, .mv 15 (.v 0)),
       (none, .mv 16 (.v 1)),
       (none, .iadr 17 1 (.v 15) (.v 16)),
       (none, .load 18 false 1 (.v 17) none),
       (none, .conv 19 .i64 (.v 18)),
       (none, .mv 20 (.v 2)),
       (none, .bin 21 .rem (.v 19) (.v 20)),
       (none, .asg 6 (.v 21) .copy)])
     (.ret [6]))))⟩
def F386 : PFunc :=
 ⟨[false, false], [.tmp 4],
  (.seq
   (.region [] [] [0, 1] false [
     (none, .asg 4 (.c (.bool false)) .copy)])
   (.seq
    (.region [(9, 1, false), (5, 0, false)] [] [4] false [
      (none, .mv 5 (.v 0)),
      (none, .len 6 false (.v 5)),
      (none, .bin 7 .gtr (.v 6) (.c (.int .i64 3000))),
      (none, .mv 8 (.v 7)),
      (some (8, false), .mv 9 (.v 1)),
      (some (8, false), .len 10 false (.v 9)),
      (some (8, false), .bin 11 .gtr (.v 10) (.c (.int .i64 3000))),
      (none, .pick 12 (.v 8) (.c (.bool true)) (.v 11)),
      (none, .asg 4 (.v 12) .copy)])
    (.ret [4])))⟩
def F387 : PFunc :=
 ⟨[false], [.tmp 2],
  (.seq
   (.region [] [] [0] false [
     (none, .asg 2 (.c (.int .i64 0)) .copy)])
   (.seq
    (.region [] [] [0, 3] false [
      (none, .asg 3 (.c (.int .i64 0)) .copy)])
    (.seq
     (.seq
      (.region [] [] [0, 3, 4] false [
        (none, .asg 4 (.c (.int .i64 0)) .copy)])
      (.block 0
       (.loop
        (.seq
         (.seq
          (.region [] [] [0, 3, 4, 8] false [
            (none, .mv 5 (.v 4)),
            (none, .mv 6 (.v 0)),
            (none, .len 7 true (.v 6)),
            (none, .bin 8 .lss (.v 5) (.v 7))])
          (.cond (.v 8)
           (.skip [0, 3, 4])
           (.exit 0 [3])))
         (.seq
          (.block 1
           (.seq
            (.region [] [] [0, 3, 4, 14] false [
              (none, .mv 11 (.v 0)),
              (none, .mv 12 (.v 4)),
              (none, .idx 13 (.v 11) (.v 12)),
              (none, .bin 14 .eql (.v 13) (.c (.int .u8 49)))])
            (.cond (.v 14)
             (.region [] [] [0, 3, 4] false [
               (none, .mv 15 (.v 3)),
               (none, .bin 16 .add (.v 15) (.c (.int .i64 1))),
               (none, .asg 3 (.v 16) .copy)])
             (.skip [0, 3, 4]))))
          (.region [] [] [0, 3, 4] false [
            (none, .mv 9 (.v 4)),
            (none, .bin 10 .add (.v 9) (.c (.int .i64 1))),
            (none, .asg 4 (.v 10) .copy)]))))))
     (.seq
      (.region [] [] [2] false [
        (none, .mv 17 (.v 3)),
        (none, .asg 2 (.v 17) .copy)])
      (.ret [2])))))⟩
def F5 : PFunc :=
 ⟨[true], [.tmp 2],
  (.seq
   (.region [] [] [0] false [
     (none, .asg 2 (.c (.int .i64 0)) .copy)])
   (.seq
    (.region [] [] [0, 3] false [
      (none, .asg 3 (.c (.int .i64 0)) .copy)])
    (.seq
     (.seq
      (.region [(11, 0, true), (10, 0, false), (9, 0, false), (8, 0, false), (6, 0, false), (5, 0, false), (4, 0, false)] [] [0, 3, 13] true [
        (none, .mvr 4 0),
        (none, .nchk 5 (.v 4)),
        (none, .fadr 6 1 1 (.v 5)),
        (none, .load 7 false 1 (.v 6) none),
        (none, .mvr 8 0),
        (none, .nchk 9 (.v 8)),
        (none, .fadr 10 0 1 (.v 9)),
        (none, .load 11 false 1 (.v 10) none),
        (none, .len 12 false (.v 11)),
        (none, .bin 13 .lss (.v 7) (.v 12))])
      (.cond (.v 13)
       (.region [(22, 0, true), (20, 0, false), (19, 0, false), (18, 0, false), (17, 0, true), (16, 0, false), (15, 0, false), (14, 0, false)] [] [0, 3] true [
         (none, .mvr 14 0),
         (none, .nchk 15 (.v 14)),
         (none, .fadr 16 0 1 (.v 15)),
         (none, .load 17 false 1 (.v 16) none),
         (none, .mvr 18 0),
         (none, .nchk 19 (.v 18)),
         (none, .fadr 20 1 1 (.v 19)),
         (none, .load 21 false 1 (.v 20) none),
         (none, .iadr 22 1 (.v 17) (.v 21)),
         (none, .load 23 false 1 (.v 22) none),
         (none, .conv 24 .i64 (.v 23)),
         (none, .asg 3 (.v 24) .copy)])
       (.skip [0, 3])))
     (.seq
      (.region [(31, 0, false), (30, 0, false), (27, 0, false), (26, 0, false), (25, 0, false)] [] [0, 3] false [
        (none, .mv 25 (.v 0)),
        (none, .nchk 26 (.v 25)),
        (none, .fadr 27 1 1 (.v 26)),
        (none, .load 28 false 1 (.v 27) none),
        (none, .bin 29 .add (.v 28) (.c (.int .i64 1))),
        (none, .nchk 30 (.v 25)),
        (none, .fadr 31 1 1 (.v 30)),
        (none, .store 1 (.v 31) (.v 29) .copy)])
      (.seq
       (.region [(43, 0, false), (42, 0, false), (35, 0, false), (34, 0, false), (33, 0, false), (32, 0, false)] [] [0, 3] false [
         (none, .mv 32 (.v 0)),
         (none, .mv 33 (.v 0)),
         (none, .nchk 34 (.v 33)),
         (none, .fadr 35 2 1 (.v 34)),
         (none, .load 36 false 1 (.v 35) none),
         (none, .bin 37 .mul (.v 36) (.c (.int .u64 6364136223846793005))),
         (none, .mv 38 (.v 3)),
         (none, .conv 39 .u64 (.v 38)),
         (none, .bin 40 .add (.v 37) (.v 39)),
         (none, .bin 41 .add (.v 40) (.c (.int .u64 1442695040888963407))),
         (none, .nchk 42 (.v 32)),
         (none, .fadr 43 2 1 (.v 42)),
         (none, .store 1 (.v 43) (.v 41) .copy)])
       (.seq
        (.seq
         (.region [(51, 0, true), (50, 0, false), (49, 0, false), (48, 0, false), (46, 0, false), (45, 0, false), (44, 0, false)] [] [0, 3, 53] true [
           (none, .mvr 44 0),
           (none, .nchk 45 (.v 44)),
           (none, .fadr 46 1 1 (.v 45)),
           (none, .load 47 false 1 (.v 46) none),
           (none, .mvr 48 0),
           (none, .nchk 49 (.v 48)),
           (none, .fadr 50 0 1 (.v 49)),
           (none, .load 51 false 1 (.v 50) none),
           (none, .len 52 false (.v 51)),
           (none, .bin 53 .leq (.v 47) (.v 52))])
         (.cond (.v 53)
          (.seq
           (.region [] [] [0, 2] false [
             (none, .mv 54 (.v 3)),
             (none, .asg 2 (.v 54) .copy)])
           (.ret [0, 2]))
          (.skip [0])))
        (.seq
         (.region [(57, 0, false), (56, 0, false), (55, 0, false)] [] [0, 2] false [
           (none, .mv 55 (.v 0)),
           (none, .nchk 56 (.v 55)),
           (none, .fadr 57 2 1 (.v 56)),
           (none, .load 58 false 1 (.v 57) none),
           (none, .bin 59 .shr (.v 58) (.c (.int .u64 40))),
           (none, .bin 60 .and (.v 59) (.c (.int .u64 255))),
           (none, .conv 61 .i64 (.v 60)),
           (none, .asg 2 (.v 61) .copy)])
         (.ret [0, 2]))))))))⟩
def F7 : PFunc :=
 ⟨[true, false], [.tmp 4],
  (.seq
   (.region [] [] [0, 1] false [
     (none, .asg 4 (.c (.int .i64 0)) .copy)])
   (.seq
    (.seq
     (.region [] [] [0, 1, 7] false [
       (none, .mv 6 (.v 1)),
       (none, .bin 7 .leq (.v 6) (.c (.int .i64 1)))])
     (.cond (.v 7)
      (.seq
       (.region [] [] [0, 4] false [
         (none, .asg 4 (.c (.int .i64 0)) .copy)])
       (.ret [0, 4]))
      (.skip [0, 1])))
    (.seq
     (.region [(8, 0, false)] [] [0, 1, 5] false [
       (none, .mv 8 (.v 0)),
       (none, .call (some 9) 5 true [((.v 8), true)]),
       (none, .asg 5 (.v 9) .copy)])
     (.seq
      (.seq
       (.region [] [] [0, 1, 5, 11] false [
         (none, .mv 10 (.v 1)),
         (none, .bin 11 .gtr (.v 10) (.c (.int .i64 200)))])
       (.cond (.v 11)
        (.region [(14, 0, false)] [] [0, 1, 5] false [
          (none, .mv 12 (.v 5)),
          (none, .bin 13 .mul (.v 12) (.c (.int .i64 256))),
          (none, .mv 14 (.v 0)),
          (none, .call (some 15) 5 true [((.v 14), true)]),
          (none, .bin 16 .add (.v 13) (.v 15)),
          (none, .asg 5 (.v 16) .copy)])
        (.skip [0, 1, 5])))
      (.seq
       (.region [] [] [0, 4] false [
         (none, .mv 17 (.v 5)),
         (none, .mv 18 (.v 1)),
         (none, .bin 19 .rem (.v 17) (.v 18)),
         (none, .asg 4 (.v 19) .copy)])
       (.ret [0, 4]))))))⟩
def F603 : PFunc :=
 ⟨[false], [.tmp 2],
  (.seq
   (.region [] [] [0] false [
     (none, .asg 2 (.c .nilp) .copy)])
   (.seq
    (.region [(3, 0, false)] [] [2] false [
      (none, .mv 3 (.v 0)),
      (none, .build 4 [(.sl false 1 []), (.int .i64 0), (.int .u64 0)] [(0, 1, (.v 3), .move)]),
      (none, .box 5 (.v 4) .move),
      (none, .asg 2 (.v 5) .move)])
    (.ret [2])))⟩
def F423 : PFunc :=
 ⟨[false, false], [.tmp 4],
  (.seq
   (.region [] [] [0, 1] false [
     (none, .asg 4 (.c (.str [])) .copy)])
   (.seq
    (.region [(8, 0, false)] [] [1, 5] false [
      (none, .mv 8 (.v 0)),
      (none, .call (some 9) 603 true [((.v 8), false)]),
      (none, .asg 5 (.v 9) .move)])
    (.seq
     (.region [] [] [1, 5, 6] false [
       (none, .mksl 10 1 (.int .u8 0) 0 []),
       (none, .asg 6 (.v 10) .move)])
     (.seq
      (.seq
       (.region [] [] [5, 6, 7] false [
         (none, .mv 11 (.v 1)),
         (none, .asg 7 (.v 11) .copy)])
       (.block 0
        (.loop
         (.seq
          (.seq
           (.region [] [] [5, 6, 7, 13] false [
             (none, .mv 12 (.v 7)),
             (none, .bin 13 .gtr (.v 12) (.c (.int .i64 0)))])
           (.cond (.v 13)
            (.skip [5, 6, 7])
            (.exit 0 [6])))
          (.seq
           (.block 1
            (.region [(17, 5, false), (16, 6, false)] [] [5, 6, 7] false [
              (none, .mv 16 (.v 6)),
              (none, .mv 17 (.v 5)),
              (none, .call (some 18) 7 true [((.v 17), true), ((.c (.int .i64 4)), false)]),
              (none, .idx 19 (.c (.str [48, 49, 49, 48])) (.v 18)),
              (none, .mksl 20 1 (.int .u8 0) 1 [(0, (.v 19), .copy)]),
              (none, .app 21 1 (.v 16) (.v 20) .move),
              (none, .asg 6 (.v 21) .move)]))
           (.region [] [] [5, 6, 7] false [
             (none, .mv 14 (.v 7)),
             (none, .bin 15 .sub (.v 14) (.c (.int .i64 1))),
             (none, .asg 7 (.v 15) .copy)]))))))
      (.seq
       (.region [(22, 6, false)] [] [4] false [
         (none, .mv 22 (.v 6)),
         (none, .b2s 23 (.v 22)),
         (none, .asg 4 (.v 23) .copy)])
       (.ret [4]))))))⟩
def F760 : PFunc :=
 ⟨[true], [.cell 2 true 3],
  (.seq
   (.region [] [] [0, 2] false [
     (none, .new 2 (.agg [(.int .i64 0), (.int .i64 0), (.int .i64 0)]))])
   (.seq
    (.region [(4, 0, false)] [] [0, 2, 3] false [
      (none, .mv 4 (.v 0)),
      (none, .call (some 5) 7 true [((.v 4), true), ((.c (.int .i64 5)), false)]),
      (none, .bin 6 .add (.c (.int .i64 1)) (.v 5)),
      (none, .build 7 [(.int .i64 0), (.int .i64 0), (.int .i64 0)] [(0, 1, (.v 6), .copy)]),
      (none, .new 3 (.agg [(.int .i64 0), (.int .i64 0), (.int .i64 0)])),
      (none, .store 3 (.v 3) (.v 7) .copy)])
    (.seq
     (.region [(11, 3, false), (8, 0, false)] [] [0, 2, 3] false [
       (none, .mv 8 (.v 0)),
       (none, .call (some 9) 7 true [((.v 8), true), ((.c (.int .i64 4)), false)]),
       (none, .bin 10 .add (.c (.int .i64 1)) (.v 9)),
       (none, .fadr 11 1 1 (.v 3)),
       (none, .store 1 (.v 11) (.v 10) .copy)])
     (.seq
      (.region [(15, 3, false), (12, 0, false)] [] [0, 2, 3] false [
        (none, .mv 12 (.v 0)),
        (none, .call (some 13) 7 true [((.v 12), true), ((.c (.int .i64 20)), false)]),
        (none, .bin 14 .add (.c (.int .i64 1)) (.v 13)),
        (none, .fadr 15 2 1 (.v 3)),
        (none, .store 1 (.v 15) (.v 14) .copy)])
      (.seq
       (.region [] [] [0, 2] false [
         (none, .load 16 true 3 (.v 3) none),
         (none, .store 3 (.v 2) (.v 16) .copy)])
       (.ret [0, 2]))))))⟩
def F427 : PFunc :=
 ⟨[false], [.cell 2 true 3],
  (.seq
   (.region [] [] [0, 2] false [
     (none, .new 2 (.agg [(.int .i64 0), (.int .i64 0), (.int .i64 0)]))])
   (.seq
    (.region [(3, 0, false)] [] [2] false [
      (none, .mv 3 (.v 0)),
      (none, .call (some 4) 603 true [((.v 3), false)]),
      (none, .call (some 5) 760 true [((.v 4), true)]),
      (none, .store 3 (.v 2) (.v 5) .copy)])
    (.ret [2])))⟩
def F357 : PFunc :=
 ⟨[false, false], [.tmp 4],
  (.seq
   (.region [] [] [0, 1] false [
     (none, .asg 4 (.c (.bool false)) .copy)])
   (.seq
    (.seq
     (.region [(26, 1, false), (25, 0, false)] [] [0, 1, 27] false [
       (none, .mv 25 (.v 0)),
       (none, .mv 26 (.v 1)),
       (none, .call (some 27) 386 false [((.v 25), false), ((.v 26), false)])])
     (.cond (.v 27)
      (.seq
       (.region [] [] [4] false [
         (none, .asg 4 (.c (.bool true)) .copy)])
       (.ret [4]))
      (.skip [0, 1])))
    (.seq
     (.region [(28, 0, false)] [] [1, 5] false [
       (none, .mv 28 (.v 0)),
       (none, .call (some 29) 427 false [((.v 28), false)]),
       (none, .new 5 (.agg [(.int .i64 0), (.int .i64 0), (.int .i64 0)])),
       (none, .store 3 (.v 5) (.v 29) .copy)])
     (.seq
      (.region [] [] [1, 5, 6, 7] false [
        (none, .load 31 true 3 (.v 5) none),
        (none, .call (some 32) 139 false [((.v 31), false)]),
        (none, .asg 30 (.v 32) .copy),
        (none, .extp 33 (.v 30) 0),
        (none, .extp 34 (.v 30) 1),
        (none, .asg 6 (.v 33) .copy),
        (none, .asg 7 (.v 34) .copy)])
      (.seq
       (.seq
        (.region [(60, 5, false), (57, 5, false), (50, 5, false), (47, 5, false)] [] [1, 5, 6, 63] false [
          (none, .mv 35 (.v 7)),
          (none, .bin 36 .neq (.v 35) (.c (.int .i64 0))),
          (none, .mv 37 (.v 36)),
          (some (37, false), .mv 38 (.v 6)),
          (some (37, false), .bin 39 .lss (.v 38) (.c (.int .i64 0))),
          (none, .pick 40 (.v 37) (.c (.bool true)) (.v 39)),
          (none, .mv 41 (.v 40)),
          (some (41, false), .mv 42 (.v 6)),
          (some (41, false), .bin 43 .gtr (.v 42) (.c (.int .i64 100))),
          (none, .pick 44 (.v 41) (.c (.bool true)) (.v 43)),
          (none, .mv 45 (.v 44)),
          (some (45, false), .mv 46 (.v 6)),
          (some (45, false), .fadr 47 0 1 (.v 5)),
          (some (45, false), .load 48 false 1 (.v 47) none),
          (some (45, false), .bin 49 .mul (.v 46) (.v 48)),
          (some (45, false), .fadr 50 2 1 (.v 5)),
          (some (45, false), .load 51 false 1 (.v 50) none),
          (some (45, false), .bin 52 .gtr (.v 49) (.v 51)),
          (none, .pick 53 (.v 45) (.c (.bool true)) (.v 52)),
          (none, .mv 54 (.v 53)),
          (some (54, false), .mv 55 (.v 6)),
          (some (54, false), .bin 56 .add (.v 55) (.c (.int .i64 1))),
          (some (54, false), .fadr 57 0 1 (.v 5)),
          (some (54, false), .load 58 false 1 (.v 57) none),
          (some (54, false), .bin 59 .mul (.v 56) (.v 58)),
          (some (54, false), .fadr 60 2 1 (.v 5)),
          (some (54, false), .load 61 false 1 (.v 60) none),
          (some (54, false), .bin 62 .leq (.v 59) (.v 61)),
          (none, .pick 63 (.v 54) (.c (.bool true)) (.v 62))])
        (.cond (.v 63)
         (.seq
          (.region [] [] [4] false [
            (none, .asg 4 (.c (.bool false)) .copy)])
          (.ret [4]))
         (.skip [1, 5, 6])))
       (.seq
        (.region [(64, 1, false)] [] [1, 5, 6, 8] false [
          (none, .mv 64 (.v 1)),
          (none, .mv 65 (.v 6)),
          (none, .bin 66 .add (.v 65) (.c (.int .i64 1))),
          (none, .call (some 67) 384 false [((.v 64), false), ((.c (.int .i64 0)), false), ((.v 66), false)]),
          (none, .asg 8 (.v 67) .copy)])
        (.seq
         (.region [] [] [1, 5, 6, 8, 9, 10] false [
           (none, .load 69 true 3 (.v 5) none),
           (none, .mv 70 (.v 8)),
           (none, .call (some 71) 167 false [((.v 69), false), ((.v 70), false)]),
           (none, .asg 68 (.v 71) .copy),
           (none, .extp 72 (.v 68) 0),
           (none, .extp 73 (.v 68) 1),
           (none, .asg 9 (.v 72) .copy),
           (none, .asg 10 (.v 73) .copy)])
         (.seq
          (.region [] [] [1, 5, 6, 8, 9, 10, 12] false [
            (none, .load 75 true 3 (.v 5) none),
            (none, .mv 76 (.v 6)),
            (none, .bin 77 .add (.v 76) (.c (.int .i64 1))),
            (none, .call (some 78) 167 false [((.v 75), false), ((.v 77), false)]),
            (none, .asg 74 (.v 78) .copy),
            (none, .extp 79 (.v 74) 0),
            (none, .extp 80 (.v 74) 1),
            (none, .asg 11 (.v 79) .copy),
            (none, .asg 12 (.v 80) .copy)])
          (.seq
           (.seq
            (.region [(108, 5, false), (104, 5, false), (93, 5, false), (89, 5, false)] [] [1, 121] false [
              (none, .mv 81 (.v 10)),
              (none, .bin 82 .neq (.v 81) (.c (.int .i64 0))),
              (none, .mv 83 (.v 82)),
              (some (83, false), .mv 84 (.v 9)),
              (some (83, false), .bin 85 .lss (.v 84) (.c (.int .i64 0))),
              (none, .pick 86 (.v 83) (.c (.bool true)) (.v 85)),
              (none, .mv 87 (.v 86)),
              (some (87, false), .mv 88 (.v 9)),
              (some (87, false), .fadr 89 1 1 (.v 5)),
              (some (87, false), .load 90 false 1 (.v 89) none),
              (some (87, false), .bin 91 .mul (.v 88) (.v 90)),
              (some (87, false), .mv 92 (.v 8)),
              (some (87, false), .fadr 93 0 1 (.v 5)),
              (some (87, false), .load 94 false 1 (.v 93) none),
              (some (87, false), .bin 95 .mul (.v 92) (.v 94)),
              (some (87, false), .bin 96 .lss (.v 91) (.v 95)),
              (none, .pick 97 (.v 87) (.c (.bool true)) (.v 96)),
              (none, .mv 98 (.v 97)),
              (some (98, false), .mv 99 (.v 9)),
              (some (98, false), .bin 100 .gtr (.v 99) (.c (.int .i64 0))),
              (some (98, false), .mv 101 (.v 100)),
              (some (101, true), .mv 102 (.v 9)),
              (some (101, true), .bin 103 .sub (.v 102) (.c (.int .i64 1))),
              (some (101, true), .fadr 104 1 1 (.v 5)),
              (some (101, true), .load 105 false 1 (.v 104) none),
              (some (101, true), .bin 106 .mul (.v 103) (.v 105)),
              (some (101, true), .mv 107 (.v 8)),
              (some (101, true), .fadr 108 0 1 (.v 5)),
              (some (101, true), .load 109 false 1 (.v 108) none),
              (some (101, true), .bin 110 .mul (.v 107) (.v 109)),
              (some (101, true), .bin 111 .geq (.v 106) (.v 110)),
              (some (98, false), .pick 112 (.v 101) (.v 111) (.c (.bool false))),
              (none, .pick 113 (.v 98) (.c (.bool true)) (.v 112)),
              (none, .mv 114 (.v 113)),
              (some (114, false), .mv 115 (.v 6)),
              (some (114, false), .bin 116 .lss (.v 115) (.c (.int .i64 100))),
              (some (114, false), .mv 117 (.v 116)),
              (some (117, true), .mv 118 (.v 12)),
              (some (117, true), .bin 119 .neq (.v 118) (.c (.int .i64 6))),
              (some (114, false), .pick 120 (.v 117) (.v 119) (.c (.bool false))),
              (none, .pick 121 (.v 114) (.c (.bool true)) (.v 120))])
            (.cond (.v 121)
             (.seq
              (.region [] [] [4] false [
                (none, .asg 4 (.c (.bool false)) .copy)])
              (.ret [4]))
             (.skip [1])))
           (.seq
            (.region [(123, 1, false), (122, 1, false)] [] [1, 13] false [
              (none, .mv 122 (.v 1)),
              (none, .mv 123 (.v 1)),
              (none, .call (some 124) 384 false [((.v 123), false), ((.c (.int .i64 1)), false), ((.c (.int .i64 24)), false)]),
              (none, .call (some 125) 423 false [((.v 122), false), ((.v 124), false)]),
              (none, .asg 13 (.v 125) .copy)])
            (.seq
             (.region [] [] [1, 13, 14, 15] false [
               (none, .mv 127 (.v 13)),
               (none, .call (some 128) 61 false [((.v 127), false)]),
               (none, .asg 126 (.v 128) .move),
               (none, .ext 129 (.v 126) 0),
               (none, .extp 130 (.v 126) 1),
               (none, .asg 14 (.v 129) .move),
               (none, .asg 15 (.v 130) .copy)])
             (.seq
              (.region [(131, 1, false)] [] [1, 13, 14, 15, 16] false [
                (none, .mv 131 (.v 1)),
                (none, .call (some 132) 384 false [((.v 131), false), ((.c (.int .i64 2)), false), ((.c (.int .i64 20)), false)]),
                (none, .asg 16 (.v 132) .copy)])
              (.seq
               (.region [(133, 1, false)] [] [13, 14, 15, 16, 17] false [
                 (none, .mv 133 (.v 1)),
                 (none, .call (some 134) 384 false [((.v 133), false), ((.c (.int .i64 3)), false), ((.c (.int .i64 30)), false)]),
                 (none, .asg 17 (.v 134) .copy)])
               (.seq
                (.region [] [] [13, 14, 15, 16, 17, 18, 19] false [
                  (none, .mv 136 (.v 13)),
                  (none, .mv 137 (.v 16)),
                  (none, .mv 138 (.v 17)),
                  (none, .call (some 139) 104 false [((.v 136), false), ((.v 137), false), ((.v 138), false)]),
                  (none, .asg 135 (.v 139) .copy),
                  (none, .extp 140 (.v 135) 0),
                  (none, .extp 141 (.v 135) 1),
                  (none, .asg 18 (.v 140) .copy),
                  (none, .asg 19 (.v 141) .copy)])
                (.seq
                 (.seq
                  (.region [] [] [13, 14, 16, 17, 18, 147] false [
                    (none, .mv 142 (.v 15)),
                    (none, .bin 143 .neq (.v 142) (.c (.int .i64 0))),
                    (none, .mv 144 (.v 143)),
                    (some (144, false), .mv 145 (.v 19)),
                    (some (144, false), .bin 146 .neq (.v 145) (.c (.int .i64 0))),
                    (none, .pick 147 (.v 144) (.c (.bool true)) (.v 146))])
                  (.cond (.v 147)
                   (.seq
                    (.region [] [] [4] false [
                      (none, .asg 4 (.c (.bool false)) .copy)])
                    (.ret [4]))
                   (.skip [13, 14, 16, 17, 18])))
                 (.seq
                  (.region [] [] [13, 14, 16, 17, 18, 20] false [
                    (none, .mv 148 (.v 13)),
                    (none, .len 149 true (.v 148)),
                    (none, .make 150 1 (.int .u8 0) (.v 149)),
                    (none, .asg 20 (.v 150) .move)])
                  (.seq
                   (.seq
                    (.region [] [] [13, 14, 16, 17, 18, 20, 21] false [
                      (none, .asg 21 (.c (.int .i64 0)) .copy)])
                    (.block 0
                     (.loop
                      (.seq
                       (.seq
                        (.region [(152, 20, false)] [] [13, 14, 16, 17, 18, 20, 21, 154] false [
                          (none, .mv 151 (.v 21)),
                          (none, .mv 152 (.v 20)),
                          (none, .len 153 false (.v 152)),
                          (none, .bin 154 .lss (.v 151) (.v 153))])
                        (.cond (.v 154)
                         (.skip [13, 14, 16, 17, 18, 20, 21])
                         (.exit 0 [13, 14, 16, 17, 18, 20])))
                       (.seq
                        (.block 1
                         (.region [(159, 20, false), (157, 20, false)] [] [13, 14, 16, 17, 18, 20, 21] false [
                           (none, .mv 157 (.v 20)),
                           (none, .mv 158 (.v 21)),
                           (none, .iadr 159 1 (.v 157) (.v 158)),
                           (none, .store 1 (.v 159) (.c (.int .u8 48)) .copy)]))
                        (.region [] [] [13, 14, 16, 17, 18, 20, 21] false [
                          (none, .mv 155 (.v 21)),
                          (none, .bin 156 .add (.v 155) (.c (.int .i64 1))),
                          (none, .asg 21 (.v 156) .copy)]))))))
                   (.seq
                    (.region [] [] [13, 14, 16, 17, 18, 20, 22] false [
                      (none, .asg 22 (.c (.int .i64 (-1))) .copy)])
                    (.seq
                     (.seq
                      (.region [] [] [13, 14, 16, 17, 18, 20, 22, 23] false [
                        (none, .asg 23 (.c (.int .i64 0)) .copy)])
                      (.block 2
                       (.loop
                        (.seq
                         (.seq
                          (.region [(161, 14, false)] [] [13, 14, 16, 17, 18, 20, 22, 23, 163] false [
                            (none, .mv 160 (.v 23)),
                            (none, .mv 161 (.v 14)),
                            (none, .len 162 false (.v 161)),
                            (none, .bin 163 .lss (.v 160) (.v 162))])
                          (.cond (.v 163)
                           (.skip [13, 14, 16, 17, 18, 20, 22, 23])
                           (.exit 2 [13, 14, 16, 17, 18, 20])))
                         (.seq
                          (.block 3
                           (.seq
                            (.seq
                             (.region [(213, 14, true), (212, 14, true), (211, 14, false), (209, 14, false), (207, 14, true), (206, 14, true), (205, 14, false), (203, 14, false), (196, 14, true), (195, 14, true), (194, 14, false), (192, 14, false), (187, 14, true), (186, 14, true), (185, 14, false), (183, 14, false), (177, 14, true), (176, 14, true), (175, 14, false), (173, 14, false), (169, 14, true), (168, 14, false), (166, 14, false)] [] [13, 14, 16, 17, 18, 20, 23, 219] true [
                               (none, .mv 166 (.v 14)),
                               (none, .mv 167 (.v 23)),
                               (none, .iadr 168 1 (.v 166) (.v 167)),
                               (none, .load 169 false 1 (.v 168) none),
                               (none, .len 170 false (.v 169)),
                               (none, .bin 171 .neq (.v 170) (.c (.int .i64 2))),
                               (none, .mv 172 (.v 171)),
                               (some (172, false), .mv 173 (.v 14)),
                               (some (172, false), .mv 174 (.v 23)),
                               (some (172, false), .iadr 175 1 (.v 173) (.v 174)),
                               (some (172, false), .load 176 false 1 (.v 175) none),
                               (some (172, false), .iadr 177 1 (.v 176) (.c (.int .i64 0))),
                               (some (172, false), .load 178 false 1 (.v 177) none),
                               (some (172, false), .mv 179 (.v 22)),
                               (some (172, false), .bin 180 .leq (.v 178) (.v 179)),
                               (none, .pick 181 (.v 172) (.c (.bool true)) (.v 180)),
                               (none, .mv 182 (.v 181)),
                               (some (182, false), .mv 183 (.v 14)),
                               (some (182, false), .mv 184 (.v 23)),
                               (some (182, false), .iadr 185 1 (.v 183) (.v 184)),
                               (some (182, false), .load 186 false 1 (.v 185) none),
                               (some (182, false), .iadr 187 1 (.v 186) (.c (.int .i64 1))),
                               (some (182, false), .load 188 false 1 (.v 187) none),
                               (some (182, false), .bin 189 .lss (.v 188) (.c (.int .i64 1))),
                               (none, .pick 190 (.v 182) (.c (.bool true)) (.v 189)),
                               (none, .mv 191 (.v 190)),
                               (some (191, false), .mv 192 (.v 14)),
                               (some (191, false), .mv 193 (.v 23)),
                               (some (191, false), .iadr 194 1 (.v 192) (.v 193)),
                               (some (191, false), .load 195 false 1 (.v 194) none),
                               (some (191, false), .iadr 196 1 (.v 195) (.c (.int .i64 1))),
                               (some (191, false), .load 197 false 1 (.v 196) none),
                               (some (191, false), .mv 198 (.v 13)),
                               (some (191, false), .len 199 true (.v 198)),
                               (some (191, false), .bin 200 .gtr (.v 197) (.v 199)),
                               (none, .pick 201 (.v 191) (.c (.bool true)) (.v 200)),
                               (none, .mv 202 (.v 201)),
                               (some (202, false), .mv 203 (.v 14)),
                               (some (202, false), .mv 204 (.v 23)),
                               (some (202, false), .iadr 205 1 (.v 203) (.v 204)),
                               (some (202, false), .load 206 false 1 (.v 205) none),
                               (some (202, false), .iadr 207 1 (.v 206) (.c (.int .i64 0))),
                               (some (202, false), .load 208 false 1 (.v 207) none),
                               (some (202, false), .mv 209 (.v 14)),
                               (some (202, false), .mv 210 (.v 23)),
                               (some (202, false), .iadr 211 1 (.v 209) (.v 210)),
                               (some (202, false), .load 212 false 1 (.v 211) none),
                               (some (202, false), .iadr 213 1 (.v 212) (.c (.int .i64 1))),
                               (some (202, false), .load 214 false 1 (.v 213) none),
                               (some (202, false), .bin 215 .add (.v 208) (.v 214)),
                               (some (202, false), .mv 216 (.v 13)),
                               (some (202, false), .len 217 true (.v 216)),
                               (some (202, false), .bin 218 .gtr (.v 215) (.v 217)),
                               (none, .pick 219 (.v 202) (.c (.bool true)) (.v 218))])
                             (.cond (.v 219)
                              (.seq
                               (.region [] [] [4] false [
                                 (none, .asg 4 (.c (.bool false)) .copy)])
                               (.ret [4]))
                              (.skip [13, 14, 16, 17, 18, 20, 23])))
                            (.seq
                             (.seq
                              (.region [(224, 14, true), (223, 14, true), (222, 14, false), (220, 14, false)] [] [13, 14, 16, 17, 18, 20, 23, 24] false [
                                (none, .mv 220 (.v 14)),
                                (none, .mv 221 (.v 23)),
                                (none, .iadr 222 1 (.v 220) (.v 221)),
                                (none, .load 223 false 1 (.v 222) none),
                                (none, .iadr 224 1 (.v 223) (.c (.int .i64 0))),
                                (none, .load 225 false 1 (.v 224) none),
                                (none, .asg 24 (.v 225) .copy)])
                              (.block 4
                               (.loop
                                (.seq
                                 (.seq
                                  (.region [(237, 14, true), (236, 14, true), (235, 14, false), (233, 14, false), (231, 14, true), (230, 14, true), (229, 14, false), (227, 14, false)] [] [13, 14, 16, 17, 18, 20, 23, 24, 240] true [
                                    (none, .mv 226 (.v 24)),
                                    (none, .mv 227 (.v 14)),
                                    (none, .mv 228 (.v 23)),
                                    (none, .iadr 229 1 (.v 227) (.v 228)),
                                    (none, .load 230 false 1 (.v 229) none),
                                    (none, .iadr 231 1 (.v 230) (.c (.int .i64 0))),
                                    (none, .load 232 false 1 (.v 231) none),
                                    (none, .mv 233 (.v 14)),
                                    (none, .mv 234 (.v 23)),
                                    (none, .iadr 235 1 (.v 233) (.v 234)),
                                    (none, .load 236 false 1 (.v 235) none),
                                    (none, .iadr 237 1 (.v 236) (.c (.int .i64 1))),
                                    (none, .load 238 false 1 (.v 237) none),
                                    (none, .bin 239 .add (.v 232) (.v 238)),
                                    (none, .bin 240 .lss (.v 226) (.v 239))])
                                  (.cond (.v 240)
                                   (.skip [13, 14, 16, 17, 18, 20, 23, 24])
                                   (.exit 4 [13, 14, 16, 17, 18, 20, 23])))
                                 (.seq
                                  (.block 5
                                   (.region [(245, 20, false), (243, 20, false)] [] [13, 14, 16, 17, 18, 20, 23, 24] false [
                                     (none, .mv 243 (.v 20)),
                                     (none, .mv 244 (.v 24)),
                                     (none, .iadr 245 1 (.v 243) (.v 244)),
                                     (none, .store 1 (.v 245) (.c (.int .u8 49)) .copy)]))
                                  (.region [] [] [13, 14, 16, 17, 18, 20, 23, 24] false [
                                    (none, .mv 241 (.v 24)),
                                    (none, .bin 242 .add (.v 241) (.c (.int .i64 1))),
                                    (none, .asg 24 (.v 242) .copy)]))))))
                             (.region [(256, 14, true), (255, 14, true), (254, 14, false), (252, 14, false), (250, 14, true), (249, 14, true), (248, 14, false), (246, 14, false)] [] [13, 14, 16, 17, 18, 20, 22, 23] true [
                               (none, .mv 246 (.v 14)),
                               (none, .mv 247 (.v 23)),
                               (none, .iadr 248 1 (.v 246) (.v 247)),
                               (none, .load 249 false 1 (.v 248) none),
                               (none, .iadr 250 1 (.v 249) (.c (.int .i64 0))),
                               (none, .load 251 false 1 (.v 250) none),
                               (none, .mv 252 (.v 14)),
                               (none, .mv 253 (.v 23)),
                               (none, .iadr 254 1 (.v 252) (.v 253)),
                               (none, .load 255 false 1 (.v 254) none),
                               (none, .iadr 256 1 (.v 255) (.c (.int .i64 1))),
                               (none, .load 257 false 1 (.v 256) none),
                               (none, .bin 258 .add (.v 251) (.v 257)),
                               (none, .asg 22 (.v 258) .copy)]))))
                          (.region [] [] [13, 14, 16, 17, 18, 20, 22, 23] false [
                            (none, .mv 164 (.v 23)),
                            (none, .bin 165 .add (.v 164) (.c (.int .i64 1))),
                            (none, .asg 23 (.v 165) .copy)]))))))
                     (.seq
                      (.region [(270, 14, false), (259, 20, false)] [] [4] false [
                        (none, .mv 259 (.v 20)),
                        (none, .b2s 260 (.v 259)),
                        (none, .mv 261 (.v 13)),
                        (none, .bin 262 .eql (.v 260) (.v 261)),
                        (none, .mv 263 (.v 262)),
                        (some (263, true), .mv 264 (.v 18)),
                        (some (263, true), .mv 265 (.v 16)),
                        (some (263, true), .mv 266 (.v 13)),
                        (some (263, true), .call (some 267) 387 false [((.v 266), false)]),
                        (some (263, true), .bin 268 .mul (.v 265) (.v 267)),
                        (some (263, true), .mv 269 (.v 17)),
                        (some (263, true), .mv 270 (.v 14)),
                        (some (263, true), .len 271 false (.v 270)),
                        (some (263, true), .bin 272 .mul (.v 269) (.v 271)),
                        (some (263, true), .bin 273 .add (.v 268) (.v 272)),
                        (some (263, true), .bin 274 .eql (.v 264) (.v 273)),
                        (none, .pick 275 (.v 263) (.v 274) (.c (.bool false))),
                        (none, .asg 4 (.v 275) .copy)])
                      (.ret [4])))))))))))))))))))))⟩
def tabl : List (Nat × PFunc) := [(207, F207), (255, F255), (61, F61), (326, F326), (104, F104), (217, F217), (139, F139), (167, F167), (384, F384), (386, F386), (387, F387), (5, F5), (7, F7), (603, F603), (423, F423), (760, F760), (427, F427), (357, F357)]
def T : Nat → Option PFunc := tabOf tabl
end Go.Vs.G
