/- The functions that the law reaches, in the small language, printed by program. No conditions. -/
import Derived.Test.YtoeekebkinljpaaDLOffsets
import Derived.Test.YtoeekebkinljpaaV4
set_option maxRecDepth 100000
open Go Go.Vs
namespace Go.Vs.G
def F326 : PFunc :=
 ⟨[false, false, false], [.tmp 6],
  (.seq
   (.region [] [] [0, 1, 2] false [
     (none, .asg 6 (.c (.bool false)) .copy)])
   (.seq
    (.region [] [] [6] false [
      (none, .mv 7 (.v 0)),
      (none, .mv 8 (.v 1)),
      (none, .bin 9 .geq (.v 7) (.v 8)),
      (none, .mv 10 (.v 9)),
      (some (10, true), .mv 11 (.v 0)),
      (some (10, true), .mv 12 (.v 2)),
      (some (10, true), .bin 13 .leq (.v 11) (.v 12)),
      (none, .pick 14 (.v 10) (.v 13) (.c (.bool false))),
      (none, .asg 6 (.v 14) .copy)])
    (.ret [6])))⟩
def F206 : PFunc :=
 ⟨[false], [.tmp 2],
  (.seq
   (.region [] [] [1] false [
     (none, .box 1 (.v 0) .copy),
     (none, .asg 2 (.c (.bool false)) .copy)])
   (.seq
    (.region [(20, 1, false), (18, 1, false), (13, 1, false), (7, 1, false), (3, 1, false)] [] [2] false [
      (none, .fadr 3 0 1 (.v 1)),
      (none, .load 4 false 1 (.v 3) none),
      (none, .call (some 5) 326 false [((.v 4), false), ((.c (.int .i64 1)), false), ((.c (.int .i64 12)), false)]),
      (none, .mv 6 (.v 5)),
      (some (6, true), .fadr 7 0 1 (.v 1)),
      (some (6, true), .load 8 false 1 (.v 7) none),
      (some (6, true), .bin 9 .rem (.c (.int .i64 1000)) (.v 8)),
      (some (6, true), .bin 10 .eql (.v 9) (.c (.int .i64 0))),
      (none, .pick 11 (.v 6) (.v 10) (.c (.bool false))),
      (none, .mv 12 (.v 11)),
      (some (12, true), .fadr 13 1 1 (.v 1)),
      (some (12, true), .load 14 false 1 (.v 13) none),
      (some (12, true), .call (some 15) 326 false [((.v 14), false), ((.c (.int .i64 1)), false), ((.c (.int .i64 999)), false)]),
      (none, .pick 16 (.v 12) (.v 15) (.c (.bool false))),
      (none, .mv 17 (.v 16)),
      (some (17, true), .fadr 18 1 1 (.v 1)),
      (some (17, true), .load 19 false 1 (.v 18) none),
      (some (17, true), .fadr 20 0 1 (.v 1)),
      (some (17, true), .load 21 false 1 (.v 20) none),
      (some (17, true), .bin 22 .rem (.v 19) (.v 21)),
      (some (17, true), .bin 23 .eql (.v 22) (.c (.int .i64 0))),
      (none, .pick 24 (.v 17) (.v 23) (.c (.bool false))),
      (none, .asg 2 (.v 24) .copy)])
    (.ret [2])))⟩
def F17 : PFunc :=
 ⟨[false, false], [.tmp 4],
  (.seq
   (.region [] [] [1, 2] false [
     (none, .box 2 (.v 0) .copy),
     (none, .asg 4 (.c (.bool false)) .copy)])
   (.seq
    (.region [(12, 2, false), (10, 2, false), (6, 2, false)] [] [4] true [
      (none, .mv 5 (.v 1)),
      (none, .fadr 6 0 1 (.v 2)),
      (none, .load 7 false 1 (.v 6) none),
      (none, .bin 8 .quo (.c (.int .i64 1000)) (.v 7)),
      (none, .bin 9 .rem (.v 5) (.v 8)),
      (none, .fadr 10 1 1 (.v 2)),
      (none, .load 11 false 1 (.v 10) none),
      (none, .fadr 12 0 1 (.v 2)),
      (none, .load 13 false 1 (.v 12) none),
      (none, .bin 14 .quo (.v 11) (.v 13)),
      (none, .bin 15 .lss (.v 9) (.v 14)),
      (none, .asg 4 (.v 15) .copy)])
    (.ret [4])))⟩
def F253 : PFunc :=
 ⟨[false, false, false], [.tmp 6],
  (.seq
   (.region [] [] [2, 3, 4] false [
     (none, .box 3 (.v 0) .copy),
     (none, .box 4 (.v 1) .copy),
     (none, .asg 6 (.c (.int .i64 0)) .copy)])
   (.seq
    (.region [] [] [2, 3, 4, 7] false [
      (none, .asg 7 (.c (.int .i64 0)) .copy)])
    (.seq
     (.seq
      (.region [] [] [2, 3, 4, 7, 9] false [
        (none, .mv 9 (.c (.int .i64 0)))])
      (.block 0
       (.loop
        (.seq
         (.region [] [] [2, 3, 4, 7, 9, 10] false [
           (none, .bin 10 .lss (.v 9) (.c (.int .i64 1000)))])
         (.seq
          (.cond (.v 10)
           (.skip [2, 3, 4, 7, 9])
           (.exit 0 [7]))
          (.seq
           (.block 1
            (.seq
             (.region [] [] [2, 3, 4, 7, 8, 9] false [
               (none, .mv 11 (.v 9)),
               (none, .asg 8 (.v 11) .copy)])
             (.seq
              (.region [] [] [2, 3, 4, 7, 9, 22] false [
                (none, .load 12 true 2 (.v 3) none),
                (none, .mv 13 (.v 8)),
                (none, .call (some 14) 17 false [((.v 12), false), ((.v 13), false)]),
                (none, .mv 15 (.v 14)),
                (some (15, true), .load 16 true 2 (.v 4) none),
                (some (15, true), .mv 17 (.v 8)),
                (some (15, true), .mv 18 (.v 2)),
                (some (15, true), .bin 19 .add (.v 17) (.v 18)),
                (some (15, true), .bin 20 .rem (.v 19) (.c (.int .i64 1000))),
                (some (15, true), .call (some 21) 17 false [((.v 16), false), ((.v 20), false)]),
                (none, .pick 22 (.v 15) (.v 21) (.c (.bool false)))])
              (.cond (.v 22)
               (.region [] [] [2, 3, 4, 7, 9] false [
                 (none, .mv 23 (.v 7)),
                 (none, .bin 24 .add (.v 23) (.c (.int .i64 1))),
                 (none, .asg 7 (.v 24) .copy)])
               (.skip [2, 3, 4, 7, 9])))))
           (.region [] [] [2, 3, 4, 7, 9] false [
             (none, .bin 25 .add (.v 9) (.c (.int .i64 1))),
             (none, .mv 9 (.v 25))])))))))
     (.seq
      (.region [] [] [6] false [
        (none, .mv 26 (.v 7)),
        (none, .asg 6 (.v 26) .copy)])
      (.ret [6])))))⟩
def F52 : PFunc :=
 ⟨[false, false], [.tmp 4, .tmp 5, .tmp 6],
  (.seq
   (.region [] [] [2, 3] false [
     (none, .box 2 (.v 0) .copy),
     (none, .box 3 (.v 1) .copy),
     (none, .asg 4 (.c (.int .i64 0)) .copy),
     (none, .asg 5 (.c (.int .i64 0)) .copy),
     (none, .asg 6 (.c (.int .i64 0)) .copy)])
   (.seq
    (.seq
     (.region [] [] [2, 3, 18] false [
       (none, .load 11 true 2 (.v 2) none),
       (none, .call (some 12) 206 false [((.v 11), false)]),
       (none, .un 13 .not (.v 12)),
       (none, .mv 14 (.v 13)),
       (some (14, false), .load 15 true 2 (.v 3) none),
       (some (14, false), .call (some 16) 206 false [((.v 15), false)]),
       (some (14, false), .un 17 .not (.v 16)),
       (none, .pick 18 (.v 14) (.c (.bool true)) (.v 17))])
     (.cond (.v 18)
      (.seq
       (.region [] [] [4, 5, 6] false [
         (none, .asg 4 (.c (.int .i64 0)) .copy),
         (none, .asg 5 (.c (.int .i64 0)) .copy),
         (none, .asg 6 (.c (.int .i64 1)) .copy)])
       (.ret [4, 5, 6]))
      (.skip [2, 3])))
    (.seq
     (.region [] [] [2, 3, 7, 8] false [
       (none, .asg 7 (.c (.int .i64 0)) .copy),
       (none, .asg 8 (.c (.int .i64 (-1))) .copy)])
     (.seq
      (.seq
       (.region [] [] [2, 3, 7, 8, 19] false [
         (none, .mv 19 (.c (.int .i64 0)))])
       (.block 0
        (.loop
         (.seq
          (.region [] [] [2, 3, 7, 8, 19, 20] false [
            (none, .bin 20 .lss (.v 19) (.c (.int .i64 1000)))])
          (.seq
           (.cond (.v 20)
            (.skip [2, 3, 7, 8, 19])
            (.exit 0 [7, 8]))
           (.seq
            (.block 1
             (.seq
              (.region [] [] [2, 3, 7, 8, 9, 19] false [
                (none, .mv 21 (.v 19)),
                (none, .asg 9 (.v 21) .copy)])
              (.seq
               (.region [] [] [2, 3, 7, 8, 9, 10, 19] false [
                 (none, .load 22 true 2 (.v 2) none),
                 (none, .load 23 true 2 (.v 3) none),
                 (none, .mv 24 (.v 9)),
                 (none, .call (some 25) 253 false [((.v 22), false), ((.v 23), false), ((.v 24), false)]),
                 (none, .asg 10 (.v 25) .copy)])
               (.seq
                (.region [] [] [2, 3, 7, 8, 9, 10, 19, 28] false [
                  (none, .mv 26 (.v 10)),
                  (none, .mv 27 (.v 8)),
                  (none, .bin 28 .gtr (.v 26) (.v 27))])
                (.cond (.v 28)
                 (.region [] [] [2, 3, 7, 8, 19] false [
                   (none, .mv 29 (.v 9)),
                   (none, .mv 30 (.v 10)),
                   (none, .asg 7 (.v 29) .copy),
                   (none, .asg 8 (.v 30) .copy)])
                 (.skip [2, 3, 7, 8, 19]))))))
            (.region [] [] [2, 3, 7, 8, 19] false [
              (none, .bin 31 .add (.v 19) (.c (.int .i64 1))),
              (none, .mv 19 (.v 31))])))))))
      (.seq
       (.region [] [] [4, 5, 6] false [
         (none, .mv 32 (.v 7)),
         (none, .mv 33 (.v 8)),
         (none, .asg 4 (.v 32) .copy),
         (none, .asg 5 (.v 33) .copy),
         (none, .asg 6 (.c (.int .i64 0)) .copy)])
       (.ret [4, 5, 6]))))))⟩
def F204 : PFunc :=
 ⟨[false, false, false], [.tmp 6, .tmp 7],
  (.seq
   (.region [] [] [2, 3, 4] false [
     (none, .box 3 (.v 0) .copy),
     (none, .box 4 (.v 1) .copy),
     (none, .asg 6 (.c (.int .i64 0)) .copy),
     (none, .asg 7 (.c (.int .i64 0)) .copy)])
   (.seq
    (.block 0
     (.seq
      (.region [] [] [2, 3, 4, 8] false [
        (none, .load 9 true 2 (.v 3) none),
        (none, .call (some 10) 206 false [((.v 9), false)]),
        (none, .un 11 .not (.v 10)),
        (none, .mv 12 (.v 11)),
        (some (12, false), .load 13 true 2 (.v 4) none),
        (some (12, false), .call (some 14) 206 false [((.v 13), false)]),
        (some (12, false), .un 15 .not (.v 14)),
        (none, .pick 16 (.v 12) (.c (.bool true)) (.v 15)),
        (none, .asg 8 (.v 16) .copy)])
      (.cond (.v 8)
       (.seq
        (.region [] [] [6, 7] false [
          (none, .asg 6 (.c (.int .i64 0)) .copy),
          (none, .asg 7 (.c (.int .i64 1)) .copy)])
        (.ret [6, 7]))
       (.seq
        (.region [] [] [2, 3, 4, 17] false [
          (none, .mv 18 (.v 2)),
          (none, .call (some 19) 326 false [((.v 18), false), ((.c (.int .i64 0)), false), ((.c (.int .i64 999)), false)]),
          (none, .un 20 .not (.v 19)),
          (none, .asg 17 (.v 20) .copy)])
        (.cond (.v 17)
         (.seq
          (.region [] [] [6, 7] false [
            (none, .asg 6 (.c (.int .i64 0)) .copy),
            (none, .asg 7 (.c (.int .i64 2)) .copy)])
          (.ret [6, 7]))
         (.skip [2, 3, 4]))))))
    (.seq
     (.region [] [] [6, 7] false [
       (none, .load 21 true 2 (.v 3) none),
       (none, .load 22 true 2 (.v 4) none),
       (none, .mv 23 (.v 2)),
       (none, .call (some 24) 253 false [((.v 21), false), ((.v 22), false), ((.v 23), false)]),
       (none, .asg 6 (.v 24) .copy),
       (none, .asg 7 (.c (.int .i64 0)) .copy)])
     (.ret [6, 7]))))⟩
def F398 : PFunc :=
 ⟨[false], [.tmp 2],
  (.seq
   (.region [] [] [0] false [
     (none, .asg 2 (.c (.bool false)) .copy)])
   (.seq
    (.region [(3, 0, false)] [] [2] false [
      (none, .mv 3 (.v 0)),
      (none, .len 4 false (.v 3)),
      (none, .bin 5 .gtr (.v 4) (.c (.int .i64 4096))),
      (none, .asg 2 (.v 5) .copy)])
    (.ret [2])))⟩
def F665 : PFunc :=
 ⟨[false, false], [.tmp 4],
  (.seq
   (.region [] [] [0, 1] false [
     (none, .asg 4 (.c (.bool false)) .copy)])
   (.seq
    (.region [(8, 0, false), (7, 0, false), (6, 0, false)] [] [0, 1, 5] false [
      (none, .mv 6 (.v 0)),
      (none, .nchk 7 (.v 6)),
      (none, .fadr 8 0 1 (.v 7)),
      (none, .load 9 false 1 (.v 8) none),
      (none, .bin 10 .quo (.c (.int .i64 1000)) (.v 9)),
      (none, .asg 5 (.v 10) .copy)])
    (.seq
     (.region [(20, 0, false), (19, 0, false), (18, 0, false), (16, 0, false), (15, 0, false), (14, 0, false)] [] [4] true [
       (none, .mv 11 (.v 1)),
       (none, .mv 12 (.v 5)),
       (none, .bin 13 .rem (.v 11) (.v 12)),
       (none, .mv 14 (.v 0)),
       (none, .nchk 15 (.v 14)),
       (none, .fadr 16 1 1 (.v 15)),
       (none, .load 17 false 1 (.v 16) none),
       (none, .mv 18 (.v 0)),
       (none, .nchk 19 (.v 18)),
       (none, .fadr 20 0 1 (.v 19)),
       (none, .load 21 false 1 (.v 20) none),
       (none, .bin 22 .quo (.v 17) (.v 21)),
       (none, .bin 23 .lss (.v 13) (.v 22)),
       (none, .asg 4 (.v 23) .copy)])
     (.ret [4]))))⟩
def F658 : PFunc :=
 ⟨[false, false, false], [.tmp 6],
  (.seq
   (.region [] [] [0, 1, 2] false [
     (none, .asg 6 (.c (.int .i64 0)) .copy)])
   (.seq
    (.region [] [] [0, 1, 2, 7] false [
      (none, .asg 7 (.c (.int .i64 0)) .copy)])
    (.seq
     (.seq
      (.region [] [] [0, 1, 2, 7, 8] false [
        (none, .asg 8 (.c (.int .i64 0)) .copy)])
      (.block 0
       (.loop
        (.seq
         (.seq
          (.region [] [] [0, 1, 2, 7, 8, 10] false [
            (none, .mv 9 (.v 8)),
            (none, .bin 10 .lss (.v 9) (.c (.int .i64 1000)))])
          (.cond (.v 10)
           (.skip [0, 1, 2, 7, 8])
           (.exit 0 [7])))
         (.seq
          (.block 1
           (.seq
            (.region [(17, 1, false), (13, 0, false)] [] [0, 1, 2, 7, 8, 22] false [
              (none, .mv 13 (.v 0)),
              (none, .mv 14 (.v 8)),
              (none, .call (some 15) 665 false [((.v 13), false), ((.v 14), false)]),
              (none, .mv 16 (.v 15)),
              (some (16, true), .mv 17 (.v 1)),
              (some (16, true), .mv 18 (.v 8)),
              (some (16, true), .mv 19 (.v 2)),
              (some (16, true), .bin 20 .add (.v 18) (.v 19)),
              (some (16, true), .call (some 21) 665 false [((.v 17), false), ((.v 20), false)]),
              (none, .pick 22 (.v 16) (.v 21) (.c (.bool false)))])
            (.cond (.v 22)
             (.region [] [] [0, 1, 2, 7, 8] false [
               (none, .mv 23 (.v 7)),
               (none, .bin 24 .add (.v 23) (.c (.int .i64 1))),
               (none, .asg 7 (.v 24) .copy)])
             (.skip [0, 1, 2, 7, 8]))))
          (.region [] [] [0, 1, 2, 7, 8] false [
            (none, .mv 11 (.v 8)),
            (none, .bin 12 .add (.v 11) (.c (.int .i64 1))),
            (none, .asg 8 (.v 12) .copy)]))))))
     (.seq
      (.region [] [] [6] false [
        (none, .mv 25 (.v 7)),
        (none, .asg 6 (.v 25) .copy)])
      (.ret [6])))))⟩
def F605 : PFunc :=
 ⟨[false, false, false], [.tmp 6],
  (.seq
   (.region [] [] [0, 1, 2] false [
     (none, .asg 6 (.c (.bool false)) .copy)])
   (.seq
    (.region [] [] [6] false [
      (none, .mv 7 (.v 0)),
      (none, .mv 8 (.v 1)),
      (none, .bin 9 .geq (.v 7) (.v 8)),
      (none, .mv 10 (.v 9)),
      (some (10, true), .mv 11 (.v 0)),
      (some (10, true), .mv 12 (.v 2)),
      (some (10, true), .bin 13 .leq (.v 11) (.v 12)),
      (none, .pick 14 (.v 10) (.v 13) (.c (.bool false))),
      (none, .asg 6 (.v 14) .copy)])
    (.ret [6])))⟩
def F664 : PFunc :=
 ⟨[false], [.tmp 2],
  (.seq
   (.region [] [] [0] false [
     (none, .asg 2 (.c (.bool false)) .copy)])
   (.seq
    (.region [(30, 0, false), (29, 0, false), (28, 0, false), (22, 0, false), (21, 0, false), (20, 0, false), (18, 0, false), (17, 0, false), (16, 0, false), (11, 0, false), (10, 0, false), (9, 0, false), (5, 0, false), (4, 0, false), (3, 0, false)] [] [2] true [
      (none, .mv 3 (.v 0)),
      (none, .nchk 4 (.v 3)),
      (none, .fadr 5 0 1 (.v 4)),
      (none, .load 6 false 1 (.v 5) none),
      (none, .call (some 7) 605 false [((.v 6), false), ((.c (.int .i64 1)), false), ((.c (.int .i64 12)), false)]),
      (none, .mv 8 (.v 7)),
      (some (8, true), .mv 9 (.v 0)),
      (some (8, true), .nchk 10 (.v 9)),
      (some (8, true), .fadr 11 1 1 (.v 10)),
      (some (8, true), .load 12 false 1 (.v 11) none),
      (some (8, true), .call (some 13) 605 false [((.v 12), false), ((.c (.int .i64 1)), false), ((.c (.int .i64 999)), false)]),
      (none, .pick 14 (.v 8) (.v 13) (.c (.bool false))),
      (none, .mv 15 (.v 14)),
      (some (15, true), .mv 16 (.v 0)),
      (some (15, true), .nchk 17 (.v 16)),
      (some (15, true), .fadr 18 1 1 (.v 17)),
      (some (15, true), .load 19 false 1 (.v 18) none),
      (some (15, true), .mv 20 (.v 0)),
      (some (15, true), .nchk 21 (.v 20)),
      (some (15, true), .fadr 22 0 1 (.v 21)),
      (some (15, true), .load 23 false 1 (.v 22) none),
      (some (15, true), .bin 24 .rem (.v 19) (.v 23)),
      (some (15, true), .bin 25 .eql (.v 24) (.c (.int .i64 0))),
      (none, .pick 26 (.v 15) (.v 25) (.c (.bool false))),
      (none, .mv 27 (.v 26)),
      (some (27, true), .mv 28 (.v 0)),
      (some (27, true), .nchk 29 (.v 28)),
      (some (27, true), .fadr 30 0 1 (.v 29)),
      (some (27, true), .load 31 false 1 (.v 30) none),
      (some (27, true), .bin 32 .rem (.c (.int .i64 1000)) (.v 31)),
      (some (27, true), .bin 33 .eql (.v 32) (.c (.int .i64 0))),
      (none, .pick 34 (.v 27) (.v 33) (.c (.bool false))),
      (none, .asg 2 (.v 34) .copy)])
    (.ret [2])))⟩
def F440 : PFunc :=
 ⟨[false, false], [.tmp 4, .tmp 5, .tmp 6],
  (.seq
   (.region [] [] [2, 3] false [
     (none, .box 2 (.v 0) .copy),
     (none, .box 3 (.v 1) .copy),
     (none, .asg 4 (.c (.int .i64 0)) .copy),
     (none, .asg 5 (.c (.int .i64 0)) .copy),
     (none, .asg 6 (.c (.int .i64 0)) .copy)])
   (.seq
    (.seq
     (.region [] [] [2, 3, 16] false [
       (none, .call (some 11) 664 false [((.v 2), false)]),
       (none, .un 12 .not (.v 11)),
       (none, .mv 13 (.v 12)),
       (some (13, false), .call (some 14) 664 false [((.v 3), false)]),
       (some (13, false), .un 15 .not (.v 14)),
       (none, .pick 16 (.v 13) (.c (.bool true)) (.v 15))])
     (.cond (.v 16)
      (.seq
       (.region [] [] [4, 5, 6] false [
         (none, .asg 4 (.c (.int .i64 0)) .copy),
         (none, .asg 5 (.c (.int .i64 0)) .copy),
         (none, .asg 6 (.c (.int .i64 1)) .copy)])
       (.ret [4, 5, 6]))
      (.skip [2, 3])))
    (.seq
     (.region [] [] [2, 3, 7] false [
       (none, .asg 7 (.c (.int .i64 0)) .copy)])
     (.seq
      (.region [] [] [2, 3, 7, 8] false [
        (none, .asg 8 (.c (.int .i64 (-1))) .copy)])
      (.seq
       (.seq
        (.region [] [] [2, 3, 7, 8, 9] false [
          (none, .asg 9 (.c (.int .i64 0)) .copy)])
        (.block 0
         (.loop
          (.seq
           (.seq
            (.region [] [] [2, 3, 7, 8, 9, 18] false [
              (none, .mv 17 (.v 9)),
              (none, .bin 18 .lss (.v 17) (.c (.int .i64 1000)))])
            (.cond (.v 18)
             (.skip [2, 3, 7, 8, 9])
             (.exit 0 [7, 8])))
           (.seq
            (.block 1
             (.seq
              (.region [] [] [2, 3, 7, 8, 9, 10] false [
                (none, .mv 21 (.v 9)),
                (none, .call (some 22) 658 false [((.v 2), false), ((.v 3), false), ((.v 21), false)]),
                (none, .asg 10 (.v 22) .copy)])
              (.seq
               (.region [] [] [2, 3, 7, 8, 9, 10, 25] false [
                 (none, .mv 23 (.v 10)),
                 (none, .mv 24 (.v 8)),
                 (none, .bin 25 .gtr (.v 23) (.v 24))])
               (.cond (.v 25)
                (.seq
                 (.region [] [] [2, 3, 7, 9, 10] false [
                   (none, .mv 26 (.v 9)),
                   (none, .asg 7 (.v 26) .copy)])
                 (.region [] [] [2, 3, 7, 8, 9] false [
                   (none, .mv 27 (.v 10)),
                   (none, .asg 8 (.v 27) .copy)]))
                (.skip [2, 3, 7, 8, 9])))))
            (.region [] [] [2, 3, 7, 8, 9] false [
              (none, .mv 19 (.v 9)),
              (none, .bin 20 .add (.v 19) (.c (.int .i64 1))),
              (none, .asg 9 (.v 20) .copy)]))))))
       (.seq
        (.region [] [] [4, 5, 6] false [
          (none, .mv 28 (.v 7)),
          (none, .mv 29 (.v 8)),
          (none, .asg 4 (.v 28) .copy),
          (none, .asg 5 (.v 29) .copy),
          (none, .asg 6 (.c (.int .i64 0)) .copy)])
        (.ret [4, 5, 6])))))))⟩
def F603 : PFunc :=
 ⟨[false], [.tmp 2],
  (.seq
   (.region [] [] [0] false [
     (none, .asg 2 (.c .nilp) .copy)])
   (.seq
    (.region [(3, 0, false)] [] [2] false [
      (none, .mv 3 (.v 0)),
      (none, .build 4 [(.sl false 1 []), (.int .i64 0), (.int .u64 0)] [(0, 1, (.v 3), .move)]),
      (none, .box 5 (.v 4) .move),
      (none, .asg 2 (.v 5) .move)])
    (.ret [2])))⟩
def F5 : PFunc :=
 ⟨[true], [.tmp 2],
  (.seq
   (.region [] [] [0] false [
     (none, .asg 2 (.c (.int .i64 0)) .copy)])
   (.seq
    (.region [] [] [0, 3] false [
      (none, .asg 3 (.c (.int .i64 0)) .copy)])
    (.seq
     (.seq
      (.region [(11, 0, true), (10, 0, false), (9, 0, false), (8, 0, false), (6, 0, false), (5, 0, false), (4, 0, false)] [] [0, 3, 13] true [
        (none, .mv 4 (.v 0)),
        (none, .nchk 5 (.v 4)),
        (none, .fadr 6 1 1 (.v 5)),
        (none, .load 7 false 1 (.v 6) none),
        (none, .mv 8 (.v 0)),
        (none, .nchk 9 (.v 8)),
        (none, .fadr 10 0 1 (.v 9)),
        (none, .load 11 false 1 (.v 10) none),
        (none, .len 12 false (.v 11)),
        (none, .bin 13 .lss (.v 7) (.v 12))])
      (.cond (.v 13)
       (.region [(22, 0, true), (20, 0, false), (19, 0, false), (18, 0, false), (17, 0, true), (16, 0, false), (15, 0, false), (14, 0, false)] [] [0, 3] true [
         (none, .mv 14 (.v 0)),
         (none, .nchk 15 (.v 14)),
         (none, .fadr 16 0 1 (.v 15)),
         (none, .load 17 false 1 (.v 16) none),
         (none, .mv 18 (.v 0)),
         (none, .nchk 19 (.v 18)),
         (none, .fadr 20 1 1 (.v 19)),
         (none, .load 21 false 1 (.v 20) none),
         (none, .iadr 22 1 (.v 17) (.v 21)),
         (none, .load 23 false 1 (.v 22) none),
         (none, .conv 24 .i64 (.v 23)),
         (none, .asg 3 (.v 24) .copy)])
       (.skip [0, 3])))
     (.seq
      (.region [(31, 0, false), (30, 0, false), (27, 0, false), (26, 0, false), (25, 0, false)] [] [0, 3] false [
        (none, .mv 25 (.v 0)),
        (none, .nchk 26 (.v 25)),
        (none, .fadr 27 1 1 (.v 26)),
        (none, .load 28 false 1 (.v 27) none),
        (none, .bin 29 .add (.v 28) (.c (.int .i64 1))),
        (none, .nchk 30 (.v 25)),
        (none, .fadr 31 1 1 (.v 30)),
        (none, .store 1 (.v 31) (.v 29) .copy)])
      (.seq
       (.region [(43, 0, false), (42, 0, false), (35, 0, false), (34, 0, false), (33, 0, false), (32, 0, false)] [] [0, 3] false [
         (none, .mv 32 (.v 0)),
         (none, .mv 33 (.v 0)),
         (none, .nchk 34 (.v 33)),
         (none, .fadr 35 2 1 (.v 34)),
         (none, .load 36 false 1 (.v 35) none),
         (none, .bin 37 .mul (.v 36) (.c (.int .u64 6364136223846793005))),
         (none, .mv 38 (.v 3)),
         (none, .conv 39 .u64 (.v 38)),
         (none, .bin 40 .add (.v 37) (.v 39)),
         (none, .bin 41 .add (.v 40) (.c (.int .u64 1442695040888963407))),
         (none, .nchk 42 (.v 32)),
         (none, .fadr 43 2 1 (.v 42)),
         (none, .store 1 (.v 43) (.v 41) .copy)])
       (.seq
        (.seq
         (.region [(51, 0, true), (50, 0, false), (49, 0, false), (48, 0, false), (46, 0, false), (45, 0, false), (44, 0, false)] [] [0, 3, 53] true [
           (none, .mv 44 (.v 0)),
           (none, .nchk 45 (.v 44)),
           (none, .fadr 46 1 1 (.v 45)),
           (none, .load 47 false 1 (.v 46) none),
           (none, .mv 48 (.v 0)),
           (none, .nchk 49 (.v 48)),
           (none, .fadr 50 0 1 (.v 49)),
           (none, .load 51 false 1 (.v 50) none),
           (none, .len 52 false (.v 51)),
           (none, .bin 53 .leq (.v 47) (.v 52))])
         (.cond (.v 53)
          (.seq
           (.region [] [] [0, 2] false [
             (none, .mv 54 (.v 3)),
             (none, .asg 2 (.v 54) .copy)])
           (.ret [0, 2]))
          (.skip [0])))
        (.seq
         (.region [(57, 0, false), (56, 0, false), (55, 0, false)] [] [0, 2] false [
           (none, .mv 55 (.v 0)),
           (none, .nchk 56 (.v 55)),
           (none, .fadr 57 2 1 (.v 56)),
           (none, .load 58 false 1 (.v 57) none),
           (none, .bin 59 .shr (.v 58) (.c (.int .u64 40))),
           (none, .bin 60 .and (.v 59) (.c (.int .u64 255))),
           (none, .conv 61 .i64 (.v 60)),
           (none, .asg 2 (.v 61) .copy)])
         (.ret [0, 2]))))))))⟩
def F7 : PFunc :=
 ⟨[true, false], [.tmp 4],
  (.seq
   (.region [] [] [0, 1] false [
     (none, .asg 4 (.c (.int .i64 0)) .copy)])
   (.seq
    (.seq
     (.region [] [] [0, 1, 7] false [
       (none, .mv 6 (.v 1)),
       (none, .bin 7 .leq (.v 6) (.c (.int .i64 1)))])
     (.cond (.v 7)
      (.seq
       (.region [] [] [0, 4] false [
         (none, .asg 4 (.c (.int .i64 0)) .copy)])
       (.ret [0, 4]))
      (.skip [0, 1])))
    (.seq
     (.region [(8, 0, false)] [] [0, 1, 5] false [
       (none, .mv 8 (.v 0)),
       (none, .call (some 9) 5 true [((.v 8), true)]),
       (none, .asg 5 (.v 9) .copy)])
     (.seq
      (.seq
       (.region [] [] [0, 1, 5, 11] false [
         (none, .mv 10 (.v 1)),
         (none, .bin 11 .gtr (.v 10) (.c (.int .i64 200)))])
       (.cond (.v 11)
        (.region [(14, 0, false)] [] [0, 1, 5] false [
          (none, .mv 12 (.v 5)),
          (none, .bin 13 .mul (.v 12) (.c (.int .i64 256))),
          (none, .mv 14 (.v 0)),
          (none, .call (some 15) 5 true [((.v 14), true)]),
          (none, .bin 16 .add (.v 13) (.v 15)),
          (none, .asg 5 (.v 16) .copy)])
        (.skip [0, 1, 5])))
      (.seq
       (.region [] [] [0, 4] false [
         (none, .mv 17 (.v 5)),
         (none, .mv 18 (.v 1)),
         (none, .bin 19 .rem (.v 17) (.v 18)),
         (none, .asg 4 (.v 19) .copy)])
       (.ret [0, 4]))))))⟩
def F4 : PFunc :=
 ⟨[true, false], [.tmp 4],
  (.seq
   (.region [] [] [0, 1] false [
     (none, .asg 4 (.c (.int .i64 0)) .copy)])
   (.seq
    (.region [(10, 1, false), (7, 1, false), (6, 0, false), (5, 1, false)] [] [0, 4] false [
      (none, .mv 5 (.v 1)),
      (none, .mv 6 (.v 0)),
      (none, .mv 7 (.v 1)),
      (none, .len 8 false (.v 7)),
      (none, .call (some 9) 7 true [((.v 6), true), ((.v 8), false)]),
      (none, .iadr 10 1 (.v 5) (.v 9)),
      (none, .load 11 false 1 (.v 10) none),
      (none, .asg 4 (.v 11) .copy)])
    (.ret [0, 4])))⟩
def F660 : PFunc :=
 ⟨[true], [.cell 2 true 2],
  (.seq
   (.region [] [] [0, 2] false [
     (none, .new 2 (.agg [(.int .i64 0), (.int .i64 0)]))])
   (.seq
    (.region [(4, 0, false)] [] [0, 2, 3] false [
      (none, .mv 4 (.v 0)),
      (none, .mksl 5 1 (.int .i64 0) 7 [(0, (.c (.int .i64 1)), .copy), (1, (.c (.int .i64 2)), .copy), (2, (.c (.int .i64 2)), .copy), (3, (.c (.int .i64 4)), .copy), (4, (.c (.int .i64 5)), .copy), (5, (.c (.int .i64 8)), .copy), (6, (.c (.int .i64 10)), .copy)]),
      (none, .call (some 6) 4 true [((.v 4), true), ((.v 5), false)]),
      (none, .build 7 [(.int .i64 0), (.int .i64 0)] [(0, 1, (.v 6), .copy)]),
      (none, .new 3 (.agg [(.int .i64 0), (.int .i64 0)])),
      (none, .store 2 (.v 3) (.v 7) .copy)])
    (.seq
     (.region [(18, 3, false), (11, 3, false), (10, 0, false), (8, 3, false)] [] [0, 2, 3] true [
       (none, .fadr 8 0 1 (.v 3)),
       (none, .load 9 false 1 (.v 8) none),
       (none, .mv 10 (.v 0)),
       (none, .fadr 11 0 1 (.v 3)),
       (none, .load 12 false 1 (.v 11) none),
       (none, .bin 13 .quo (.c (.int .i64 1000)) (.v 12)),
       (none, .bin 14 .sub (.v 13) (.c (.int .i64 1))),
       (none, .call (some 15) 7 true [((.v 10), true), ((.v 14), false)]),
       (none, .bin 16 .add (.c (.int .i64 1)) (.v 15)),
       (none, .bin 17 .mul (.v 9) (.v 16)),
       (none, .fadr 18 1 1 (.v 3)),
       (none, .store 1 (.v 18) (.v 17) .copy)])
     (.seq
      (.seq
       (.region [(19, 0, false)] [] [0, 2, 3, 20] false [
         (none, .mv 19 (.v 0)),
         (none, .call (some 20) 7 true [((.v 19), true), ((.c (.int .i64 16)), false)])])
       (.block 0
        (.seq
         (.region [] [] [0, 2, 3, 20, 21] false [
           (none, .bin 22 .eql (.v 20) (.c (.int .i64 0))),
           (none, .asg 21 (.v 22) .copy)])
         (.cond (.v 21)
          (.region [(26, 3, false), (23, 0, false)] [] [0, 2, 3] false [
            (none, .mv 23 (.v 0)),
            (none, .mksl 24 1 (.int .i64 0) 6 [(0, (.c (.int .i64 (-1))), .copy), (1, (.c (.int .i64 0)), .copy), (2, (.c (.int .i64 3)), .copy), (3, (.c (.int .i64 12)), .copy), (4, (.c (.int .i64 13)), .copy), (5, (.c (.int .i64 (-9223372036854775808))), .copy)]),
            (none, .call (some 25) 4 true [((.v 23), true), ((.v 24), false)]),
            (none, .fadr 26 0 1 (.v 3)),
            (none, .store 1 (.v 26) (.v 25) .copy)])
          (.seq
           (.region [] [] [0, 2, 3, 27] false [
             (none, .bin 28 .eql (.v 20) (.c (.int .i64 1))),
             (none, .asg 27 (.v 28) .copy)])
           (.cond (.v 27)
            (.region [(32, 3, false), (29, 0, false)] [] [0, 2, 3] false [
              (none, .mv 29 (.v 0)),
              (none, .mksl 30 1 (.int .i64 0) 6 [(0, (.c (.int .i64 (-1))), .copy), (1, (.c (.int .i64 0)), .copy), (2, (.c (.int .i64 1)), .copy), (3, (.c (.int .i64 7)), .copy), (4, (.c (.int .i64 999)), .copy), (5, (.c (.int .i64 1000)), .copy)]),
              (none, .call (some 31) 4 true [((.v 29), true), ((.v 30), false)]),
              (none, .fadr 32 1 1 (.v 3)),
              (none, .store 1 (.v 32) (.v 31) .copy)])
            (.skip [0, 2, 3])))))))
      (.seq
       (.region [] [] [0, 2] false [
         (none, .load 33 true 2 (.v 3) none),
         (none, .store 2 (.v 2) (.v 33) .copy)])
       (.ret [0, 2]))))))⟩
def F456 : PFunc :=
 ⟨[false], [.cell 2 true 2, .cell 3 true 2],
  (.seq
   (.region [] [] [0, 2, 3] false [
     (none, .new 2 (.agg [(.int .i64 0), (.int .i64 0)])),
     (none, .new 3 (.agg [(.int .i64 0), (.int .i64 0)]))])
   (.seq
    (.region [(6, 0, false)] [] [2, 3, 4] false [
      (none, .mv 6 (.v 0)),
      (none, .call (some 7) 603 true [((.v 6), false)]),
      (none, .asg 4 (.v 7) .move)])
    (.seq
     (.region [(8, 4, false)] [] [2, 3, 4, 5] false [
       (none, .mv 8 (.v 4)),
       (none, .call (some 9) 660 true [((.v 8), true)]),
       (none, .new 5 (.agg [(.int .i64 0), (.int .i64 0)])),
       (none, .store 2 (.v 5) (.v 9) .copy)])
     (.seq
      (.region [(11, 4, false)] [] [2, 3] true [
        (none, .load 10 true 2 (.v 5) none),
        (none, .mv 11 (.v 4)),
        (none, .call (some 12) 660 true [((.v 11), true)]),
        (none, .store 2 (.v 2) (.v 10) .copy),
        (none, .store 2 (.v 3) (.v 12) .copy)])
      (.ret [2, 3])))))⟩
def F368 : PFunc :=
 ⟨[false], [.tmp 2],
  (.seq
   (.region [] [] [0] false [
     (none, .asg 2 (.c (.bool false)) .copy)])
   (.seq
    (.seq
     (.region [(15, 0, false)] [] [0, 16] false [
       (none, .mv 15 (.v 0)),
       (none, .call (some 16) 398 false [((.v 15), false)])])
     (.cond (.v 16)
      (.seq
       (.region [] [] [2] false [
         (none, .asg 2 (.c (.bool true)) .copy)])
       (.ret [2]))
      (.skip [0])))
    (.seq
     (.region [(18, 0, false)] [] [3, 4] false [
       (none, .mv 18 (.v 0)),
       (none, .call (some 19) 456 false [((.v 18), false)]),
       (none, .asg 17 (.v 19) .copy),
       (none, .extp 20 (.v 17) 0),
       (none, .extp 21 (.v 17) 1),
       (none, .new 3 (.agg [(.int .i64 0), (.int .i64 0)])),
       (none, .new 4 (.agg [(.int .i64 0), (.int .i64 0)])),
       (none, .store 2 (.v 3) (.v 20) .copy),
       (none, .store 2 (.v 4) (.v 21) .copy)])
     (.seq
      (.region [] [] [3, 4, 5, 6, 7] false [
        (none, .load 23 true 2 (.v 3) none),
        (none, .load 24 true 2 (.v 4) none),
        (none, .call (some 25) 52 false [((.v 23), false), ((.v 24), false)]),
        (none, .asg 22 (.v 25) .copy),
        (none, .extp 26 (.v 22) 0),
        (none, .extp 27 (.v 22) 1),
        (none, .extp 28 (.v 22) 2),
        (none, .asg 5 (.v 26) .copy),
        (none, .asg 6 (.v 27) .copy),
        (none, .asg 7 (.v 28) .copy)])
      (.seq
       (.region [] [] [3, 4, 5, 6, 7, 8, 9, 10] false [
         (none, .load 30 true 2 (.v 3) none),
         (none, .load 31 true 2 (.v 4) none),
         (none, .call (some 32) 440 false [((.v 30), false), ((.v 31), false)]),
         (none, .asg 29 (.v 32) .copy),
         (none, .extp 33 (.v 29) 0),
         (none, .extp 34 (.v 29) 1),
         (none, .extp 35 (.v 29) 2),
         (none, .asg 8 (.v 33) .copy),
         (none, .asg 9 (.v 34) .copy),
         (none, .asg 10 (.v 35) .copy)])
       (.seq
        (.seq
         (.region [] [] [3, 4, 7, 8, 9, 48] false [
           (none, .mv 36 (.v 7)),
           (none, .mv 37 (.v 10)),
           (none, .bin 38 .neq (.v 36) (.v 37)),
           (none, .mv 39 (.v 38)),
           (some (39, false), .mv 40 (.v 5)),
           (some (39, false), .mv 41 (.v 8)),
           (some (39, false), .bin 42 .neq (.v 40) (.v 41)),
           (none, .pick 43 (.v 39) (.c (.bool true)) (.v 42)),
           (none, .mv 44 (.v 43)),
           (some (44, false), .mv 45 (.v 6)),
           (some (44, false), .mv 46 (.v 9)),
           (some (44, false), .bin 47 .neq (.v 45) (.v 46)),
           (none, .pick 48 (.v 44) (.c (.bool true)) (.v 47))])
         (.cond (.v 48)
          (.seq
           (.region [] [] [2] false [
             (none, .asg 2 (.c (.bool false)) .copy)])
           (.ret [2]))
          (.skip [3, 4, 7, 8, 9])))
        (.seq
         (.seq
          (.region [] [] [3, 4, 8, 9, 50] false [
            (none, .mv 49 (.v 7)),
            (none, .bin 50 .neq (.v 49) (.c (.int .i64 0)))])
          (.cond (.v 50)
           (.seq
            (.region [] [] [2] false [
              (none, .asg 2 (.c (.bool true)) .copy)])
            (.ret [2]))
           (.skip [3, 4, 8, 9])))
         (.seq
          (.region [] [] [3, 4, 9, 11, 12] false [
            (none, .load 52 true 2 (.v 3) none),
            (none, .load 53 true 2 (.v 4) none),
            (none, .mv 54 (.v 8)),
            (none, .call (some 55) 204 false [((.v 52), false), ((.v 53), false), ((.v 54), false)]),
            (none, .asg 51 (.v 55) .copy),
            (none, .extp 56 (.v 51) 0),
            (none, .extp 57 (.v 51) 1),
            (none, .asg 11 (.v 56) .copy),
            (none, .asg 12 (.v 57) .copy)])
          (.seq
           (.region [] [] [9, 11, 12, 13, 14] false [
             (none, .load 59 true 2 (.v 3) none),
             (none, .load 60 true 2 (.v 4) none),
             (none, .call (some 61) 204 false [((.v 59), false), ((.v 60), false), ((.c (.int .i64 0)), false)]),
             (none, .asg 58 (.v 61) .copy),
             (none, .extp 62 (.v 58) 0),
             (none, .extp 63 (.v 58) 1),
             (none, .asg 13 (.v 62) .copy),
             (none, .asg 14 (.v 63) .copy)])
           (.seq
            (.region [] [] [2] false [
              (none, .mv 64 (.v 12)),
              (none, .bin 65 .eql (.v 64) (.c (.int .i64 0))),
              (none, .mv 66 (.v 65)),
              (some (66, true), .mv 67 (.v 11)),
              (some (66, true), .mv 68 (.v 9)),
              (some (66, true), .bin 69 .eql (.v 67) (.v 68)),
              (none, .pick 70 (.v 66) (.v 69) (.c (.bool false))),
              (none, .mv 71 (.v 70)),
              (some (71, true), .mv 72 (.v 14)),
              (some (71, true), .bin 73 .eql (.v 72) (.c (.int .i64 0))),
              (none, .pick 74 (.v 71) (.v 73) (.c (.bool false))),
              (none, .mv 75 (.v 74)),
              (some (75, true), .mv 76 (.v 13)),
              (some (75, true), .mv 77 (.v 9)),
              (some (75, true), .bin 78 .leq (.v 76) (.v 77)),
              (none, .pick 79 (.v 75) (.v 78) (.c (.bool false))),
              (none, .asg 2 (.v 79) .copy)])
            (.ret [2])))))))))))⟩
def tabl : List (Nat × PFunc) := [(326, F326), (206, F206), (17, F17), (253, F253), (52, F52), (204, F204), (398, F398), (665, F665), (658, F658), (605, F605), (664, F664), (440, F440), (603, F603), (5, F5), (7, F7), (4, F4), (660, F660), (456, F456), (368, F368)]
def T : Nat → Option PFunc := tabOf tabl
end Go.Vs.G
