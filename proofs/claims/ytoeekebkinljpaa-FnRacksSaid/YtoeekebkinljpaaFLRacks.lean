/- The functions that the law reaches, in the small language, printed by program. No conditions. -/
import Derived.Test.YtoeekebkinljpaaDLRacks
import Derived.Test.YtoeekebkinljpaaV4
set_option maxRecDepth 100000
open Go Go.Vs
namespace Go.Vs.G
def F326 : PFunc :=
 ⟨[false, false, false], [.tmp 6],
  (.seq
   (.region [] [] [0, 1, 2] false [
     (none, .asg 6 (.c (.bool false)) .copy)])
   (.seq
    (.region [] [] [6] false [
      (none, .mv 7 (.v 0)),
      (none, .mv 8 (.v 1)),
      (none, .bin 9 .geq (.v 7) (.v 8)),
      (none, .mv 10 (.v 9)),
      (some (10, true), .mv 11 (.v 0)),
      (some (10, true), .mv 12 (.v 2)),
      (some (10, true), .bin 13 .leq (.v 11) (.v 12)),
      (none, .pick 14 (.v 10) (.v 13) (.c (.bool false))),
      (none, .asg 6 (.v 14) .copy)])
    (.ret [6])))⟩
def F237 : PFunc :=
 ⟨[false], [.tmp 2],
  (.seq
   (.region [] [] [1] false [
     (none, .box 1 (.v 0) .copy),
     (none, .asg 2 (.c (.bool false)) .copy)])
   (.seq
    (.region [(3, 1, false)] [] [2] false [
      (none, .fadr 3 0 1 (.v 1)),
      (none, .load 4 false 1 (.v 3) none),
      (none, .call (some 5) 326 false [((.v 4), false), ((.c (.int .i64 2)), false), ((.c (.int .i64 200)), false)]),
      (none, .un 6 .not (.v 5)),
      (none, .asg 2 (.v 6) .copy)])
    (.ret [2])))⟩
def F829 : PFunc :=
 ⟨[false, false], [.tmp 4],
  (.seq
   (.region [] [] [0, 1] false [
     (none, .asg 4 (.c (.int .i64 0)) .copy)])
   (.seq
    (.seq
     (.region [(6, 0, false)] [] [0, 1, 7, 8] false [
       (none, .mv 6 (.v 0)),
       (none, .len 7 false (.v 6)),
       (none, .mv 8 (.c (.int .i64 0)))])
     (.block 0
      (.loop
       (.seq
        (.region [] [] [0, 1, 7, 8, 9] false [
          (none, .bin 9 .lss (.v 8) (.v 7))])
        (.seq
         (.cond (.v 9)
          (.skip [0, 1, 7, 8])
          (.exit 0 []))
         (.seq
          (.block 1
           (.seq
            (.region [] [] [0, 1, 5, 7, 8] false [
              (none, .mv 10 (.v 8)),
              (none, .asg 5 (.v 10) .copy)])
            (.seq
             (.region [(14, 0, false), (12, 0, false), (11, 1, false)] [] [0, 1, 5, 7, 8, 16] false [
               (none, .mv 11 (.v 1)),
               (none, .mv 12 (.v 0)),
               (none, .mv 13 (.v 5)),
               (none, .iadr 14 2 (.v 12) (.v 13)),
               (none, .load 15 true 2 (.v 14) none),
               (none, .callv (some 16) (.v 11) [(.v 15)])])
             (.cond (.v 16)
              (.seq
               (.region [] [] [4] false [
                 (none, .mv 17 (.v 5)),
                 (none, .asg 4 (.v 17) .copy)])
               (.ret [4]))
              (.skip [0, 1, 7, 8])))))
          (.region [] [] [0, 1, 7, 8] false [
            (none, .bin 18 .add (.v 8) (.c (.int .i64 1))),
            (none, .mv 8 (.v 18))])))))))
    (.seq
     (.region [] [] [4] false [
       (none, .asg 4 (.c (.int .i64 (-1))) .copy)])
     (.ret [4]))))⟩
def F807 : PFunc :=
 ⟨[false, false], [.tmp 4],
  (.seq
   (.region [] [] [0, 1] false [
     (none, .asg 4 (.c (.bool false)) .copy)])
   (.seq
    (.region [(6, 1, false), (5, 0, false)] [] [4] false [
      (none, .mv 5 (.v 0)),
      (none, .mv 6 (.v 1)),
      (none, .call (some 7) 829 false [((.v 5), false), ((.v 6), false)]),
      (none, .bin 8 .geq (.v 7) (.c (.int .i64 0))),
      (none, .asg 4 (.v 8) .copy)])
    (.ret [4])))⟩
def F236 : PFunc :=
 ⟨[false, false], [.tmp 4],
  (.seq
   (.region [] [] [0, 1] false [
     (none, .asg 4 (.c (.bool false)) .copy)])
   (.seq
    (.region [(13, 1, false), (8, 1, false)] [] [4] false [
      (none, .mv 5 (.v 0)),
      (none, .call (some 6) 326 false [((.v 5), false), ((.c (.int .i64 2)), false), ((.c (.int .i64 200)), false)]),
      (none, .mv 7 (.v 6)),
      (some (7, true), .mv 8 (.v 1)),
      (some (7, true), .len 9 false (.v 8)),
      (some (7, true), .bin 10 .leq (.v 9) (.c (.int .i64 8))),
      (none, .pick 11 (.v 7) (.v 10) (.c (.bool false))),
      (none, .mv 12 (.v 11)),
      (some (12, true), .mv 13 (.v 1)),
      (some (12, true), .call (some 14) 807 false [((.v 13), false), ((.c (.fn 237 [])), false)]),
      (some (12, true), .un 15 .not (.v 14)),
      (none, .pick 16 (.v 12) (.v 15) (.c (.bool false))),
      (none, .asg 4 (.v 16) .copy)])
    (.ret [4])))⟩
def F269 : PFunc :=
 ⟨[false, false], [.tmp 4],
  (.seq
   (.region [] [] [0, 1] false [
     (none, .asg 4 (.c (.int .i64 0)) .copy)])
   (.seq
    (.block 0
     (.loop
      (.seq
       (.seq
        (.region [] [] [0, 1, 6] false [
          (none, .mv 5 (.v 1)),
          (none, .bin 6 .neq (.v 5) (.c (.int .i64 0)))])
        (.cond (.v 6)
         (.skip [0, 1])
         (.exit 0 [0])))
       (.block 1
        (.region [] [] [0, 1] true [
          (none, .mv 7 (.v 1)),
          (none, .mv 8 (.v 0)),
          (none, .mv 9 (.v 1)),
          (none, .bin 10 .rem (.v 8) (.v 9)),
          (none, .asg 0 (.v 7) .copy),
          (none, .asg 1 (.v 10) .copy)])))))
    (.seq
     (.region [] [] [4] false [
       (none, .mv 11 (.v 0)),
       (none, .mv 12 (.v 0)),
       (none, .un 13 .neg (.v 12)),
       (none, .mm 14 true (.v 11) [(.v 13)]),
       (none, .asg 4 (.v 14) .copy)])
     (.ret [4]))))⟩
def F259 : PFunc :=
 ⟨[false, false], [.tmp 4],
  (.seq
   (.region [] [] [0, 1] false [
     (none, .asg 4 (.c (.int .i64 0)) .copy)])
   (.seq
    (.region [] [] [4] false [
      (none, .mv 5 (.v 0)),
      (none, .mv 6 (.v 0)),
      (none, .mv 7 (.v 1)),
      (none, .call (some 8) 269 false [((.v 6), false), ((.v 7), false)]),
      (none, .bin 9 .quo (.v 5) (.v 8)),
      (none, .mv 10 (.v 1)),
      (none, .bin 11 .mul (.v 9) (.v 10)),
      (none, .asg 4 (.v 11) .copy)])
    (.ret [4])))⟩
def F299 : PFunc :=
 ⟨[false], [.tmp 2],
  (.seq
   (.region [] [] [0] false [
     (none, .asg 2 (.c (.int .i64 0)) .copy)])
   (.seq
    (.region [] [] [0, 3] false [
      (none, .asg 3 (.c (.int .i64 1)) .copy)])
    (.seq
     (.seq
      (.region [(6, 0, false)] [] [0, 3, 6, 7, 8] false [
        (none, .mv 6 (.v 0)),
        (none, .len 7 false (.v 6)),
        (none, .mv 8 (.c (.int .i64 0)))])
      (.block 0
       (.loop
        (.seq
         (.region [(6, 0, false)] [] [0, 3, 6, 7, 8, 9] false [
           (none, .bin 9 .lss (.v 8) (.v 7))])
         (.seq
          (.cond (.v 9)
           (.skip [0, 3, 6, 7, 8])
           (.exit 0 [3]))
          (.seq
           (.block 1
            (.seq
             (.region [(10, 0, false), (6, 0, false)] [] [0, 3, 5, 6, 7, 8] false [
               (none, .iadr 10 2 (.v 6) (.v 8)),
               (none, .load 11 true 2 (.v 10) none),
               (none, .new 5 (.agg [(.int .i64 0), (.bool false)])),
               (none, .store 2 (.v 5) (.v 11) .copy)])
             (.region [(13, 5, false), (6, 0, false)] [] [0, 3, 6, 7, 8] false [
               (none, .mv 12 (.v 3)),
               (none, .fadr 13 0 1 (.v 5)),
               (none, .load 14 false 1 (.v 13) none),
               (none, .call (some 15) 259 false [((.v 12), false), ((.v 14), false)]),
               (none, .asg 3 (.v 15) .copy)])))
           (.region [(6, 0, false)] [] [0, 3, 6, 7, 8] false [
             (none, .bin 16 .add (.v 8) (.c (.int .i64 1))),
             (none, .mv 8 (.v 16))])))))))
     (.seq
      (.region [] [] [2] false [
        (none, .mv 17 (.v 3)),
        (none, .asg 2 (.v 17) .copy)])
      (.ret [2])))))⟩
def F168 : PFunc :=
 ⟨[false, false], [.tmp 4, .tmp 5],
  (.seq
   (.region [] [] [0, 1] false [
     (none, .asg 4 (.c (.int .i64 0)) .copy),
     (none, .asg 5 (.c (.int .i64 0)) .copy)])
   (.seq
    (.seq
     (.region [(8, 1, false)] [] [1, 10] false [
       (none, .mv 7 (.v 0)),
       (none, .mv 8 (.v 1)),
       (none, .call (some 9) 236 false [((.v 7), false), ((.v 8), false)]),
       (none, .un 10 .not (.v 9))])
     (.cond (.v 10)
      (.seq
       (.region [] [] [4, 5] false [
         (none, .asg 4 (.c (.int .i64 0)) .copy),
         (none, .asg 5 (.c (.int .i64 1)) .copy)])
       (.ret [4, 5]))
      (.skip [1])))
    (.seq
     (.region [(11, 1, false)] [] [6] false [
       (none, .mv 11 (.v 1)),
       (none, .call (some 12) 299 false [((.v 11), false)]),
       (none, .asg 6 (.v 12) .copy)])
     (.seq
      (.seq
       (.region [] [] [6, 14] false [
         (none, .mv 13 (.v 6)),
         (none, .bin 14 .gtr (.v 13) (.c (.int .i64 1000000000)))])
       (.cond (.v 14)
        (.seq
         (.region [] [] [4, 5] false [
           (none, .asg 4 (.c (.int .i64 0)) .copy),
           (none, .asg 5 (.c (.int .i64 5)) .copy)])
         (.ret [4, 5]))
        (.skip [6])))
      (.seq
       (.region [] [] [4, 5] false [
         (none, .mv 15 (.v 6)),
         (none, .asg 4 (.v 15) .copy),
         (none, .asg 5 (.c (.int .i64 0)) .copy)])
       (.ret [4, 5]))))))⟩
def F71 : PFunc :=
 ⟨[false, false], [.tmp 4, .tmp 5],
  (.seq
   (.region [] [] [0, 1] false [
     (none, .asg 4 (.c (.int .i64 0)) .copy),
     (none, .asg 5 (.c (.int .i64 0)) .copy)])
   (.seq
    (.region [(10, 1, false)] [] [6, 7] false [
      (none, .mv 9 (.v 0)),
      (none, .mv 10 (.v 1)),
      (none, .call (some 11) 168 false [((.v 9), false), ((.v 10), false)]),
      (none, .asg 8 (.v 11) .copy),
      (none, .extp 12 (.v 8) 0),
      (none, .extp 13 (.v 8) 1),
      (none, .asg 6 (.v 12) .copy),
      (none, .asg 7 (.v 13) .copy)])
    (.seq
     (.region [] [] [4, 5] false [
       (none, .mv 14 (.v 6)),
       (none, .mv 15 (.v 7)),
       (none, .asg 4 (.v 14) .copy),
       (none, .asg 5 (.v 15) .copy)])
     (.ret [4, 5]))))⟩
def F26 : PFunc :=
 ⟨[false, false], [.tmp 4],
  (.seq
   (.region [] [] [1, 2] false [
     (none, .box 2 (.v 0) .copy),
     (none, .asg 4 (.c (.int .i64 0)) .copy)])
   (.seq
    (.seq
     (.region [(5, 2, false)] [] [1, 2, 6] false [
       (none, .fadr 5 1 1 (.v 2)),
       (none, .load 6 false 1 (.v 5) none)])
     (.cond (.v 6)
      (.seq
       (.region [(14, 2, false), (10, 2, false), (7, 2, false)] [] [4] true [
         (none, .fadr 7 0 1 (.v 2)),
         (none, .load 8 false 1 (.v 7) none),
         (none, .mv 9 (.v 1)),
         (none, .fadr 10 0 1 (.v 2)),
         (none, .load 11 false 1 (.v 10) none),
         (none, .bin 12 .rem (.v 9) (.v 11)),
         (none, .bin 13 .sub (.v 8) (.v 12)),
         (none, .fadr 14 0 1 (.v 2)),
         (none, .load 15 false 1 (.v 14) none),
         (none, .bin 16 .rem (.v 13) (.v 15)),
         (none, .asg 4 (.v 16) .copy)])
       (.ret [4]))
      (.skip [1, 2])))
    (.seq
     (.region [(18, 2, false)] [] [4] false [
       (none, .mv 17 (.v 1)),
       (none, .fadr 18 0 1 (.v 2)),
       (none, .load 19 false 1 (.v 18) none),
       (none, .bin 20 .rem (.v 17) (.v 19)),
       (none, .asg 4 (.v 20) .copy)])
     (.ret [4]))))⟩
def F94 : PFunc :=
 ⟨[false, false, false], [.tmp 6, .tmp 7],
  (.seq
   (.region [] [] [0, 1, 2] false [
     (none, .asg 6 (.c (.int .i64 0)) .copy),
     (none, .asg 7 (.c (.int .i64 0)) .copy)])
   (.seq
    (.seq
     (.region [(16, 1, false)] [] [1, 2, 18] false [
       (none, .mv 15 (.v 0)),
       (none, .mv 16 (.v 1)),
       (none, .call (some 17) 236 false [((.v 15), false), ((.v 16), false)]),
       (none, .un 18 .not (.v 17))])
     (.cond (.v 18)
      (.seq
       (.region [] [] [6, 7] false [
         (none, .asg 6 (.c (.int .i64 0)) .copy),
         (none, .asg 7 (.c (.int .i64 1)) .copy)])
       (.ret [6, 7]))
      (.skip [1, 2])))
    (.seq
     (.seq
      (.region [(21, 1, false), (19, 2, false)] [] [1, 2, 23] false [
        (none, .mv 19 (.v 2)),
        (none, .len 20 false (.v 19)),
        (none, .mv 21 (.v 1)),
        (none, .len 22 false (.v 21)),
        (none, .bin 23 .neq (.v 20) (.v 22))])
      (.cond (.v 23)
       (.seq
        (.region [] [] [6, 7] false [
          (none, .asg 6 (.c (.int .i64 0)) .copy),
          (none, .asg 7 (.c (.int .i64 2)) .copy)])
        (.ret [6, 7]))
       (.skip [1, 2])))
     (.seq
      (.seq
       (.region [(24, 1, false)] [] [1, 2, 24, 25, 26] false [
         (none, .mv 24 (.v 1)),
         (none, .len 25 false (.v 24)),
         (none, .mv 26 (.c (.int .i64 0)))])
       (.block 0
        (.loop
         (.seq
          (.region [(24, 1, false)] [] [1, 2, 24, 25, 26, 27] false [
            (none, .bin 27 .lss (.v 26) (.v 25))])
          (.seq
           (.cond (.v 27)
            (.skip [1, 2, 24, 25, 26])
            (.exit 0 [1, 2]))
           (.seq
            (.block 1
             (.seq
              (.region [(29, 1, false), (24, 1, false)] [] [1, 2, 8, 9, 24, 25, 26] false [
                (none, .mv 28 (.v 26)),
                (none, .iadr 29 2 (.v 24) (.v 26)),
                (none, .load 30 true 2 (.v 29) none),
                (none, .new 9 (.agg [(.int .i64 0), (.bool false)])),
                (none, .asg 8 (.v 28) .copy),
                (none, .store 2 (.v 9) (.v 30) .copy)])
              (.seq
               (.region [(35, 9, false), (33, 2, false), (31, 2, false), (24, 1, false)] [] [1, 2, 24, 25, 26, 39] true [
                 (none, .mv 31 (.v 2)),
                 (none, .mv 32 (.v 8)),
                 (none, .iadr 33 1 (.v 31) (.v 32)),
                 (none, .load 34 false 1 (.v 33) none),
                 (none, .fadr 35 0 1 (.v 9)),
                 (none, .load 36 false 1 (.v 35) none),
                 (none, .bin 37 .sub (.v 36) (.c (.int .i64 1))),
                 (none, .call (some 38) 326 false [((.v 34), false), ((.c (.int .i64 0)), false), ((.v 37), false)]),
                 (none, .un 39 .not (.v 38))])
               (.cond (.v 39)
                (.seq
                 (.region [] [] [6, 7] false [
                   (none, .asg 6 (.c (.int .i64 0)) .copy),
                   (none, .asg 7 (.c (.int .i64 2)) .copy)])
                 (.ret [6, 7]))
                (.skip [1, 2, 24, 25, 26])))))
            (.region [(24, 1, false)] [] [1, 2, 24, 25, 26] false [
              (none, .bin 40 .add (.v 26) (.c (.int .i64 1))),
              (none, .mv 26 (.v 40))])))))))
      (.seq
       (.seq
        (.region [(41, 1, false)] [] [1, 2, 43] false [
          (none, .mv 41 (.v 1)),
          (none, .call (some 42) 299 false [((.v 41), false)]),
          (none, .bin 43 .gtr (.v 42) (.c (.int .i64 1000000000)))])
        (.cond (.v 43)
         (.seq
          (.region [] [] [6, 7] false [
            (none, .asg 6 (.c (.int .i64 0)) .copy),
            (none, .asg 7 (.c (.int .i64 5)) .copy)])
          (.ret [6, 7]))
         (.skip [1, 2])))
       (.seq
        (.region [] [] [1, 2, 10, 11] false [
          (none, .asg 10 (.c (.int .i64 0)) .copy),
          (none, .asg 11 (.c (.int .i64 1)) .copy)])
        (.seq
         (.seq
          (.region [(44, 1, false)] [] [1, 2, 10, 11, 44, 45, 46] false [
            (none, .mv 44 (.v 1)),
            (none, .len 45 false (.v 44)),
            (none, .mv 46 (.c (.int .i64 0)))])
          (.block 2
           (.loop
            (.seq
             (.region [(44, 1, false)] [] [1, 2, 10, 11, 44, 45, 46, 47] false [
               (none, .bin 47 .lss (.v 46) (.v 45))])
             (.seq
              (.cond (.v 47)
               (.skip [1, 2, 10, 11, 44, 45, 46])
               (.exit 2 [10]))
              (.seq
               (.block 3
                (.seq
                 (.region [(49, 1, false), (44, 1, false)] [] [1, 2, 10, 11, 12, 13, 44, 45, 46] false [
                   (none, .mv 48 (.v 46)),
                   (none, .iadr 49 2 (.v 44) (.v 46)),
                   (none, .load 50 true 2 (.v 49) none),
                   (none, .new 13 (.agg [(.int .i64 0), (.bool false)])),
                   (none, .asg 12 (.v 48) .copy),
                   (none, .store 2 (.v 13) (.v 50) .copy)])
                 (.seq
                  (.region [(44, 1, false)] [] [1, 2, 10, 11, 12, 13, 14, 44, 45, 46] false [
                    (none, .asg 14 (.c (.int .i64 0)) .copy)])
                  (.seq
                   (.block 4
                    (.loop
                     (.seq
                      (.seq
                       (.region [(56, 2, false), (54, 2, false), (44, 1, false)] [] [1, 2, 10, 11, 12, 13, 14, 44, 45, 46, 58] true [
                         (none, .load 51 true 2 (.v 13) none),
                         (none, .mv 52 (.v 10)),
                         (none, .call (some 53) 26 false [((.v 51), false), ((.v 52), false)]),
                         (none, .mv 54 (.v 2)),
                         (none, .mv 55 (.v 12)),
                         (none, .iadr 56 1 (.v 54) (.v 55)),
                         (none, .load 57 false 1 (.v 56) none),
                         (none, .bin 58 .neq (.v 53) (.v 57))])
                       (.cond (.v 58)
                        (.skip [1, 2, 10, 11, 12, 13, 14, 44, 45, 46])
                        (.exit 4 [1, 2, 10, 11, 13, 44, 45, 46])))
                      (.block 5
                       (.seq
                        (.seq
                         (.region [(60, 13, false), (44, 1, false)] [] [1, 2, 10, 11, 12, 13, 14, 44, 45, 46, 62] false [
                           (none, .mv 59 (.v 14)),
                           (none, .fadr 60 0 1 (.v 13)),
                           (none, .load 61 false 1 (.v 60) none),
                           (none, .bin 62 .eql (.v 59) (.v 61))])
                         (.cond (.v 62)
                          (.seq
                           (.region [] [] [6, 7] false [
                             (none, .asg 6 (.c (.int .i64 0)) .copy),
                             (none, .asg 7 (.c (.int .i64 3)) .copy)])
                           (.ret [6, 7]))
                          (.skip [1, 2, 10, 11, 12, 13, 14, 44, 45, 46])))
                        (.seq
                         (.region [(44, 1, false)] [] [1, 2, 10, 11, 12, 13, 14, 44, 45, 46] false [
                           (none, .mv 63 (.v 10)),
                           (none, .mv 64 (.v 11)),
                           (none, .bin 65 .add (.v 63) (.v 64)),
                           (none, .asg 10 (.v 65) .copy)])
                         (.region [(44, 1, false)] [] [1, 2, 10, 11, 12, 13, 14, 44, 45, 46] false [
                           (none, .mv 66 (.v 14)),
                           (none, .bin 67 .add (.v 66) (.c (.int .i64 1))),
                           (none, .asg 14 (.v 67) .copy)])))))))
                   (.region [(69, 13, false), (44, 1, false)] [] [1, 2, 10, 11, 44, 45, 46] false [
                     (none, .mv 68 (.v 11)),
                     (none, .fadr 69 0 1 (.v 13)),
                     (none, .load 70 false 1 (.v 69) none),
                     (none, .call (some 71) 259 false [((.v 68), false), ((.v 70), false)]),
                     (none, .asg 11 (.v 71) .copy)])))))
               (.region [(44, 1, false)] [] [1, 2, 10, 11, 44, 45, 46] false [
                 (none, .bin 72 .add (.v 46) (.c (.int .i64 1))),
                 (none, .mv 46 (.v 72))])))))))
         (.seq
          (.region [] [] [6, 7] false [
            (none, .mv 73 (.v 10)),
            (none, .asg 6 (.v 73) .copy),
            (none, .asg 7 (.c (.int .i64 0)) .copy)])
          (.ret [6, 7])))))))))⟩
def F162 : PFunc :=
 ⟨[false, false, false], [.tmp 6, .tmp 7],
  (.seq
   (.region [] [] [0, 1, 2] false [
     (none, .asg 6 (.c (.sl true 1 [])) .copy),
     (none, .asg 7 (.c (.int .i64 0)) .copy)])
   (.seq
    (.block 0
     (.seq
      (.region [(13, 1, false)] [] [1, 2, 11] false [
        (none, .mv 12 (.v 0)),
        (none, .mv 13 (.v 1)),
        (none, .call (some 14) 236 false [((.v 12), false), ((.v 13), false)]),
        (none, .un 15 .not (.v 14)),
        (none, .asg 11 (.v 15) .copy)])
      (.cond (.v 11)
       (.seq
        (.region [] [] [6, 7] false [
          (none, .asg 6 (.c (.sl true 1 [])) .copy),
          (none, .asg 7 (.c (.int .i64 1)) .copy)])
        (.ret [6, 7]))
       (.seq
        (.region [] [] [1, 2, 16] false [
          (none, .mv 17 (.v 2)),
          (none, .call (some 18) 326 false [((.v 17), false), ((.c (.int .i64 0)), false), ((.c (.int .i64 100000)), false)]),
          (none, .un 19 .not (.v 18)),
          (none, .asg 16 (.v 19) .copy)])
        (.cond (.v 16)
         (.seq
          (.region [] [] [6, 7] false [
            (none, .asg 6 (.c (.sl true 1 [])) .copy),
            (none, .asg 7 (.c (.int .i64 2)) .copy)])
          (.ret [6, 7]))
         (.skip [1, 2]))))))
    (.seq
     (.region [] [] [1, 2, 8] false [
       (none, .mksl 20 1 (.int .i64 0) 0 []),
       (none, .asg 8 (.v 20) .move)])
     (.seq
      (.seq
       (.region [(21, 1, false)] [] [1, 2, 8, 21, 22, 23] false [
         (none, .mv 21 (.v 1)),
         (none, .len 22 false (.v 21)),
         (none, .mv 23 (.c (.int .i64 0)))])
       (.block 1
        (.loop
         (.seq
          (.region [(21, 1, false)] [] [1, 2, 8, 21, 22, 23, 24] false [
            (none, .bin 24 .lss (.v 23) (.v 22))])
          (.seq
           (.cond (.v 24)
            (.skip [1, 2, 8, 21, 22, 23])
            (.exit 1 [8]))
           (.seq
            (.block 2
             (.seq
              (.region [(25, 1, false), (21, 1, false)] [] [1, 2, 8, 10, 21, 22, 23] false [
                (none, .iadr 25 2 (.v 21) (.v 23)),
                (none, .load 26 true 2 (.v 25) none),
                (none, .new 10 (.agg [(.int .i64 0), (.bool false)])),
                (none, .store 2 (.v 10) (.v 26) .copy)])
              (.region [(27, 8, false), (21, 1, false)] [] [1, 2, 8, 21, 22, 23] false [
                (none, .mv 27 (.v 8)),
                (none, .load 28 true 2 (.v 10) none),
                (none, .mv 29 (.v 2)),
                (none, .call (some 30) 26 false [((.v 28), false), ((.v 29), false)]),
                (none, .mksl 31 1 (.int .i64 0) 1 [(0, (.v 30), .copy)]),
                (none, .app 32 1 (.v 27) (.v 31) .move),
                (none, .asg 8 (.v 32) .move)])))
            (.region [(21, 1, false)] [] [1, 2, 8, 21, 22, 23] false [
              (none, .bin 33 .add (.v 23) (.c (.int .i64 1))),
              (none, .mv 23 (.v 33))])))))))
      (.seq
       (.region [(34, 8, false)] [] [6, 7] false [
         (none, .mv 34 (.v 8)),
         (none, .asg 6 (.v 34) .move),
         (none, .asg 7 (.c (.int .i64 0)) .copy)])
       (.ret [6, 7]))))))⟩
def F398 : PFunc :=
 ⟨[false], [.tmp 2],
  (.seq
   (.region [] [] [0] false [
     (none, .asg 2 (.c (.bool false)) .copy)])
   (.seq
    (.region [(3, 0, false)] [] [2] false [
      (none, .mv 3 (.v 0)),
      (none, .len 4 false (.v 3)),
      (none, .bin 5 .gtr (.v 4) (.c (.int .i64 4096))),
      (none, .asg 2 (.v 5) .copy)])
    (.ret [2])))⟩
def F400 : PFunc :=
 ⟨[false, false], [.tmp 4],
  (.seq
   (.region [] [] [0, 1] false [
     (none, .asg 4 (.c (.bool false)) .copy)])
   (.seq
    (.seq
     (.region [(8, 1, false), (6, 0, false)] [] [0, 1, 10] false [
       (none, .mv 6 (.v 0)),
       (none, .len 7 false (.v 6)),
       (none, .mv 8 (.v 1)),
       (none, .len 9 false (.v 8)),
       (none, .bin 10 .neq (.v 7) (.v 9))])
     (.cond (.v 10)
      (.seq
       (.region [] [] [4] false [
         (none, .asg 4 (.c (.bool false)) .copy)])
       (.ret [4]))
      (.skip [0, 1])))
    (.seq
     (.seq
      (.region [] [] [0, 1, 5] false [
        (none, .asg 5 (.c (.int .i64 0)) .copy)])
      (.block 0
       (.loop
        (.seq
         (.seq
          (.region [(12, 0, false)] [] [0, 1, 5, 14] false [
            (none, .mv 11 (.v 5)),
            (none, .mv 12 (.v 0)),
            (none, .len 13 false (.v 12)),
            (none, .bin 14 .lss (.v 11) (.v 13))])
          (.cond (.v 14)
           (.skip [0, 1, 5])
           (.exit 0 [])))
         (.seq
          (.block 1
           (.seq
            (.region [(23, 1, false), (21, 1, false), (19, 0, false), (17, 0, false)] [] [0, 1, 5, 25] true [
              (none, .mv 17 (.v 0)),
              (none, .mv 18 (.v 5)),
              (none, .iadr 19 1 (.v 17) (.v 18)),
              (none, .load 20 false 1 (.v 19) none),
              (none, .mv 21 (.v 1)),
              (none, .mv 22 (.v 5)),
              (none, .iadr 23 1 (.v 21) (.v 22)),
              (none, .load 24 false 1 (.v 23) none),
              (none, .bin 25 .neq (.v 20) (.v 24))])
            (.cond (.v 25)
             (.seq
              (.region [] [] [4] false [
                (none, .asg 4 (.c (.bool false)) .copy)])
              (.ret [4]))
             (.skip [0, 1, 5]))))
          (.region [] [] [0, 1, 5] false [
            (none, .mv 15 (.v 5)),
            (none, .bin 16 .add (.v 15) (.c (.int .i64 1))),
            (none, .asg 5 (.v 16) .copy)]))))))
     (.seq
      (.region [] [] [4] false [
        (none, .asg 4 (.c (.bool true)) .copy)])
      (.ret [4])))))⟩
def F605 : PFunc :=
 ⟨[false, false, false], [.tmp 6],
  (.seq
   (.region [] [] [0, 1, 2] false [
     (none, .asg 6 (.c (.bool false)) .copy)])
   (.seq
    (.region [] [] [6] false [
      (none, .mv 7 (.v 0)),
      (none, .mv 8 (.v 1)),
      (none, .bin 9 .geq (.v 7) (.v 8)),
      (none, .mv 10 (.v 9)),
      (some (10, true), .mv 11 (.v 0)),
      (some (10, true), .mv 12 (.v 2)),
      (some (10, true), .bin 13 .leq (.v 11) (.v 12)),
      (none, .pick 14 (.v 10) (.v 13) (.c (.bool false))),
      (none, .asg 6 (.v 14) .copy)])
    (.ret [6])))⟩
def F716 : PFunc :=
 ⟨[false], [.tmp 2],
  (.seq
   (.region [] [] [0] false [
     (none, .asg 2 (.c (.bool false)) .copy)])
   (.seq
    (.region [] [] [2] false [
      (none, .mv 3 (.v 0)),
      (none, .call (some 4) 605 false [((.v 3), false), ((.c (.int .i64 2)), false), ((.c (.int .i64 200)), false)]),
      (none, .asg 2 (.v 4) .copy)])
    (.ret [2])))⟩
def F711 : PFunc :=
 ⟨[false, false], [.tmp 4],
  (.seq
   (.region [] [] [0, 1] false [
     (none, .asg 4 (.c (.bool false)) .copy)])
   (.seq
    (.seq
     (.region [] [] [0, 1, 5] false [
       (none, .asg 5 (.c (.int .i64 0)) .copy)])
     (.block 0
      (.loop
       (.seq
        (.seq
         (.region [(7, 1, false)] [] [0, 1, 5, 9] false [
           (none, .mv 6 (.v 5)),
           (none, .mv 7 (.v 1)),
           (none, .len 8 false (.v 7)),
           (none, .bin 9 .lss (.v 6) (.v 8))])
         (.cond (.v 9)
          (.skip [0, 1, 5])
          (.exit 0 [0, 1])))
        (.seq
         (.block 1
          (.seq
           (.region [(15, 1, false), (14, 1, false), (12, 1, false)] [] [0, 1, 5, 18] false [
             (none, .mv 12 (.v 1)),
             (none, .mv 13 (.v 5)),
             (none, .iadr 14 2 (.v 12) (.v 13)),
             (none, .fadr 15 0 1 (.v 14)),
             (none, .load 16 false 1 (.v 15) none),
             (none, .call (some 17) 716 false [((.v 16), false)]),
             (none, .un 18 .not (.v 17))])
           (.cond (.v 18)
            (.seq
             (.region [] [] [4] false [
               (none, .asg 4 (.c (.bool false)) .copy)])
             (.ret [4]))
            (.skip [0, 1, 5]))))
         (.region [] [] [0, 1, 5] false [
           (none, .mv 10 (.v 5)),
           (none, .bin 11 .add (.v 10) (.c (.int .i64 1))),
           (none, .asg 5 (.v 11) .copy)]))))))
    (.seq
     (.region [(22, 1, false)] [] [4] false [
       (none, .mv 19 (.v 0)),
       (none, .call (some 20) 716 false [((.v 19), false)]),
       (none, .mv 21 (.v 20)),
       (some (21, true), .mv 22 (.v 1)),
       (some (21, true), .len 23 false (.v 22)),
       (some (21, true), .bin 24 .leq (.v 23) (.c (.int .i64 8))),
       (none, .pick 25 (.v 21) (.v 24) (.c (.bool false))),
       (none, .asg 4 (.v 25) .copy)])
     (.ret [4]))))⟩
def F604 : PFunc :=
 ⟨[false, false], [.tmp 4],
  (.seq
   (.region [] [] [0, 1] false [
     (none, .asg 4 (.c (.int .i64 0)) .copy)])
   (.seq
    (.block 0
     (.loop
      (.seq
       (.seq
        (.region [] [] [0, 1, 7] false [
          (none, .mv 6 (.v 1)),
          (none, .bin 7 .neq (.v 6) (.c (.int .i64 0)))])
        (.cond (.v 7)
         (.skip [0, 1])
         (.exit 0 [0])))
       (.block 1
        (.seq
         (.region [] [] [1, 5] false [
           (none, .mv 8 (.v 0)),
           (none, .mv 9 (.v 1)),
           (none, .bin 10 .rem (.v 8) (.v 9)),
           (none, .asg 5 (.v 10) .copy)])
         (.seq
          (.region [] [] [0, 5] false [
            (none, .mv 11 (.v 1)),
            (none, .asg 0 (.v 11) .copy)])
          (.region [] [] [0, 1] false [
            (none, .mv 12 (.v 5)),
            (none, .asg 1 (.v 12) .copy)])))))))
    (.seq
     (.region [] [] [4] false [
       (none, .mv 13 (.v 0)),
       (none, .asg 4 (.v 13) .copy)])
     (.ret [4]))))⟩
def F715 : PFunc :=
 ⟨[false], [.tmp 2],
  (.seq
   (.region [] [] [0] false [
     (none, .asg 2 (.c (.int .i64 0)) .copy)])
   (.seq
    (.region [] [] [0, 3] false [
      (none, .asg 3 (.c (.int .i64 1)) .copy)])
    (.seq
     (.seq
      (.region [] [] [0, 3, 4] false [
        (none, .asg 4 (.c (.int .i64 0)) .copy)])
      (.block 0
       (.loop
        (.seq
         (.seq
          (.region [(6, 0, false)] [] [0, 3, 4, 8] false [
            (none, .mv 5 (.v 4)),
            (none, .mv 6 (.v 0)),
            (none, .len 7 false (.v 6)),
            (none, .bin 8 .lss (.v 5) (.v 7))])
          (.cond (.v 8)
           (.skip [0, 3, 4])
           (.exit 0 [3])))
         (.seq
          (.block 1
           (.seq
            (.region [(23, 0, false), (22, 0, false), (20, 0, false), (16, 0, false), (15, 0, false), (13, 0, false)] [] [0, 3, 4] true [
              (none, .mv 11 (.v 3)),
              (none, .mv 12 (.v 3)),
              (none, .mv 13 (.v 0)),
              (none, .mv 14 (.v 4)),
              (none, .iadr 15 2 (.v 13) (.v 14)),
              (none, .fadr 16 0 1 (.v 15)),
              (none, .load 17 false 1 (.v 16) none),
              (none, .call (some 18) 604 false [((.v 12), false), ((.v 17), false)]),
              (none, .bin 19 .quo (.v 11) (.v 18)),
              (none, .mv 20 (.v 0)),
              (none, .mv 21 (.v 4)),
              (none, .iadr 22 2 (.v 20) (.v 21)),
              (none, .fadr 23 0 1 (.v 22)),
              (none, .load 24 false 1 (.v 23) none),
              (none, .bin 25 .mul (.v 19) (.v 24)),
              (none, .asg 3 (.v 25) .copy)])
            (.seq
             (.region [] [] [0, 3, 4, 27] false [
               (none, .mv 26 (.v 3)),
               (none, .bin 27 .gtr (.v 26) (.c (.int .i64 1000000000)))])
             (.cond (.v 27)
              (.seq
               (.region [] [] [2] false [
                 (none, .asg 2 (.c (.int .i64 0)) .copy)])
               (.ret [2]))
              (.skip [0, 3, 4])))))
          (.region [] [] [0, 3, 4] false [
            (none, .mv 9 (.v 4)),
            (none, .bin 10 .add (.v 9) (.c (.int .i64 1))),
            (none, .asg 4 (.v 10) .copy)]))))))
     (.seq
      (.region [] [] [2] false [
        (none, .mv 28 (.v 3)),
        (none, .asg 2 (.v 28) .copy)])
      (.ret [2])))))⟩
def F557 : PFunc :=
 ⟨[false, false], [.tmp 4, .tmp 5],
  (.seq
   (.region [] [] [0, 1] false [
     (none, .asg 4 (.c (.int .i64 0)) .copy),
     (none, .asg 5 (.c (.int .i64 0)) .copy)])
   (.seq
    (.seq
     (.region [(8, 1, false)] [] [1, 10] false [
       (none, .mv 7 (.v 0)),
       (none, .mv 8 (.v 1)),
       (none, .call (some 9) 711 false [((.v 7), false), ((.v 8), false)]),
       (none, .un 10 .not (.v 9))])
     (.cond (.v 10)
      (.seq
       (.region [] [] [4, 5] false [
         (none, .asg 4 (.c (.int .i64 0)) .copy),
         (none, .asg 5 (.c (.int .i64 1)) .copy)])
       (.ret [4, 5]))
      (.skip [1])))
    (.seq
     (.region [(11, 1, false)] [] [6] false [
       (none, .mv 11 (.v 1)),
       (none, .call (some 12) 715 false [((.v 11), false)]),
       (none, .asg 6 (.v 12) .copy)])
     (.seq
      (.seq
       (.region [] [] [6, 14] false [
         (none, .mv 13 (.v 6)),
         (none, .bin 14 .eql (.v 13) (.c (.int .i64 0)))])
       (.cond (.v 14)
        (.seq
         (.region [] [] [4, 5] false [
           (none, .asg 4 (.c (.int .i64 0)) .copy),
           (none, .asg 5 (.c (.int .i64 5)) .copy)])
         (.ret [4, 5]))
        (.skip [6])))
      (.seq
       (.region [] [] [4, 5] false [
         (none, .mv 15 (.v 6)),
         (none, .asg 4 (.v 15) .copy),
         (none, .asg 5 (.c (.int .i64 0)) .copy)])
       (.ret [4, 5]))))))⟩
def F452 : PFunc :=
 ⟨[false, false], [.tmp 4, .tmp 5],
  (.seq
   (.region [] [] [0, 1] false [
     (none, .asg 4 (.c (.int .i64 0)) .copy),
     (none, .asg 5 (.c (.int .i64 0)) .copy)])
   (.seq
    (.region [(7, 1, false)] [] [4, 5] false [
      (none, .mv 6 (.v 0)),
      (none, .mv 7 (.v 1)),
      (none, .call (some 8) 557 false [((.v 6), false), ((.v 7), false)]),
      (none, .extp 9 (.v 8) 0),
      (none, .extp 10 (.v 8) 1),
      (none, .asg 4 (.v 9) .copy),
      (none, .asg 5 (.v 10) .copy)])
    (.ret [4, 5])))⟩
def F5 : PFunc :=
 ⟨[true], [.tmp 2],
  (.seq
   (.region [] [] [0] false [
     (none, .asg 2 (.c (.int .i64 0)) .copy)])
   (.seq
    (.region [] [] [0, 3] false [
      (none, .asg 3 (.c (.int .i64 0)) .copy)])
    (.seq
     (.seq
      (.region [(11, 0, true), (10, 0, false), (9, 0, false), (8, 0, false), (6, 0, false), (5, 0, false), (4, 0, false)] [] [0, 3, 13] true [
        (none, .mv 4 (.v 0)),
        (none, .nchk 5 (.v 4)),
        (none, .fadr 6 1 1 (.v 5)),
        (none, .load 7 false 1 (.v 6) none),
        (none, .mv 8 (.v 0)),
        (none, .nchk 9 (.v 8)),
        (none, .fadr 10 0 1 (.v 9)),
        (none, .load 11 false 1 (.v 10) none),
        (none, .len 12 false (.v 11)),
        (none, .bin 13 .lss (.v 7) (.v 12))])
      (.cond (.v 13)
       (.region [(22, 0, true), (20, 0, false), (19, 0, false), (18, 0, false), (17, 0, true), (16, 0, false), (15, 0, false), (14, 0, false)] [] [0, 3] true [
         (none, .mv 14 (.v 0)),
         (none, .nchk 15 (.v 14)),
         (none, .fadr 16 0 1 (.v 15)),
         (none, .load 17 false 1 (.v 16) none),
         (none, .mv 18 (.v 0)),
         (none, .nchk 19 (.v 18)),
         (none, .fadr 20 1 1 (.v 19)),
         (none, .load 21 false 1 (.v 20) none),
         (none, .iadr 22 1 (.v 17) (.v 21)),
         (none, .load 23 false 1 (.v 22) none),
         (none, .conv 24 .i64 (.v 23)),
         (none, .asg 3 (.v 24) .copy)])
       (.skip [0, 3])))
     (.seq
      (.region [(31, 0, false), (30, 0, false), (27, 0, false), (26, 0, false), (25, 0, false)] [] [0, 3] false [
        (none, .mv 25 (.v 0)),
        (none, .nchk 26 (.v 25)),
        (none, .fadr 27 1 1 (.v 26)),
        (none, .load 28 false 1 (.v 27) none),
        (none, .bin 29 .add (.v 28) (.c (.int .i64 1))),
        (none, .nchk 30 (.v 25)),
        (none, .fadr 31 1 1 (.v 30)),
        (none, .store 1 (.v 31) (.v 29) .copy)])
      (.seq
       (.region [(43, 0, false), (42, 0, false), (35, 0, false), (34, 0, false), (33, 0, false), (32, 0, false)] [] [0, 3] false [
         (none, .mv 32 (.v 0)),
         (none, .mv 33 (.v 0)),
         (none, .nchk 34 (.v 33)),
         (none, .fadr 35 2 1 (.v 34)),
         (none, .load 36 false 1 (.v 35) none),
         (none, .bin 37 .mul (.v 36) (.c (.int .u64 6364136223846793005))),
         (none, .mv 38 (.v 3)),
         (none, .conv 39 .u64 (.v 38)),
         (none, .bin 40 .add (.v 37) (.v 39)),
         (none, .bin 41 .add (.v 40) (.c (.int .u64 1442695040888963407))),
         (none, .nchk 42 (.v 32)),
         (none, .fadr 43 2 1 (.v 42)),
         (none, .store 1 (.v 43) (.v 41) .copy)])
       (.seq
        (.seq
         (.region [(51, 0, true), (50, 0, false), (49, 0, false), (48, 0, false), (46, 0, false), (45, 0, false), (44, 0, false)] [] [0, 3, 53] true [
           (none, .mv 44 (.v 0)),
           (none, .nchk 45 (.v 44)),
           (none, .fadr 46 1 1 (.v 45)),
           (none, .load 47 false 1 (.v 46) none),
           (none, .mv 48 (.v 0)),
           (none, .nchk 49 (.v 48)),
           (none, .fadr 50 0 1 (.v 49)),
           (none, .load 51 false 1 (.v 50) none),
           (none, .len 52 false (.v 51)),
           (none, .bin 53 .leq (.v 47) (.v 52))])
         (.cond (.v 53)
          (.seq
           (.region [] [] [0, 2] false [
             (none, .mv 54 (.v 3)),
             (none, .asg 2 (.v 54) .copy)])
           (.ret [0, 2]))
          (.skip [0])))
        (.seq
         (.region [(57, 0, false), (56, 0, false), (55, 0, false)] [] [0, 2] false [
           (none, .mv 55 (.v 0)),
           (none, .nchk 56 (.v 55)),
           (none, .fadr 57 2 1 (.v 56)),
           (none, .load 58 false 1 (.v 57) none),
           (none, .bin 59 .shr (.v 58) (.c (.int .u64 40))),
           (none, .bin 60 .and (.v 59) (.c (.int .u64 255))),
           (none, .conv 61 .i64 (.v 60)),
           (none, .asg 2 (.v 61) .copy)])
         (.ret [0, 2]))))))))⟩
def F7 : PFunc :=
 ⟨[true, false], [.tmp 4],
  (.seq
   (.region [] [] [0, 1] false [
     (none, .asg 4 (.c (.int .i64 0)) .copy)])
   (.seq
    (.seq
     (.region [] [] [0, 1, 7] false [
       (none, .mv 6 (.v 1)),
       (none, .bin 7 .leq (.v 6) (.c (.int .i64 1)))])
     (.cond (.v 7)
      (.seq
       (.region [] [] [0, 4] false [
         (none, .asg 4 (.c (.int .i64 0)) .copy)])
       (.ret [0, 4]))
      (.skip [0, 1])))
    (.seq
     (.region [(8, 0, false)] [] [0, 1, 5] false [
       (none, .mv 8 (.v 0)),
       (none, .call (some 9) 5 true [((.v 8), true)]),
       (none, .asg 5 (.v 9) .copy)])
     (.seq
      (.seq
       (.region [] [] [0, 1, 5, 11] false [
         (none, .mv 10 (.v 1)),
         (none, .bin 11 .gtr (.v 10) (.c (.int .i64 200)))])
       (.cond (.v 11)
        (.region [(14, 0, false)] [] [0, 1, 5] false [
          (none, .mv 12 (.v 5)),
          (none, .bin 13 .mul (.v 12) (.c (.int .i64 256))),
          (none, .mv 14 (.v 0)),
          (none, .call (some 15) 5 true [((.v 14), true)]),
          (none, .bin 16 .add (.v 13) (.v 15)),
          (none, .asg 5 (.v 16) .copy)])
        (.skip [0, 1, 5])))
      (.seq
       (.region [] [] [0, 4] false [
         (none, .mv 17 (.v 5)),
         (none, .mv 18 (.v 1)),
         (none, .bin 19 .rem (.v 17) (.v 18)),
         (none, .asg 4 (.v 19) .copy)])
       (.ret [0, 4]))))))⟩
def F4 : PFunc :=
 ⟨[true, false], [.tmp 4],
  (.seq
   (.region [] [] [0, 1] false [
     (none, .asg 4 (.c (.int .i64 0)) .copy)])
   (.seq
    (.region [(10, 1, false), (7, 1, false), (6, 0, false), (5, 1, false)] [] [0, 4] false [
      (none, .mv 5 (.v 1)),
      (none, .mv 6 (.v 0)),
      (none, .mv 7 (.v 1)),
      (none, .len 8 false (.v 7)),
      (none, .call (some 9) 7 true [((.v 6), true), ((.v 8), false)]),
      (none, .iadr 10 1 (.v 5) (.v 9)),
      (none, .load 11 false 1 (.v 10) none),
      (none, .asg 4 (.v 11) .copy)])
    (.ret [0, 4])))⟩
def F603 : PFunc :=
 ⟨[false], [.tmp 2],
  (.seq
   (.region [] [] [0] false [
     (none, .asg 2 (.c .nilp) .copy)])
   (.seq
    (.region [(3, 0, false)] [] [2] false [
      (none, .mv 3 (.v 0)),
      (none, .build 4 [(.sl false 1 []), (.int .i64 0), (.int .u64 0)] [(0, 1, (.v 3), .move)]),
      (none, .box 5 (.v 4) .move),
      (none, .asg 2 (.v 5) .move)])
    (.ret [2])))⟩
def F6 : PFunc :=
 ⟨[true, false], [.tmp 4],
  (.seq
   (.region [] [] [0, 1] false [
     (none, .asg 4 (.c (.bool false)) .copy)])
   (.seq
    (.region [(5, 0, false)] [] [0, 4] false [
      (none, .mv 5 (.v 0)),
      (none, .mv 6 (.v 1)),
      (none, .call (some 7) 7 true [((.v 5), true), ((.v 6), false)]),
      (none, .bin 8 .eql (.v 7) (.c (.int .i64 0))),
      (none, .asg 4 (.v 8) .copy)])
    (.ret [0, 4])))⟩
def F709 : PFunc :=
 ⟨[true], [.tmp 2],
  (.seq
   (.region [] [] [0] false [
     (none, .asg 2 (.c (.int .i64 0)) .copy)])
   (.seq
    (.seq
     (.region [(3, 0, false)] [] [0, 4] false [
       (none, .mv 3 (.v 0)),
       (none, .call (some 4) 6 true [((.v 3), true), ((.c (.int .i64 12)), false)])])
     (.cond (.v 4)
      (.seq
       (.region [(5, 0, false)] [] [0, 2] false [
         (none, .mv 5 (.v 0)),
         (none, .mksl 6 1 (.int .i64 0) 6 [(0, (.c (.int .i64 (-1))), .copy), (1, (.c (.int .i64 1)), .copy), (2, (.c (.int .i64 2)), .copy), (3, (.c (.int .i64 200)), .copy), (4, (.c (.int .i64 201)), .copy), (5, (.c (.int .i64 (-9223372036854775808))), .copy)]),
         (none, .call (some 7) 4 true [((.v 5), true), ((.v 6), false)]),
         (none, .asg 2 (.v 7) .copy)])
       (.ret [0, 2]))
      (.skip [0])))
    (.seq
     (.region [(8, 0, false)] [] [0, 2] false [
       (none, .mv 8 (.v 0)),
       (none, .mksl 9 1 (.int .i64 0) 10 [(0, (.c (.int .i64 6)), .copy), (1, (.c (.int .i64 8)), .copy), (2, (.c (.int .i64 10)), .copy), (3, (.c (.int .i64 12)), .copy), (4, (.c (.int .i64 15)), .copy), (5, (.c (.int .i64 20)), .copy), (6, (.c (.int .i64 24)), .copy), (7, (.c (.int .i64 30)), .copy), (8, (.c (.int .i64 36)), .copy), (9, (.c (.int .i64 7)), .copy)]),
       (none, .call (some 10) 4 true [((.v 8), true), ((.v 9), false)]),
       (none, .asg 2 (.v 10) .copy)])
     (.ret [0, 2]))))⟩
def F707 : PFunc :=
 ⟨[true], [.tmp 2, .tmp 3],
  (.seq
   (.region [] [] [0] false [
     (none, .asg 2 (.c (.int .i64 0)) .copy),
     (none, .asg 3 (.c (.sl true 2 [])) .copy)])
   (.seq
    (.region [(9, 0, false)] [] [0, 4] false [
      (none, .mv 9 (.v 0)),
      (none, .call (some 10) 709 true [((.v 9), true)]),
      (none, .asg 4 (.v 10) .copy)])
    (.seq
     (.region [] [] [0, 4, 5] false [
       (none, .mksl 11 2 (.agg [(.int .i64 0), (.bool false)]) 0 []),
       (none, .asg 5 (.v 11) .move)])
     (.seq
      (.region [(12, 0, false)] [] [0, 4, 5, 6] false [
        (none, .mv 12 (.v 0)),
        (none, .call (some 13) 7 true [((.v 12), true), ((.c (.int .i64 4)), false)]),
        (none, .asg 6 (.v 13) .copy)])
      (.seq
       (.seq
        (.region [(14, 0, false)] [] [0, 4, 5, 6, 15] false [
          (none, .mv 14 (.v 0)),
          (none, .call (some 15) 6 true [((.v 14), true), ((.c (.int .i64 20)), false)])])
        (.cond (.v 15)
         (.region [(16, 0, false)] [] [0, 4, 5, 6] false [
           (none, .mv 16 (.v 0)),
           (none, .call (some 17) 7 true [((.v 16), true), ((.c (.int .i64 2)), false)]),
           (none, .bin 18 .add (.c (.int .i64 8)) (.v 17)),
           (none, .asg 6 (.v 18) .copy)])
         (.skip [0, 4, 5, 6])))
       (.seq
        (.seq
         (.region [] [] [0, 4, 5, 7] false [
           (none, .mv 19 (.v 6)),
           (none, .asg 7 (.v 19) .copy)])
         (.block 0
          (.loop
           (.seq
            (.seq
             (.region [] [] [0, 4, 5, 7, 21] false [
               (none, .mv 20 (.v 7)),
               (none, .bin 21 .gtr (.v 20) (.c (.int .i64 0)))])
             (.cond (.v 21)
              (.skip [0, 4, 5, 7])
              (.exit 0 [0, 4, 5])))
            (.seq
             (.block 1
              (.seq
               (.region [(24, 0, false)] [] [0, 4, 5, 7, 8] false [
                 (none, .mv 24 (.v 0)),
                 (none, .mksl 25 1 (.int .i64 0) 8 [(0, (.c (.int .i64 6)), .copy), (1, (.c (.int .i64 8)), .copy), (2, (.c (.int .i64 9)), .copy), (3, (.c (.int .i64 10)), .copy), (4, (.c (.int .i64 12)), .copy), (5, (.c (.int .i64 15)), .copy), (6, (.c (.int .i64 7)), .copy), (7, (.c (.int .i64 25)), .copy)]),
                 (none, .call (some 26) 4 true [((.v 24), true), ((.v 25), false)]),
                 (none, .build 27 [(.int .i64 0), (.bool false)] [(0, 1, (.v 26), .copy)]),
                 (none, .new 8 (.agg [(.int .i64 0), (.bool false)])),
                 (none, .store 2 (.v 8) (.v 27) .copy)])
               (.seq
                (.region [(30, 8, false), (28, 0, false)] [] [0, 4, 5, 7, 8] false [
                  (none, .mv 28 (.v 0)),
                  (none, .call (some 29) 6 true [((.v 28), true), ((.c (.int .i64 3)), false)]),
                  (none, .fadr 30 1 1 (.v 8)),
                  (none, .store 1 (.v 30) (.v 29) .copy)])
                (.region [(31, 5, false)] [] [0, 4, 5, 7] false [
                  (none, .mv 31 (.v 5)),
                  (none, .load 32 true 2 (.v 8) none),
                  (none, .mksl 33 2 (.agg [(.int .i64 0), (.bool false)]) 1 [(0, (.v 32), .copy)]),
                  (none, .app 34 2 (.v 31) (.v 33) .move),
                  (none, .asg 5 (.v 34) .move)]))))
             (.region [] [] [0, 4, 5, 7] false [
               (none, .mv 22 (.v 7)),
               (none, .bin 23 .sub (.v 22) (.c (.int .i64 1))),
               (none, .asg 7 (.v 23) .copy)]))))))
        (.seq
         (.seq
          (.region [(35, 0, false)] [] [0, 4, 5, 36] false [
            (none, .mv 35 (.v 0)),
            (none, .call (some 36) 6 true [((.v 35), true), ((.c (.int .i64 24)), false)])])
          (.cond (.v 36)
           (.region [] [] [0, 4, 5] false [
             (none, .build 37 [(.int .i64 0), (.bool false)] [(0, 1, (.c (.int .i64 199)), .copy)]),
             (none, .build 38 [(.int .i64 0), (.bool false)] [(0, 1, (.c (.int .i64 197)), .copy)]),
             (none, .build 39 [(.int .i64 0), (.bool false)] [(0, 1, (.c (.int .i64 193)), .copy)]),
             (none, .build 40 [(.int .i64 0), (.bool false)] [(0, 1, (.c (.int .i64 191)), .copy)]),
             (none, .mksl 41 2 (.agg [(.int .i64 0), (.bool false)]) 4 [(0, (.v 37), .copy), (1, (.v 38), .copy), (2, (.v 39), .copy), (3, (.v 40), .copy)]),
             (none, .asg 5 (.v 41) .move)])
           (.skip [0, 4, 5])))
         (.seq
          (.seq
           (.region [(46, 0, false), (42, 5, false)] [] [0, 4, 5, 48] false [
             (none, .mv 42 (.v 5)),
             (none, .len 43 false (.v 42)),
             (none, .bin 44 .gtr (.v 43) (.c (.int .i64 0))),
             (none, .mv 45 (.v 44)),
             (some (45, true), .mv 46 (.v 0)),
             (some (45, true), .call (some 47) 6 true [((.v 46), true), ((.c (.int .i64 14)), false)]),
             (none, .pick 48 (.v 45) (.v 47) (.c (.bool false)))])
           (.cond (.v 48)
            (.region [(53, 5, false), (52, 5, false), (50, 0, false), (49, 5, false)] [] [0, 4, 5] false [
              (none, .mv 49 (.v 5)),
              (none, .mv 50 (.v 0)),
              (none, .call (some 51) 709 true [((.v 50), true)]),
              (none, .iadr 52 2 (.v 49) (.c (.int .i64 0))),
              (none, .fadr 53 0 1 (.v 52)),
              (none, .store 1 (.v 53) (.v 51) .copy)])
            (.skip [0, 4, 5])))
          (.seq
           (.region [(55, 5, false)] [] [0, 2, 3] false [
             (none, .mv 54 (.v 4)),
             (none, .mv 55 (.v 5)),
             (none, .asg 2 (.v 54) .copy),
             (none, .asg 3 (.v 55) .move)])
           (.ret [0, 2, 3]))))))))))⟩
def F714 : PFunc :=
 ⟨[false, false], [.tmp 4],
  (.seq
   (.region [] [] [0, 1] false [
     (none, .asg 4 (.c (.int .i64 0)) .copy)])
   (.seq
    (.region [(9, 0, false), (8, 0, false), (7, 0, false)] [] [0, 5] false [
      (none, .mv 6 (.v 1)),
      (none, .mv 7 (.v 0)),
      (none, .nchk 8 (.v 7)),
      (none, .fadr 9 0 1 (.v 8)),
      (none, .load 10 false 1 (.v 9) none),
      (none, .bin 11 .rem (.v 6) (.v 10)),
      (none, .asg 5 (.v 11) .copy)])
    (.seq
     (.seq
      (.region [(14, 0, false), (13, 0, false), (12, 0, false)] [] [0, 5, 19] false [
        (none, .mv 12 (.v 0)),
        (none, .nchk 13 (.v 12)),
        (none, .fadr 14 1 1 (.v 13)),
        (none, .load 15 false 1 (.v 14) none),
        (none, .mv 16 (.v 15)),
        (some (16, true), .mv 17 (.v 5)),
        (some (16, true), .bin 18 .gtr (.v 17) (.c (.int .i64 0))),
        (none, .pick 19 (.v 16) (.v 18) (.c (.bool false)))])
      (.cond (.v 19)
       (.seq
        (.region [(22, 0, false), (21, 0, false), (20, 0, false)] [] [4] false [
          (none, .mv 20 (.v 0)),
          (none, .nchk 21 (.v 20)),
          (none, .fadr 22 0 1 (.v 21)),
          (none, .load 23 false 1 (.v 22) none),
          (none, .mv 24 (.v 5)),
          (none, .bin 25 .sub (.v 23) (.v 24)),
          (none, .asg 4 (.v 25) .copy)])
        (.ret [4]))
       (.skip [5])))
     (.seq
      (.region [] [] [4] false [
        (none, .mv 26 (.v 5)),
        (none, .asg 4 (.v 26) .copy)])
      (.ret [4])))))⟩
def F472 : PFunc :=
 ⟨[false], [.tmp 2, .tmp 3, .tmp 4],
  (.seq
   (.region [] [] [0] false [
     (none, .asg 2 (.c (.int .i64 0)) .copy),
     (none, .asg 3 (.c (.sl true 2 [])) .copy),
     (none, .asg 4 (.c (.sl true 1 [])) .copy)])
   (.seq
    (.region [(11, 0, false)] [] [5] false [
      (none, .mv 11 (.v 0)),
      (none, .call (some 12) 603 true [((.v 11), false)]),
      (none, .asg 5 (.v 12) .move)])
    (.seq
     (.region [(14, 5, false)] [] [5, 6, 7] false [
       (none, .mv 14 (.v 5)),
       (none, .call (some 15) 707 true [((.v 14), true)]),
       (none, .asg 13 (.v 15) .move),
       (none, .extp 16 (.v 13) 0),
       (none, .ext 17 (.v 13) 1),
       (none, .asg 6 (.v 16) .copy),
       (none, .asg 7 (.v 17) .move)])
     (.seq
      (.region [] [] [5, 6, 7, 8] false [
        (none, .mksl 18 1 (.int .i64 0) 0 []),
        (none, .asg 8 (.v 18) .move)])
      (.seq
       (.region [(19, 5, false)] [] [5, 6, 7, 8, 9] false [
         (none, .mv 19 (.v 5)),
         (none, .call (some 20) 7 true [((.v 19), true), ((.c (.int .i64 500)), false)]),
         (none, .asg 9 (.v 20) .copy)])
       (.seq
        (.seq
         (.region [] [] [5, 6, 7, 8, 9, 10] false [
           (none, .asg 10 (.c (.int .i64 0)) .copy)])
         (.block 0
          (.loop
           (.seq
            (.seq
             (.region [(22, 7, false)] [] [5, 6, 7, 8, 9, 10, 24] false [
               (none, .mv 21 (.v 10)),
               (none, .mv 22 (.v 7)),
               (none, .len 23 false (.v 22)),
               (none, .bin 24 .lss (.v 21) (.v 23))])
             (.cond (.v 24)
              (.skip [5, 6, 7, 8, 9, 10])
              (.exit 0 [5, 6, 7, 8])))
            (.seq
             (.block 1
              (.seq
               (.region [(30, 7, false), (29, 7, false), (27, 7, false)] [] [5, 6, 7, 8, 9, 10, 32] false [
                 (none, .mv 27 (.v 7)),
                 (none, .mv 28 (.v 10)),
                 (none, .iadr 29 2 (.v 27) (.v 28)),
                 (none, .fadr 30 0 1 (.v 29)),
                 (none, .load 31 false 1 (.v 30) none),
                 (none, .bin 32 .gtr (.v 31) (.c (.int .i64 0)))])
               (.cond (.v 32)
                (.region [(36, 7, false), (34, 7, false), (33, 8, false)] [] [5, 6, 7, 8, 9, 10] false [
                  (none, .mv 33 (.v 8)),
                  (none, .mv 34 (.v 7)),
                  (none, .mv 35 (.v 10)),
                  (none, .iadr 36 2 (.v 34) (.v 35)),
                  (none, .mv 37 (.v 9)),
                  (none, .call (some 38) 714 false [((.v 36), false), ((.v 37), false)]),
                  (none, .mksl 39 1 (.int .i64 0) 1 [(0, (.v 38), .copy)]),
                  (none, .app 40 1 (.v 33) (.v 39) .move),
                  (none, .asg 8 (.v 40) .move)])
                (.skip [5, 6, 7, 8, 9, 10]))))
             (.region [] [] [5, 6, 7, 8, 9, 10] false [
               (none, .mv 25 (.v 10)),
               (none, .bin 26 .add (.v 25) (.c (.int .i64 1))),
               (none, .asg 10 (.v 26) .copy)]))))))
        (.seq
         (.seq
          (.region [(41, 5, false)] [] [5, 6, 7, 8, 42] false [
            (none, .mv 41 (.v 5)),
            (none, .call (some 42) 7 true [((.v 41), true), ((.c (.int .i64 8)), false)])])
          (.block 2
           (.seq
            (.region [] [] [5, 6, 7, 8, 42, 43] false [
              (none, .bin 44 .eql (.v 42) (.c (.int .i64 0))),
              (none, .asg 43 (.v 44) .copy)])
            (.cond (.v 43)
             (.region [(45, 8, false)] [] [6, 7, 8] false [
               (none, .mv 45 (.v 8)),
               (none, .mksl 46 1 (.int .i64 0) 1 [(0, (.c (.int .i64 0)), .copy)]),
               (none, .app 47 1 (.v 45) (.v 46) .move),
               (none, .asg 8 (.v 47) .move)])
             (.seq
              (.region [] [] [5, 6, 7, 8, 48] false [
                (none, .bin 49 .eql (.v 42) (.c (.int .i64 1))),
                (none, .asg 48 (.v 49) .copy)])
              (.cond (.v 48)
               (.seq
                (.region [(50, 8, false)] [] [5, 6, 7, 8, 52] false [
                  (none, .mv 50 (.v 8)),
                  (none, .len 51 false (.v 50)),
                  (none, .bin 52 .gtr (.v 51) (.c (.int .i64 0)))])
                (.cond (.v 52)
                 (.region [(66, 8, false), (62, 7, false), (61, 7, false), (60, 7, false), (57, 7, false), (56, 7, false), (55, 7, false), (54, 5, false), (53, 8, false)] [] [6, 7, 8] true [
                   (none, .mv 53 (.v 8)),
                   (none, .mv 54 (.v 5)),
                   (none, .mv 55 (.v 7)),
                   (none, .iadr 56 2 (.v 55) (.c (.int .i64 0))),
                   (none, .fadr 57 0 1 (.v 56)),
                   (none, .load 58 false 1 (.v 57) none),
                   (none, .bin 59 .sub (.v 58) (.c (.int .i64 1))),
                   (none, .mv 60 (.v 7)),
                   (none, .iadr 61 2 (.v 60) (.c (.int .i64 0))),
                   (none, .fadr 62 0 1 (.v 61)),
                   (none, .load 63 false 1 (.v 62) none),
                   (none, .mksl 64 1 (.int .i64 0) 5 [(0, (.c (.int .i64 (-1))), .copy), (1, (.c (.int .i64 0)), .copy), (2, (.c (.int .i64 1)), .copy), (3, (.v 59), .copy), (4, (.v 63), .copy)]),
                   (none, .call (some 65) 4 true [((.v 54), true), ((.v 64), false)]),
                   (none, .iadr 66 1 (.v 53) (.c (.int .i64 0))),
                   (none, .store 1 (.v 66) (.v 65) .copy)])
                 (.skip [6, 7, 8])))
               (.skip [6, 7, 8])))))))
         (.seq
          (.region [(69, 8, false), (68, 7, false)] [] [2, 3, 4] false [
            (none, .mv 67 (.v 6)),
            (none, .mv 68 (.v 7)),
            (none, .mv 69 (.v 8)),
            (none, .asg 2 (.v 67) .copy),
            (none, .asg 3 (.v 68) .move),
            (none, .asg 4 (.v 69) .move)])
          (.ret [2, 3, 4])))))))))⟩
def F708 : PFunc :=
 ⟨[true], [.tmp 2],
  (.seq
   (.region [] [] [0] false [
     (none, .asg 2 (.c (.int .i64 0)) .copy)])
   (.seq
    (.seq
     (.region [(3, 0, false)] [] [0, 4] false [
       (none, .mv 3 (.v 0)),
       (none, .call (some 4) 6 true [((.v 3), true), ((.c (.int .i64 10)), false)])])
     (.cond (.v 4)
      (.seq
       (.region [(5, 0, false)] [] [0, 2] false [
         (none, .mv 5 (.v 0)),
         (none, .mksl 6 1 (.int .i64 0) 5 [(0, (.c (.int .i64 (-1))), .copy), (1, (.c (.int .i64 0)), .copy), (2, (.c (.int .i64 100000)), .copy), (3, (.c (.int .i64 100001)), .copy), (4, (.c (.int .i64 (-9223372036854775808))), .copy)]),
         (none, .call (some 7) 4 true [((.v 5), true), ((.v 6), false)]),
         (none, .asg 2 (.v 7) .copy)])
       (.ret [0, 2]))
      (.skip [0])))
    (.seq
     (.region [(8, 0, false)] [] [0, 2] false [
       (none, .mv 8 (.v 0)),
       (none, .call (some 9) 7 true [((.v 8), true), ((.c (.int .i64 400)), false)]),
       (none, .asg 2 (.v 9) .copy)])
     (.ret [0, 2]))))⟩
def F487 : PFunc :=
 ⟨[false], [.tmp 2, .tmp 3, .tmp 4],
  (.seq
   (.region [] [] [0] false [
     (none, .asg 2 (.c (.int .i64 0)) .copy),
     (none, .asg 3 (.c (.sl true 2 [])) .copy),
     (none, .asg 4 (.c (.int .i64 0)) .copy)])
   (.seq
    (.region [(8, 0, false)] [] [5] false [
      (none, .mv 8 (.v 0)),
      (none, .call (some 9) 603 true [((.v 8), false)]),
      (none, .asg 5 (.v 9) .move)])
    (.seq
     (.region [(11, 5, false)] [] [5, 6, 7] false [
       (none, .mv 11 (.v 5)),
       (none, .call (some 12) 707 true [((.v 11), true)]),
       (none, .asg 10 (.v 12) .move),
       (none, .extp 13 (.v 10) 0),
       (none, .ext 14 (.v 10) 1),
       (none, .asg 6 (.v 13) .copy),
       (none, .asg 7 (.v 14) .move)])
     (.seq
      (.region [(17, 5, false), (16, 7, false)] [] [2, 3, 4] false [
        (none, .mv 15 (.v 6)),
        (none, .mv 16 (.v 7)),
        (none, .mv 17 (.v 5)),
        (none, .call (some 18) 708 true [((.v 17), true)]),
        (none, .asg 2 (.v 15) .copy),
        (none, .asg 3 (.v 16) .move),
        (none, .asg 4 (.v 18) .copy)])
      (.ret [2, 3, 4])))))⟩
def F520 : PFunc :=
 ⟨[false, false, false], [.tmp 6, .tmp 7],
  (.seq
   (.region [] [] [0, 1, 2] false [
     (none, .asg 6 (.c (.int .i64 0)) .copy),
     (none, .asg 7 (.c (.int .i64 0)) .copy)])
   (.seq
    (.seq
     (.region [(15, 1, false)] [] [1, 2, 17] false [
       (none, .mv 14 (.v 0)),
       (none, .mv 15 (.v 1)),
       (none, .call (some 16) 711 false [((.v 14), false), ((.v 15), false)]),
       (none, .un 17 .not (.v 16))])
     (.cond (.v 17)
      (.seq
       (.region [] [] [6, 7] false [
         (none, .asg 6 (.c (.int .i64 0)) .copy),
         (none, .asg 7 (.c (.int .i64 1)) .copy)])
       (.ret [6, 7]))
      (.skip [1, 2])))
    (.seq
     (.seq
      (.region [(20, 1, false), (18, 2, false)] [] [1, 2, 22] false [
        (none, .mv 18 (.v 2)),
        (none, .len 19 false (.v 18)),
        (none, .mv 20 (.v 1)),
        (none, .len 21 false (.v 20)),
        (none, .bin 22 .neq (.v 19) (.v 21))])
      (.cond (.v 22)
       (.seq
        (.region [] [] [6, 7] false [
          (none, .asg 6 (.c (.int .i64 0)) .copy),
          (none, .asg 7 (.c (.int .i64 2)) .copy)])
        (.ret [6, 7]))
       (.skip [1, 2])))
     (.seq
      (.seq
       (.region [] [] [1, 2, 8] false [
         (none, .asg 8 (.c (.int .i64 0)) .copy)])
       (.block 0
        (.loop
         (.seq
          (.seq
           (.region [(24, 2, false)] [] [1, 2, 8, 26] false [
             (none, .mv 23 (.v 8)),
             (none, .mv 24 (.v 2)),
             (none, .len 25 false (.v 24)),
             (none, .bin 26 .lss (.v 23) (.v 25))])
           (.cond (.v 26)
            (.skip [1, 2, 8])
            (.exit 0 [1, 2])))
          (.seq
           (.block 1
            (.seq
             (.region [(36, 1, false), (35, 1, false), (33, 1, false), (31, 2, false), (29, 2, false)] [] [1, 2, 8, 40] true [
               (none, .mv 29 (.v 2)),
               (none, .mv 30 (.v 8)),
               (none, .iadr 31 1 (.v 29) (.v 30)),
               (none, .load 32 false 1 (.v 31) none),
               (none, .mv 33 (.v 1)),
               (none, .mv 34 (.v 8)),
               (none, .iadr 35 2 (.v 33) (.v 34)),
               (none, .fadr 36 0 1 (.v 35)),
               (none, .load 37 false 1 (.v 36) none),
               (none, .bin 38 .sub (.v 37) (.c (.int .i64 1))),
               (none, .call (some 39) 605 false [((.v 32), false), ((.c (.int .i64 0)), false), ((.v 38), false)]),
               (none, .un 40 .not (.v 39))])
             (.cond (.v 40)
              (.seq
               (.region [] [] [6, 7] false [
                 (none, .asg 6 (.c (.int .i64 0)) .copy),
                 (none, .asg 7 (.c (.int .i64 2)) .copy)])
               (.ret [6, 7]))
              (.skip [1, 2, 8]))))
           (.region [] [] [1, 2, 8] false [
             (none, .mv 27 (.v 8)),
             (none, .bin 28 .add (.v 27) (.c (.int .i64 1))),
             (none, .asg 8 (.v 28) .copy)]))))))
      (.seq
       (.seq
        (.region [(41, 1, false)] [] [1, 2, 43] false [
          (none, .mv 41 (.v 1)),
          (none, .call (some 42) 715 false [((.v 41), false)]),
          (none, .bin 43 .eql (.v 42) (.c (.int .i64 0)))])
        (.cond (.v 43)
         (.seq
          (.region [] [] [6, 7] false [
            (none, .asg 6 (.c (.int .i64 0)) .copy),
            (none, .asg 7 (.c (.int .i64 5)) .copy)])
          (.ret [6, 7]))
         (.skip [1, 2])))
       (.seq
        (.region [] [] [1, 2, 9] false [
          (none, .asg 9 (.c (.int .i64 0)) .copy)])
        (.seq
         (.region [] [] [1, 2, 9, 10] false [
           (none, .asg 10 (.c (.int .i64 1)) .copy)])
         (.seq
          (.seq
           (.region [] [] [1, 2, 9, 10, 11] false [
             (none, .asg 11 (.c (.int .i64 0)) .copy)])
           (.block 2
            (.loop
             (.seq
              (.seq
               (.region [(45, 1, false)] [] [1, 2, 9, 10, 11, 47] false [
                 (none, .mv 44 (.v 11)),
                 (none, .mv 45 (.v 1)),
                 (none, .len 46 false (.v 45)),
                 (none, .bin 47 .lss (.v 44) (.v 46))])
               (.cond (.v 47)
                (.skip [1, 2, 9, 10, 11])
                (.exit 2 [9])))
              (.seq
               (.block 3
                (.seq
                 (.region [] [] [1, 2, 9, 10, 11, 12] false [
                   (none, .asg 12 (.c (.bool false)) .copy)])
                 (.seq
                  (.seq
                   (.region [] [] [1, 2, 9, 10, 11, 12, 13] false [
                     (none, .asg 13 (.c (.int .i64 0)) .copy)])
                   (.block 4
                    (.loop
                     (.seq
                      (.seq
                       (.region [(54, 1, false), (53, 1, false), (51, 1, false)] [] [1, 2, 9, 10, 11, 12, 13, 60] false [
                         (none, .mv 50 (.v 13)),
                         (none, .mv 51 (.v 1)),
                         (none, .mv 52 (.v 11)),
                         (none, .iadr 53 2 (.v 51) (.v 52)),
                         (none, .fadr 54 0 1 (.v 53)),
                         (none, .load 55 false 1 (.v 54) none),
                         (none, .bin 56 .lss (.v 50) (.v 55)),
                         (none, .mv 57 (.v 56)),
                         (some (57, true), .mv 58 (.v 12)),
                         (some (57, true), .un 59 .not (.v 58)),
                         (none, .pick 60 (.v 57) (.v 59) (.c (.bool false)))])
                       (.cond (.v 60)
                        (.skip [1, 2, 9, 10, 11, 12, 13])
                        (.exit 4 [1, 2, 9, 10, 11, 12])))
                      (.seq
                       (.block 5
                        (.seq
                         (.region [(70, 2, false), (68, 2, false), (65, 1, false), (63, 1, false)] [] [1, 2, 9, 10, 11, 12, 13, 72] true [
                           (none, .mv 63 (.v 1)),
                           (none, .mv 64 (.v 11)),
                           (none, .iadr 65 2 (.v 63) (.v 64)),
                           (none, .mv 66 (.v 9)),
                           (none, .call (some 67) 714 false [((.v 65), false), ((.v 66), false)]),
                           (none, .mv 68 (.v 2)),
                           (none, .mv 69 (.v 11)),
                           (none, .iadr 70 1 (.v 68) (.v 69)),
                           (none, .load 71 false 1 (.v 70) none),
                           (none, .bin 72 .eql (.v 67) (.v 71))])
                         (.cond (.v 72)
                          (.region [] [] [1, 2, 9, 10, 11, 12, 13] false [
                            (none, .asg 12 (.c (.bool true)) .copy)])
                          (.region [] [] [1, 2, 9, 10, 11, 12, 13] false [
                            (none, .mv 73 (.v 9)),
                            (none, .mv 74 (.v 10)),
                            (none, .bin 75 .add (.v 73) (.v 74)),
                            (none, .asg 9 (.v 75) .copy)]))))
                       (.region [] [] [1, 2, 9, 10, 11, 12, 13] false [
                         (none, .mv 61 (.v 13)),
                         (none, .bin 62 .add (.v 61) (.c (.int .i64 1))),
                         (none, .asg 13 (.v 62) .copy)]))))))
                  (.seq
                   (.seq
                    (.region [] [] [1, 2, 9, 10, 11, 77] false [
                      (none, .mv 76 (.v 12)),
                      (none, .un 77 .not (.v 76))])
                    (.cond (.v 77)
                     (.seq
                      (.region [] [] [6, 7] false [
                        (none, .asg 6 (.c (.int .i64 0)) .copy),
                        (none, .asg 7 (.c (.int .i64 3)) .copy)])
                      (.ret [6, 7]))
                     (.skip [1, 2, 9, 10, 11])))
                   (.region [(90, 1, false), (89, 1, false), (87, 1, false), (83, 1, false), (82, 1, false), (80, 1, false)] [] [1, 2, 9, 10, 11] true [
                     (none, .mv 78 (.v 10)),
                     (none, .mv 79 (.v 10)),
                     (none, .mv 80 (.v 1)),
                     (none, .mv 81 (.v 11)),
                     (none, .iadr 82 2 (.v 80) (.v 81)),
                     (none, .fadr 83 0 1 (.v 82)),
                     (none, .load 84 false 1 (.v 83) none),
                     (none, .call (some 85) 604 false [((.v 79), false), ((.v 84), false)]),
                     (none, .bin 86 .quo (.v 78) (.v 85)),
                     (none, .mv 87 (.v 1)),
                     (none, .mv 88 (.v 11)),
                     (none, .iadr 89 2 (.v 87) (.v 88)),
                     (none, .fadr 90 0 1 (.v 89)),
                     (none, .load 91 false 1 (.v 90) none),
                     (none, .bin 92 .mul (.v 86) (.v 91)),
                     (none, .asg 10 (.v 92) .copy)])))))
               (.region [] [] [1, 2, 9, 10, 11] false [
                 (none, .mv 48 (.v 11)),
                 (none, .bin 49 .add (.v 48) (.c (.int .i64 1))),
                 (none, .asg 11 (.v 49) .copy)]))))))
          (.seq
           (.region [] [] [6, 7] false [
             (none, .mv 93 (.v 9)),
             (none, .asg 6 (.v 93) .copy),
             (none, .asg 7 (.c (.int .i64 0)) .copy)])
           (.ret [6, 7]))))))))))⟩
def F710 : PFunc :=
 ⟨[false], [.tmp 2],
  (.seq
   (.region [] [] [0] false [
     (none, .asg 2 (.c (.bool false)) .copy)])
   (.seq
    (.region [] [] [2] false [
      (none, .mv 3 (.v 0)),
      (none, .call (some 4) 605 false [((.v 3), false), ((.c (.int .i64 0)), false), ((.c (.int .i64 100000)), false)]),
      (none, .asg 2 (.v 4) .copy)])
    (.ret [2])))⟩
def F553 : PFunc :=
 ⟨[false, false, false], [.tmp 6, .tmp 7],
  (.seq
   (.region [] [] [0, 1, 2] false [
     (none, .asg 6 (.c (.sl true 1 [])) .copy),
     (none, .asg 7 (.c (.int .i64 0)) .copy)])
   (.seq
    (.seq
     (.region [(11, 1, false)] [] [1, 2, 13] false [
       (none, .mv 10 (.v 0)),
       (none, .mv 11 (.v 1)),
       (none, .call (some 12) 711 false [((.v 10), false), ((.v 11), false)]),
       (none, .un 13 .not (.v 12))])
     (.cond (.v 13)
      (.seq
       (.region [] [] [6, 7] false [
         (none, .asg 6 (.c (.sl true 1 [])) .copy),
         (none, .asg 7 (.c (.int .i64 1)) .copy)])
       (.ret [6, 7]))
      (.skip [1, 2])))
    (.seq
     (.seq
      (.region [] [] [1, 2, 16] false [
        (none, .mv 14 (.v 2)),
        (none, .call (some 15) 710 false [((.v 14), false)]),
        (none, .un 16 .not (.v 15))])
      (.cond (.v 16)
       (.seq
        (.region [] [] [6, 7] false [
          (none, .asg 6 (.c (.sl true 1 [])) .copy),
          (none, .asg 7 (.c (.int .i64 2)) .copy)])
        (.ret [6, 7]))
       (.skip [1, 2])))
     (.seq
      (.region [] [] [1, 2, 8] false [
        (none, .mksl 17 1 (.int .i64 0) 0 []),
        (none, .asg 8 (.v 17) .move)])
      (.seq
       (.seq
        (.region [] [] [1, 2, 8, 9] false [
          (none, .asg 9 (.c (.int .i64 0)) .copy)])
        (.block 0
         (.loop
          (.seq
           (.seq
            (.region [(19, 1, false)] [] [1, 2, 8, 9, 21] false [
              (none, .mv 18 (.v 9)),
              (none, .mv 19 (.v 1)),
              (none, .len 20 false (.v 19)),
              (none, .bin 21 .lss (.v 18) (.v 20))])
            (.cond (.v 21)
             (.skip [1, 2, 8, 9])
             (.exit 0 [8])))
           (.seq
            (.block 1
             (.region [(27, 1, false), (25, 1, false), (24, 8, false)] [] [1, 2, 8, 9] false [
               (none, .mv 24 (.v 8)),
               (none, .mv 25 (.v 1)),
               (none, .mv 26 (.v 9)),
               (none, .iadr 27 2 (.v 25) (.v 26)),
               (none, .mv 28 (.v 2)),
               (none, .call (some 29) 714 false [((.v 27), false), ((.v 28), false)]),
               (none, .mksl 30 1 (.int .i64 0) 1 [(0, (.v 29), .copy)]),
               (none, .app 31 1 (.v 24) (.v 30) .move),
               (none, .asg 8 (.v 31) .move)]))
            (.region [] [] [1, 2, 8, 9] false [
              (none, .mv 22 (.v 9)),
              (none, .bin 23 .add (.v 22) (.c (.int .i64 1))),
              (none, .asg 9 (.v 23) .copy)]))))))
       (.seq
        (.region [(32, 8, false)] [] [6, 7] false [
          (none, .mv 32 (.v 8)),
          (none, .asg 6 (.v 32) .move),
          (none, .asg 7 (.c (.int .i64 0)) .copy)])
        (.ret [6, 7])))))))⟩
def F598 : PFunc :=
 ⟨[false, false], [.tmp 4],
  (.seq
   (.region [] [] [0, 1] false [
     (none, .asg 4 (.c (.bool false)) .copy)])
   (.seq
    (.region [(6, 1, false)] [] [4] false [
      (none, .mv 5 (.v 0)),
      (none, .mv 6 (.v 1)),
      (none, .call (some 7) 711 false [((.v 5), false), ((.v 6), false)]),
      (none, .asg 4 (.v 7) .copy)])
    (.ret [4])))⟩
def F371 : PFunc :=
 ⟨[false], [.tmp 2],
  (.seq
   (.region [] [] [0] false [
     (none, .asg 2 (.c (.bool false)) .copy)])
   (.seq
    (.seq
     (.region [(34, 0, false)] [] [0, 35] false [
       (none, .mv 34 (.v 0)),
       (none, .call (some 35) 398 false [((.v 34), false)])])
     (.cond (.v 35)
      (.seq
       (.region [] [] [2] false [
         (none, .asg 2 (.c (.bool true)) .copy)])
       (.ret [2]))
      (.skip [0])))
    (.seq
     (.region [(37, 0, false)] [] [0, 3, 4, 5] false [
       (none, .mv 37 (.v 0)),
       (none, .call (some 38) 472 false [((.v 37), false)]),
       (none, .asg 36 (.v 38) .move),
       (none, .extp 39 (.v 36) 0),
       (none, .ext 40 (.v 36) 1),
       (none, .ext 41 (.v 36) 2),
       (none, .asg 3 (.v 39) .copy),
       (none, .asg 4 (.v 40) .move),
       (none, .asg 5 (.v 41) .move)])
     (.seq
      (.region [(45, 5, false), (44, 4, false)] [] [0, 3, 4, 5, 6, 7] false [
        (none, .mv 43 (.v 3)),
        (none, .mv 44 (.v 4)),
        (none, .mv 45 (.v 5)),
        (none, .call (some 46) 94 false [((.v 43), false), ((.v 44), false), ((.v 45), false)]),
        (none, .asg 42 (.v 46) .copy),
        (none, .extp 47 (.v 42) 0),
        (none, .extp 48 (.v 42) 1),
        (none, .asg 6 (.v 47) .copy),
        (none, .asg 7 (.v 48) .copy)])
      (.seq
       (.region [(52, 5, false), (51, 4, false)] [] [0, 3, 4, 5, 6, 7, 8, 9] false [
         (none, .mv 50 (.v 3)),
         (none, .mv 51 (.v 4)),
         (none, .mv 52 (.v 5)),
         (none, .call (some 53) 520 false [((.v 50), false), ((.v 51), false), ((.v 52), false)]),
         (none, .asg 49 (.v 53) .copy),
         (none, .extp 54 (.v 49) 0),
         (none, .extp 55 (.v 49) 1),
         (none, .asg 8 (.v 54) .copy),
         (none, .asg 9 (.v 55) .copy)])
       (.seq
        (.region [(58, 4, false)] [] [0, 3, 4, 5, 6, 7, 8, 9, 10, 11] false [
          (none, .mv 57 (.v 3)),
          (none, .mv 58 (.v 4)),
          (none, .call (some 59) 168 false [((.v 57), false), ((.v 58), false)]),
          (none, .asg 56 (.v 59) .copy),
          (none, .extp 60 (.v 56) 0),
          (none, .extp 61 (.v 56) 1),
          (none, .asg 10 (.v 60) .copy),
          (none, .asg 11 (.v 61) .copy)])
        (.seq
         (.region [(64, 4, false)] [] [0, 3, 4, 5, 6, 7, 8, 9, 10, 11, 12, 13] false [
           (none, .mv 63 (.v 3)),
           (none, .mv 64 (.v 4)),
           (none, .call (some 65) 557 false [((.v 63), false), ((.v 64), false)]),
           (none, .asg 62 (.v 65) .copy),
           (none, .extp 66 (.v 62) 0),
           (none, .extp 67 (.v 62) 1),
           (none, .asg 12 (.v 66) .copy),
           (none, .asg 13 (.v 67) .copy)])
         (.seq
          (.region [(70, 4, false)] [] [0, 3, 4, 5, 6, 7, 8, 9, 10, 11, 12, 13, 14, 15] false [
            (none, .mv 69 (.v 3)),
            (none, .mv 70 (.v 4)),
            (none, .call (some 71) 71 false [((.v 69), false), ((.v 70), false)]),
            (none, .asg 68 (.v 71) .copy),
            (none, .extp 72 (.v 68) 0),
            (none, .extp 73 (.v 68) 1),
            (none, .asg 14 (.v 72) .copy),
            (none, .asg 15 (.v 73) .copy)])
          (.seq
           (.region [(76, 4, false)] [] [0, 3, 4, 5, 6, 7, 8, 9, 10, 11, 12, 13, 14, 15, 16, 17] false [
             (none, .mv 75 (.v 3)),
             (none, .mv 76 (.v 4)),
             (none, .call (some 77) 452 false [((.v 75), false), ((.v 76), false)]),
             (none, .asg 74 (.v 77) .copy),
             (none, .extp 78 (.v 74) 0),
             (none, .extp 79 (.v 74) 1),
             (none, .asg 16 (.v 78) .copy),
             (none, .asg 17 (.v 79) .copy)])
           (.seq
            (.region [(81, 0, false)] [] [3, 4, 5, 6, 7, 8, 9, 10, 11, 12, 13, 14, 15, 16, 17, 18, 19, 20] false [
              (none, .mv 81 (.v 0)),
              (none, .call (some 82) 487 false [((.v 81), false)]),
              (none, .asg 80 (.v 82) .move),
              (none, .extp 83 (.v 80) 0),
              (none, .ext 84 (.v 80) 1),
              (none, .extp 85 (.v 80) 2),
              (none, .asg 18 (.v 83) .copy),
              (none, .asg 19 (.v 84) .move),
              (none, .asg 20 (.v 85) .copy)])
            (.seq
             (.region [(88, 19, false)] [] [3, 4, 5, 6, 7, 8, 9, 10, 11, 12, 13, 14, 15, 16, 17, 18, 19, 20, 21, 22] false [
               (none, .mv 87 (.v 18)),
               (none, .mv 88 (.v 19)),
               (none, .mv 89 (.v 20)),
               (none, .call (some 90) 162 false [((.v 87), false), ((.v 88), false), ((.v 89), false)]),
               (none, .asg 86 (.v 90) .move),
               (none, .ext 91 (.v 86) 0),
               (none, .extp 92 (.v 86) 1),
               (none, .asg 21 (.v 91) .move),
               (none, .asg 22 (.v 92) .copy)])
             (.seq
              (.region [(95, 19, false)] [] [3, 4, 5, 6, 7, 8, 9, 10, 11, 12, 13, 14, 15, 16, 17, 19, 21, 22, 23, 24] false [
                (none, .mv 94 (.v 18)),
                (none, .mv 95 (.v 19)),
                (none, .mv 96 (.v 20)),
                (none, .call (some 97) 553 false [((.v 94), false), ((.v 95), false), ((.v 96), false)]),
                (none, .asg 93 (.v 97) .move),
                (none, .ext 98 (.v 93) 0),
                (none, .extp 99 (.v 93) 1),
                (none, .asg 23 (.v 98) .move),
                (none, .asg 24 (.v 99) .copy)])
              (.seq
               (.seq
                (.region [(144, 4, false), (141, 4, false), (135, 23, false), (134, 21, false)] [] [3, 4, 5, 7, 8, 11, 12, 16, 19, 22, 23, 147] false [
                  (none, .mv 100 (.v 7)),
                  (none, .mv 101 (.v 9)),
                  (none, .bin 102 .neq (.v 100) (.v 101)),
                  (none, .mv 103 (.v 102)),
                  (some (103, false), .mv 104 (.v 6)),
                  (some (103, false), .mv 105 (.v 8)),
                  (some (103, false), .bin 106 .neq (.v 104) (.v 105)),
                  (none, .pick 107 (.v 103) (.c (.bool true)) (.v 106)),
                  (none, .mv 108 (.v 107)),
                  (some (108, false), .mv 109 (.v 11)),
                  (some (108, false), .mv 110 (.v 13)),
                  (some (108, false), .bin 111 .neq (.v 109) (.v 110)),
                  (none, .pick 112 (.v 108) (.c (.bool true)) (.v 111)),
                  (none, .mv 113 (.v 112)),
                  (some (113, false), .mv 114 (.v 10)),
                  (some (113, false), .mv 115 (.v 12)),
                  (some (113, false), .bin 116 .neq (.v 114) (.v 115)),
                  (none, .pick 117 (.v 113) (.c (.bool true)) (.v 116)),
                  (none, .mv 118 (.v 117)),
                  (some (118, false), .mv 119 (.v 15)),
                  (some (118, false), .mv 120 (.v 17)),
                  (some (118, false), .bin 121 .neq (.v 119) (.v 120)),
                  (none, .pick 122 (.v 118) (.c (.bool true)) (.v 121)),
                  (none, .mv 123 (.v 122)),
                  (some (123, false), .mv 124 (.v 14)),
                  (some (123, false), .mv 125 (.v 16)),
                  (some (123, false), .bin 126 .neq (.v 124) (.v 125)),
                  (none, .pick 127 (.v 123) (.c (.bool true)) (.v 126)),
                  (none, .mv 128 (.v 127)),
                  (some (128, false), .mv 129 (.v 22)),
                  (some (128, false), .mv 130 (.v 24)),
                  (some (128, false), .bin 131 .neq (.v 129) (.v 130)),
                  (none, .pick 132 (.v 128) (.c (.bool true)) (.v 131)),
                  (none, .mv 133 (.v 132)),
                  (some (133, false), .mv 134 (.v 21)),
                  (some (133, false), .mv 135 (.v 23)),
                  (some (133, false), .call (some 136) 400 false [((.v 134), false), ((.v 135), false)]),
                  (some (133, false), .un 137 .not (.v 136)),
                  (none, .pick 138 (.v 133) (.c (.bool true)) (.v 137)),
                  (none, .mv 139 (.v 138)),
                  (some (139, false), .mv 140 (.v 3)),
                  (some (139, false), .mv 141 (.v 4)),
                  (some (139, false), .call (some 142) 236 false [((.v 140), false), ((.v 141), false)]),
                  (some (139, false), .mv 143 (.v 3)),
                  (some (139, false), .mv 144 (.v 4)),
                  (some (139, false), .call (some 145) 598 false [((.v 143), false), ((.v 144), false)]),
                  (some (139, false), .eqb 146 true (.v 142) (.v 145)),
                  (none, .pick 147 (.v 139) (.c (.bool true)) (.v 146))])
                (.cond (.v 147)
                 (.seq
                  (.region [] [] [2] false [
                    (none, .asg 2 (.c (.bool false)) .copy)])
                  (.ret [2]))
                 (.skip [3, 4, 5, 7, 8, 11, 12, 16, 19, 22, 23])))
               (.seq
                (.seq
                 (.region [] [] [3, 4, 5, 7, 8, 12, 16, 19, 22, 23, 153] false [
                   (none, .mv 148 (.v 11)),
                   (none, .bin 149 .eql (.v 148) (.c (.int .i64 0))),
                   (none, .mv 150 (.v 149)),
                   (some (150, true), .mv 151 (.v 12)),
                   (some (150, true), .bin 152 .leq (.v 151) (.c (.int .i64 100000))),
                   (none, .pick 153 (.v 150) (.v 152) (.c (.bool false)))])
                 (.cond (.v 153)
                  (.seq
                   (.region [(156, 4, false)] [] [3, 4, 5, 7, 8, 12, 16, 19, 22, 23, 25, 26] false [
                     (none, .mv 155 (.v 3)),
                     (none, .mv 156 (.v 4)),
                     (none, .mv 157 (.v 12)),
                     (none, .call (some 158) 162 false [((.v 155), false), ((.v 156), false), ((.v 157), false)]),
                     (none, .asg 154 (.v 158) .move),
                     (none, .ext 159 (.v 154) 0),
                     (none, .extp 160 (.v 154) 1),
                     (none, .asg 25 (.v 159) .move),
                     (none, .asg 26 (.v 160) .copy)])
                   (.seq
                    (.seq
                     (.region [] [] [3, 4, 5, 7, 8, 12, 19, 22, 23, 25, 167] false [
                       (none, .mv 161 (.v 26)),
                       (none, .bin 162 .neq (.v 161) (.c (.int .i64 0))),
                       (none, .mv 163 (.v 162)),
                       (some (163, false), .mv 164 (.v 16)),
                       (some (163, false), .mv 165 (.v 12)),
                       (some (163, false), .bin 166 .neq (.v 164) (.v 165)),
                       (none, .pick 167 (.v 163) (.c (.bool true)) (.v 166))])
                     (.cond (.v 167)
                      (.seq
                       (.region [] [] [2] false [
                         (none, .asg 2 (.c (.bool false)) .copy)])
                       (.ret [2]))
                      (.skip [3, 4, 5, 7, 8, 12, 19, 22, 23, 25])))
                    (.seq
                     (.region [] [] [3, 4, 5, 7, 8, 12, 19, 22, 23, 25, 27] false [
                       (none, .asg 27 (.c (.int .i64 0)) .copy)])
                     (.block 0
                      (.loop
                       (.seq
                        (.seq
                         (.region [(169, 25, false)] [] [3, 4, 5, 7, 8, 12, 19, 22, 23, 25, 27, 171] false [
                           (none, .mv 168 (.v 27)),
                           (none, .mv 169 (.v 25)),
                           (none, .len 170 false (.v 169)),
                           (none, .bin 171 .lss (.v 168) (.v 170))])
                         (.cond (.v 171)
                          (.skip [3, 4, 5, 7, 8, 12, 19, 22, 23, 25, 27])
                          (.exit 0 [3, 4, 5, 7, 8, 12, 19, 22, 23])))
                        (.seq
                         (.block 1
                          (.seq
                           (.region [(176, 25, false), (174, 25, false)] [] [3, 4, 5, 7, 8, 12, 19, 22, 23, 25, 27, 178] false [
                             (none, .mv 174 (.v 25)),
                             (none, .mv 175 (.v 27)),
                             (none, .iadr 176 1 (.v 174) (.v 175)),
                             (none, .load 177 false 1 (.v 176) none),
                             (none, .bin 178 .neq (.v 177) (.c (.int .i64 0)))])
                           (.cond (.v 178)
                            (.seq
                             (.region [] [] [2] false [
                               (none, .asg 2 (.c (.bool false)) .copy)])
                             (.ret [2]))
                            (.skip [3, 4, 5, 7, 8, 12, 19, 22, 23, 25, 27]))))
                         (.region [] [] [3, 4, 5, 7, 8, 12, 19, 22, 23, 25, 27] false [
                           (none, .mv 172 (.v 27)),
                           (none, .bin 173 .add (.v 172) (.c (.int .i64 1))),
                           (none, .asg 27 (.v 173) .copy)]))))))))
                  (.skip [3, 4, 5, 7, 8, 12, 19, 22, 23])))
                (.seq
                 (.seq
                  (.region [] [] [3, 4, 5, 7, 8, 12, 19, 23, 180] false [
                    (none, .mv 179 (.v 22)),
                    (none, .bin 180 .eql (.v 179) (.c (.int .i64 0)))])
                  (.cond (.v 180)
                   (.seq
                    (.region [] [] [3, 4, 5, 7, 8, 12, 19, 23, 28] false [
                      (none, .asg 28 (.c (.int .i64 0)) .copy)])
                    (.block 2
                     (.loop
                      (.seq
                       (.seq
                        (.region [(182, 23, false)] [] [3, 4, 5, 7, 8, 12, 19, 23, 28, 184] false [
                          (none, .mv 181 (.v 28)),
                          (none, .mv 182 (.v 23)),
                          (none, .len 183 false (.v 182)),
                          (none, .bin 184 .lss (.v 181) (.v 183))])
                        (.cond (.v 184)
                         (.skip [3, 4, 5, 7, 8, 12, 19, 23, 28])
                         (.exit 2 [3, 4, 5, 7, 8, 12])))
                       (.seq
                        (.block 3
                         (.seq
                          (.region [(200, 19, false), (199, 19, false), (197, 19, false), (195, 23, false), (193, 23, false), (189, 23, false), (187, 23, false)] [] [3, 4, 5, 7, 8, 12, 19, 23, 28, 203] true [
                            (none, .mv 187 (.v 23)),
                            (none, .mv 188 (.v 28)),
                            (none, .iadr 189 1 (.v 187) (.v 188)),
                            (none, .load 190 false 1 (.v 189) none),
                            (none, .bin 191 .lss (.v 190) (.c (.int .i64 0))),
                            (none, .mv 192 (.v 191)),
                            (some (192, false), .mv 193 (.v 23)),
                            (some (192, false), .mv 194 (.v 28)),
                            (some (192, false), .iadr 195 1 (.v 193) (.v 194)),
                            (some (192, false), .load 196 false 1 (.v 195) none),
                            (some (192, false), .mv 197 (.v 19)),
                            (some (192, false), .mv 198 (.v 28)),
                            (some (192, false), .iadr 199 2 (.v 197) (.v 198)),
                            (some (192, false), .fadr 200 0 1 (.v 199)),
                            (some (192, false), .load 201 false 1 (.v 200) none),
                            (some (192, false), .bin 202 .geq (.v 196) (.v 201)),
                            (none, .pick 203 (.v 192) (.c (.bool true)) (.v 202))])
                          (.cond (.v 203)
                           (.seq
                            (.region [] [] [2] false [
                              (none, .asg 2 (.c (.bool false)) .copy)])
                            (.ret [2]))
                           (.skip [3, 4, 5, 7, 8, 12, 19, 23, 28]))))
                        (.region [] [] [3, 4, 5, 7, 8, 12, 19, 23, 28] false [
                          (none, .mv 185 (.v 28)),
                          (none, .bin 186 .add (.v 185) (.c (.int .i64 1))),
                          (none, .asg 28 (.v 186) .copy)]))))))
                   (.skip [3, 4, 5, 7, 8, 12])))
                 (.seq
                  (.seq
                   (.region [] [] [3, 4, 5, 7, 8, 12, 205] false [
                     (none, .mv 204 (.v 7)),
                     (none, .bin 205 .eql (.v 204) (.c (.int .i64 3)))])
                   (.cond (.v 205)
                    (.seq
                     (.region [] [] [3, 4, 5, 7, 8, 12, 29] false [
                       (none, .asg 29 (.c (.int .i64 0)) .copy)])
                     (.block 4
                      (.loop
                       (.seq
                        (.seq
                         (.region [] [] [3, 4, 5, 7, 8, 12, 29, 209] false [
                           (none, .mv 206 (.v 29)),
                           (none, .mv 207 (.v 12)),
                           (none, .mm 208 false (.v 207) [(.c (.int .i64 300))]),
                           (none, .bin 209 .lss (.v 206) (.v 208))])
                         (.cond (.v 209)
                          (.skip [3, 4, 5, 7, 8, 12, 29])
                          (.exit 4 [3, 4, 5, 7, 8, 12])))
                        (.seq
                         (.block 5
                          (.seq
                           (.region [(214, 4, false)] [] [3, 4, 5, 7, 8, 12, 29, 30, 31] false [
                             (none, .mv 213 (.v 3)),
                             (none, .mv 214 (.v 4)),
                             (none, .mv 215 (.v 29)),
                             (none, .call (some 216) 553 false [((.v 213), false), ((.v 214), false), ((.v 215), false)]),
                             (none, .asg 212 (.v 216) .move),
                             (none, .ext 217 (.v 212) 0),
                             (none, .extp 218 (.v 212) 1),
                             (none, .asg 30 (.v 217) .move),
                             (none, .asg 31 (.v 218) .copy)])
                           (.seq
                            (.region [(223, 5, false), (222, 30, false)] [] [3, 4, 5, 7, 8, 12, 29, 225] false [
                              (none, .mv 219 (.v 31)),
                              (none, .bin 220 .eql (.v 219) (.c (.int .i64 0))),
                              (none, .mv 221 (.v 220)),
                              (some (221, true), .mv 222 (.v 30)),
                              (some (221, true), .mv 223 (.v 5)),
                              (some (221, true), .call (some 224) 400 false [((.v 222), false), ((.v 223), false)]),
                              (none, .pick 225 (.v 221) (.v 224) (.c (.bool false)))])
                            (.cond (.v 225)
                             (.seq
                              (.region [] [] [2] false [
                                (none, .asg 2 (.c (.bool false)) .copy)])
                              (.ret [2]))
                             (.skip [3, 4, 5, 7, 8, 12, 29])))))
                         (.region [] [] [3, 4, 5, 7, 8, 12, 29] false [
                           (none, .mv 210 (.v 29)),
                           (none, .bin 211 .add (.v 210) (.c (.int .i64 1))),
                           (none, .asg 29 (.v 211) .copy)]))))))
                    (.skip [3, 4, 5, 7, 8, 12])))
                  (.seq
                   (.seq
                    (.region [] [] [3, 4, 5, 8, 12, 231] false [
                      (none, .mv 226 (.v 7)),
                      (none, .bin 227 .neq (.v 226) (.c (.int .i64 0))),
                      (none, .mv 228 (.v 227)),
                      (some (228, false), .mv 229 (.v 8)),
                      (some (228, false), .bin 230 .gtr (.v 229) (.c (.int .i64 100000))),
                      (none, .pick 231 (.v 228) (.c (.bool true)) (.v 230))])
                    (.cond (.v 231)
                     (.seq
                      (.region [] [] [2] false [
                        (none, .asg 2 (.c (.bool true)) .copy)])
                      (.ret [2]))
                     (.skip [3, 4, 5, 8, 12])))
                   (.seq
                    (.region [(234, 4, false)] [] [5, 8, 12, 32, 33] false [
                      (none, .mv 233 (.v 3)),
                      (none, .mv 234 (.v 4)),
                      (none, .mv 235 (.v 8)),
                      (none, .call (some 236) 162 false [((.v 233), false), ((.v 234), false), ((.v 235), false)]),
                      (none, .asg 232 (.v 236) .move),
                      (none, .ext 237 (.v 232) 0),
                      (none, .extp 238 (.v 232) 1),
                      (none, .asg 32 (.v 237) .move),
                      (none, .asg 33 (.v 238) .copy)])
                    (.seq
                     (.region [(243, 5, false), (242, 32, false)] [] [2] false [
                       (none, .mv 239 (.v 33)),
                       (none, .bin 240 .eql (.v 239) (.c (.int .i64 0))),
                       (none, .mv 241 (.v 240)),
                       (some (241, true), .mv 242 (.v 32)),
                       (some (241, true), .mv 243 (.v 5)),
                       (some (241, true), .call (some 244) 400 false [((.v 242), false), ((.v 243), false)]),
                       (none, .pick 245 (.v 241) (.v 244) (.c (.bool false))),
                       (none, .mv 246 (.v 245)),
                       (some (246, true), .mv 247 (.v 8)),
                       (some (246, true), .mv 248 (.v 12)),
                       (some (246, true), .bin 249 .lss (.v 247) (.v 248)),
                       (none, .pick 250 (.v 246) (.v 249) (.c (.bool false))),
                       (none, .asg 2 (.v 250) .copy)])
                     (.ret [2]))))))))))))))))))))⟩
def tabl : List (Nat × PFunc) := [(326, F326), (237, F237), (829, F829), (807, F807), (236, F236), (269, F269), (259, F259), (299, F299), (168, F168), (71, F71), (26, F26), (94, F94), (162, F162), (398, F398), (400, F400), (605, F605), (716, F716), (711, F711), (604, F604), (715, F715), (557, F557), (452, F452), (5, F5), (7, F7), (4, F4), (603, F603), (6, F6), (709, F709), (707, F707), (714, F714), (472, F472), (708, F708), (487, F487), (520, F520), (710, F710), (553, F553), (598, F598), (371, F371)]
def T : Nat → Option PFunc := tabOf tabl
end Go.Vs.G
