/- The functions that the law reaches, in the small language, printed by program. No conditions. -/
import Derived.Test.YtiefnapeghkjnaaDLLoops
import Derived.Test.YtiefnapeghkjnaaV4
set_option maxRecDepth 100000
open Go Go.Vs
namespace Go.Vs.G
def F326 : PFunc :=
 ⟨[false, false, false], [.tmp 6],
  (.seq
   (.region [] [] [0, 1, 2] false [
     (none, .asg 6 (.c (.bool false)) .copy)])
   (.seq
    (.region [] [] [6] false [
      (none, .mv 7 (.v 0)),
      (none, .mv 8 (.v 1)),
      (none, .bin 9 .geq (.v 7) (.v 8)),
      (none, .mv 10 (.v 9)),
      (some (10, true), .mv 11 (.v 0)),
      (some (10, true), .mv 12 (.v 2)),
      (some (10, true), .bin 13 .leq (.v 11) (.v 12)),
      (none, .pick 14 (.v 10) (.v 13) (.c (.bool false))),
      (none, .asg 6 (.v 14) .copy)])
    (.ret [6])))⟩
def F221 : PFunc :=
 ⟨[false], [.tmp 2],
  (.seq
   (.region [] [] [0] false [
     (none, .asg 2 (.c (.bool false)) .copy)])
   (.seq
    (.region [] [] [2] false [
      (none, .mv 3 (.v 0)),
      (none, .call (some 4) 326 false [((.v 3), false), ((.c (.int .i64 0)), false), ((.c (.int .i64 1000)), false)]),
      (none, .un 5 .not (.v 4)),
      (none, .asg 2 (.v 5) .copy)])
    (.ret [2])))⟩
def F818 : PFunc :=
 ⟨[false, false], [.tmp 4],
  (.seq
   (.region [] [] [0, 1] false [
     (none, .asg 4 (.c (.int .i64 0)) .copy)])
   (.seq
    (.seq
     (.region [(6, 0, false)] [] [0, 1, 7, 8] false [
       (none, .mv 6 (.v 0)),
       (none, .len 7 false (.v 6)),
       (none, .mv 8 (.c (.int .i64 0)))])
     (.block 0
      (.loop
       (.seq
        (.region [] [] [0, 1, 7, 8, 9] false [
          (none, .bin 9 .lss (.v 8) (.v 7))])
        (.seq
         (.cond (.v 9)
          (.skip [0, 1, 7, 8])
          (.exit 0 []))
         (.seq
          (.block 1
           (.seq
            (.region [] [] [0, 1, 5, 7, 8] false [
              (none, .mv 10 (.v 8)),
              (none, .asg 5 (.v 10) .copy)])
            (.seq
             (.region [(14, 0, false), (12, 0, false), (11, 1, false)] [] [0, 1, 5, 7, 8, 16] false [
               (none, .mv 11 (.v 1)),
               (none, .mv 12 (.v 0)),
               (none, .mv 13 (.v 5)),
               (none, .iadr 14 1 (.v 12) (.v 13)),
               (none, .load 15 false 1 (.v 14) none),
               (none, .callv (some 16) (.v 11) [(.v 15)])])
             (.cond (.v 16)
              (.seq
               (.region [] [] [4] false [
                 (none, .mv 17 (.v 5)),
                 (none, .asg 4 (.v 17) .copy)])
               (.ret [4]))
              (.skip [0, 1, 7, 8])))))
          (.region [] [] [0, 1, 7, 8] false [
            (none, .bin 18 .add (.v 8) (.c (.int .i64 1))),
            (none, .mv 8 (.v 18))])))))))
    (.seq
     (.region [] [] [4] false [
       (none, .asg 4 (.c (.int .i64 (-1))) .copy)])
     (.ret [4]))))⟩
def F796 : PFunc :=
 ⟨[false, false], [.tmp 4],
  (.seq
   (.region [] [] [0, 1] false [
     (none, .asg 4 (.c (.bool false)) .copy)])
   (.seq
    (.region [(6, 1, false), (5, 0, false)] [] [4] false [
      (none, .mv 5 (.v 0)),
      (none, .mv 6 (.v 1)),
      (none, .call (some 7) 818 false [((.v 5), false), ((.v 6), false)]),
      (none, .bin 8 .geq (.v 7) (.c (.int .i64 0))),
      (none, .asg 4 (.v 8) .copy)])
    (.ret [4])))⟩
def F220 : PFunc :=
 ⟨[false], [.tmp 2],
  (.seq
   (.region [] [] [0] false [
     (none, .asg 2 (.c (.bool false)) .copy)])
   (.seq
    (.region [(12, 0, false), (7, 0, false), (3, 0, false)] [] [2] false [
      (none, .mv 3 (.v 0)),
      (none, .len 4 false (.v 3)),
      (none, .bin 5 .geq (.v 4) (.c (.int .i64 1))),
      (none, .mv 6 (.v 5)),
      (some (6, true), .mv 7 (.v 0)),
      (some (6, true), .len 8 false (.v 7)),
      (some (6, true), .bin 9 .leq (.v 8) (.c (.int .i64 60))),
      (none, .pick 10 (.v 6) (.v 9) (.c (.bool false))),
      (none, .mv 11 (.v 10)),
      (some (11, true), .mv 12 (.v 0)),
      (some (11, true), .call (some 13) 796 false [((.v 12), false), ((.c (.fn 221 [])), false)]),
      (some (11, true), .un 14 .not (.v 13)),
      (none, .pick 15 (.v 11) (.v 14) (.c (.bool false))),
      (none, .asg 2 (.v 15) .copy)])
    (.ret [2])))⟩
def F245 : PFunc :=
 ⟨[false, false], [.tmp 4],
  (.seq
   (.region [] [] [0, 1] false [
     (none, .asg 4 (.c (.int .i64 0)) .copy)])
   (.seq
    (.region [] [] [4] false [
      (none, .mv 5 (.v 0)),
      (none, .mv 6 (.v 1)),
      (none, .bin 7 .sub (.v 5) (.v 6)),
      (none, .mv 8 (.v 1)),
      (none, .mv 9 (.v 0)),
      (none, .bin 10 .sub (.v 8) (.v 9)),
      (none, .mm 11 true (.v 7) [(.v 10)]),
      (none, .asg 4 (.v 11) .copy)])
    (.ret [4])))⟩
def F793 : PFunc :=
 ⟨[false], [.tmp 2],
  (.seq
   (.region [] [] [0] false [
     (none, .asg 2 (.c (.sl true 1 [])) .copy)])
   (.seq
    (.region [] [] [0, 3] false [
      (none, .asg 3 (.c (.int .i64 0)) .copy)])
    (.seq
     (.seq
      (.region [(9, 0, false)] [] [0, 3, 9, 10, 11] false [
        (none, .mv 9 (.v 0)),
        (none, .len 10 false (.v 9)),
        (none, .mv 11 (.c (.int .i64 0)))])
      (.block 0
       (.loop
        (.seq
         (.region [(9, 0, false)] [] [0, 3, 9, 10, 11, 12] false [
           (none, .bin 12 .lss (.v 11) (.v 10))])
         (.seq
          (.cond (.v 12)
           (.skip [0, 3, 9, 10, 11])
           (.exit 0 [0, 3]))
          (.seq
           (.block 1
            (.seq
             (.region [(14, 0, true), (13, 0, false), (9, 0, false)] [] [0, 3, 5, 9, 10, 11] false [
               (none, .iadr 13 1 (.v 9) (.v 11)),
               (none, .load 14 false 1 (.v 13) none),
               (none, .asg 5 (.v 14) .freeze)])
             (.seq
              (.region [(16, 5, false), (9, 0, false)] [] [0, 3, 9, 10, 11] false [
                (none, .mv 15 (.v 3)),
                (none, .mv 16 (.v 5)),
                (none, .len 17 false (.v 16)),
                (none, .bin 18 .add (.v 15) (.v 17)),
                (none, .asg 3 (.v 18) .copy)])
              (.seq
               (.region [(9, 0, false)] [] [0, 3, 9, 10, 11, 20] false [
                 (none, .mv 19 (.v 3)),
                 (none, .bin 20 .lss (.v 19) (.c (.int .i64 0)))])
               (.cond (.v 20)
                (.region [(9, 0, false)] [] [0, 3, 9, 10, 11] false [
                  (none, .nope (some 21)),
                  (none, .nope none)])
                (.skip [0, 3, 9, 10, 11]))))))
           (.region [(9, 0, false)] [] [0, 3, 9, 10, 11] false [
             (none, .bin 22 .add (.v 11) (.c (.int .i64 1))),
             (none, .mv 11 (.v 22))])))))))
     (.seq
      (.region [] [] [0, 6] false [
        (none, .mv 23 (.v 3)),
        (none, .call (some 24) 815 false [((.c (.nil 1001)), false), ((.v 23), false)]),
        (none, .asg 6 (.v 24) .move)])
      (.seq
       (.seq
        (.region [(25, 0, false)] [] [0, 6, 25, 26, 27] false [
          (none, .mv 25 (.v 0)),
          (none, .len 26 false (.v 25)),
          (none, .mv 27 (.c (.int .i64 0)))])
        (.block 2
         (.loop
          (.seq
           (.region [(25, 0, false)] [] [0, 6, 25, 26, 27, 28] false [
             (none, .bin 28 .lss (.v 27) (.v 26))])
           (.seq
            (.cond (.v 28)
             (.skip [0, 6, 25, 26, 27])
             (.exit 2 [6]))
            (.seq
             (.block 3
              (.seq
               (.region [(30, 0, true), (29, 0, false), (25, 0, false)] [] [0, 6, 8, 25, 26, 27] false [
                 (none, .iadr 29 1 (.v 25) (.v 27)),
                 (none, .load 30 false 1 (.v 29) none),
                 (none, .asg 8 (.v 30) .freeze)])
               (.region [(32, 8, false), (31, 6, false), (25, 0, false)] [] [0, 6, 25, 26, 27] false [
                 (none, .mv 31 (.v 6)),
                 (none, .mv 32 (.v 8)),
                 (none, .app 33 1 (.v 31) (.v 32) .move),
                 (none, .asg 6 (.v 33) .move)])))
             (.region [(25, 0, false)] [] [0, 6, 25, 26, 27] false [
               (none, .bin 34 .add (.v 27) (.c (.int .i64 1))),
               (none, .mv 27 (.v 34))])))))))
       (.seq
        (.region [(35, 6, false)] [] [2] false [
          (none, .mv 35 (.v 6)),
          (none, .asg 2 (.v 35) .move)])
        (.ret [2])))))))⟩
def F319 : PFunc :=
 ⟨[false, false], [.tmp 4],
  (.seq
   (.region [] [] [0, 1] false [
     (none, .asg 4 (.c (.sl true 1 [])) .copy)])
   (.seq
    (.region [(7, 0, false)] [] [0, 5] false [
      (none, .mv 6 (.v 1)),
      (none, .mv 7 (.v 0)),
      (none, .len 8 false (.v 7)),
      (none, .bin 9 .rem (.v 6) (.v 8)),
      (none, .asg 5 (.v 9) .copy)])
    (.seq
     (.region [(13, 0, false), (10, 0, false)] [] [4] true [
       (none, .mv 10 (.v 0)),
       (none, .mv 11 (.v 5)),
       (none, .slc 12 false 1 (.v 10) (some (.v 11)) none .copy),
       (none, .mv 13 (.v 0)),
       (none, .mv 14 (.v 5)),
       (none, .slc 15 false 1 (.v 13) none (some (.v 14)) .copy),
       (none, .mksl 16 1 (.sl false 1 []) 2 [(0, (.v 12), .copy), (1, (.v 15), .copy)]),
       (none, .call (some 17) 793 false [((.v 16), false)]),
       (none, .asg 4 (.v 17) .move)])
     (.ret [4]))))⟩
def F55 : PFunc :=
 ⟨[false, false], [.tmp 4, .tmp 5, .tmp 6],
  (.seq
   (.region [] [] [0, 1] false [
     (none, .asg 4 (.c (.int .i64 0)) .copy),
     (none, .asg 5 (.c (.int .i64 0)) .copy),
     (none, .asg 6 (.c (.int .i64 0)) .copy)])
   (.seq
    (.block 0
     (.seq
      (.region [(18, 1, false), (14, 0, false)] [] [0, 1, 13] false [
        (none, .mv 14 (.v 0)),
        (none, .call (some 15) 220 false [((.v 14), false)]),
        (none, .un 16 .not (.v 15)),
        (none, .mv 17 (.v 16)),
        (some (17, false), .mv 18 (.v 1)),
        (some (17, false), .call (some 19) 220 false [((.v 18), false)]),
        (some (17, false), .un 20 .not (.v 19)),
        (none, .pick 21 (.v 17) (.c (.bool true)) (.v 20)),
        (none, .asg 13 (.v 21) .copy)])
      (.cond (.v 13)
       (.seq
        (.region [] [] [4, 5, 6] false [
          (none, .asg 4 (.c (.int .i64 0)) .copy),
          (none, .asg 5 (.c (.int .i64 0)) .copy),
          (none, .asg 6 (.c (.int .i64 1)) .copy)])
        (.ret [4, 5, 6]))
       (.seq
        (.region [(25, 1, false), (23, 0, false)] [] [0, 1, 22] false [
          (none, .mv 23 (.v 0)),
          (none, .len 24 false (.v 23)),
          (none, .mv 25 (.v 1)),
          (none, .len 26 false (.v 25)),
          (none, .bin 27 .neq (.v 24) (.v 26)),
          (none, .asg 22 (.v 27) .copy)])
        (.cond (.v 22)
         (.seq
          (.region [] [] [4, 5, 6] false [
            (none, .asg 4 (.c (.int .i64 0)) .copy),
            (none, .asg 5 (.c (.int .i64 0)) .copy),
            (none, .asg 6 (.c (.int .i64 8)) .copy)])
          (.ret [4, 5, 6]))
         (.skip [0, 1]))))))
    (.seq
     (.region [] [] [0, 1, 7, 8] false [
       (none, .asg 7 (.c (.int .i64 0)) .copy),
       (none, .asg 8 (.c (.int .i64 (-1))) .copy)])
     (.seq
      (.seq
       (.region [(28, 0, false)] [] [0, 1, 7, 8, 29, 30] false [
         (none, .mv 28 (.v 0)),
         (none, .len 29 false (.v 28)),
         (none, .mv 30 (.c (.int .i64 0)))])
       (.block 1
        (.loop
         (.seq
          (.region [] [] [0, 1, 7, 8, 29, 30, 31] false [
            (none, .bin 31 .lss (.v 30) (.v 29))])
          (.seq
           (.cond (.v 31)
            (.skip [0, 1, 7, 8, 29, 30])
            (.exit 1 [7, 8]))
           (.seq
            (.block 2
             (.seq
              (.region [] [] [0, 1, 7, 8, 9, 29, 30] false [
                (none, .mv 32 (.v 30)),
                (none, .asg 9 (.v 32) .copy)])
              (.seq
               (.region [] [] [0, 1, 7, 8, 9, 10, 29, 30] false [
                 (none, .asg 10 (.c (.int .i64 0)) .copy)])
               (.seq
                (.seq
                 (.region [(33, 0, false)] [] [0, 1, 7, 8, 9, 10, 29, 30, 35, 36, 37] false [
                   (none, .mv 33 (.v 0)),
                   (none, .mv 34 (.v 9)),
                   (none, .call (some 35) 319 false [((.v 33), false), ((.v 34), false)]),
                   (none, .len 36 false (.v 35)),
                   (none, .mv 37 (.c (.int .i64 0)))])
                 (.block 3
                  (.loop
                   (.seq
                    (.region [] [] [0, 1, 7, 8, 9, 10, 29, 30, 35, 36, 37, 38] false [
                      (none, .bin 38 .lss (.v 37) (.v 36))])
                    (.seq
                     (.cond (.v 38)
                      (.skip [0, 1, 7, 8, 9, 10, 29, 30, 35, 36, 37])
                      (.exit 3 [0, 1, 7, 8, 9, 10, 29, 30]))
                     (.seq
                      (.block 4
                       (.seq
                        (.region [(40, 35, false)] [] [0, 1, 7, 8, 9, 10, 11, 12, 29, 30, 35, 36, 37] false [
                          (none, .mv 39 (.v 37)),
                          (none, .iadr 40 1 (.v 35) (.v 37)),
                          (none, .load 41 false 1 (.v 40) none),
                          (none, .asg 11 (.v 39) .copy),
                          (none, .asg 12 (.v 41) .copy)])
                        (.region [(46, 1, false), (44, 1, false)] [] [0, 1, 7, 8, 9, 10, 29, 30, 35, 36, 37] false [
                          (none, .mv 42 (.v 10)),
                          (none, .mv 43 (.v 12)),
                          (none, .mv 44 (.v 1)),
                          (none, .mv 45 (.v 11)),
                          (none, .iadr 46 1 (.v 44) (.v 45)),
                          (none, .load 47 false 1 (.v 46) none),
                          (none, .call (some 48) 245 false [((.v 43), false), ((.v 47), false)]),
                          (none, .bin 49 .add (.v 42) (.v 48)),
                          (none, .asg 10 (.v 49) .copy)])))
                      (.region [] [] [0, 1, 7, 8, 9, 10, 29, 30, 35, 36, 37] false [
                        (none, .bin 50 .add (.v 37) (.c (.int .i64 1))),
                        (none, .mv 37 (.v 50))])))))))
                (.seq
                 (.region [] [] [0, 1, 7, 8, 9, 10, 29, 30, 57] false [
                   (none, .mv 51 (.v 8)),
                   (none, .bin 52 .lss (.v 51) (.c (.int .i64 0))),
                   (none, .mv 53 (.v 52)),
                   (some (53, false), .mv 54 (.v 10)),
                   (some (53, false), .mv 55 (.v 8)),
                   (some (53, false), .bin 56 .lss (.v 54) (.v 55)),
                   (none, .pick 57 (.v 53) (.c (.bool true)) (.v 56))])
                 (.cond (.v 57)
                  (.region [] [] [0, 1, 7, 8, 29, 30] false [
                    (none, .mv 58 (.v 9)),
                    (none, .mv 59 (.v 10)),
                    (none, .asg 7 (.v 58) .copy),
                    (none, .asg 8 (.v 59) .copy)])
                  (.skip [0, 1, 7, 8, 29, 30])))))))
            (.region [] [] [0, 1, 7, 8, 29, 30] false [
              (none, .bin 60 .add (.v 30) (.c (.int .i64 1))),
              (none, .mv 30 (.v 60))])))))))
      (.seq
       (.region [] [] [4, 5, 6] false [
         (none, .mv 61 (.v 7)),
         (none, .mv 62 (.v 8)),
         (none, .asg 4 (.v 61) .copy),
         (none, .asg 5 (.v 62) .copy),
         (none, .asg 6 (.c (.int .i64 0)) .copy)])
       (.ret [4, 5, 6]))))))⟩
def F269 : PFunc :=
 ⟨[false, false], [.tmp 4],
  (.seq
   (.region [] [] [0, 1] false [
     (none, .asg 4 (.c (.int .i64 0)) .copy)])
   (.seq
    (.block 0
     (.loop
      (.seq
       (.seq
        (.region [] [] [0, 1, 6] false [
          (none, .mv 5 (.v 1)),
          (none, .bin 6 .neq (.v 5) (.c (.int .i64 0)))])
        (.cond (.v 6)
         (.skip [0, 1])
         (.exit 0 [0])))
       (.block 1
        (.region [] [] [0, 1] true [
          (none, .mv 7 (.v 1)),
          (none, .mv 8 (.v 0)),
          (none, .mv 9 (.v 1)),
          (none, .bin 10 .rem (.v 8) (.v 9)),
          (none, .asg 0 (.v 7) .copy),
          (none, .asg 1 (.v 10) .copy)])))))
    (.seq
     (.region [] [] [4] false [
       (none, .mv 11 (.v 0)),
       (none, .mv 12 (.v 0)),
       (none, .un 13 .neg (.v 12)),
       (none, .mm 14 true (.v 11) [(.v 13)]),
       (none, .asg 4 (.v 14) .copy)])
     (.ret [4]))))⟩
def F259 : PFunc :=
 ⟨[false, false], [.tmp 4],
  (.seq
   (.region [] [] [0, 1] false [
     (none, .asg 4 (.c (.int .i64 0)) .copy)])
   (.seq
    (.region [] [] [4] false [
      (none, .mv 5 (.v 0)),
      (none, .mv 6 (.v 0)),
      (none, .mv 7 (.v 1)),
      (none, .call (some 8) 269 false [((.v 6), false), ((.v 7), false)]),
      (none, .bin 9 .quo (.v 5) (.v 8)),
      (none, .mv 10 (.v 1)),
      (none, .bin 11 .mul (.v 9) (.v 10)),
      (none, .asg 4 (.v 11) .copy)])
    (.ret [4])))⟩
def F66 : PFunc :=
 ⟨[false, false], [.tmp 4, .tmp 5],
  (.seq
   (.region [] [] [0, 1] false [
     (none, .asg 4 (.c (.int .i64 0)) .copy),
     (none, .asg 5 (.c (.int .i64 0)) .copy)])
   (.seq
    (.seq
     (.region [] [] [0, 1, 13] false [
       (none, .mv 6 (.v 0)),
       (none, .call (some 7) 326 false [((.v 6), false), ((.c (.int .i64 1)), false), ((.c (.int .i64 60)), false)]),
       (none, .un 8 .not (.v 7)),
       (none, .mv 9 (.v 8)),
       (some (9, false), .mv 10 (.v 1)),
       (some (9, false), .call (some 11) 326 false [((.v 10), false), ((.c (.int .i64 1)), false), ((.c (.int .i64 60)), false)]),
       (some (9, false), .un 12 .not (.v 11)),
       (none, .pick 13 (.v 9) (.c (.bool true)) (.v 12))])
     (.cond (.v 13)
      (.seq
       (.region [] [] [4, 5] false [
         (none, .asg 4 (.c (.int .i64 0)) .copy),
         (none, .asg 5 (.c (.int .i64 2)) .copy)])
       (.ret [4, 5]))
      (.skip [0, 1])))
    (.seq
     (.region [] [] [4, 5] false [
       (none, .mv 14 (.v 0)),
       (none, .mv 15 (.v 1)),
       (none, .call (some 16) 259 false [((.v 14), false), ((.v 15), false)]),
       (none, .asg 4 (.v 16) .copy),
       (none, .asg 5 (.c (.int .i64 0)) .copy)])
     (.ret [4, 5]))))⟩
def F313 : PFunc :=
 ⟨[false], [.tmp 2],
  (.seq
   (.region [] [] [0] false [
     (none, .asg 2 (.c (.sl true 1 [])) .copy)])
   (.seq
    (.region [] [] [0, 3] false [
      (none, .mksl 6 1 (.int .i64 0) 0 []),
      (none, .asg 3 (.v 6) .move)])
    (.seq
     (.seq
      (.region [(7, 0, false)] [] [0, 3, 7, 8, 9] false [
        (none, .mv 7 (.v 0)),
        (none, .len 8 false (.v 7)),
        (none, .mv 9 (.c (.int .i64 0)))])
      (.block 0
       (.loop
        (.seq
         (.region [(7, 0, false)] [] [0, 3, 7, 8, 9, 10] false [
           (none, .bin 10 .lss (.v 9) (.v 8))])
         (.seq
          (.cond (.v 10)
           (.skip [0, 3, 7, 8, 9])
           (.exit 0 [3]))
          (.seq
           (.block 1
            (.seq
             (.region [(12, 0, false), (7, 0, false)] [] [0, 3, 4, 5, 7, 8, 9] false [
               (none, .mv 11 (.v 9)),
               (none, .iadr 12 1 (.v 7) (.v 9)),
               (none, .load 13 false 1 (.v 12) none),
               (none, .asg 4 (.v 11) .copy),
               (none, .asg 5 (.v 13) .copy)])
             (.region [(21, 0, false), (18, 0, false), (15, 0, false), (14, 3, false), (7, 0, false)] [] [0, 3, 7, 8, 9] false [
               (none, .mv 14 (.v 3)),
               (none, .mv 15 (.v 0)),
               (none, .mv 16 (.v 4)),
               (none, .bin 17 .add (.v 16) (.c (.int .i64 1))),
               (none, .mv 18 (.v 0)),
               (none, .len 19 false (.v 18)),
               (none, .bin 20 .rem (.v 17) (.v 19)),
               (none, .iadr 21 1 (.v 15) (.v 20)),
               (none, .load 22 false 1 (.v 21) none),
               (none, .mv 23 (.v 5)),
               (none, .bin 24 .sub (.v 22) (.v 23)),
               (none, .mksl 25 1 (.int .i64 0) 1 [(0, (.v 24), .copy)]),
               (none, .app 26 1 (.v 14) (.v 25) .move),
               (none, .asg 3 (.v 26) .move)])))
           (.region [(7, 0, false)] [] [0, 3, 7, 8, 9] false [
             (none, .bin 27 .add (.v 9) (.c (.int .i64 1))),
             (none, .mv 9 (.v 27))])))))))
     (.seq
      (.region [(28, 3, false)] [] [2] false [
        (none, .mv 28 (.v 3)),
        (none, .asg 2 (.v 28) .move)])
      (.ret [2])))))⟩
def F169 : PFunc :=
 ⟨[false], [.tmp 2, .tmp 3, .tmp 4],
  (.seq
   (.region [] [] [0] false [
     (none, .asg 2 (.c (.int .i64 0)) .copy),
     (none, .asg 3 (.c (.int .i64 0)) .copy),
     (none, .asg 4 (.c (.int .i64 0)) .copy)])
   (.seq
    (.seq
     (.region [(12, 0, false)] [] [0, 14] false [
       (none, .mv 12 (.v 0)),
       (none, .call (some 13) 220 false [((.v 12), false)]),
       (none, .un 14 .not (.v 13))])
     (.cond (.v 14)
      (.seq
       (.region [] [] [2, 3, 4] false [
         (none, .asg 2 (.c (.int .i64 0)) .copy),
         (none, .asg 3 (.c (.int .i64 0)) .copy),
         (none, .asg 4 (.c (.int .i64 1)) .copy)])
       (.ret [2, 3, 4]))
      (.skip [0])))
    (.seq
     (.region [(15, 0, false)] [] [5, 6, 7] false [
       (none, .mv 15 (.v 0)),
       (none, .call (some 16) 313 false [((.v 15), false)]),
       (none, .asg 5 (.v 16) .move),
       (none, .asg 6 (.c (.int .i64 0)) .copy),
       (none, .asg 7 (.c (.int .i64 (-1))) .copy)])
     (.seq
      (.seq
       (.region [(17, 5, false)] [] [5, 6, 7, 17, 18, 19] false [
         (none, .mv 17 (.v 5)),
         (none, .len 18 false (.v 17)),
         (none, .mv 19 (.c (.int .i64 0)))])
       (.block 0
        (.loop
         (.seq
          (.region [(17, 5, false)] [] [5, 6, 7, 17, 18, 19, 20] false [
            (none, .bin 20 .lss (.v 19) (.v 18))])
          (.seq
           (.cond (.v 20)
            (.skip [5, 6, 7, 17, 18, 19])
            (.exit 0 [6, 7]))
           (.seq
            (.block 1
             (.seq
              (.region [(22, 5, false), (17, 5, false)] [] [5, 6, 7, 8, 9, 17, 18, 19] false [
                (none, .mv 21 (.v 19)),
                (none, .iadr 22 1 (.v 17) (.v 19)),
                (none, .load 23 false 1 (.v 22) none),
                (none, .asg 8 (.v 21) .copy),
                (none, .asg 9 (.v 23) .copy)])
              (.seq
               (.region [(33, 5, false), (30, 5, false), (26, 5, false), (24, 5, false), (17, 5, false)] [] [5, 6, 7, 8, 9, 10, 17, 18, 19] false [
                 (none, .mv 24 (.v 5)),
                 (none, .mv 25 (.v 8)),
                 (none, .mv 26 (.v 5)),
                 (none, .len 27 false (.v 26)),
                 (none, .bin 28 .add (.v 25) (.v 27)),
                 (none, .bin 29 .sub (.v 28) (.c (.int .i64 1))),
                 (none, .mv 30 (.v 5)),
                 (none, .len 31 false (.v 30)),
                 (none, .bin 32 .rem (.v 29) (.v 31)),
                 (none, .iadr 33 1 (.v 24) (.v 32)),
                 (none, .load 34 false 1 (.v 33) none),
                 (none, .asg 10 (.v 34) .copy)])
               (.seq
                (.region [(17, 5, false)] [] [5, 6, 7, 8, 11, 17, 18, 19] false [
                  (none, .mv 35 (.v 9)),
                  (none, .mv 36 (.v 10)),
                  (none, .call (some 37) 245 false [((.v 35), false), ((.v 36), false)]),
                  (none, .asg 11 (.v 37) .copy)])
                (.seq
                 (.region [(17, 5, false)] [] [5, 6, 7, 8, 11, 17, 18, 19, 40] false [
                   (none, .mv 38 (.v 11)),
                   (none, .mv 39 (.v 7)),
                   (none, .bin 40 .gtr (.v 38) (.v 39))])
                 (.cond (.v 40)
                  (.region [(17, 5, false)] [] [5, 6, 7, 17, 18, 19] false [
                    (none, .mv 41 (.v 8)),
                    (none, .mv 42 (.v 11)),
                    (none, .asg 6 (.v 41) .copy),
                    (none, .asg 7 (.v 42) .copy)])
                  (.skip [5, 6, 7, 17, 18, 19])))))))
            (.region [(17, 5, false)] [] [5, 6, 7, 17, 18, 19] false [
              (none, .bin 43 .add (.v 19) (.c (.int .i64 1))),
              (none, .mv 19 (.v 43))])))))))
      (.seq
       (.region [] [] [2, 3, 4] false [
         (none, .mv 44 (.v 6)),
         (none, .mv 45 (.v 7)),
         (none, .asg 2 (.v 44) .copy),
         (none, .asg 3 (.v 45) .copy),
         (none, .asg 4 (.c (.int .i64 0)) .copy)])
       (.ret [2, 3, 4]))))))⟩
def F190 : PFunc :=
 ⟨[false], [.tmp 2, .tmp 3],
  (.seq
   (.region [] [] [0] false [
     (none, .asg 2 (.c (.sl true 1 [])) .copy),
     (none, .asg 3 (.c (.int .i64 0)) .copy)])
   (.seq
    (.seq
     (.region [(4, 0, false)] [] [0, 6] false [
       (none, .mv 4 (.v 0)),
       (none, .call (some 5) 220 false [((.v 4), false)]),
       (none, .un 6 .not (.v 5))])
     (.cond (.v 6)
      (.seq
       (.region [] [] [2, 3] false [
         (none, .asg 2 (.c (.sl true 1 [])) .copy),
         (none, .asg 3 (.c (.int .i64 1)) .copy)])
       (.ret [2, 3]))
      (.skip [0])))
    (.seq
     (.region [(7, 0, false)] [] [2, 3] false [
       (none, .mv 7 (.v 0)),
       (none, .call (some 8) 313 false [((.v 7), false)]),
       (none, .asg 2 (.v 8) .move),
       (none, .asg 3 (.c (.int .i64 0)) .copy)])
     (.ret [2, 3]))))⟩
def F202 : PFunc :=
 ⟨[false, false], [.tmp 4, .tmp 5],
  (.seq
   (.region [] [] [0, 1] false [
     (none, .asg 4 (.c (.sl true 1 [])) .copy),
     (none, .asg 5 (.c (.int .i64 0)) .copy)])
   (.seq
    (.block 0
     (.seq
      (.region [(7, 0, false)] [] [0, 1, 6] false [
        (none, .mv 7 (.v 0)),
        (none, .call (some 8) 220 false [((.v 7), false)]),
        (none, .un 9 .not (.v 8)),
        (none, .asg 6 (.v 9) .copy)])
      (.cond (.v 6)
       (.seq
        (.region [] [] [4, 5] false [
          (none, .asg 4 (.c (.sl true 1 [])) .copy),
          (none, .asg 5 (.c (.int .i64 1)) .copy)])
        (.ret [4, 5]))
       (.seq
        (.region [] [] [0, 1, 10] false [
          (none, .mv 11 (.v 1)),
          (none, .call (some 12) 326 false [((.v 11), false), ((.c (.int .i64 0)), false), ((.c (.int .i64 60)), false)]),
          (none, .un 13 .not (.v 12)),
          (none, .asg 10 (.v 13) .copy)])
        (.cond (.v 10)
         (.seq
          (.region [] [] [4, 5] false [
            (none, .asg 4 (.c (.sl true 1 [])) .copy),
            (none, .asg 5 (.c (.int .i64 2)) .copy)])
          (.ret [4, 5]))
         (.skip [0, 1]))))))
    (.seq
     (.region [(14, 0, false)] [] [4, 5] false [
       (none, .mv 14 (.v 0)),
       (none, .mv 15 (.v 1)),
       (none, .call (some 16) 319 false [((.v 14), false), ((.v 15), false)]),
       (none, .asg 4 (.v 16) .move),
       (none, .asg 5 (.c (.int .i64 0)) .copy)])
     (.ret [4, 5]))))⟩
def F397 : PFunc :=
 ⟨[false], [.tmp 2],
  (.seq
   (.region [] [] [0] false [
     (none, .asg 2 (.c (.int .i64 0)) .copy)])
   (.seq
    (.seq
     (.region [] [] [0, 4] false [
       (none, .mv 3 (.v 0)),
       (none, .bin 4 .lss (.v 3) (.c (.int .i64 0)))])
     (.cond (.v 4)
      (.seq
       (.region [] [] [2] false [
         (none, .mv 5 (.v 0)),
         (none, .un 6 .neg (.v 5)),
         (none, .asg 2 (.v 6) .copy)])
       (.ret [2]))
      (.skip [0])))
    (.seq
     (.region [] [] [2] false [
       (none, .mv 7 (.v 0)),
       (none, .asg 2 (.v 7) .copy)])
     (.ret [2]))))⟩
def F398 : PFunc :=
 ⟨[false], [.tmp 2],
  (.seq
   (.region [] [] [0] false [
     (none, .asg 2 (.c (.bool false)) .copy)])
   (.seq
    (.region [(3, 0, false)] [] [2] false [
      (none, .mv 3 (.v 0)),
      (none, .len 4 false (.v 3)),
      (none, .bin 5 .gtr (.v 4) (.c (.int .i64 4096))),
      (none, .asg 2 (.v 5) .copy)])
    (.ret [2])))⟩
def F400 : PFunc :=
 ⟨[false, false], [.tmp 4],
  (.seq
   (.region [] [] [0, 1] false [
     (none, .asg 4 (.c (.bool false)) .copy)])
   (.seq
    (.seq
     (.region [(8, 1, false), (6, 0, false)] [] [0, 1, 10] false [
       (none, .mv 6 (.v 0)),
       (none, .len 7 false (.v 6)),
       (none, .mv 8 (.v 1)),
       (none, .len 9 false (.v 8)),
       (none, .bin 10 .neq (.v 7) (.v 9))])
     (.cond (.v 10)
      (.seq
       (.region [] [] [4] false [
         (none, .asg 4 (.c (.bool false)) .copy)])
       (.ret [4]))
      (.skip [0, 1])))
    (.seq
     (.seq
      (.region [] [] [0, 1, 5] false [
        (none, .asg 5 (.c (.int .i64 0)) .copy)])
      (.block 0
       (.loop
        (.seq
         (.seq
          (.region [(12, 0, false)] [] [0, 1, 5, 14] false [
            (none, .mv 11 (.v 5)),
            (none, .mv 12 (.v 0)),
            (none, .len 13 false (.v 12)),
            (none, .bin 14 .lss (.v 11) (.v 13))])
          (.cond (.v 14)
           (.skip [0, 1, 5])
           (.exit 0 [])))
         (.seq
          (.block 1
           (.seq
            (.region [(23, 1, false), (21, 1, false), (19, 0, false), (17, 0, false)] [] [0, 1, 5, 25] true [
              (none, .mv 17 (.v 0)),
              (none, .mv 18 (.v 5)),
              (none, .iadr 19 1 (.v 17) (.v 18)),
              (none, .load 20 false 1 (.v 19) none),
              (none, .mv 21 (.v 1)),
              (none, .mv 22 (.v 5)),
              (none, .iadr 23 1 (.v 21) (.v 22)),
              (none, .load 24 false 1 (.v 23) none),
              (none, .bin 25 .neq (.v 20) (.v 24))])
            (.cond (.v 25)
             (.seq
              (.region [] [] [4] false [
                (none, .asg 4 (.c (.bool false)) .copy)])
              (.ret [4]))
             (.skip [0, 1, 5]))))
          (.region [] [] [0, 1, 5] false [
            (none, .mv 15 (.v 5)),
            (none, .bin 16 .add (.v 15) (.c (.int .i64 1))),
            (none, .asg 5 (.v 16) .copy)]))))))
     (.seq
      (.region [] [] [4] false [
        (none, .asg 4 (.c (.bool true)) .copy)])
      (.ret [4])))))⟩
def F402 : PFunc :=
 ⟨[false], [.tmp 2],
  (.seq
   (.region [] [] [0] false [
     (none, .asg 2 (.c (.int .i64 0)) .copy)])
   (.seq
    (.region [] [] [0, 3] false [
      (none, .asg 3 (.c (.int .i64 0)) .copy)])
    (.seq
     (.seq
      (.region [] [] [0, 3, 4] false [
        (none, .asg 4 (.c (.int .i64 0)) .copy)])
      (.block 0
       (.loop
        (.seq
         (.seq
          (.region [(6, 0, false)] [] [0, 3, 4, 8] false [
            (none, .mv 5 (.v 4)),
            (none, .mv 6 (.v 0)),
            (none, .len 7 false (.v 6)),
            (none, .bin 8 .lss (.v 5) (.v 7))])
          (.cond (.v 8)
           (.skip [0, 3, 4])
           (.exit 0 [3])))
         (.seq
          (.block 1
           (.region [(14, 0, false), (12, 0, false)] [] [0, 3, 4] false [
             (none, .mv 11 (.v 3)),
             (none, .mv 12 (.v 0)),
             (none, .mv 13 (.v 4)),
             (none, .iadr 14 1 (.v 12) (.v 13)),
             (none, .load 15 false 1 (.v 14) none),
             (none, .bin 16 .add (.v 11) (.v 15)),
             (none, .asg 3 (.v 16) .copy)]))
          (.region [] [] [0, 3, 4] false [
            (none, .mv 9 (.v 4)),
            (none, .bin 10 .add (.v 9) (.c (.int .i64 1))),
            (none, .asg 4 (.v 10) .copy)]))))))
     (.seq
      (.region [] [] [2] false [
        (none, .mv 17 (.v 3)),
        (none, .asg 2 (.v 17) .copy)])
      (.ret [2])))))⟩
def F611 : PFunc :=
 ⟨[false], [.tmp 2],
  (.seq
   (.region [] [] [0] false [
     (none, .asg 2 (.c (.int .i64 0)) .copy)])
   (.seq
    (.seq
     (.region [] [] [0, 4] false [
       (none, .mv 3 (.v 0)),
       (none, .bin 4 .lss (.v 3) (.c (.int .i64 0)))])
     (.cond (.v 4)
      (.seq
       (.region [] [] [2] false [
         (none, .mv 5 (.v 0)),
         (none, .un 6 .neg (.v 5)),
         (none, .asg 2 (.v 6) .copy)])
       (.ret [2]))
      (.skip [0])))
    (.seq
     (.region [] [] [2] false [
       (none, .mv 7 (.v 0)),
       (none, .asg 2 (.v 7) .copy)])
     (.ret [2]))))⟩
def F605 : PFunc :=
 ⟨[false, false, false], [.tmp 6],
  (.seq
   (.region [] [] [0, 1, 2] false [
     (none, .asg 6 (.c (.bool false)) .copy)])
   (.seq
    (.region [] [] [6] false [
      (none, .mv 7 (.v 0)),
      (none, .mv 8 (.v 1)),
      (none, .bin 9 .geq (.v 7) (.v 8)),
      (none, .mv 10 (.v 9)),
      (some (10, true), .mv 11 (.v 0)),
      (some (10, true), .mv 12 (.v 2)),
      (some (10, true), .bin 13 .leq (.v 11) (.v 12)),
      (none, .pick 14 (.v 10) (.v 13) (.c (.bool false))),
      (none, .asg 6 (.v 14) .copy)])
    (.ret [6])))⟩
def F637 : PFunc :=
 ⟨[false], [.tmp 2],
  (.seq
   (.region [] [] [0] false [
     (none, .asg 2 (.c (.bool false)) .copy)])
   (.seq
    (.seq
     (.region [] [] [0, 3] false [
       (none, .asg 3 (.c (.int .i64 0)) .copy)])
     (.block 0
      (.loop
       (.seq
        (.seq
         (.region [(5, 0, false)] [] [0, 3, 7] false [
           (none, .mv 4 (.v 3)),
           (none, .mv 5 (.v 0)),
           (none, .len 6 false (.v 5)),
           (none, .bin 7 .lss (.v 4) (.v 6))])
         (.cond (.v 7)
          (.skip [0, 3])
          (.exit 0 [0])))
        (.seq
         (.block 1
          (.seq
           (.region [(12, 0, false), (10, 0, false)] [] [0, 3, 15] false [
             (none, .mv 10 (.v 0)),
             (none, .mv 11 (.v 3)),
             (none, .iadr 12 1 (.v 10) (.v 11)),
             (none, .load 13 false 1 (.v 12) none),
             (none, .call (some 14) 605 false [((.v 13), false), ((.c (.int .i64 0)), false), ((.c (.int .i64 1000)), false)]),
             (none, .un 15 .not (.v 14))])
           (.cond (.v 15)
            (.seq
             (.region [] [] [2] false [
               (none, .asg 2 (.c (.bool false)) .copy)])
             (.ret [2]))
            (.skip [0, 3]))))
         (.region [] [] [0, 3] false [
           (none, .mv 8 (.v 3)),
           (none, .bin 9 .add (.v 8) (.c (.int .i64 1))),
           (none, .asg 3 (.v 9) .copy)]))))))
    (.seq
     (.region [(16, 0, false)] [] [2] false [
       (none, .mv 16 (.v 0)),
       (none, .len 17 false (.v 16)),
       (none, .call (some 18) 605 false [((.v 17), false), ((.c (.int .i64 1)), false), ((.c (.int .i64 60)), false)]),
       (none, .asg 2 (.v 18) .copy)])
     (.ret [2]))))⟩
def F639 : PFunc :=
 ⟨[false, false], [.tmp 4],
  (.seq
   (.region [] [] [0, 1] false [
     (none, .asg 4 (.c (.sl true 1 [])) .copy)])
   (.seq
    (.region [(8, 0, false)] [] [0, 1, 5] false [
      (none, .mv 8 (.v 0)),
      (none, .len 9 false (.v 8)),
      (none, .asg 5 (.v 9) .copy)])
    (.seq
     (.region [] [] [0, 1, 5, 6] false [
       (none, .mksl 10 1 (.int .i64 0) 0 []),
       (none, .asg 6 (.v 10) .move)])
     (.seq
      (.seq
       (.region [] [] [0, 1, 5, 6, 7] false [
         (none, .asg 7 (.c (.int .i64 0)) .copy)])
       (.block 0
        (.loop
         (.seq
          (.seq
           (.region [] [] [0, 1, 5, 6, 7, 13] false [
             (none, .mv 11 (.v 7)),
             (none, .mv 12 (.v 5)),
             (none, .bin 13 .lss (.v 11) (.v 12))])
           (.cond (.v 13)
            (.skip [0, 1, 5, 6, 7])
            (.exit 0 [6])))
          (.seq
           (.block 1
            (.region [(23, 0, false), (17, 0, false), (16, 6, false)] [] [0, 1, 5, 6, 7] false [
              (none, .mv 16 (.v 6)),
              (none, .mv 17 (.v 0)),
              (none, .mv 18 (.v 7)),
              (none, .mv 19 (.v 1)),
              (none, .bin 20 .add (.v 18) (.v 19)),
              (none, .mv 21 (.v 5)),
              (none, .bin 22 .rem (.v 20) (.v 21)),
              (none, .iadr 23 1 (.v 17) (.v 22)),
              (none, .load 24 false 1 (.v 23) none),
              (none, .mksl 25 1 (.int .i64 0) 1 [(0, (.v 24), .copy)]),
              (none, .app 26 1 (.v 16) (.v 25) .move),
              (none, .asg 6 (.v 26) .move)]))
           (.region [] [] [0, 1, 5, 6, 7] false [
             (none, .mv 14 (.v 7)),
             (none, .bin 15 .add (.v 14) (.c (.int .i64 1))),
             (none, .asg 7 (.v 15) .copy)]))))))
      (.seq
       (.region [(27, 6, false)] [] [4] false [
         (none, .mv 27 (.v 6)),
         (none, .asg 4 (.v 27) .move)])
       (.ret [4]))))))⟩
def F442 : PFunc :=
 ⟨[false, false], [.tmp 4, .tmp 5, .tmp 6],
  (.seq
   (.region [] [] [0, 1] false [
     (none, .asg 4 (.c (.int .i64 0)) .copy),
     (none, .asg 5 (.c (.int .i64 0)) .copy),
     (none, .asg 6 (.c (.int .i64 0)) .copy)])
   (.seq
    (.seq
     (.region [(17, 1, false), (13, 0, false)] [] [0, 1, 20] false [
       (none, .mv 13 (.v 0)),
       (none, .call (some 14) 637 false [((.v 13), false)]),
       (none, .un 15 .not (.v 14)),
       (none, .mv 16 (.v 15)),
       (some (16, false), .mv 17 (.v 1)),
       (some (16, false), .call (some 18) 637 false [((.v 17), false)]),
       (some (16, false), .un 19 .not (.v 18)),
       (none, .pick 20 (.v 16) (.c (.bool true)) (.v 19))])
     (.cond (.v 20)
      (.seq
       (.region [] [] [4, 5, 6] false [
         (none, .asg 4 (.c (.int .i64 0)) .copy),
         (none, .asg 5 (.c (.int .i64 0)) .copy),
         (none, .asg 6 (.c (.int .i64 1)) .copy)])
       (.ret [4, 5, 6]))
      (.skip [0, 1])))
    (.seq
     (.seq
      (.region [(23, 1, false), (21, 0, false)] [] [0, 1, 25] false [
        (none, .mv 21 (.v 0)),
        (none, .len 22 false (.v 21)),
        (none, .mv 23 (.v 1)),
        (none, .len 24 false (.v 23)),
        (none, .bin 25 .neq (.v 22) (.v 24))])
      (.cond (.v 25)
       (.seq
        (.region [] [] [4, 5, 6] false [
          (none, .asg 4 (.c (.int .i64 0)) .copy),
          (none, .asg 5 (.c (.int .i64 0)) .copy),
          (none, .asg 6 (.c (.int .i64 8)) .copy)])
        (.ret [4, 5, 6]))
       (.skip [0, 1])))
     (.seq
      (.region [] [] [0, 1, 7] false [
        (none, .asg 7 (.c (.int .i64 0)) .copy)])
      (.seq
       (.region [] [] [0, 1, 7, 8] false [
         (none, .asg 8 (.c (.int .i64 (-1))) .copy)])
       (.seq
        (.seq
         (.region [] [] [0, 1, 7, 8, 9] false [
           (none, .asg 9 (.c (.int .i64 0)) .copy)])
         (.block 0
          (.loop
           (.seq
            (.seq
             (.region [(27, 0, false)] [] [0, 1, 7, 8, 9, 29] false [
               (none, .mv 26 (.v 9)),
               (none, .mv 27 (.v 0)),
               (none, .len 28 false (.v 27)),
               (none, .bin 29 .lss (.v 26) (.v 28))])
             (.cond (.v 29)
              (.skip [0, 1, 7, 8, 9])
              (.exit 0 [7, 8])))
            (.seq
             (.block 1
              (.seq
               (.region [(32, 0, false)] [] [0, 1, 7, 8, 9, 10] false [
                 (none, .mv 32 (.v 0)),
                 (none, .mv 33 (.v 9)),
                 (none, .call (some 34) 639 false [((.v 32), false), ((.v 33), false)]),
                 (none, .asg 10 (.v 34) .move)])
               (.seq
                (.region [] [] [0, 1, 7, 8, 9, 10, 11] false [
                  (none, .asg 11 (.c (.int .i64 0)) .copy)])
                (.seq
                 (.seq
                  (.region [] [] [0, 1, 7, 8, 9, 10, 11, 12] false [
                    (none, .asg 12 (.c (.int .i64 0)) .copy)])
                  (.block 2
                   (.loop
                    (.seq
                     (.seq
                      (.region [(36, 1, false)] [] [0, 1, 7, 8, 9, 10, 11, 12, 38] false [
                        (none, .mv 35 (.v 12)),
                        (none, .mv 36 (.v 1)),
                        (none, .len 37 false (.v 36)),
                        (none, .bin 38 .lss (.v 35) (.v 37))])
                      (.cond (.v 38)
                       (.skip [0, 1, 7, 8, 9, 10, 11, 12])
                       (.exit 2 [0, 1, 7, 8, 9, 11])))
                     (.seq
                      (.block 3
                       (.region [(48, 1, false), (46, 1, false), (44, 10, false), (42, 10, false)] [] [0, 1, 7, 8, 9, 10, 11, 12] true [
                         (none, .mv 41 (.v 11)),
                         (none, .mvr 42 10),
                         (none, .mv 43 (.v 12)),
                         (none, .iadr 44 1 (.v 42) (.v 43)),
                         (none, .load 45 false 1 (.v 44) none),
                         (none, .mv 46 (.v 1)),
                         (none, .mv 47 (.v 12)),
                         (none, .iadr 48 1 (.v 46) (.v 47)),
                         (none, .load 49 false 1 (.v 48) none),
                         (none, .bin 50 .sub (.v 45) (.v 49)),
                         (none, .call (some 51) 611 false [((.v 50), false)]),
                         (none, .bin 52 .add (.v 41) (.v 51)),
                         (none, .asg 11 (.v 52) .copy)]))
                      (.region [] [] [0, 1, 7, 8, 9, 10, 11, 12] false [
                        (none, .mv 39 (.v 12)),
                        (none, .bin 40 .add (.v 39) (.c (.int .i64 1))),
                        (none, .asg 12 (.v 40) .copy)]))))))
                 (.seq
                  (.region [] [] [0, 1, 7, 8, 9, 11, 59] false [
                    (none, .mv 53 (.v 8)),
                    (none, .bin 54 .lss (.v 53) (.c (.int .i64 0))),
                    (none, .mv 55 (.v 54)),
                    (some (55, false), .mv 56 (.v 11)),
                    (some (55, false), .mv 57 (.v 8)),
                    (some (55, false), .bin 58 .lss (.v 56) (.v 57)),
                    (none, .pick 59 (.v 55) (.c (.bool true)) (.v 58))])
                  (.cond (.v 59)
                   (.seq
                    (.region [] [] [0, 1, 7, 9, 11] false [
                      (none, .mv 60 (.v 9)),
                      (none, .asg 7 (.v 60) .copy)])
                    (.region [] [] [0, 1, 7, 8, 9] false [
                      (none, .mv 61 (.v 11)),
                      (none, .asg 8 (.v 61) .copy)]))
                   (.skip [0, 1, 7, 8, 9])))))))
             (.region [] [] [0, 1, 7, 8, 9] false [
               (none, .mv 30 (.v 9)),
               (none, .bin 31 .add (.v 30) (.c (.int .i64 1))),
               (none, .asg 9 (.v 31) .copy)]))))))
        (.seq
         (.region [] [] [4, 5, 6] false [
           (none, .mv 62 (.v 7)),
           (none, .mv 63 (.v 8)),
           (none, .asg 4 (.v 62) .copy),
           (none, .asg 5 (.v 63) .copy),
           (none, .asg 6 (.c (.int .i64 0)) .copy)])
         (.ret [4, 5, 6]))))))))⟩
def F604 : PFunc :=
 ⟨[false, false], [.tmp 4],
  (.seq
   (.region [] [] [0, 1] false [
     (none, .asg 4 (.c (.int .i64 0)) .copy)])
   (.seq
    (.block 0
     (.loop
      (.seq
       (.seq
        (.region [] [] [0, 1, 7] false [
          (none, .mv 6 (.v 1)),
          (none, .bin 7 .neq (.v 6) (.c (.int .i64 0)))])
        (.cond (.v 7)
         (.skip [0, 1])
         (.exit 0 [0])))
       (.block 1
        (.seq
         (.region [] [] [1, 5] false [
           (none, .mv 8 (.v 0)),
           (none, .mv 9 (.v 1)),
           (none, .bin 10 .rem (.v 8) (.v 9)),
           (none, .asg 5 (.v 10) .copy)])
         (.seq
          (.region [] [] [0, 5] false [
            (none, .mv 11 (.v 1)),
            (none, .asg 0 (.v 11) .copy)])
          (.region [] [] [0, 1] false [
            (none, .mv 12 (.v 5)),
            (none, .asg 1 (.v 12) .copy)])))))))
    (.seq
     (.region [] [] [4] false [
       (none, .mv 13 (.v 0)),
       (none, .asg 4 (.v 13) .copy)])
     (.ret [4]))))⟩
def F634 : PFunc :=
 ⟨[false, false], [.tmp 4],
  (.seq
   (.region [] [] [0, 1] false [
     (none, .asg 4 (.c (.int .i64 0)) .copy)])
   (.seq
    (.region [] [] [4] false [
      (none, .mv 5 (.v 0)),
      (none, .mv 6 (.v 0)),
      (none, .mv 7 (.v 1)),
      (none, .call (some 8) 604 false [((.v 6), false), ((.v 7), false)]),
      (none, .bin 9 .quo (.v 5) (.v 8)),
      (none, .mv 10 (.v 1)),
      (none, .bin 11 .mul (.v 9) (.v 10)),
      (none, .asg 4 (.v 11) .copy)])
    (.ret [4])))⟩
def F449 : PFunc :=
 ⟨[false, false], [.tmp 4, .tmp 5],
  (.seq
   (.region [] [] [0, 1] false [
     (none, .asg 4 (.c (.int .i64 0)) .copy),
     (none, .asg 5 (.c (.int .i64 0)) .copy)])
   (.seq
    (.seq
     (.region [] [] [0, 1, 13] false [
       (none, .mv 6 (.v 0)),
       (none, .call (some 7) 605 false [((.v 6), false), ((.c (.int .i64 1)), false), ((.c (.int .i64 60)), false)]),
       (none, .un 8 .not (.v 7)),
       (none, .mv 9 (.v 8)),
       (some (9, false), .mv 10 (.v 1)),
       (some (9, false), .call (some 11) 605 false [((.v 10), false), ((.c (.int .i64 1)), false), ((.c (.int .i64 60)), false)]),
       (some (9, false), .un 12 .not (.v 11)),
       (none, .pick 13 (.v 9) (.c (.bool true)) (.v 12))])
     (.cond (.v 13)
      (.seq
       (.region [] [] [4, 5] false [
         (none, .asg 4 (.c (.int .i64 0)) .copy),
         (none, .asg 5 (.c (.int .i64 2)) .copy)])
       (.ret [4, 5]))
      (.skip [0, 1])))
    (.seq
     (.region [] [] [4, 5] false [
       (none, .mv 14 (.v 0)),
       (none, .mv 15 (.v 1)),
       (none, .call (some 16) 634 false [((.v 14), false), ((.v 15), false)]),
       (none, .asg 4 (.v 16) .copy),
       (none, .asg 5 (.c (.int .i64 0)) .copy)])
     (.ret [4, 5]))))⟩
def F5 : PFunc :=
 ⟨[true], [.tmp 2],
  (.seq
   (.region [] [] [0] false [
     (none, .asg 2 (.c (.int .i64 0)) .copy)])
   (.seq
    (.region [] [] [0, 3] false [
      (none, .asg 3 (.c (.int .i64 0)) .copy)])
    (.seq
     (.seq
      (.region [(11, 0, true), (10, 0, false), (9, 0, false), (8, 0, false), (6, 0, false), (5, 0, false), (4, 0, false)] [] [0, 3, 13] true [
        (none, .mvr 4 0),
        (none, .nchk 5 (.v 4)),
        (none, .fadr 6 1 1 (.v 5)),
        (none, .load 7 false 1 (.v 6) none),
        (none, .mvr 8 0),
        (none, .nchk 9 (.v 8)),
        (none, .fadr 10 0 1 (.v 9)),
        (none, .load 11 false 1 (.v 10) none),
        (none, .len 12 false (.v 11)),
        (none, .bin 13 .lss (.v 7) (.v 12))])
      (.cond (.v 13)
       (.region [(22, 0, true), (20, 0, false), (19, 0, false), (18, 0, false), (17, 0, true), (16, 0, false), (15, 0, false), (14, 0, false)] [] [0, 3] true [
         (none, .mvr 14 0),
         (none, .nchk 15 (.v 14)),
         (none, .fadr 16 0 1 (.v 15)),
         (none, .load 17 false 1 (.v 16) none),
         (none, .mvr 18 0),
         (none, .nchk 19 (.v 18)),
         (none, .fadr 20 1 1 (.v 19)),
         (none, .load 21 false 1 (.v 20) none),
         (none, .iadr 22 1 (.v 17) (.v 21)),
         (none, .load 23 false 1 (.v 22) none),
         (none, .conv 24 .i64 (.v 23)),
         (none, .asg 3 (.v 24) .copy)])
       (.skip [0, 3])))
     (.seq
      (.region [(31, 0, false), (30, 0, false), (27, 0, false), (26, 0, false), (25, 0, false)] [] [0, 3] false [
        (none, .mv 25 (.v 0)),
        (none, .nchk 26 (.v 25)),
        (none, .fadr 27 1 1 (.v 26)),
        (none, .load 28 false 1 (.v 27) none),
        (none, .bin 29 .add (.v 28) (.c (.int .i64 1))),
        (none, .nchk 30 (.v 25)),
        (none, .fadr 31 1 1 (.v 30)),
        (none, .store 1 (.v 31) (.v 29) .copy)])
      (.seq
       (.region [(43, 0, false), (42, 0, false), (35, 0, false), (34, 0, false), (33, 0, false), (32, 0, false)] [] [0, 3] false [
         (none, .mv 32 (.v 0)),
         (none, .mv 33 (.v 0)),
         (none, .nchk 34 (.v 33)),
         (none, .fadr 35 2 1 (.v 34)),
         (none, .load 36 false 1 (.v 35) none),
         (none, .bin 37 .mul (.v 36) (.c (.int .u64 6364136223846793005))),
         (none, .mv 38 (.v 3)),
         (none, .conv 39 .u64 (.v 38)),
         (none, .bin 40 .add (.v 37) (.v 39)),
         (none, .bin 41 .add (.v 40) (.c (.int .u64 1442695040888963407))),
         (none, .nchk 42 (.v 32)),
         (none, .fadr 43 2 1 (.v 42)),
         (none, .store 1 (.v 43) (.v 41) .copy)])
       (.seq
        (.seq
         (.region [(51, 0, true), (50, 0, false), (49, 0, false), (48, 0, false), (46, 0, false), (45, 0, false), (44, 0, false)] [] [0, 3, 53] true [
           (none, .mvr 44 0),
           (none, .nchk 45 (.v 44)),
           (none, .fadr 46 1 1 (.v 45)),
           (none, .load 47 false 1 (.v 46) none),
           (none, .mvr 48 0),
           (none, .nchk 49 (.v 48)),
           (none, .fadr 50 0 1 (.v 49)),
           (none, .load 51 false 1 (.v 50) none),
           (none, .len 52 false (.v 51)),
           (none, .bin 53 .leq (.v 47) (.v 52))])
         (.cond (.v 53)
          (.seq
           (.region [] [] [0, 2] false [
             (none, .mv 54 (.v 3)),
             (none, .asg 2 (.v 54) .copy)])
           (.ret [0, 2]))
          (.skip [0])))
        (.seq
         (.region [(57, 0, false), (56, 0, false), (55, 0, false)] [] [0, 2] false [
           (none, .mv 55 (.v 0)),
           (none, .nchk 56 (.v 55)),
           (none, .fadr 57 2 1 (.v 56)),
           (none, .load 58 false 1 (.v 57) none),
           (none, .bin 59 .shr (.v 58) (.c (.int .u64 40))),
           (none, .bin 60 .and (.v 59) (.c (.int .u64 255))),
           (none, .conv 61 .i64 (.v 60)),
           (none, .asg 2 (.v 61) .copy)])
         (.ret [0, 2]))))))))⟩
def F7 : PFunc :=
 ⟨[true, false], [.tmp 4],
  (.seq
   (.region [] [] [0, 1] false [
     (none, .asg 4 (.c (.int .i64 0)) .copy)])
   (.seq
    (.seq
     (.region [] [] [0, 1, 7] false [
       (none, .mv 6 (.v 1)),
       (none, .bin 7 .leq (.v 6) (.c (.int .i64 1)))])
     (.cond (.v 7)
      (.seq
       (.region [] [] [0, 4] false [
         (none, .asg 4 (.c (.int .i64 0)) .copy)])
       (.ret [0, 4]))
      (.skip [0, 1])))
    (.seq
     (.region [(8, 0, false)] [] [0, 1, 5] false [
       (none, .mv 8 (.v 0)),
       (none, .call (some 9) 5 true [((.v 8), true)]),
       (none, .asg 5 (.v 9) .copy)])
     (.seq
      (.seq
       (.region [] [] [0, 1, 5, 11] false [
         (none, .mv 10 (.v 1)),
         (none, .bin 11 .gtr (.v 10) (.c (.int .i64 200)))])
       (.cond (.v 11)
        (.region [(14, 0, false)] [] [0, 1, 5] false [
          (none, .mv 12 (.v 5)),
          (none, .bin 13 .mul (.v 12) (.c (.int .i64 256))),
          (none, .mv 14 (.v 0)),
          (none, .call (some 15) 5 true [((.v 14), true)]),
          (none, .bin 16 .add (.v 13) (.v 15)),
          (none, .asg 5 (.v 16) .copy)])
        (.skip [0, 1, 5])))
      (.seq
       (.region [] [] [0, 4] false [
         (none, .mv 17 (.v 5)),
         (none, .mv 18 (.v 1)),
         (none, .bin 19 .rem (.v 17) (.v 18)),
         (none, .asg 4 (.v 19) .copy)])
       (.ret [0, 4]))))))⟩
def F6 : PFunc :=
 ⟨[true, false], [.tmp 4],
  (.seq
   (.region [] [] [0, 1] false [
     (none, .asg 4 (.c (.bool false)) .copy)])
   (.seq
    (.region [(5, 0, false)] [] [0, 4] false [
      (none, .mv 5 (.v 0)),
      (none, .mv 6 (.v 1)),
      (none, .call (some 7) 7 true [((.v 5), true), ((.v 6), false)]),
      (none, .bin 8 .eql (.v 7) (.c (.int .i64 0))),
      (none, .asg 4 (.v 8) .copy)])
    (.ret [0, 4])))⟩
def F603 : PFunc :=
 ⟨[false], [.tmp 2],
  (.seq
   (.region [] [] [0] false [
     (none, .asg 2 (.c .nilp) .copy)])
   (.seq
    (.region [(3, 0, false)] [] [2] false [
      (none, .mv 3 (.v 0)),
      (none, .build 4 [(.sl false 1 []), (.int .i64 0), (.int .u64 0)] [(0, 1, (.v 3), .move)]),
      (none, .box 5 (.v 4) .move),
      (none, .asg 2 (.v 5) .move)])
    (.ret [2])))⟩
def F4 : PFunc :=
 ⟨[true, false], [.tmp 4],
  (.seq
   (.region [] [] [0, 1] false [
     (none, .asg 4 (.c (.int .i64 0)) .copy)])
   (.seq
    (.region [(10, 1, false), (7, 1, false), (6, 0, false), (5, 1, false)] [] [0, 4] false [
      (none, .mv 5 (.v 1)),
      (none, .mv 6 (.v 0)),
      (none, .mv 7 (.v 1)),
      (none, .len 8 false (.v 7)),
      (none, .call (some 9) 7 true [((.v 6), true), ((.v 8), false)]),
      (none, .iadr 10 1 (.v 5) (.v 9)),
      (none, .load 11 false 1 (.v 10) none),
      (none, .asg 4 (.v 11) .copy)])
    (.ret [0, 4])))⟩
def F606 : PFunc :=
 ⟨[false, false], [.tmp 4],
  (.seq
   (.region [] [] [0, 1] false [
     (none, .asg 4 (.c (.int .i64 0)) .copy)])
   (.seq
    (.seq
     (.region [] [] [0, 1, 7] false [
       (none, .mv 5 (.v 0)),
       (none, .mv 6 (.v 1)),
       (none, .bin 7 .gtr (.v 5) (.v 6))])
     (.cond (.v 7)
      (.seq
       (.region [] [] [4] false [
         (none, .mv 8 (.v 0)),
         (none, .asg 4 (.v 8) .copy)])
       (.ret [4]))
      (.skip [1])))
    (.seq
     (.region [] [] [4] false [
       (none, .mv 9 (.v 1)),
       (none, .asg 4 (.v 9) .copy)])
     (.ret [4]))))⟩
def F636 : PFunc :=
 ⟨[true, false], [.tmp 4],
  (.seq
   (.region [] [] [0, 1] false [
     (none, .asg 4 (.c (.sl true 1 [])) .copy)])
   (.seq
    (.region [] [] [0, 1, 5] false [
      (none, .mksl 8 1 (.int .i64 0) 0 []),
      (none, .asg 5 (.v 8) .move)])
    (.seq
     (.region [(9, 0, false)] [] [0, 1, 5, 6] false [
       (none, .mv 9 (.v 0)),
       (none, .call (some 10) 7 true [((.v 9), true), ((.c (.int .i64 100)), false)]),
       (none, .asg 6 (.v 10) .copy)])
     (.seq
      (.seq
       (.region [] [] [0, 5, 6, 7] false [
         (none, .mv 11 (.v 1)),
         (none, .asg 7 (.v 11) .copy)])
       (.block 0
        (.loop
         (.seq
          (.seq
           (.region [] [] [0, 5, 6, 7, 13] false [
             (none, .mv 12 (.v 7)),
             (none, .bin 13 .gtr (.v 12) (.c (.int .i64 0)))])
           (.cond (.v 13)
            (.skip [0, 5, 6, 7])
            (.exit 0 [0, 5])))
          (.seq
           (.block 1
            (.seq
             (.region [(16, 5, false)] [] [0, 5, 6, 7] false [
               (none, .mv 16 (.v 5)),
               (none, .mv 17 (.v 6)),
               (none, .mksl 18 1 (.int .i64 0) 1 [(0, (.v 17), .copy)]),
               (none, .app 19 1 (.v 16) (.v 18) .move),
               (none, .asg 5 (.v 19) .move)])
             (.region [(21, 0, false)] [] [0, 5, 6, 7] false [
               (none, .mv 20 (.v 6)),
               (none, .mv 21 (.v 0)),
               (none, .call (some 22) 7 true [((.v 21), true), ((.c (.int .i64 30)), false)]),
               (none, .bin 23 .add (.v 20) (.v 22)),
               (none, .bin 24 .sub (.v 23) (.c (.int .i64 14))),
               (none, .call (some 25) 606 false [((.c (.int .i64 0)), false), ((.v 24), false)]),
               (none, .asg 6 (.v 25) .copy)])))
           (.region [] [] [0, 5, 6, 7] false [
             (none, .mv 14 (.v 7)),
             (none, .bin 15 .sub (.v 14) (.c (.int .i64 1))),
             (none, .asg 7 (.v 15) .copy)]))))))
      (.seq
       (.region [(26, 5, false)] [] [0, 4] false [
         (none, .mv 26 (.v 5)),
         (none, .asg 4 (.v 26) .move)])
       (.ret [0, 4]))))))⟩
def F635 : PFunc :=
 ⟨[true], [.tmp 2],
  (.seq
   (.region [] [] [0] false [
     (none, .asg 2 (.c (.sl true 1 [])) .copy)])
   (.seq
    (.region [(5, 0, false)] [] [0, 3] false [
      (none, .mv 5 (.v 0)),
      (none, .call (some 6) 7 true [((.v 5), true), ((.c (.int .i64 12)), false)]),
      (none, .bin 7 .add (.c (.int .i64 1)) (.v 6)),
      (none, .asg 3 (.v 7) .copy)])
    (.seq
     (.seq
      (.region [(8, 0, false)] [] [0, 3, 9] false [
        (none, .mv 8 (.v 0)),
        (none, .call (some 9) 6 true [((.v 8), true), ((.c (.int .i64 16)), false)])])
      (.cond (.v 9)
       (.region [(10, 0, false)] [] [0, 3] false [
         (none, .mv 10 (.v 0)),
         (none, .mksl 11 1 (.int .i64 0) 4 [(0, (.c (.int .i64 0)), .copy), (1, (.c (.int .i64 1)), .copy), (2, (.c (.int .i64 60)), .copy), (3, (.c (.int .i64 61)), .copy)]),
         (none, .call (some 12) 4 true [((.v 10), true), ((.v 11), false)]),
         (none, .asg 3 (.v 12) .copy)])
       (.skip [0, 3])))
     (.seq
      (.region [(13, 0, false)] [] [0, 3, 4] false [
        (none, .mv 13 (.v 0)),
        (none, .mv 14 (.v 3)),
        (none, .call (some 15) 636 true [((.v 13), true), ((.v 14), false)]),
        (none, .asg 4 (.v 15) .move)])
      (.seq
       (.seq
        (.region [(19, 0, false)] [] [0, 3, 4, 21] false [
          (none, .mv 16 (.v 3)),
          (none, .bin 17 .gtr (.v 16) (.c (.int .i64 0))),
          (none, .mv 18 (.v 17)),
          (some (18, true), .mv 19 (.v 0)),
          (some (18, true), .call (some 20) 6 true [((.v 19), true), ((.c (.int .i64 12)), false)]),
          (none, .pick 21 (.v 18) (.v 20) (.c (.bool false)))])
        (.cond (.v 21)
         (.region [(29, 4, false), (26, 0, false), (23, 0, false), (22, 4, false)] [] [0, 4] false [
           (none, .mv 22 (.v 4)),
           (none, .mv 23 (.v 0)),
           (none, .mv 24 (.v 3)),
           (none, .call (some 25) 7 true [((.v 23), true), ((.v 24), false)]),
           (none, .mv 26 (.v 0)),
           (none, .mksl 27 1 (.int .i64 0) 5 [(0, (.c (.int .i64 (-1))), .copy), (1, (.c (.int .i64 0)), .copy), (2, (.c (.int .i64 1000)), .copy), (3, (.c (.int .i64 1001)), .copy), (4, (.c (.int .i64 (-9223372036854775808))), .copy)]),
           (none, .call (some 28) 4 true [((.v 26), true), ((.v 27), false)]),
           (none, .iadr 29 1 (.v 22) (.v 25)),
           (none, .store 1 (.v 29) (.v 28) .copy)])
         (.skip [0, 4])))
       (.seq
        (.region [(30, 4, false)] [] [0, 2] false [
          (none, .mv 30 (.v 4)),
          (none, .asg 2 (.v 30) .move)])
        (.ret [0, 2])))))))⟩
def F458 : PFunc :=
 ⟨[false], [.tmp 2, .tmp 3],
  (.seq
   (.region [] [] [0] false [
     (none, .asg 2 (.c (.sl true 1 [])) .copy),
     (none, .asg 3 (.c (.sl true 1 [])) .copy)])
   (.seq
    (.region [(6, 0, false)] [] [4] false [
      (none, .mv 6 (.v 0)),
      (none, .call (some 7) 603 true [((.v 6), false)]),
      (none, .asg 4 (.v 7) .move)])
    (.seq
     (.region [(8, 4, false)] [] [4, 5] false [
       (none, .mv 8 (.v 4)),
       (none, .call (some 9) 635 true [((.v 8), true)]),
       (none, .asg 5 (.v 9) .move)])
     (.seq
      (.seq
       (.region [(10, 4, false)] [] [4, 5, 11] false [
         (none, .mv 10 (.v 4)),
         (none, .call (some 11) 6 true [((.v 10), true), ((.c (.int .i64 8)), false)])])
       (.cond (.v 11)
        (.seq
         (.region [(13, 4, false), (12, 5, false)] [] [2, 3] false [
           (none, .mv 12 (.v 5)),
           (none, .mv 13 (.v 4)),
           (none, .call (some 14) 635 true [((.v 13), true)]),
           (none, .asg 2 (.v 12) .move),
           (none, .asg 3 (.v 14) .move)])
         (.ret [2, 3]))
        (.skip [4, 5])))
      (.seq
       (.seq
        (.region [(18, 5, false), (15, 4, false)] [] [4, 5, 21] false [
          (none, .mv 15 (.v 4)),
          (none, .call (some 16) 6 true [((.v 15), true), ((.c (.int .i64 2)), false)]),
          (none, .mv 17 (.v 16)),
          (some (17, true), .mv 18 (.v 5)),
          (some (17, true), .len 19 false (.v 18)),
          (some (17, true), .bin 20 .gtr (.v 19) (.c (.int .i64 0))),
          (none, .pick 21 (.v 17) (.v 20) (.c (.bool false)))])
        (.cond (.v 21)
         (.seq
          (.region [(25, 5, false), (24, 4, false), (23, 5, false), (22, 5, false)] [] [2, 3] false [
            (none, .mv 22 (.v 5)),
            (none, .mv 23 (.v 5)),
            (none, .mv 24 (.v 4)),
            (none, .mv 25 (.v 5)),
            (none, .len 26 false (.v 25)),
            (none, .call (some 27) 7 true [((.v 24), true), ((.v 26), false)]),
            (none, .call (some 28) 639 false [((.v 23), false), ((.v 27), false)]),
            (none, .asg 2 (.v 22) .move),
            (none, .asg 3 (.v 28) .move)])
          (.ret [2, 3]))
         (.skip [4, 5])))
       (.seq
        (.region [(31, 5, false), (30, 4, false), (29, 5, false)] [] [2, 3] false [
          (none, .mv 29 (.v 5)),
          (none, .mv 30 (.v 4)),
          (none, .mv 31 (.v 5)),
          (none, .len 32 false (.v 31)),
          (none, .call (some 33) 636 true [((.v 30), true), ((.v 32), false)]),
          (none, .asg 2 (.v 29) .move),
          (none, .asg 3 (.v 33) .move)])
        (.ret [2, 3])))))))⟩
def F463 : PFunc :=
 ⟨[false], [.tmp 2, .tmp 3],
  (.seq
   (.region [] [] [0] false [
     (none, .asg 2 (.c (.int .i64 0)) .copy),
     (none, .asg 3 (.c (.int .i64 0)) .copy)])
   (.seq
    (.region [(6, 0, false)] [] [4] false [
      (none, .mv 6 (.v 0)),
      (none, .call (some 7) 603 true [((.v 6), false)]),
      (none, .asg 4 (.v 7) .move)])
    (.seq
     (.region [(8, 4, false)] [] [4, 5] false [
       (none, .mv 8 (.v 4)),
       (none, .call (some 9) 7 true [((.v 8), true), ((.c (.int .i64 24)), false)]),
       (none, .bin 10 .add (.c (.int .i64 1)) (.v 9)),
       (none, .asg 5 (.v 10) .copy)])
     (.seq
      (.seq
       (.region [(11, 4, false)] [] [4, 5, 12] false [
         (none, .mv 11 (.v 4)),
         (none, .call (some 12) 6 true [((.v 11), true), ((.c (.int .i64 10)), false)])])
       (.cond (.v 12)
        (.region [(13, 4, false)] [] [4, 5] false [
          (none, .mv 13 (.v 4)),
          (none, .mksl 14 1 (.int .i64 0) 5 [(0, (.c (.int .i64 (-1))), .copy), (1, (.c (.int .i64 0)), .copy), (2, (.c (.int .i64 1)), .copy), (3, (.c (.int .i64 60)), .copy), (4, (.c (.int .i64 61)), .copy)]),
          (none, .call (some 15) 4 true [((.v 13), true), ((.v 14), false)]),
          (none, .asg 5 (.v 15) .copy)])
        (.skip [4, 5])))
      (.seq
       (.seq
        (.region [(16, 4, false)] [] [4, 5, 17] false [
          (none, .mv 16 (.v 4)),
          (none, .call (some 17) 6 true [((.v 16), true), ((.c (.int .i64 10)), false)])])
        (.cond (.v 17)
         (.seq
          (.region [(19, 4, false)] [] [2, 3] false [
            (none, .mv 18 (.v 5)),
            (none, .mv 19 (.v 4)),
            (none, .mksl 20 1 (.int .i64 0) 5 [(0, (.c (.int .i64 (-1))), .copy), (1, (.c (.int .i64 0)), .copy), (2, (.c (.int .i64 1)), .copy), (3, (.c (.int .i64 60)), .copy), (4, (.c (.int .i64 61)), .copy)]),
            (none, .call (some 21) 4 true [((.v 19), true), ((.v 20), false)]),
            (none, .asg 2 (.v 18) .copy),
            (none, .asg 3 (.v 21) .copy)])
          (.ret [2, 3]))
         (.skip [4, 5])))
       (.seq
        (.region [(23, 4, false)] [] [2, 3] false [
          (none, .mv 22 (.v 5)),
          (none, .mv 23 (.v 4)),
          (none, .call (some 24) 7 true [((.v 23), true), ((.c (.int .i64 24)), false)]),
          (none, .bin 25 .add (.c (.int .i64 1)) (.v 24)),
          (none, .asg 2 (.v 22) .copy),
          (none, .asg 3 (.v 25) .copy)])
        (.ret [2, 3])))))))⟩
def F499 : PFunc :=
 ⟨[false], [.tmp 2],
  (.seq
   (.region [] [] [0] false [
     (none, .asg 2 (.c (.sl true 1 [])) .copy)])
   (.seq
    (.region [(3, 0, false)] [] [2] false [
      (none, .mv 3 (.v 0)),
      (none, .call (some 4) 603 true [((.v 3), false)]),
      (none, .call (some 5) 635 true [((.v 4), true)]),
      (none, .asg 2 (.v 5) .move)])
    (.ret [2])))⟩
def F638 : PFunc :=
 ⟨[false], [.tmp 2],
  (.seq
   (.region [] [] [0] false [
     (none, .asg 2 (.c (.sl true 1 [])) .copy)])
   (.seq
    (.region [] [] [0, 3] false [
      (none, .mksl 5 1 (.int .i64 0) 0 []),
      (none, .asg 3 (.v 5) .move)])
    (.seq
     (.seq
      (.region [] [] [0, 3, 4] false [
        (none, .asg 4 (.c (.int .i64 0)) .copy)])
      (.block 0
       (.loop
        (.seq
         (.seq
          (.region [(7, 0, false)] [] [0, 3, 4, 9] false [
            (none, .mv 6 (.v 4)),
            (none, .mv 7 (.v 0)),
            (none, .len 8 false (.v 7)),
            (none, .bin 9 .lss (.v 6) (.v 8))])
          (.cond (.v 9)
           (.skip [0, 3, 4])
           (.exit 0 [3])))
         (.seq
          (.block 1
           (.region [(23, 0, false), (21, 0, false), (19, 0, false), (16, 0, false), (13, 0, false), (12, 3, false)] [] [0, 3, 4] true [
             (none, .mvr 12 3),
             (none, .mv 13 (.v 0)),
             (none, .mv 14 (.v 4)),
             (none, .bin 15 .add (.v 14) (.c (.int .i64 1))),
             (none, .mv 16 (.v 0)),
             (none, .len 17 false (.v 16)),
             (none, .bin 18 .rem (.v 15) (.v 17)),
             (none, .iadr 19 1 (.v 13) (.v 18)),
             (none, .load 20 false 1 (.v 19) none),
             (none, .mv 21 (.v 0)),
             (none, .mv 22 (.v 4)),
             (none, .iadr 23 1 (.v 21) (.v 22)),
             (none, .load 24 false 1 (.v 23) none),
             (none, .bin 25 .sub (.v 20) (.v 24)),
             (none, .mksl 26 1 (.int .i64 0) 1 [(0, (.v 25), .copy)]),
             (none, .app 27 1 (.v 12) (.v 26) .move),
             (none, .asg 3 (.v 27) .move)]))
          (.region [] [] [0, 3, 4] false [
            (none, .mv 10 (.v 4)),
            (none, .bin 11 .add (.v 10) (.c (.int .i64 1))),
            (none, .asg 4 (.v 11) .copy)]))))))
     (.seq
      (.region [(28, 3, false)] [] [2] false [
        (none, .mv 28 (.v 3)),
        (none, .asg 2 (.v 28) .move)])
      (.ret [2])))))⟩
def F558 : PFunc :=
 ⟨[false], [.tmp 2, .tmp 3, .tmp 4],
  (.seq
   (.region [] [] [0] false [
     (none, .asg 2 (.c (.int .i64 0)) .copy),
     (none, .asg 3 (.c (.int .i64 0)) .copy),
     (none, .asg 4 (.c (.int .i64 0)) .copy)])
   (.seq
    (.seq
     (.region [(11, 0, false)] [] [0, 13] false [
       (none, .mv 11 (.v 0)),
       (none, .call (some 12) 637 false [((.v 11), false)]),
       (none, .un 13 .not (.v 12))])
     (.cond (.v 13)
      (.seq
       (.region [] [] [2, 3, 4] false [
         (none, .asg 2 (.c (.int .i64 0)) .copy),
         (none, .asg 3 (.c (.int .i64 0)) .copy),
         (none, .asg 4 (.c (.int .i64 1)) .copy)])
       (.ret [2, 3, 4]))
      (.skip [0])))
    (.seq
     (.region [(14, 0, false)] [] [5] false [
       (none, .mv 14 (.v 0)),
       (none, .call (some 15) 638 false [((.v 14), false)]),
       (none, .asg 5 (.v 15) .move)])
     (.seq
      (.region [(16, 5, false)] [] [5, 6] false [
        (none, .mv 16 (.v 5)),
        (none, .len 17 false (.v 16)),
        (none, .asg 6 (.v 17) .copy)])
      (.seq
       (.region [] [] [5, 6, 7] false [
         (none, .asg 7 (.c (.int .i64 0)) .copy)])
       (.seq
        (.region [] [] [5, 6, 7, 8] false [
          (none, .asg 8 (.c (.int .i64 (-1))) .copy)])
        (.seq
         (.seq
          (.region [] [] [5, 6, 7, 8, 9] false [
            (none, .asg 9 (.c (.int .i64 0)) .copy)])
          (.block 0
           (.loop
            (.seq
             (.seq
              (.region [] [] [5, 6, 7, 8, 9, 20] false [
                (none, .mv 18 (.v 9)),
                (none, .mv 19 (.v 6)),
                (none, .bin 20 .lss (.v 18) (.v 19))])
              (.cond (.v 20)
               (.skip [5, 6, 7, 8, 9])
               (.exit 0 [7, 8])))
             (.seq
              (.block 1
               (.seq
                (.region [(34, 5, false), (27, 5, false), (25, 5, false), (23, 5, false)] [] [5, 6, 7, 8, 9, 10] true [
                  (none, .mvr 23 5),
                  (none, .mv 24 (.v 9)),
                  (none, .iadr 25 1 (.v 23) (.v 24)),
                  (none, .load 26 false 1 (.v 25) none),
                  (none, .mvr 27 5),
                  (none, .mv 28 (.v 9)),
                  (none, .mv 29 (.v 6)),
                  (none, .bin 30 .add (.v 28) (.v 29)),
                  (none, .bin 31 .sub (.v 30) (.c (.int .i64 1))),
                  (none, .mv 32 (.v 6)),
                  (none, .bin 33 .rem (.v 31) (.v 32)),
                  (none, .iadr 34 1 (.v 27) (.v 33)),
                  (none, .load 35 false 1 (.v 34) none),
                  (none, .bin 36 .sub (.v 26) (.v 35)),
                  (none, .call (some 37) 611 false [((.v 36), false)]),
                  (none, .asg 10 (.v 37) .copy)])
                (.seq
                 (.region [] [] [5, 6, 7, 8, 9, 10, 40] false [
                   (none, .mv 38 (.v 10)),
                   (none, .mv 39 (.v 8)),
                   (none, .bin 40 .gtr (.v 38) (.v 39))])
                 (.cond (.v 40)
                  (.seq
                   (.region [] [] [5, 6, 7, 9, 10] false [
                     (none, .mv 41 (.v 9)),
                     (none, .asg 7 (.v 41) .copy)])
                   (.region [] [] [5, 6, 7, 8, 9] false [
                     (none, .mv 42 (.v 10)),
                     (none, .asg 8 (.v 42) .copy)]))
                  (.skip [5, 6, 7, 8, 9])))))
              (.region [] [] [5, 6, 7, 8, 9] false [
                (none, .mv 21 (.v 9)),
                (none, .bin 22 .add (.v 21) (.c (.int .i64 1))),
                (none, .asg 9 (.v 22) .copy)]))))))
         (.seq
          (.region [] [] [2, 3, 4] false [
            (none, .mv 43 (.v 7)),
            (none, .mv 44 (.v 8)),
            (none, .asg 2 (.v 43) .copy),
            (none, .asg 3 (.v 44) .copy),
            (none, .asg 4 (.c (.int .i64 0)) .copy)])
          (.ret [2, 3, 4])))))))))⟩
def F575 : PFunc :=
 ⟨[false], [.tmp 2, .tmp 3],
  (.seq
   (.region [] [] [0] false [
     (none, .asg 2 (.c (.sl true 1 [])) .copy),
     (none, .asg 3 (.c (.int .i64 0)) .copy)])
   (.seq
    (.seq
     (.region [(4, 0, false)] [] [0, 6] false [
       (none, .mv 4 (.v 0)),
       (none, .call (some 5) 637 false [((.v 4), false)]),
       (none, .un 6 .not (.v 5))])
     (.cond (.v 6)
      (.seq
       (.region [] [] [2, 3] false [
         (none, .asg 2 (.c (.sl true 1 [])) .copy),
         (none, .asg 3 (.c (.int .i64 1)) .copy)])
       (.ret [2, 3]))
      (.skip [0])))
    (.seq
     (.region [(7, 0, false)] [] [2, 3] false [
       (none, .mv 7 (.v 0)),
       (none, .call (some 8) 638 false [((.v 7), false)]),
       (none, .asg 2 (.v 8) .move),
       (none, .asg 3 (.c (.int .i64 0)) .copy)])
     (.ret [2, 3]))))⟩
def F594 : PFunc :=
 ⟨[false], [.tmp 2],
  (.seq
   (.region [] [] [0] false [
     (none, .asg 2 (.c (.bool false)) .copy)])
   (.seq
    (.region [(3, 0, false)] [] [2] false [
      (none, .mv 3 (.v 0)),
      (none, .call (some 4) 637 false [((.v 3), false)]),
      (none, .asg 2 (.v 4) .copy)])
    (.ret [2])))⟩
def F366 : PFunc :=
 ⟨[false], [.tmp 2],
  (.seq
   (.region [] [] [0] false [
     (none, .asg 2 (.c (.bool false)) .copy)])
   (.seq
    (.seq
     (.region [(34, 0, false)] [] [0, 35] false [
       (none, .mv 34 (.v 0)),
       (none, .call (some 35) 398 false [((.v 34), false)])])
     (.cond (.v 35)
      (.seq
       (.region [] [] [2] false [
         (none, .asg 2 (.c (.bool true)) .copy)])
       (.ret [2]))
      (.skip [0])))
    (.seq
     (.region [(36, 0, false)] [] [0, 3] false [
       (none, .mv 36 (.v 0)),
       (none, .call (some 37) 499 false [((.v 36), false)]),
       (none, .asg 3 (.v 37) .move)])
     (.seq
      (.region [(39, 3, false)] [] [0, 3, 4, 5] false [
        (none, .mv 39 (.v 3)),
        (none, .call (some 40) 190 false [((.v 39), false)]),
        (none, .asg 38 (.v 40) .move),
        (none, .ext 41 (.v 38) 0),
        (none, .extp 42 (.v 38) 1),
        (none, .asg 4 (.v 41) .move),
        (none, .asg 5 (.v 42) .copy)])
      (.seq
       (.region [(44, 3, false)] [] [0, 3, 4, 5, 6, 7] false [
         (none, .mv 44 (.v 3)),
         (none, .call (some 45) 575 false [((.v 44), false)]),
         (none, .asg 43 (.v 45) .move),
         (none, .ext 46 (.v 43) 0),
         (none, .extp 47 (.v 43) 1),
         (none, .asg 6 (.v 46) .move),
         (none, .asg 7 (.v 47) .copy)])
       (.seq
        (.region [(49, 0, false)] [] [0, 3, 4, 5, 6, 7, 8, 9] false [
          (none, .mv 49 (.v 0)),
          (none, .call (some 50) 458 false [((.v 49), false)]),
          (none, .asg 48 (.v 50) .move),
          (none, .ext 51 (.v 48) 0),
          (none, .ext 52 (.v 48) 1),
          (none, .asg 8 (.v 51) .move),
          (none, .asg 9 (.v 52) .move)])
        (.seq
         (.region [(55, 9, false), (54, 8, false)] [] [0, 3, 4, 5, 6, 7, 8, 9, 10, 11, 12] false [
           (none, .mv 54 (.v 8)),
           (none, .mv 55 (.v 9)),
           (none, .call (some 56) 55 false [((.v 54), false), ((.v 55), false)]),
           (none, .asg 53 (.v 56) .copy),
           (none, .extp 57 (.v 53) 0),
           (none, .extp 58 (.v 53) 1),
           (none, .extp 59 (.v 53) 2),
           (none, .asg 10 (.v 57) .copy),
           (none, .asg 11 (.v 58) .copy),
           (none, .asg 12 (.v 59) .copy)])
         (.seq
          (.region [(62, 9, false), (61, 8, false)] [] [0, 3, 4, 5, 6, 7, 8, 9, 10, 11, 12, 13, 14, 15] false [
            (none, .mv 61 (.v 8)),
            (none, .mv 62 (.v 9)),
            (none, .call (some 63) 442 false [((.v 61), false), ((.v 62), false)]),
            (none, .asg 60 (.v 63) .copy),
            (none, .extp 64 (.v 60) 0),
            (none, .extp 65 (.v 60) 1),
            (none, .extp 66 (.v 60) 2),
            (none, .asg 13 (.v 64) .copy),
            (none, .asg 14 (.v 65) .copy),
            (none, .asg 15 (.v 66) .copy)])
          (.seq
           (.region [(68, 0, false)] [] [3, 4, 5, 6, 7, 8, 9, 10, 11, 12, 13, 14, 15, 16, 17] false [
             (none, .mv 68 (.v 0)),
             (none, .call (some 69) 463 false [((.v 68), false)]),
             (none, .asg 67 (.v 69) .copy),
             (none, .extp 70 (.v 67) 0),
             (none, .extp 71 (.v 67) 1),
             (none, .asg 16 (.v 70) .copy),
             (none, .asg 17 (.v 71) .copy)])
           (.seq
            (.region [] [] [3, 4, 5, 6, 7, 8, 9, 10, 11, 12, 13, 14, 15, 16, 17, 18, 19] false [
              (none, .mv 73 (.v 16)),
              (none, .mv 74 (.v 17)),
              (none, .call (some 75) 66 false [((.v 73), false), ((.v 74), false)]),
              (none, .asg 72 (.v 75) .copy),
              (none, .extp 76 (.v 72) 0),
              (none, .extp 77 (.v 72) 1),
              (none, .asg 18 (.v 76) .copy),
              (none, .asg 19 (.v 77) .copy)])
            (.seq
             (.region [] [] [3, 4, 5, 6, 7, 8, 9, 10, 11, 12, 13, 14, 15, 16, 17, 18, 19, 20, 21] false [
               (none, .mv 79 (.v 16)),
               (none, .mv 80 (.v 17)),
               (none, .call (some 81) 449 false [((.v 79), false), ((.v 80), false)]),
               (none, .asg 78 (.v 81) .copy),
               (none, .extp 82 (.v 78) 0),
               (none, .extp 83 (.v 78) 1),
               (none, .asg 20 (.v 82) .copy),
               (none, .asg 21 (.v 83) .copy)])
             (.seq
              (.region [(85, 3, false)] [] [3, 4, 5, 6, 7, 8, 9, 10, 11, 12, 13, 14, 15, 16, 17, 18, 19, 20, 21, 22, 23, 24] false [
                (none, .mv 85 (.v 3)),
                (none, .call (some 86) 169 false [((.v 85), false)]),
                (none, .asg 84 (.v 86) .copy),
                (none, .extp 87 (.v 84) 0),
                (none, .extp 88 (.v 84) 1),
                (none, .extp 89 (.v 84) 2),
                (none, .asg 22 (.v 87) .copy),
                (none, .asg 23 (.v 88) .copy),
                (none, .asg 24 (.v 89) .copy)])
              (.seq
               (.region [(91, 3, false)] [] [3, 4, 5, 6, 7, 8, 9, 10, 11, 12, 13, 14, 15, 16, 17, 18, 19, 20, 21, 22, 23, 24, 25, 26, 27] false [
                 (none, .mv 91 (.v 3)),
                 (none, .call (some 92) 558 false [((.v 91), false)]),
                 (none, .asg 90 (.v 92) .copy),
                 (none, .extp 93 (.v 90) 0),
                 (none, .extp 94 (.v 90) 1),
                 (none, .extp 95 (.v 90) 2),
                 (none, .asg 25 (.v 93) .copy),
                 (none, .asg 26 (.v 94) .copy),
                 (none, .asg 27 (.v 95) .copy)])
               (.seq
                (.seq
                 (.region [(148, 3, false), (146, 3, false), (101, 6, false), (100, 4, false)] [] [3, 5, 6, 8, 9, 12, 13, 14, 16, 17, 19, 20, 151] false [
                   (none, .mv 96 (.v 5)),
                   (none, .mv 97 (.v 7)),
                   (none, .bin 98 .neq (.v 96) (.v 97)),
                   (none, .mv 99 (.v 98)),
                   (some (99, false), .mv 100 (.v 4)),
                   (some (99, false), .mv 101 (.v 6)),
                   (some (99, false), .call (some 102) 400 false [((.v 100), false), ((.v 101), false)]),
                   (some (99, false), .un 103 .not (.v 102)),
                   (none, .pick 104 (.v 99) (.c (.bool true)) (.v 103)),
                   (none, .mv 105 (.v 104)),
                   (some (105, false), .mv 106 (.v 12)),
                   (some (105, false), .mv 107 (.v 15)),
                   (some (105, false), .bin 108 .neq (.v 106) (.v 107)),
                   (none, .pick 109 (.v 105) (.c (.bool true)) (.v 108)),
                   (none, .mv 110 (.v 109)),
                   (some (110, false), .mv 111 (.v 10)),
                   (some (110, false), .mv 112 (.v 13)),
                   (some (110, false), .bin 113 .neq (.v 111) (.v 112)),
                   (none, .pick 114 (.v 110) (.c (.bool true)) (.v 113)),
                   (none, .mv 115 (.v 114)),
                   (some (115, false), .mv 116 (.v 11)),
                   (some (115, false), .mv 117 (.v 14)),
                   (some (115, false), .bin 118 .neq (.v 116) (.v 117)),
                   (none, .pick 119 (.v 115) (.c (.bool true)) (.v 118)),
                   (none, .mv 120 (.v 119)),
                   (some (120, false), .mv 121 (.v 19)),
                   (some (120, false), .mv 122 (.v 21)),
                   (some (120, false), .bin 123 .neq (.v 121) (.v 122)),
                   (none, .pick 124 (.v 120) (.c (.bool true)) (.v 123)),
                   (none, .mv 125 (.v 124)),
                   (some (125, false), .mv 126 (.v 18)),
                   (some (125, false), .mv 127 (.v 20)),
                   (some (125, false), .bin 128 .neq (.v 126) (.v 127)),
                   (none, .pick 129 (.v 125) (.c (.bool true)) (.v 128)),
                   (none, .mv 130 (.v 129)),
                   (some (130, false), .mv 131 (.v 24)),
                   (some (130, false), .mv 132 (.v 27)),
                   (some (130, false), .bin 133 .neq (.v 131) (.v 132)),
                   (none, .pick 134 (.v 130) (.c (.bool true)) (.v 133)),
                   (none, .mv 135 (.v 134)),
                   (some (135, false), .mv 136 (.v 22)),
                   (some (135, false), .mv 137 (.v 25)),
                   (some (135, false), .bin 138 .neq (.v 136) (.v 137)),
                   (none, .pick 139 (.v 135) (.c (.bool true)) (.v 138)),
                   (none, .mv 140 (.v 139)),
                   (some (140, false), .mv 141 (.v 23)),
                   (some (140, false), .mv 142 (.v 26)),
                   (some (140, false), .bin 143 .neq (.v 141) (.v 142)),
                   (none, .pick 144 (.v 140) (.c (.bool true)) (.v 143)),
                   (none, .mv 145 (.v 144)),
                   (some (145, false), .mv 146 (.v 3)),
                   (some (145, false), .call (some 147) 220 false [((.v 146), false)]),
                   (some (145, false), .mv 148 (.v 3)),
                   (some (145, false), .call (some 149) 594 false [((.v 148), false)]),
                   (some (145, false), .eqb 150 true (.v 147) (.v 149)),
                   (none, .pick 151 (.v 145) (.c (.bool true)) (.v 150))])
                 (.cond (.v 151)
                  (.seq
                   (.region [] [] [2] false [
                     (none, .asg 2 (.c (.bool false)) .copy)])
                   (.ret [2]))
                  (.skip [3, 5, 6, 8, 9, 12, 13, 14, 16, 17, 19, 20])))
                (.seq
                 (.seq
                  (.region [] [] [3, 5, 6, 8, 9, 12, 13, 14, 176] false [
                    (none, .mv 152 (.v 19)),
                    (none, .bin 153 .eql (.v 152) (.c (.int .i64 0))),
                    (none, .mv 154 (.v 153)),
                    (some (154, true), .mv 155 (.v 20)),
                    (some (154, true), .mv 156 (.v 16)),
                    (some (154, true), .bin 157 .rem (.v 155) (.v 156)),
                    (some (154, true), .bin 158 .neq (.v 157) (.c (.int .i64 0))),
                    (some (154, true), .mv 159 (.v 158)),
                    (some (159, false), .mv 160 (.v 20)),
                    (some (159, false), .mv 161 (.v 17)),
                    (some (159, false), .bin 162 .rem (.v 160) (.v 161)),
                    (some (159, false), .bin 163 .neq (.v 162) (.c (.int .i64 0))),
                    (some (154, true), .pick 164 (.v 159) (.c (.bool true)) (.v 163)),
                    (some (154, true), .mv 165 (.v 164)),
                    (some (165, false), .mv 166 (.v 20)),
                    (some (165, false), .bin 167 .lss (.v 166) (.c (.int .i64 1))),
                    (some (154, true), .pick 168 (.v 165) (.c (.bool true)) (.v 167)),
                    (some (154, true), .mv 169 (.v 168)),
                    (some (169, false), .mv 170 (.v 20)),
                    (some (169, false), .mv 171 (.v 16)),
                    (some (169, false), .mv 172 (.v 17)),
                    (some (169, false), .bin 173 .mul (.v 171) (.v 172)),
                    (some (169, false), .bin 174 .gtr (.v 170) (.v 173)),
                    (some (154, true), .pick 175 (.v 169) (.c (.bool true)) (.v 174)),
                    (none, .pick 176 (.v 154) (.v 175) (.c (.bool false)))])
                  (.cond (.v 176)
                   (.seq
                    (.region [] [] [2] false [
                      (none, .asg 2 (.c (.bool false)) .copy)])
                    (.ret [2]))
                   (.skip [3, 5, 6, 8, 9, 12, 13, 14])))
                 (.seq
                  (.seq
                   (.region [] [] [3, 5, 6, 8, 9, 13, 14, 178] false [
                     (none, .mv 177 (.v 12)),
                     (none, .bin 178 .eql (.v 177) (.c (.int .i64 0)))])
                   (.cond (.v 178)
                    (.seq
                     (.region [(180, 8, false)] [] [3, 5, 6, 8, 9, 14, 28, 29] false [
                       (none, .mv 180 (.v 8)),
                       (none, .mv 181 (.v 13)),
                       (none, .call (some 182) 202 false [((.v 180), false), ((.v 181), false)]),
                       (none, .asg 179 (.v 182) .move),
                       (none, .ext 183 (.v 179) 0),
                       (none, .extp 184 (.v 179) 1),
                       (none, .asg 28 (.v 183) .move),
                       (none, .asg 29 (.v 184) .copy)])
                     (.seq
                      (.seq
                       (.region [(190, 9, false), (188, 28, false)] [] [3, 5, 6, 8, 9, 14, 28, 193] false [
                         (none, .mv 185 (.v 29)),
                         (none, .bin 186 .neq (.v 185) (.c (.int .i64 0))),
                         (none, .mv 187 (.v 186)),
                         (some (187, false), .mv 188 (.v 28)),
                         (some (187, false), .len 189 false (.v 188)),
                         (some (187, false), .mv 190 (.v 9)),
                         (some (187, false), .len 191 false (.v 190)),
                         (some (187, false), .bin 192 .neq (.v 189) (.v 191)),
                         (none, .pick 193 (.v 187) (.c (.bool true)) (.v 192))])
                       (.cond (.v 193)
                        (.seq
                         (.region [] [] [2] false [
                           (none, .asg 2 (.c (.bool false)) .copy)])
                         (.ret [2]))
                        (.skip [3, 5, 6, 8, 9, 14, 28])))
                      (.seq
                       (.region [] [] [3, 5, 6, 8, 9, 14, 28, 30] false [
                         (none, .asg 30 (.c (.int .i64 0)) .copy)])
                       (.seq
                        (.seq
                         (.region [] [] [3, 5, 6, 8, 9, 14, 28, 30, 31] false [
                           (none, .asg 31 (.c (.int .i64 0)) .copy)])
                         (.block 0
                          (.loop
                           (.seq
                            (.seq
                             (.region [(195, 9, false)] [] [3, 5, 6, 8, 9, 14, 28, 30, 31, 197] false [
                               (none, .mv 194 (.v 31)),
                               (none, .mv 195 (.v 9)),
                               (none, .len 196 false (.v 195)),
                               (none, .bin 197 .lss (.v 194) (.v 196))])
                             (.cond (.v 197)
                              (.skip [3, 5, 6, 8, 9, 14, 28, 30, 31])
                              (.exit 0 [3, 5, 6, 8, 9, 14, 30])))
                            (.seq
                             (.block 1
                              (.region [(207, 9, false), (205, 9, false), (203, 28, false), (201, 28, false)] [] [3, 5, 6, 8, 9, 14, 28, 30, 31] true [
                                (none, .mv 200 (.v 30)),
                                (none, .mvr 201 28),
                                (none, .mv 202 (.v 31)),
                                (none, .iadr 203 1 (.v 201) (.v 202)),
                                (none, .load 204 false 1 (.v 203) none),
                                (none, .mvr 205 9),
                                (none, .mv 206 (.v 31)),
                                (none, .iadr 207 1 (.v 205) (.v 206)),
                                (none, .load 208 false 1 (.v 207) none),
                                (none, .bin 209 .sub (.v 204) (.v 208)),
                                (none, .call (some 210) 397 false [((.v 209), false)]),
                                (none, .bin 211 .add (.v 200) (.v 210)),
                                (none, .asg 30 (.v 211) .copy)]))
                             (.region [] [] [3, 5, 6, 8, 9, 14, 28, 30, 31] false [
                               (none, .mv 198 (.v 31)),
                               (none, .bin 199 .add (.v 198) (.c (.int .i64 1))),
                               (none, .asg 31 (.v 199) .copy)]))))))
                        (.seq
                         (.region [] [] [3, 5, 6, 8, 9, 14, 30, 32] false [
                           (none, .asg 32 (.c (.int .i64 0)) .copy)])
                         (.seq
                          (.seq
                           (.region [] [] [3, 5, 6, 8, 9, 14, 30, 32, 33] false [
                             (none, .asg 33 (.c (.int .i64 0)) .copy)])
                           (.block 2
                            (.loop
                             (.seq
                              (.seq
                               (.region [(213, 9, false)] [] [3, 5, 6, 8, 9, 14, 30, 32, 33, 215] false [
                                 (none, .mv 212 (.v 33)),
                                 (none, .mv 213 (.v 9)),
                                 (none, .len 214 false (.v 213)),
                                 (none, .bin 215 .lss (.v 212) (.v 214))])
                               (.cond (.v 215)
                                (.skip [3, 5, 6, 8, 9, 14, 30, 32, 33])
                                (.exit 2 [3, 5, 6, 14, 30, 32])))
                              (.seq
                               (.block 3
                                (.region [(225, 9, false), (223, 9, false), (221, 8, false), (219, 8, false)] [] [3, 5, 6, 8, 9, 14, 30, 32, 33] true [
                                  (none, .mv 218 (.v 32)),
                                  (none, .mvr 219 8),
                                  (none, .mv 220 (.v 33)),
                                  (none, .iadr 221 1 (.v 219) (.v 220)),
                                  (none, .load 222 false 1 (.v 221) none),
                                  (none, .mvr 223 9),
                                  (none, .mv 224 (.v 33)),
                                  (none, .iadr 225 1 (.v 223) (.v 224)),
                                  (none, .load 226 false 1 (.v 225) none),
                                  (none, .bin 227 .sub (.v 222) (.v 226)),
                                  (none, .call (some 228) 397 false [((.v 227), false)]),
                                  (none, .bin 229 .add (.v 218) (.v 228)),
                                  (none, .asg 32 (.v 229) .copy)]))
                               (.region [] [] [3, 5, 6, 8, 9, 14, 30, 32, 33] false [
                                 (none, .mv 216 (.v 33)),
                                 (none, .bin 217 .add (.v 216) (.c (.int .i64 1))),
                                 (none, .asg 33 (.v 217) .copy)]))))))
                          (.seq
                           (.region [] [] [3, 5, 6, 237] false [
                             (none, .mv 230 (.v 30)),
                             (none, .mv 231 (.v 14)),
                             (none, .bin 232 .neq (.v 230) (.v 231)),
                             (none, .mv 233 (.v 232)),
                             (some (233, false), .mv 234 (.v 32)),
                             (some (233, false), .mv 235 (.v 14)),
                             (some (233, false), .bin 236 .lss (.v 234) (.v 235)),
                             (none, .pick 237 (.v 233) (.c (.bool true)) (.v 236))])
                           (.cond (.v 237)
                            (.seq
                             (.region [] [] [2] false [
                               (none, .asg 2 (.c (.bool false)) .copy)])
                             (.ret [2]))
                            (.skip [3, 5, 6])))))))))
                    (.skip [3, 5, 6])))
                  (.seq
                   (.region [(247, 3, false), (245, 6, false), (241, 6, false)] [] [2] false [
                     (none, .mv 238 (.v 5)),
                     (none, .bin 239 .neq (.v 238) (.c (.int .i64 0))),
                     (none, .mv 240 (.v 239)),
                     (some (240, false), .mv 241 (.v 6)),
                     (some (240, false), .call (some 242) 402 false [((.v 241), false)]),
                     (some (240, false), .bin 243 .eql (.v 242) (.c (.int .i64 0))),
                     (some (240, false), .mv 244 (.v 243)),
                     (some (244, true), .mv 245 (.v 6)),
                     (some (244, true), .len 246 false (.v 245)),
                     (some (244, true), .mv 247 (.v 3)),
                     (some (244, true), .len 248 false (.v 247)),
                     (some (244, true), .bin 249 .eql (.v 246) (.v 248)),
                     (some (240, false), .pick 250 (.v 244) (.v 249) (.c (.bool false))),
                     (none, .pick 251 (.v 240) (.c (.bool true)) (.v 250)),
                     (none, .asg 2 (.v 251) .copy)])
                   (.ret [2]))))))))))))))))))⟩
def tabl : List (Nat × PFunc) := [(326, F326), (221, F221), (818, F818), (796, F796), (220, F220), (245, F245), (793, F793), (319, F319), (55, F55), (269, F269), (259, F259), (66, F66), (313, F313), (169, F169), (190, F190), (202, F202), (397, F397), (398, F398), (400, F400), (402, F402), (611, F611), (605, F605), (637, F637), (639, F639), (442, F442), (604, F604), (634, F634), (449, F449), (5, F5), (7, F7), (6, F6), (603, F603), (4, F4), (606, F606), (636, F636), (635, F635), (458, F458), (463, F463), (499, F499), (638, F638), (558, F558), (575, F575), (594, F594), (366, F366)]
def T : Nat → Option PFunc := tabOf tabl
end Go.Vs.G
