/- The functions that the law reaches, in the small language, printed by program. No conditions. -/
import Derived.Test.YtiefnapeghkjnaaDLBooks
import Derived.Test.YtiefnapeghkjnaaV4
set_option maxRecDepth 100000
open Go Go.Vs
namespace Go.Vs.G
def F277 : PFunc :=
 ⟨[false, false], [.tmp 4],
  (.seq
   (.region [] [] [0, 1] false [
     (none, .asg 4 (.c (.bool false)) .copy)])
   (.seq
    (.seq
     (.region [] [] [0, 1, 5] false [
       (none, .asg 5 (.c (.int .i64 0)) .copy)])
     (.block 0
      (.loop
       (.seq
        (.seq
         (.region [] [] [0, 1, 5, 9] false [
           (none, .mv 6 (.v 5)),
           (none, .mv 7 (.v 0)),
           (none, .len 8 true (.v 7)),
           (none, .bin 9 .lss (.v 6) (.v 8))])
         (.cond (.v 9)
          (.skip [0, 1, 5])
          (.exit 0 [0, 1])))
        (.seq
         (.block 1
          (.seq
           (.region [] [] [0, 1, 5, 21] false [
             (none, .mv 12 (.v 0)),
             (none, .mv 13 (.v 5)),
             (none, .idx 14 (.v 12) (.v 13)),
             (none, .bin 15 .lss (.v 14) (.c (.int .u8 97))),
             (none, .mv 16 (.v 15)),
             (some (16, false), .mv 17 (.v 0)),
             (some (16, false), .mv 18 (.v 5)),
             (some (16, false), .idx 19 (.v 17) (.v 18)),
             (some (16, false), .bin 20 .gtr (.v 19) (.c (.int .u8 122))),
             (none, .pick 21 (.v 16) (.c (.bool true)) (.v 20))])
           (.cond (.v 21)
            (.seq
             (.region [] [] [4] false [
               (none, .asg 4 (.c (.bool false)) .copy)])
             (.ret [4]))
            (.skip [0, 1, 5]))))
         (.region [] [] [0, 1, 5] false [
           (none, .mv 10 (.v 5)),
           (none, .bin 11 .add (.v 10) (.c (.int .i64 1))),
           (none, .asg 5 (.v 11) .copy)]))))))
    (.seq
     (.region [] [] [4] false [
       (none, .mv 22 (.v 0)),
       (none, .len 23 true (.v 22)),
       (none, .bin 24 .geq (.v 23) (.c (.int .i64 1))),
       (none, .mv 25 (.v 24)),
       (some (25, true), .mv 26 (.v 0)),
       (some (25, true), .len 27 true (.v 26)),
       (some (25, true), .mv 28 (.v 1)),
       (some (25, true), .bin 29 .leq (.v 27) (.v 28)),
       (none, .pick 30 (.v 25) (.v 29) (.c (.bool false))),
       (none, .asg 4 (.v 30) .copy)])
     (.ret [4]))))⟩
def F326 : PFunc :=
 ⟨[false, false, false], [.tmp 6],
  (.seq
   (.region [] [] [0, 1, 2] false [
     (none, .asg 6 (.c (.bool false)) .copy)])
   (.seq
    (.region [] [] [6] false [
      (none, .mv 7 (.v 0)),
      (none, .mv 8 (.v 1)),
      (none, .bin 9 .geq (.v 7) (.v 8)),
      (none, .mv 10 (.v 9)),
      (some (10, true), .mv 11 (.v 0)),
      (some (10, true), .mv 12 (.v 2)),
      (some (10, true), .bin 13 .leq (.v 11) (.v 12)),
      (none, .pick 14 (.v 10) (.v 13) (.c (.bool false))),
      (none, .asg 6 (.v 14) .copy)])
    (.ret [6])))⟩
def F227 : PFunc :=
 ⟨[false], [.tmp 2],
  (.seq
   (.region [] [] [0] false [
     (none, .asg 2 (.c (.bool false)) .copy)])
   (.seq
    (.seq
     (.region [(5, 0, false)] [] [0, 5, 6, 7] false [
       (none, .mv 5 (.v 0)),
       (none, .len 6 false (.v 5)),
       (none, .mv 7 (.c (.int .i64 0)))])
     (.block 0
      (.loop
       (.seq
        (.region [(5, 0, false)] [] [0, 5, 6, 7, 8] false [
          (none, .bin 8 .lss (.v 7) (.v 6))])
        (.seq
         (.cond (.v 8)
          (.skip [0, 5, 6, 7])
          (.exit 0 [0]))
         (.seq
          (.block 1
           (.seq
            (.region [(10, 0, false), (5, 0, false)] [] [0, 3, 4, 5, 6, 7] false [
              (none, .mv 9 (.v 7)),
              (none, .iadr 10 2 (.v 5) (.v 7)),
              (none, .load 11 true 2 (.v 10) none),
              (none, .new 4 (.agg [(.str []), (.int .i64 0)])),
              (none, .asg 3 (.v 9) .copy),
              (none, .store 2 (.v 4) (.v 11) .copy)])
            (.seq
             (.region [(32, 4, false), (30, 0, false), (29, 0, false), (26, 0, false), (17, 4, false), (12, 4, false), (5, 0, false)] [] [0, 5, 6, 7, 36] true [
               (none, .fadr 12 0 1 (.v 4)),
               (none, .load 13 false 1 (.v 12) none),
               (none, .call (some 14) 277 false [((.v 13), false), ((.c (.int .i64 1)), false)]),
               (none, .un 15 .not (.v 14)),
               (none, .mv 16 (.v 15)),
               (some (16, false), .fadr 17 1 1 (.v 4)),
               (some (16, false), .load 18 false 1 (.v 17) none),
               (some (16, false), .call (some 19) 326 false [((.v 18), false), ((.c (.int .i64 1)), false), ((.c (.int .i64 1000)), false)]),
               (some (16, false), .un 20 .not (.v 19)),
               (none, .pick 21 (.v 16) (.c (.bool true)) (.v 20)),
               (none, .mv 22 (.v 21)),
               (some (22, false), .mv 23 (.v 3)),
               (some (22, false), .bin 24 .gtr (.v 23) (.c (.int .i64 0))),
               (some (22, false), .mv 25 (.v 24)),
               (some (25, true), .mv 26 (.v 0)),
               (some (25, true), .mv 27 (.v 3)),
               (some (25, true), .bin 28 .sub (.v 27) (.c (.int .i64 1))),
               (some (25, true), .iadr 29 2 (.v 26) (.v 28)),
               (some (25, true), .fadr 30 0 1 (.v 29)),
               (some (25, true), .load 31 false 1 (.v 30) none),
               (some (25, true), .fadr 32 0 1 (.v 4)),
               (some (25, true), .load 33 false 1 (.v 32) none),
               (some (25, true), .bin 34 .eql (.v 31) (.v 33)),
               (some (22, false), .pick 35 (.v 25) (.v 34) (.c (.bool false))),
               (none, .pick 36 (.v 22) (.c (.bool true)) (.v 35))])
             (.cond (.v 36)
              (.seq
               (.region [] [] [2] false [
                 (none, .asg 2 (.c (.bool false)) .copy)])
               (.ret [2]))
              (.skip [0, 5, 6, 7])))))
          (.region [(5, 0, false)] [] [0, 5, 6, 7] false [
            (none, .bin 37 .add (.v 7) (.c (.int .i64 1))),
            (none, .mv 7 (.v 37))])))))))
    (.seq
     (.region [(42, 0, false), (38, 0, false)] [] [2] false [
       (none, .mv 38 (.v 0)),
       (none, .len 39 false (.v 38)),
       (none, .bin 40 .geq (.v 39) (.c (.int .i64 1))),
       (none, .mv 41 (.v 40)),
       (some (41, true), .mv 42 (.v 0)),
       (some (41, true), .len 43 false (.v 42)),
       (some (41, true), .bin 44 .leq (.v 43) (.c (.int .i64 12))),
       (none, .pick 45 (.v 41) (.v 44) (.c (.bool false))),
       (none, .asg 2 (.v 45) .copy)])
     (.ret [2]))))⟩
def F301 : PFunc :=
 ⟨[false, false], [.tmp 4],
  (.seq
   (.region [] [] [0, 1] false [
     (none, .asg 4 (.c (.int .i64 0)) .copy)])
   (.seq
    (.region [] [] [0, 1] false [
      (none, .mv 6 (.v 0)),
      (none, .bin 7 .mul (.c (.int .i64 2)) (.v 6)),
      (none, .mv 8 (.v 1)),
      (none, .bin 9 .add (.v 7) (.v 8)),
      (none, .mv 10 (.v 1)),
      (none, .bin 11 .mul (.c (.int .i64 2)) (.v 10)),
      (none, .asg 0 (.v 9) .copy),
      (none, .asg 1 (.v 11) .copy)])
    (.seq
     (.region [] [] [0, 1, 5] false [
       (none, .mv 12 (.v 0)),
       (none, .mv 13 (.v 1)),
       (none, .bin 14 .quo (.v 12) (.v 13)),
       (none, .asg 5 (.v 14) .copy)])
     (.seq
      (.seq
       (.region [] [] [5, 18] false [
         (none, .mv 15 (.v 0)),
         (none, .mv 16 (.v 1)),
         (none, .bin 17 .rem (.v 15) (.v 16)),
         (none, .bin 18 .lss (.v 17) (.c (.int .i64 0)))])
       (.cond (.v 18)
        (.region [] [] [5] false [
          (none, .mv 19 (.v 5)),
          (none, .bin 20 .sub (.v 19) (.c (.int .i64 1))),
          (none, .asg 5 (.v 20) .copy)])
        (.skip [5])))
      (.seq
       (.region [] [] [4] false [
         (none, .mv 21 (.v 5)),
         (none, .asg 4 (.v 21) .copy)])
       (.ret [4]))))))⟩
def F296 : PFunc :=
 ⟨[false, false], [.tmp 4],
  (.seq
   (.region [] [] [0, 1] false [
     (none, .asg 4 (.c (.sl true 1 [])) .copy)])
   (.seq
    (.region [] [] [0, 1, 5] false [
      (none, .mksl 8 1 (.int .i64 0) 0 []),
      (none, .asg 5 (.v 8) .move)])
    (.seq
     (.seq
      (.region [(9, 0, false)] [] [0, 1, 5, 9, 10, 11] false [
        (none, .mv 9 (.v 0)),
        (none, .len 10 false (.v 9)),
        (none, .mv 11 (.c (.int .i64 0)))])
      (.block 0
       (.loop
        (.seq
         (.region [(9, 0, false)] [] [0, 1, 5, 9, 10, 11, 12] false [
           (none, .bin 12 .lss (.v 11) (.v 10))])
         (.seq
          (.cond (.v 12)
           (.skip [0, 1, 5, 9, 10, 11])
           (.exit 0 [5]))
          (.seq
           (.block 1
            (.seq
             (.region [(13, 0, false), (9, 0, false)] [] [0, 1, 5, 7, 9, 10, 11] false [
               (none, .iadr 13 2 (.v 9) (.v 11)),
               (none, .load 14 true 2 (.v 13) none),
               (none, .new 7 (.agg [(.str []), (.int .i64 0)])),
               (none, .store 2 (.v 7) (.v 14) .copy)])
             (.region [(16, 7, false), (15, 5, false), (9, 0, false)] [] [0, 1, 5, 9, 10, 11] false [
               (none, .mv 15 (.v 5)),
               (none, .fadr 16 1 1 (.v 7)),
               (none, .load 17 false 1 (.v 16) none),
               (none, .mv 18 (.v 1)),
               (none, .call (some 19) 301 false [((.v 17), false), ((.v 18), false)]),
               (none, .mm 20 true (.v 19) [(.c (.int .i64 1))]),
               (none, .mksl 21 1 (.int .i64 0) 1 [(0, (.v 20), .copy)]),
               (none, .app 22 1 (.v 15) (.v 21) .move),
               (none, .asg 5 (.v 22) .move)])))
           (.region [(9, 0, false)] [] [0, 1, 5, 9, 10, 11] false [
             (none, .bin 23 .add (.v 11) (.c (.int .i64 1))),
             (none, .mv 11 (.v 23))])))))))
     (.seq
      (.region [(24, 5, false)] [] [4] false [
        (none, .mv 24 (.v 5)),
        (none, .asg 4 (.v 24) .move)])
      (.ret [4])))))⟩
def F315 : PFunc :=
 ⟨[false], [.tmp 2],
  (.seq
   (.region [] [] [0] false [
     (none, .asg 2 (.c (.int .i64 0)) .copy)])
   (.seq
    (.region [] [] [0, 3] false [
      (none, .asg 3 (.c (.int .i64 0)) .copy)])
    (.seq
     (.seq
      (.region [(6, 0, false)] [] [0, 3, 6, 7, 8] false [
        (none, .mv 6 (.v 0)),
        (none, .len 7 false (.v 6)),
        (none, .mv 8 (.c (.int .i64 0)))])
      (.block 0
       (.loop
        (.seq
         (.region [(6, 0, false)] [] [0, 3, 6, 7, 8, 9] false [
           (none, .bin 9 .lss (.v 8) (.v 7))])
         (.seq
          (.cond (.v 9)
           (.skip [0, 3, 6, 7, 8])
           (.exit 0 [3]))
          (.seq
           (.block 1
            (.seq
             (.region [(10, 0, false), (6, 0, false)] [] [0, 3, 5, 6, 7, 8] false [
               (none, .iadr 10 1 (.v 6) (.v 8)),
               (none, .load 11 false 1 (.v 10) none),
               (none, .asg 5 (.v 11) .copy)])
             (.region [(6, 0, false)] [] [0, 3, 6, 7, 8] false [
               (none, .mv 12 (.v 3)),
               (none, .mv 13 (.v 5)),
               (none, .bin 14 .add (.v 12) (.v 13)),
               (none, .asg 3 (.v 14) .copy)])))
           (.region [(6, 0, false)] [] [0, 3, 6, 7, 8] false [
             (none, .bin 15 .add (.v 8) (.c (.int .i64 1))),
             (none, .mv 8 (.v 15))])))))))
     (.seq
      (.region [] [] [2] false [
        (none, .mv 16 (.v 3)),
        (none, .asg 2 (.v 16) .copy)])
      (.ret [2])))))⟩
def F252 : PFunc :=
 ⟨[false, false], [.tmp 4],
  (.seq
   (.region [] [] [0, 1] false [
     (none, .asg 4 (.c (.int .i64 0)) .copy)])
   (.seq
    (.block 0
     (.seq
      (.region [(6, 0, false)] [] [0, 1, 5] false [
        (none, .mv 6 (.v 0)),
        (none, .call (some 7) 227 false [((.v 6), false)]),
        (none, .un 8 .not (.v 7)),
        (none, .asg 5 (.v 8) .copy)])
      (.cond (.v 5)
       (.seq
        (.region [] [] [4] false [
          (none, .asg 4 (.c (.int .i64 1)) .copy)])
        (.ret [4]))
       (.seq
        (.region [] [] [0, 1, 9] false [
          (none, .mv 10 (.v 1)),
          (none, .call (some 11) 326 false [((.v 10), false), ((.c (.int .i64 1)), false), ((.c (.int .i64 100)), false)]),
          (none, .un 12 .not (.v 11)),
          (none, .asg 9 (.v 12) .copy)])
        (.cond (.v 9)
         (.seq
          (.region [] [] [4] false [
            (none, .asg 4 (.c (.int .i64 2)) .copy)])
          (.ret [4]))
         (.seq
          (.region [(14, 0, false)] [] [13] false [
            (none, .mv 14 (.v 0)),
            (none, .mv 15 (.v 1)),
            (none, .call (some 16) 296 false [((.v 14), false), ((.v 15), false)]),
            (none, .call (some 17) 315 false [((.v 16), false)]),
            (none, .bin 18 .gtr (.v 17) (.c (.int .i64 60))),
            (none, .asg 13 (.v 18) .copy)])
          (.cond (.v 13)
           (.seq
            (.region [] [] [4] false [
              (none, .asg 4 (.c (.int .i64 5)) .copy)])
            (.ret [4]))
           (.skip []))))))))
    (.seq
     (.region [] [] [4] false [
       (none, .asg 4 (.c (.int .i64 0)) .copy)])
     (.ret [4]))))⟩
def F57 : PFunc :=
 ⟨[false, false], [.tmp 4, .tmp 5],
  (.seq
   (.region [] [] [0, 1] false [
     (none, .asg 4 (.c (.str [])) .copy),
     (none, .asg 5 (.c (.int .i64 0)) .copy)])
   (.seq
    (.seq
     (.region [(10, 0, false)] [] [0, 1, 6] false [
       (none, .mv 10 (.v 0)),
       (none, .mv 11 (.v 1)),
       (none, .call (some 12) 252 false [((.v 10), false), ((.v 11), false)]),
       (none, .asg 6 (.v 12) .copy)])
     (.seq
      (.region [] [] [0, 1, 6, 14] false [
        (none, .mv 13 (.v 6)),
        (none, .bin 14 .neq (.v 13) (.c (.int .i64 0)))])
      (.cond (.v 14)
       (.seq
        (.region [] [] [4, 5] false [
          (none, .mv 15 (.v 6)),
          (none, .asg 4 (.c (.str [])) .copy),
          (none, .asg 5 (.v 15) .copy)])
        (.ret [4, 5]))
       (.skip [0, 1]))))
    (.seq
     (.region [] [] [0, 1, 7] false [
       (none, .asg 7 (.c (.str [])) .copy)])
     (.seq
      (.seq
       (.region [(16, 0, false)] [] [0, 7, 18, 19, 20] false [
         (none, .mv 16 (.v 0)),
         (none, .mv 17 (.v 1)),
         (none, .call (some 18) 296 false [((.v 16), false), ((.v 17), false)]),
         (none, .len 19 false (.v 18)),
         (none, .mv 20 (.c (.int .i64 0)))])
       (.block 0
        (.loop
         (.seq
          (.region [] [] [0, 7, 18, 19, 20, 21] false [
            (none, .bin 21 .lss (.v 20) (.v 19))])
          (.seq
           (.cond (.v 21)
            (.skip [0, 7, 18, 19, 20])
            (.exit 0 [7]))
           (.seq
            (.block 1
             (.seq
              (.region [(23, 18, false)] [] [0, 7, 8, 9, 18, 19, 20] false [
                (none, .mv 22 (.v 20)),
                (none, .iadr 23 1 (.v 18) (.v 20)),
                (none, .load 24 false 1 (.v 23) none),
                (none, .asg 8 (.v 22) .copy),
                (none, .asg 9 (.v 24) .copy)])
              (.region [(29, 0, false), (28, 0, false), (26, 0, false)] [] [0, 7, 18, 19, 20] false [
                (none, .mv 25 (.v 7)),
                (none, .mv 26 (.v 0)),
                (none, .mv 27 (.v 8)),
                (none, .iadr 28 2 (.v 26) (.v 27)),
                (none, .fadr 29 0 1 (.v 28)),
                (none, .load 30 false 1 (.v 29) none),
                (none, .mv 31 (.v 9)),
                (none, .call (some 32) 875 false [((.v 30), false), ((.v 31), false)]),
                (none, .bin 33 .add (.v 25) (.v 32)),
                (none, .asg 7 (.v 33) .copy)])))
            (.region [] [] [0, 7, 18, 19, 20] false [
              (none, .bin 34 .add (.v 20) (.c (.int .i64 1))),
              (none, .mv 20 (.v 34))])))))))
      (.seq
       (.region [] [] [4, 5] false [
         (none, .mv 35 (.v 7)),
         (none, .asg 4 (.v 35) .copy),
         (none, .asg 5 (.c (.int .i64 0)) .copy)])
       (.ret [4, 5]))))))⟩
def F245 : PFunc :=
 ⟨[false, false], [.tmp 4],
  (.seq
   (.region [] [] [0, 1] false [
     (none, .asg 4 (.c (.int .i64 0)) .copy)])
   (.seq
    (.region [] [] [4] false [
      (none, .mv 5 (.v 0)),
      (none, .mv 6 (.v 1)),
      (none, .bin 7 .sub (.v 5) (.v 6)),
      (none, .mv 8 (.v 1)),
      (none, .mv 9 (.v 0)),
      (none, .bin 10 .sub (.v 8) (.v 9)),
      (none, .mm 11 true (.v 7) [(.v 10)]),
      (none, .asg 4 (.v 11) .copy)])
    (.ret [4])))⟩
def F265 : PFunc :=
 ⟨[false, false], [.tmp 4],
  (.seq
   (.region [] [] [0, 1] false [
     (none, .asg 4 (.c (.int .i64 0)) .copy)])
   (.seq
    (.region [] [] [0, 1, 5] false [
      (none, .asg 5 (.c (.int .i64 0)) .copy)])
    (.seq
     (.seq
      (.region [(8, 0, false)] [] [0, 1, 5, 10, 11, 12] false [
        (none, .mv 8 (.v 0)),
        (none, .mv 9 (.v 1)),
        (none, .call (some 10) 296 false [((.v 8), false), ((.v 9), false)]),
        (none, .len 11 false (.v 10)),
        (none, .mv 12 (.c (.int .i64 0)))])
      (.block 0
       (.loop
        (.seq
         (.region [] [] [0, 1, 5, 10, 11, 12, 13] false [
           (none, .bin 13 .lss (.v 12) (.v 11))])
         (.seq
          (.cond (.v 13)
           (.skip [0, 1, 5, 10, 11, 12])
           (.exit 0 [5]))
          (.seq
           (.block 1
            (.seq
             (.region [(15, 10, false)] [] [0, 1, 5, 6, 7, 10, 11, 12] false [
               (none, .mv 14 (.v 12)),
               (none, .iadr 15 1 (.v 10) (.v 12)),
               (none, .load 16 false 1 (.v 15) none),
               (none, .asg 6 (.v 14) .copy),
               (none, .asg 7 (.v 16) .copy)])
             (.region [(24, 0, false), (23, 0, false), (21, 0, false)] [] [0, 1, 5, 10, 11, 12] false [
               (none, .mv 17 (.v 5)),
               (none, .mv 18 (.v 7)),
               (none, .mv 19 (.v 1)),
               (none, .bin 20 .mul (.v 18) (.v 19)),
               (none, .mv 21 (.v 0)),
               (none, .mv 22 (.v 6)),
               (none, .iadr 23 2 (.v 21) (.v 22)),
               (none, .fadr 24 1 1 (.v 23)),
               (none, .load 25 false 1 (.v 24) none),
               (none, .call (some 26) 245 false [((.v 20), false), ((.v 25), false)]),
               (none, .bin 27 .add (.v 17) (.v 26)),
               (none, .asg 5 (.v 27) .copy)])))
           (.region [] [] [0, 1, 5, 10, 11, 12] false [
             (none, .bin 28 .add (.v 12) (.c (.int .i64 1))),
             (none, .mv 12 (.v 28))])))))))
     (.seq
      (.region [] [] [4] false [
        (none, .mv 29 (.v 5)),
        (none, .asg 4 (.v 29) .copy)])
      (.ret [4])))))⟩
def F77 : PFunc :=
 ⟨[false, false], [.tmp 4, .tmp 5],
  (.seq
   (.region [] [] [0, 1] false [
     (none, .asg 4 (.c (.int .i64 0)) .copy),
     (none, .asg 5 (.c (.int .i64 0)) .copy)])
   (.seq
    (.seq
     (.region [(7, 0, false)] [] [0, 1, 6] false [
       (none, .mv 7 (.v 0)),
       (none, .mv 8 (.v 1)),
       (none, .call (some 9) 252 false [((.v 7), false), ((.v 8), false)]),
       (none, .asg 6 (.v 9) .copy)])
     (.seq
      (.region [] [] [0, 1, 6, 11] false [
        (none, .mv 10 (.v 6)),
        (none, .bin 11 .neq (.v 10) (.c (.int .i64 0)))])
      (.cond (.v 11)
       (.seq
        (.region [] [] [4, 5] false [
          (none, .mv 12 (.v 6)),
          (none, .asg 4 (.c (.int .i64 0)) .copy),
          (none, .asg 5 (.v 12) .copy)])
        (.ret [4, 5]))
       (.skip [0, 1]))))
    (.seq
     (.region [(13, 0, false)] [] [4, 5] false [
       (none, .mv 13 (.v 0)),
       (none, .mv 14 (.v 1)),
       (none, .call (some 15) 265 false [((.v 13), false), ((.v 14), false)]),
       (none, .asg 4 (.v 15) .copy),
       (none, .asg 5 (.c (.int .i64 0)) .copy)])
     (.ret [4, 5]))))⟩
def F81 : PFunc :=
 ⟨[false, false], [.tmp 3],
  (.seq
   (.region [] [] [1, 2] false [
     (none, .box 2 (.v 0) .copy),
     (none, .asg 3 (.c (.bool false)) .copy)])
   (.seq
    (.region [(4, 2, false)] [] [3] false [
      (none, .fadr 4 1 1 (.v 2)),
      (none, .load 5 false 1 (.v 4) none),
      (none, .load 6 false 1 (.v 1) none),
      (none, .bin 7 .rem (.v 5) (.v 6)),
      (none, .bin 8 .neq (.v 7) (.c (.int .i64 0))),
      (none, .asg 3 (.v 8) .copy)])
    (.ret [3])))⟩
def F827 : PFunc :=
 ⟨[false, false], [.tmp 4],
  (.seq
   (.region [] [] [0, 1] false [
     (none, .asg 4 (.c (.int .i64 0)) .copy)])
   (.seq
    (.seq
     (.region [(6, 0, false)] [] [0, 1, 7, 8] false [
       (none, .mv 6 (.v 0)),
       (none, .len 7 false (.v 6)),
       (none, .mv 8 (.c (.int .i64 0)))])
     (.block 0
      (.loop
       (.seq
        (.region [] [] [0, 1, 7, 8, 9] false [
          (none, .bin 9 .lss (.v 8) (.v 7))])
        (.seq
         (.cond (.v 9)
          (.skip [0, 1, 7, 8])
          (.exit 0 []))
         (.seq
          (.block 1
           (.seq
            (.region [] [] [0, 1, 5, 7, 8] false [
              (none, .mv 10 (.v 8)),
              (none, .asg 5 (.v 10) .copy)])
            (.seq
             (.region [(14, 0, false), (12, 0, false), (11, 1, false)] [] [0, 1, 5, 7, 8, 16] false [
               (none, .mv 11 (.v 1)),
               (none, .mv 12 (.v 0)),
               (none, .mv 13 (.v 5)),
               (none, .iadr 14 2 (.v 12) (.v 13)),
               (none, .load 15 true 2 (.v 14) none),
               (none, .callv (some 16) (.v 11) [(.v 15)])])
             (.cond (.v 16)
              (.seq
               (.region [] [] [4] false [
                 (none, .mv 17 (.v 5)),
                 (none, .asg 4 (.v 17) .copy)])
               (.ret [4]))
              (.skip [0, 1, 7, 8])))))
          (.region [] [] [0, 1, 7, 8] false [
            (none, .bin 18 .add (.v 8) (.c (.int .i64 1))),
            (none, .mv 8 (.v 18))])))))))
    (.seq
     (.region [] [] [4] false [
       (none, .asg 4 (.c (.int .i64 (-1))) .copy)])
     (.ret [4]))))⟩
def F805 : PFunc :=
 ⟨[false, false], [.tmp 4],
  (.seq
   (.region [] [] [0, 1] false [
     (none, .asg 4 (.c (.bool false)) .copy)])
   (.seq
    (.region [(6, 1, false), (5, 0, false)] [] [4] false [
      (none, .mv 5 (.v 0)),
      (none, .mv 6 (.v 1)),
      (none, .call (some 7) 827 false [((.v 5), false), ((.v 6), false)]),
      (none, .bin 8 .geq (.v 7) (.c (.int .i64 0))),
      (none, .asg 4 (.v 8) .copy)])
    (.ret [4])))⟩
def F80 : PFunc :=
 ⟨[false], [.tmp 2, .tmp 3],
  (.seq
   (.region [] [4] [0] false [
     (none, .asg 2 (.c (.int .i64 0)) .copy),
     (none, .asg 3 (.c (.int .i64 0)) .copy)])
   (.seq
    (.seq
     (.region [(5, 0, false)] [4] [0, 7] false [
       (none, .mv 5 (.v 0)),
       (none, .call (some 6) 227 false [((.v 5), false)]),
       (none, .un 7 .not (.v 6))])
     (.cond (.v 7)
      (.seq
       (.region [] [4] [2, 3] false [
         (none, .asg 2 (.c (.int .i64 0)) .copy),
         (none, .asg 3 (.c (.int .i64 1)) .copy)])
       (.ret [2, 3]))
      (.skip [0])))
    (.seq
     (.region [] [] [0, 4] false [
       (none, .new 4 (.int .i64 0)),
       (none, .store 1 (.v 4) (.c (.int .i64 100)) .copy)])
     (.seq
      (.block 0
       (.loop
        (.seq
         (.seq
          (.region [(8, 0, false)] [4] [0, 4, 10] false [
            (none, .mv 8 (.v 0)),
            (none, .mkfn 9 81 [4]),
            (none, .call (some 10) 805 false [((.v 8), false), ((.v 9), false)])])
          (.cond (.v 10)
           (.skip [0, 4])
           (.exit 0 [4])))
         (.block 1
          (.region [] [4] [0, 4] false [
            (none, .load 11 false 1 (.v 4) none),
            (none, .bin 12 .sub (.v 11) (.c (.int .i64 1))),
            (none, .store 1 (.v 4) (.v 12) .copy)])))))
      (.seq
       (.region [] [4] [2, 3] false [
         (none, .load 13 false 1 (.v 4) none),
         (none, .asg 2 (.v 13) .copy),
         (none, .asg 3 (.c (.int .i64 0)) .copy)])
       (.ret [2, 3]))))))⟩
def F127 : PFunc :=
 ⟨[false], [.tmp 2, .tmp 3],
  (.seq
   (.region [] [] [0] false [
     (none, .asg 2 (.c (.int .i64 0)) .copy),
     (none, .asg 3 (.c (.int .i64 0)) .copy)])
   (.seq
    (.seq
     (.region [(7, 0, false)] [] [0, 9] false [
       (none, .mv 7 (.v 0)),
       (none, .call (some 8) 227 false [((.v 7), false)]),
       (none, .un 9 .not (.v 8))])
     (.cond (.v 9)
      (.seq
       (.region [] [] [2, 3] false [
         (none, .asg 2 (.c (.int .i64 0)) .copy),
         (none, .asg 3 (.c (.int .i64 1)) .copy)])
       (.ret [2, 3]))
      (.skip [0])))
    (.seq
     (.region [] [] [0, 4] false [
       (none, .asg 4 (.c (.int .i64 0)) .copy)])
     (.seq
      (.seq
       (.region [(10, 0, false)] [] [0, 4, 10, 11, 12] false [
         (none, .mv 10 (.v 0)),
         (none, .len 11 false (.v 10)),
         (none, .mv 12 (.c (.int .i64 0)))])
       (.block 0
        (.loop
         (.seq
          (.region [(10, 0, false)] [] [0, 4, 10, 11, 12, 13] false [
            (none, .bin 13 .lss (.v 12) (.v 11))])
          (.seq
           (.cond (.v 13)
            (.skip [0, 4, 10, 11, 12])
            (.exit 0 [4]))
           (.seq
            (.block 1
             (.seq
              (.region [(14, 0, false), (10, 0, false)] [] [0, 4, 6, 10, 11, 12] false [
                (none, .iadr 14 2 (.v 10) (.v 12)),
                (none, .load 15 true 2 (.v 14) none),
                (none, .new 6 (.agg [(.str []), (.int .i64 0)])),
                (none, .store 2 (.v 6) (.v 15) .copy)])
              (.region [(17, 6, false), (10, 0, false)] [] [0, 4, 10, 11, 12] false [
                (none, .mv 16 (.v 4)),
                (none, .fadr 17 1 1 (.v 6)),
                (none, .load 18 false 1 (.v 17) none),
                (none, .bin 19 .add (.v 16) (.v 18)),
                (none, .asg 4 (.v 19) .copy)])))
            (.region [(10, 0, false)] [] [0, 4, 10, 11, 12] false [
              (none, .bin 20 .add (.v 12) (.c (.int .i64 1))),
              (none, .mv 12 (.v 20))])))))))
      (.seq
       (.region [] [] [2, 3] false [
         (none, .mv 21 (.v 4)),
         (none, .asg 2 (.v 21) .copy),
         (none, .asg 3 (.c (.int .i64 0)) .copy)])
       (.ret [2, 3]))))))⟩
def F295 : PFunc :=
 ⟨[false, false], [.tmp 4],
  (.seq
   (.region [] [] [0, 1] false [
     (none, .asg 4 (.c (.int .i64 0)) .copy)])
   (.seq
    (.block 0
     (.seq
      (.region [] [] [1, 5] false [
        (none, .mv 6 (.v 0)),
        (none, .call (some 7) 277 false [((.v 6), false), ((.c (.int .i64 60)), false)]),
        (none, .un 8 .not (.v 7)),
        (none, .asg 5 (.v 8) .copy)])
      (.cond (.v 5)
       (.seq
        (.region [] [] [4] false [
          (none, .asg 4 (.c (.int .i64 1)) .copy)])
        (.ret [4]))
       (.seq
        (.region [] [] [9] false [
          (none, .mv 10 (.v 1)),
          (none, .call (some 11) 326 false [((.v 10), false), ((.c (.int .i64 1)), false), ((.c (.int .i64 100)), false)]),
          (none, .un 12 .not (.v 11)),
          (none, .asg 9 (.v 12) .copy)])
        (.cond (.v 9)
         (.seq
          (.region [] [] [4] false [
            (none, .asg 4 (.c (.int .i64 2)) .copy)])
          (.ret [4]))
         (.skip []))))))
    (.seq
     (.region [] [] [4] false [
       (none, .asg 4 (.c (.int .i64 0)) .copy)])
     (.ret [4]))))⟩
def F159 : PFunc :=
 ⟨[false, false, false], [.tmp 6, .tmp 7],
  (.seq
   (.region [] [] [0, 1, 2] false [
     (none, .asg 6 (.c (.str [])) .copy),
     (none, .asg 7 (.c (.int .i64 0)) .copy)])
   (.seq
    (.region [] [] [0, 1, 2, 8] false [
      (none, .mv 10 (.v 0)),
      (none, .mv 11 (.v 1)),
      (none, .call (some 12) 295 false [((.v 10), false), ((.v 11), false)]),
      (none, .asg 8 (.v 12) .copy)])
    (.seq
     (.block 0
      (.seq
       (.region [] [] [0, 1, 2, 8, 13] false [
         (none, .mv 14 (.v 8)),
         (none, .bin 15 .neq (.v 14) (.c (.int .i64 0))),
         (none, .asg 13 (.v 15) .copy)])
       (.cond (.v 13)
        (.seq
         (.region [] [] [6, 7] false [
           (none, .mv 16 (.v 8)),
           (none, .asg 6 (.c (.str [])) .copy),
           (none, .asg 7 (.v 16) .copy)])
         (.ret [6, 7]))
        (.seq
         (.region [] [] [0, 1, 2, 17] false [
           (none, .mv 18 (.v 2)),
           (none, .call (some 19) 326 false [((.v 18), false), ((.c (.int .i64 0)), false), ((.c (.int .i64 6000)), false)]),
           (none, .un 20 .not (.v 19)),
           (none, .asg 17 (.v 20) .copy)])
         (.cond (.v 17)
          (.seq
           (.region [] [] [6, 7] false [
             (none, .asg 6 (.c (.str [])) .copy),
             (none, .asg 7 (.c (.int .i64 2)) .copy)])
           (.ret [6, 7]))
          (.seq
           (.region [] [] [0, 1, 2, 21] false [
             (none, .mv 22 (.v 2)),
             (none, .mv 23 (.v 1)),
             (none, .bin 24 .quo (.v 22) (.v 23)),
             (none, .mv 25 (.v 0)),
             (none, .len 26 true (.v 25)),
             (none, .bin 27 .geq (.v 24) (.v 26)),
             (none, .asg 21 (.v 27) .copy)])
           (.cond (.v 21)
            (.seq
             (.region [] [] [6, 7] false [
               (none, .asg 6 (.c (.str [])) .copy),
               (none, .asg 7 (.c (.int .i64 3)) .copy)])
             (.ret [6, 7]))
            (.skip [0, 1, 2]))))))))
     (.seq
      (.region [] [] [0, 9] false [
        (none, .mv 28 (.v 2)),
        (none, .mv 29 (.v 1)),
        (none, .bin 30 .quo (.v 28) (.v 29)),
        (none, .asg 9 (.v 30) .copy)])
      (.seq
       (.region [] [] [6, 7] false [
         (none, .mv 31 (.v 0)),
         (none, .mv 32 (.v 9)),
         (none, .mv 33 (.v 9)),
         (none, .bin 34 .add (.v 33) (.c (.int .i64 1))),
         (none, .slc 35 true 0 (.v 31) (some (.v 32)) (some (.v 34)) .copy),
         (none, .asg 6 (.v 35) .copy),
         (none, .asg 7 (.c (.int .i64 0)) .copy)])
       (.ret [6, 7]))))))⟩
def F174 : PFunc :=
 ⟨[false, false], [.tmp 4, .tmp 5],
  (.seq
   (.region [] [] [0, 1] false [
     (none, .asg 4 (.c (.sl true 2 [])) .copy),
     (none, .asg 5 (.c (.int .i64 0)) .copy)])
   (.seq
    (.seq
     (.region [] [] [0, 1, 6] false [
       (none, .mv 9 (.v 0)),
       (none, .mv 10 (.v 1)),
       (none, .call (some 11) 295 false [((.v 9), false), ((.v 10), false)]),
       (none, .asg 6 (.v 11) .copy)])
     (.seq
      (.region [] [] [0, 1, 6, 13] false [
        (none, .mv 12 (.v 6)),
        (none, .bin 13 .neq (.v 12) (.c (.int .i64 0)))])
      (.cond (.v 13)
       (.seq
        (.region [] [] [4, 5] false [
          (none, .mv 14 (.v 6)),
          (none, .asg 4 (.c (.sl true 2 [])) .copy),
          (none, .asg 5 (.v 14) .copy)])
        (.ret [4, 5]))
       (.skip [0, 1]))))
    (.seq
     (.region [] [] [0, 1, 7] false [
       (none, .mksl 15 2 (.agg [(.str []), (.int .i64 0)]) 0 []),
       (none, .asg 7 (.v 15) .move)])
     (.seq
      (.seq
       (.region [] [] [0, 1, 7, 17, 18] false [
         (none, .mv 16 (.v 0)),
         (none, .len 17 true (.v 16)),
         (none, .mv 18 (.c (.int .i64 0)))])
       (.block 0
        (.loop
         (.seq
          (.region [] [] [0, 1, 7, 17, 18, 19] false [
            (none, .bin 19 .lss (.v 18) (.v 17))])
          (.seq
           (.cond (.v 19)
            (.skip [0, 1, 7, 17, 18])
            (.exit 0 [7]))
           (.seq
            (.block 1
             (.seq
              (.region [] [] [0, 1, 7, 8, 17, 18] false [
                (none, .mv 20 (.v 18)),
                (none, .asg 8 (.v 20) .copy)])
              (.seq
               (.seq
                (.region [] [] [0, 1, 7, 8, 17, 18, 32] true [
                  (none, .mv 21 (.v 8)),
                  (none, .bin 22 .eql (.v 21) (.c (.int .i64 0))),
                  (none, .mv 23 (.v 22)),
                  (some (23, false), .mv 24 (.v 0)),
                  (some (23, false), .mv 25 (.v 8)),
                  (some (23, false), .bin 26 .sub (.v 25) (.c (.int .i64 1))),
                  (some (23, false), .idx 27 (.v 24) (.v 26)),
                  (some (23, false), .mv 28 (.v 0)),
                  (some (23, false), .mv 29 (.v 8)),
                  (some (23, false), .idx 30 (.v 28) (.v 29)),
                  (some (23, false), .bin 31 .neq (.v 27) (.v 30)),
                  (none, .pick 32 (.v 23) (.c (.bool true)) (.v 31))])
                (.cond (.v 32)
                 (.region [(33, 7, false)] [] [0, 1, 7, 17, 18] false [
                   (none, .mv 33 (.v 7)),
                   (none, .mv 34 (.v 0)),
                   (none, .mv 35 (.v 8)),
                   (none, .mv 36 (.v 8)),
                   (none, .bin 37 .add (.v 36) (.c (.int .i64 1))),
                   (none, .slc 38 true 0 (.v 34) (some (.v 35)) (some (.v 37)) .copy),
                   (none, .build 39 [(.str []), (.int .i64 0)] [(0, 1, (.v 38), .copy)]),
                   (none, .mksl 40 2 (.agg [(.str []), (.int .i64 0)]) 1 [(0, (.v 39), .copy)]),
                   (none, .app 41 2 (.v 33) (.v 40) .move),
                   (none, .asg 7 (.v 41) .move)])
                 (.skip [0, 1, 7, 17, 18])))
               (.region [(52, 7, false), (51, 7, false), (47, 7, false), (46, 7, false), (43, 7, false), (42, 7, false)] [] [0, 1, 7, 17, 18] false [
                 (none, .mv 42 (.v 7)),
                 (none, .mv 43 (.v 7)),
                 (none, .len 44 false (.v 43)),
                 (none, .bin 45 .sub (.v 44) (.c (.int .i64 1))),
                 (none, .iadr 46 2 (.v 42) (.v 45)),
                 (none, .fadr 47 1 1 (.v 46)),
                 (none, .load 48 false 1 (.v 47) none),
                 (none, .mv 49 (.v 1)),
                 (none, .bin 50 .add (.v 48) (.v 49)),
                 (none, .iadr 51 2 (.v 42) (.v 45)),
                 (none, .fadr 52 1 1 (.v 51)),
                 (none, .store 1 (.v 52) (.v 50) .copy)]))))
            (.region [] [] [0, 1, 7, 17, 18] false [
              (none, .bin 53 .add (.v 18) (.c (.int .i64 1))),
              (none, .mv 18 (.v 53))])))))))
      (.seq
       (.seq
        (.region [(54, 7, false)] [] [7, 56] false [
          (none, .mv 54 (.v 7)),
          (none, .call (some 55) 227 false [((.v 54), false)]),
          (none, .un 56 .not (.v 55))])
        (.cond (.v 56)
         (.seq
          (.region [] [] [4, 5] false [
            (none, .asg 4 (.c (.sl true 2 [])) .copy),
            (none, .asg 5 (.c (.int .i64 5)) .copy)])
          (.ret [4, 5]))
         (.skip [7])))
       (.seq
        (.region [(57, 7, false)] [] [4, 5] false [
          (none, .mv 57 (.v 7)),
          (none, .asg 4 (.v 57) .move),
          (none, .asg 5 (.c (.int .i64 0)) .copy)])
        (.ret [4, 5])))))))⟩
def F384 : PFunc :=
 ⟨[false, false, false], [.tmp 6],
  (.seq
   (.region [] [] [0, 1, 2] false [
     (none, .asg 6 (.c (.int .i64 0)) .copy)])
   (.seq
    (.seq
     (.region [(8, 0, false)] [] [0, 1, 2, 14] false [
       (none, .mv 7 (.v 1)),
       (none, .mv 8 (.v 0)),
       (none, .len 9 false (.v 8)),
       (none, .bin 10 .geq (.v 7) (.v 9)),
       (none, .mv 11 (.v 10)),
       (some (11, false), .mv 12 (.v 2)),
       (some (11, false), .bin 13 .lss (.v 12) (.c (.int .i64 1))),
       (none, .pick 14 (.v 11) (.c (.bool true)) (.v 13))])
     (.cond (.v 14)
      (.seq
       (.region [] [] [6] false [
         (none, .asg 6 (.c (.int .i64 0)) .copy)])
       (.ret [6]))
      (.skip [0, 1, 2])))
    (.seq
     (.region [(17, 0, false), (15, 0, false)] [] [6] false [
       (none, .mv 15 (.v 0)),
       (none, .mv 16 (.v 1)),
       (none, .iadr 17 1 (.v 15) (.v 16)),
       (none, .load 18 false 1 (.v 17) none),
       (none, .conv 19 .i64 (.v 18)),
       (none, .mv 20 (.v 2)),
       (none, .bin 21 .rem (.v 19) (.v 20)),
       (none, .asg 6 (.v 21) .copy)])
     (.ret [6]))))⟩
def F386 : PFunc :=
 ⟨[false, false], [.tmp 4],
  (.seq
   (.region [] [] [0, 1] false [
     (none, .asg 4 (.c (.bool false)) .copy)])
   (.seq
    (.region [(9, 1, false), (5, 0, false)] [] [4] false [
      (none, .mv 5 (.v 0)),
      (none, .len 6 false (.v 5)),
      (none, .bin 7 .gtr (.v 6) (.c (.int .i64 3000))),
      (none, .mv 8 (.v 7)),
      (some (8, false), .mv 9 (.v 1)),
      (some (8, false), .len 10 false (.v 9)),
      (some (8, false), .bin 11 .gtr (.v 10) (.c (.int .i64 3000))),
      (none, .pick 12 (.v 8) (.c (.bool true)) (.v 11)),
      (none, .asg 4 (.v 12) .copy)])
    (.ret [4])))⟩
def F603 : PFunc :=
 ⟨[false], [.tmp 2],
  (.seq
   (.region [] [] [0] false [
     (none, .asg 2 (.c .nilp) .copy)])
   (.seq
    (.region [(3, 0, false)] [] [2] false [
      (none, .mv 3 (.v 0)),
      (none, .build 4 [(.sl false 1 []), (.int .i64 0), (.int .u64 0)] [(0, 1, (.v 3), .move)]),
      (none, .box 5 (.v 4) .move),
      (none, .asg 2 (.v 5) .move)])
    (.ret [2])))⟩
def F5 : PFunc :=
 ⟨[true], [.tmp 2],
  (.seq
   (.region [] [] [0] false [
     (none, .asg 2 (.c (.int .i64 0)) .copy)])
   (.seq
    (.region [] [] [0, 3] false [
      (none, .asg 3 (.c (.int .i64 0)) .copy)])
    (.seq
     (.seq
      (.region [(11, 0, true), (10, 0, false), (9, 0, false), (8, 0, false), (6, 0, false), (5, 0, false), (4, 0, false)] [] [0, 3, 13] true [
        (none, .mvr 4 0),
        (none, .nchk 5 (.v 4)),
        (none, .fadr 6 1 1 (.v 5)),
        (none, .load 7 false 1 (.v 6) none),
        (none, .mvr 8 0),
        (none, .nchk 9 (.v 8)),
        (none, .fadr 10 0 1 (.v 9)),
        (none, .load 11 false 1 (.v 10) none),
        (none, .len 12 false (.v 11)),
        (none, .bin 13 .lss (.v 7) (.v 12))])
      (.cond (.v 13)
       (.region [(22, 0, true), (20, 0, false), (19, 0, false), (18, 0, false), (17, 0, true), (16, 0, false), (15, 0, false), (14, 0, false)] [] [0, 3] true [
         (none, .mvr 14 0),
         (none, .nchk 15 (.v 14)),
         (none, .fadr 16 0 1 (.v 15)),
         (none, .load 17 false 1 (.v 16) none),
         (none, .mvr 18 0),
         (none, .nchk 19 (.v 18)),
         (none, .fadr 20 1 1 (.v 19)),
         (none, .load 21 false 1 (.v 20) none),
         (none, .iadr 22 1 (.v 17) (.v 21)),
         (none, .load 23 false 1 (.v 22) none),
         (none, .conv 24 .i64 (.v 23)),
         (none, .asg 3 (.v 24) .copy)])
       (.skip [0, 3])))
     (.seq
      (.region [(31, 0, false), (30, 0, false), (27, 0, false), (26, 0, false), (25, 0, false)] [] [0, 3] false [
        (none, .mv 25 (.v 0)),
        (none, .nchk 26 (.v 25)),
        (none, .fadr 27 1 1 (.v 26)),
        (none, .load 28 false 1 (.v 27) none),
        (none, .bin 29 .add (.v 28) (.c (.int .i64 1))),
        (none, .nchk 30 (.v 25)),
        (none, .fadr 31 1 1 (.v 30)),
        (none, .store 1 (.v 31) (.v 29) .copy)])
      (.seq
       (.region [(43, 0, false), (42, 0, false), (35, 0, false), (34, 0, false), (33, 0, false), (32, 0, false)] [] [0, 3] false [
         (none, .mv 32 (.v 0)),
         (none, .mv 33 (.v 0)),
         (none, .nchk 34 (.v 33)),
         (none, .fadr 35 2 1 (.v 34)),
         (none, .load 36 false 1 (.v 35) none),
         (none, .bin 37 .mul (.v 36) (.c (.int .u64 6364136223846793005))),
         (none, .mv 38 (.v 3)),
         (none, .conv 39 .u64 (.v 38)),
         (none, .bin 40 .add (.v 37) (.v 39)),
         (none, .bin 41 .add (.v 40) (.c (.int .u64 1442695040888963407))),
         (none, .nchk 42 (.v 32)),
         (none, .fadr 43 2 1 (.v 42)),
         (none, .store 1 (.v 43) (.v 41) .copy)])
       (.seq
        (.seq
         (.region [(51, 0, true), (50, 0, false), (49, 0, false), (48, 0, false), (46, 0, false), (45, 0, false), (44, 0, false)] [] [0, 3, 53] true [
           (none, .mvr 44 0),
           (none, .nchk 45 (.v 44)),
           (none, .fadr 46 1 1 (.v 45)),
           (none, .load 47 false 1 (.v 46) none),
           (none, .mvr 48 0),
           (none, .nchk 49 (.v 48)),
           (none, .fadr 50 0 1 (.v 49)),
           (none, .load 51 false 1 (.v 50) none),
           (none, .len 52 false (.v 51)),
           (none, .bin 53 .leq (.v 47) (.v 52))])
         (.cond (.v 53)
          (.seq
           (.region [] [] [0, 2] false [
             (none, .mv 54 (.v 3)),
             (none, .asg 2 (.v 54) .copy)])
           (.ret [0, 2]))
          (.skip [0])))
        (.seq
         (.region [(57, 0, false), (56, 0, false), (55, 0, false)] [] [0, 2] false [
           (none, .mv 55 (.v 0)),
           (none, .nchk 56 (.v 55)),
           (none, .fadr 57 2 1 (.v 56)),
           (none, .load 58 false 1 (.v 57) none),
           (none, .bin 59 .shr (.v 58) (.c (.int .u64 40))),
           (none, .bin 60 .and (.v 59) (.c (.int .u64 255))),
           (none, .conv 61 .i64 (.v 60)),
           (none, .asg 2 (.v 61) .copy)])
         (.ret [0, 2]))))))))⟩
def F7 : PFunc :=
 ⟨[true, false], [.tmp 4],
  (.seq
   (.region [] [] [0, 1] false [
     (none, .asg 4 (.c (.int .i64 0)) .copy)])
   (.seq
    (.seq
     (.region [] [] [0, 1, 7] false [
       (none, .mv 6 (.v 1)),
       (none, .bin 7 .leq (.v 6) (.c (.int .i64 1)))])
     (.cond (.v 7)
      (.seq
       (.region [] [] [0, 4] false [
         (none, .asg 4 (.c (.int .i64 0)) .copy)])
       (.ret [0, 4]))
      (.skip [0, 1])))
    (.seq
     (.region [(8, 0, false)] [] [0, 1, 5] false [
       (none, .mv 8 (.v 0)),
       (none, .call (some 9) 5 true [((.v 8), true)]),
       (none, .asg 5 (.v 9) .copy)])
     (.seq
      (.seq
       (.region [] [] [0, 1, 5, 11] false [
         (none, .mv 10 (.v 1)),
         (none, .bin 11 .gtr (.v 10) (.c (.int .i64 200)))])
       (.cond (.v 11)
        (.region [(14, 0, false)] [] [0, 1, 5] false [
          (none, .mv 12 (.v 5)),
          (none, .bin 13 .mul (.v 12) (.c (.int .i64 256))),
          (none, .mv 14 (.v 0)),
          (none, .call (some 15) 5 true [((.v 14), true)]),
          (none, .bin 16 .add (.v 13) (.v 15)),
          (none, .asg 5 (.v 16) .copy)])
        (.skip [0, 1, 5])))
      (.seq
       (.region [] [] [0, 4] false [
         (none, .mv 17 (.v 5)),
         (none, .mv 18 (.v 1)),
         (none, .bin 19 .rem (.v 17) (.v 18)),
         (none, .asg 4 (.v 19) .copy)])
       (.ret [0, 4]))))))⟩
def F6 : PFunc :=
 ⟨[true, false], [.tmp 4],
  (.seq
   (.region [] [] [0, 1] false [
     (none, .asg 4 (.c (.bool false)) .copy)])
   (.seq
    (.region [(5, 0, false)] [] [0, 4] false [
      (none, .mv 5 (.v 0)),
      (none, .mv 6 (.v 1)),
      (none, .call (some 7) 7 true [((.v 5), true), ((.v 6), false)]),
      (none, .bin 8 .eql (.v 7) (.c (.int .i64 0))),
      (none, .asg 4 (.v 8) .copy)])
    (.ret [0, 4])))⟩
def F8 : PFunc :=
 ⟨[true, false], [.tmp 4],
  (.seq
   (.region [] [] [0, 1] false [
     (none, .asg 4 (.c (.str [])) .copy)])
   (.seq
    (.region [(10, 1, false), (7, 1, false), (6, 0, false), (5, 1, false)] [] [0, 4] false [
      (none, .mv 5 (.v 1)),
      (none, .mv 6 (.v 0)),
      (none, .mv 7 (.v 1)),
      (none, .len 8 false (.v 7)),
      (none, .call (some 9) 7 true [((.v 6), true), ((.v 8), false)]),
      (none, .iadr 10 1 (.v 5) (.v 9)),
      (none, .load 11 false 1 (.v 10) none),
      (none, .asg 4 (.v 11) .copy)])
    (.ret [0, 4])))⟩
def F657 : PFunc :=
 ⟨[true], [.tmp 2],
  (.seq
   (.region [] [] [0] false [
     (none, .asg 2 (.c (.sl true 2 [])) .copy)])
   (.seq
    (.region [] [] [0, 3] false [
      (none, .mksl 8 2 (.agg [(.str []), (.int .i64 0)]) 0 []),
      (none, .asg 3 (.v 8) .move)])
    (.seq
     (.region [(9, 0, false)] [] [0, 3, 4] false [
       (none, .mv 9 (.v 0)),
       (none, .call (some 10) 7 true [((.v 9), true), ((.c (.int .i64 6)), false)]),
       (none, .bin 11 .add (.c (.int .i64 1)) (.v 10)),
       (none, .asg 4 (.v 11) .copy)])
     (.seq
      (.region [] [] [0, 3, 4, 5] false [
        (none, .asg 5 (.c (.str [])) .copy)])
      (.seq
       (.seq
        (.region [(12, 0, false)] [] [0, 3, 4, 5, 6] false [
          (none, .mv 12 (.v 0)),
          (none, .call (some 13) 7 true [((.v 12), true), ((.c (.int .i64 6)), false)]),
          (none, .bin 14 .add (.c (.int .i64 1)) (.v 13)),
          (none, .asg 6 (.v 14) .copy)])
        (.block 0
         (.loop
          (.seq
           (.seq
            (.region [] [] [0, 3, 4, 5, 6, 16] false [
              (none, .mv 15 (.v 6)),
              (none, .bin 16 .gtr (.v 15) (.c (.int .i64 0)))])
            (.cond (.v 16)
             (.skip [0, 3, 4, 5, 6])
             (.exit 0 [0, 3])))
           (.seq
            (.block 1
             (.seq
              (.region [(19, 0, false)] [] [0, 3, 4, 5, 6, 7] false [
                (none, .mv 19 (.v 0)),
                (none, .mksl 20 1 (.str []) 4 [(0, (.c (.str [97])), .copy), (1, (.c (.str [98])), .copy), (2, (.c (.str [99])), .copy), (3, (.c (.str [100])), .copy)]),
                (none, .call (some 21) 8 true [((.v 19), true), ((.v 20), false)]),
                (none, .build 22 [(.str []), (.int .i64 0)] [(0, 1, (.v 21), .copy)]),
                (none, .new 7 (.agg [(.str []), (.int .i64 0)])),
                (none, .store 2 (.v 7) (.v 22) .copy)])
              (.seq
               (.seq
                (.region [(23, 7, false)] [] [0, 3, 4, 6, 7, 26] false [
                  (none, .fadr 23 0 1 (.v 7)),
                  (none, .load 24 false 1 (.v 23) none),
                  (none, .mv 25 (.v 5)),
                  (none, .bin 26 .eql (.v 24) (.v 25))])
                (.cond (.v 26)
                 (.region [(27, 7, false)] [] [0, 3, 4, 6, 7] false [
                   (none, .fadr 27 0 1 (.v 7)),
                   (none, .store 1 (.v 27) (.c (.str [101])) .copy)])
                 (.skip [0, 3, 4, 6, 7])))
               (.seq
                (.region [(33, 7, false), (29, 0, false)] [] [0, 3, 4, 6, 7] false [
                  (none, .mv 28 (.v 4)),
                  (none, .mv 29 (.v 0)),
                  (none, .call (some 30) 7 true [((.v 29), true), ((.c (.int .i64 12)), false)]),
                  (none, .bin 31 .add (.c (.int .i64 1)) (.v 30)),
                  (none, .bin 32 .mul (.v 28) (.v 31)),
                  (none, .fadr 33 1 1 (.v 7)),
                  (none, .store 1 (.v 33) (.v 32) .copy)])
                (.seq
                 (.seq
                  (.region [(34, 0, false)] [] [0, 3, 4, 6, 7, 35] false [
                    (none, .mv 34 (.v 0)),
                    (none, .call (some 35) 6 true [((.v 34), true), ((.c (.int .i64 6)), false)])])
                  (.cond (.v 35)
                   (.region [(39, 7, false), (36, 7, false)] [] [0, 3, 4, 6, 7] false [
                     (none, .fadr 36 1 1 (.v 7)),
                     (none, .load 37 false 1 (.v 36) none),
                     (none, .bin 38 .add (.v 37) (.c (.int .i64 1))),
                     (none, .fadr 39 1 1 (.v 7)),
                     (none, .store 1 (.v 39) (.v 38) .copy)])
                   (.skip [0, 3, 4, 6, 7])))
                 (.seq
                  (.region [(40, 3, false)] [] [0, 3, 4, 6, 7] false [
                    (none, .mv 40 (.v 3)),
                    (none, .load 41 true 2 (.v 7) none),
                    (none, .mksl 42 2 (.agg [(.str []), (.int .i64 0)]) 1 [(0, (.v 41), .copy)]),
                    (none, .app 43 2 (.v 40) (.v 42) .move),
                    (none, .asg 3 (.v 43) .move)])
                  (.region [(44, 7, false)] [] [0, 3, 4, 5, 6] false [
                    (none, .fadr 44 0 1 (.v 7)),
                    (none, .load 45 false 1 (.v 44) none),
                    (none, .asg 5 (.v 45) .copy)])))))))
            (.region [] [] [0, 3, 4, 5, 6] false [
              (none, .mv 17 (.v 6)),
              (none, .bin 18 .sub (.v 17) (.c (.int .i64 1))),
              (none, .asg 6 (.v 18) .copy)]))))))
       (.seq
        (.region [(46, 3, false)] [] [0, 2] false [
          (none, .mv 46 (.v 3)),
          (none, .asg 2 (.v 46) .move)])
        (.ret [0, 2])))))))⟩
def F431 : PFunc :=
 ⟨[false], [.tmp 2],
  (.seq
   (.region [] [] [0] false [
     (none, .asg 2 (.c (.sl true 2 [])) .copy)])
   (.seq
    (.region [(3, 0, false)] [] [2] false [
      (none, .mv 3 (.v 0)),
      (none, .call (some 4) 603 true [((.v 3), false)]),
      (none, .call (some 5) 657 true [((.v 4), true)]),
      (none, .asg 2 (.v 5) .move)])
    (.ret [2])))⟩
def F562 : PFunc :=
 ⟨[false, false], [.tmp 4],
  (.seq
   (.region [] [] [0, 1] false [
     (none, .asg 4 (.c (.bool false)) .copy)])
   (.seq
    (.seq
     (.region [(8, 1, false), (6, 0, false)] [] [0, 1, 10] false [
       (none, .mv 6 (.v 0)),
       (none, .len 7 false (.v 6)),
       (none, .mv 8 (.v 1)),
       (none, .len 9 false (.v 8)),
       (none, .bin 10 .neq (.v 7) (.v 9))])
     (.cond (.v 10)
      (.seq
       (.region [] [] [4] false [
         (none, .asg 4 (.c (.bool false)) .copy)])
       (.ret [4]))
      (.skip [0, 1])))
    (.seq
     (.seq
      (.region [] [] [0, 1, 5] false [
        (none, .asg 5 (.c (.int .i64 0)) .copy)])
      (.block 0
       (.loop
        (.seq
         (.seq
          (.region [(12, 0, false)] [] [0, 1, 5, 14] false [
            (none, .mv 11 (.v 5)),
            (none, .mv 12 (.v 0)),
            (none, .len 13 false (.v 12)),
            (none, .bin 14 .lss (.v 11) (.v 13))])
          (.cond (.v 14)
           (.skip [0, 1, 5])
           (.exit 0 [])))
         (.seq
          (.block 1
           (.seq
            (.region [(23, 1, false), (21, 1, false), (19, 0, false), (17, 0, false)] [] [0, 1, 5, 25] true [
              (none, .mv 17 (.v 0)),
              (none, .mv 18 (.v 5)),
              (none, .iadr 19 2 (.v 17) (.v 18)),
              (none, .load 20 true 2 (.v 19) none),
              (none, .mv 21 (.v 1)),
              (none, .mv 22 (.v 5)),
              (none, .iadr 23 2 (.v 21) (.v 22)),
              (none, .load 24 true 2 (.v 23) none),
              (none, .eqv 25 true [.s, .i] (.v 20) (.v 24))])
            (.cond (.v 25)
             (.seq
              (.region [] [] [4] false [
                (none, .asg 4 (.c (.bool false)) .copy)])
              (.ret [4]))
             (.skip [0, 1, 5]))))
          (.region [] [] [0, 1, 5] false [
            (none, .mv 15 (.v 5)),
            (none, .bin 16 .add (.v 15) (.c (.int .i64 1))),
            (none, .asg 5 (.v 16) .copy)]))))))
     (.seq
      (.region [] [] [4] false [
        (none, .asg 4 (.c (.bool true)) .copy)])
      (.ret [4])))))⟩
def F328 : PFunc :=
 ⟨[false, false], [.tmp 4],
  (.seq
   (.region [] [] [0, 1] false [
     (none, .asg 4 (.c (.bool false)) .copy)])
   (.seq
    (.seq
     (.region [(26, 1, false), (25, 0, false)] [] [0, 1, 27] false [
       (none, .mv 25 (.v 0)),
       (none, .mv 26 (.v 1)),
       (none, .call (some 27) 386 false [((.v 25), false), ((.v 26), false)])])
     (.cond (.v 27)
      (.seq
       (.region [] [] [4] false [
         (none, .asg 4 (.c (.bool true)) .copy)])
       (.ret [4]))
      (.skip [0, 1])))
    (.seq
     (.region [(28, 0, false)] [] [1, 5] false [
       (none, .mv 28 (.v 0)),
       (none, .call (some 29) 431 false [((.v 28), false)]),
       (none, .asg 5 (.v 29) .move)])
     (.seq
      (.region [(31, 5, false)] [] [1, 5, 6, 7] false [
        (none, .mv 31 (.v 5)),
        (none, .call (some 32) 80 false [((.v 31), false)]),
        (none, .asg 30 (.v 32) .copy),
        (none, .extp 33 (.v 30) 0),
        (none, .extp 34 (.v 30) 1),
        (none, .asg 6 (.v 33) .copy),
        (none, .asg 7 (.v 34) .copy)])
      (.seq
       (.region [(36, 5, false)] [] [1, 5, 6, 7, 8, 9] false [
         (none, .mv 36 (.v 5)),
         (none, .call (some 37) 127 false [((.v 36), false)]),
         (none, .asg 35 (.v 37) .copy),
         (none, .extp 38 (.v 35) 0),
         (none, .extp 39 (.v 35) 1),
         (none, .asg 8 (.v 38) .copy),
         (none, .asg 9 (.v 39) .copy)])
       (.seq
        (.seq
         (.region [] [] [1, 5, 6, 8, 53] false [
           (none, .mv 40 (.v 7)),
           (none, .bin 41 .neq (.v 40) (.c (.int .i64 0))),
           (none, .mv 42 (.v 41)),
           (some (42, false), .mv 43 (.v 6)),
           (some (42, false), .bin 44 .lss (.v 43) (.c (.int .i64 1))),
           (none, .pick 45 (.v 42) (.c (.bool true)) (.v 44)),
           (none, .mv 46 (.v 45)),
           (some (46, false), .mv 47 (.v 6)),
           (some (46, false), .bin 48 .gtr (.v 47) (.c (.int .i64 100))),
           (none, .pick 49 (.v 46) (.c (.bool true)) (.v 48)),
           (none, .mv 50 (.v 49)),
           (some (50, false), .mv 51 (.v 9)),
           (some (50, false), .bin 52 .neq (.v 51) (.c (.int .i64 0))),
           (none, .pick 53 (.v 50) (.c (.bool true)) (.v 52))])
         (.cond (.v 53)
          (.seq
           (.region [] [] [4] false [
             (none, .asg 4 (.c (.bool false)) .copy)])
           (.ret [4]))
          (.skip [1, 5, 6, 8])))
        (.seq
         (.region [] [] [1, 5, 6, 8, 10] false [
           (none, .asg 10 (.c (.int .i64 0)) .copy)])
         (.seq
          (.seq
           (.region [] [] [1, 5, 6, 8, 10, 11] false [
             (none, .asg 11 (.c (.int .i64 0)) .copy)])
           (.block 0
            (.loop
             (.seq
              (.seq
               (.region [(55, 5, false)] [] [1, 5, 6, 8, 10, 11, 57] false [
                 (none, .mv 54 (.v 11)),
                 (none, .mv 55 (.v 5)),
                 (none, .len 56 false (.v 55)),
                 (none, .bin 57 .lss (.v 54) (.v 56))])
               (.cond (.v 57)
                (.skip [1, 5, 6, 8, 10, 11])
                (.exit 0 [1, 5, 6, 8, 10])))
              (.seq
               (.block 1
                (.seq
                 (.seq
                  (.region [(63, 5, false), (62, 5, false), (60, 5, false)] [] [1, 5, 6, 8, 10, 11, 67] false [
                    (none, .mv 60 (.v 5)),
                    (none, .mv 61 (.v 11)),
                    (none, .iadr 62 2 (.v 60) (.v 61)),
                    (none, .fadr 63 1 1 (.v 62)),
                    (none, .load 64 false 1 (.v 63) none),
                    (none, .mv 65 (.v 6)),
                    (none, .bin 66 .rem (.v 64) (.v 65)),
                    (none, .bin 67 .neq (.v 66) (.c (.int .i64 0)))])
                  (.cond (.v 67)
                   (.seq
                    (.region [] [] [4] false [
                      (none, .asg 4 (.c (.bool false)) .copy)])
                    (.ret [4]))
                   (.skip [1, 5, 6, 8, 10, 11])))
                 (.region [(72, 5, false), (71, 5, false), (69, 5, false)] [] [1, 5, 6, 8, 10, 11] false [
                   (none, .mv 68 (.v 10)),
                   (none, .mv 69 (.v 5)),
                   (none, .mv 70 (.v 11)),
                   (none, .iadr 71 2 (.v 69) (.v 70)),
                   (none, .fadr 72 1 1 (.v 71)),
                   (none, .load 73 false 1 (.v 72) none),
                   (none, .bin 74 .add (.v 68) (.v 73)),
                   (none, .asg 10 (.v 74) .copy)])))
               (.region [] [] [1, 5, 6, 8, 10, 11] false [
                 (none, .mv 58 (.v 11)),
                 (none, .bin 59 .add (.v 58) (.c (.int .i64 1))),
                 (none, .asg 11 (.v 59) .copy)]))))))
          (.seq
           (.region [(76, 5, false)] [] [1, 5, 6, 8, 10, 12, 13] false [
             (none, .mv 76 (.v 5)),
             (none, .mv 77 (.v 6)),
             (none, .call (some 78) 57 false [((.v 76), false), ((.v 77), false)]),
             (none, .asg 75 (.v 78) .copy),
             (none, .extp 79 (.v 75) 0),
             (none, .extp 80 (.v 75) 1),
             (none, .asg 12 (.v 79) .copy),
             (none, .asg 13 (.v 80) .copy)])
           (.seq
            (.region [(82, 5, false)] [] [1, 5, 6, 8, 10, 12, 13, 14, 15] false [
              (none, .mv 82 (.v 5)),
              (none, .mv 83 (.v 6)),
              (none, .call (some 84) 77 false [((.v 82), false), ((.v 83), false)]),
              (none, .asg 81 (.v 84) .copy),
              (none, .extp 85 (.v 81) 0),
              (none, .extp 86 (.v 81) 1),
              (none, .asg 14 (.v 85) .copy),
              (none, .asg 15 (.v 86) .copy)])
            (.seq
             (.seq
              (.region [] [] [1, 5, 6, 10, 12, 13, 14, 111] false [
                (none, .mv 87 (.v 10)),
                (none, .mv 88 (.v 8)),
                (none, .bin 89 .neq (.v 87) (.v 88)),
                (none, .mv 90 (.v 89)),
                (some (90, false), .mv 91 (.v 13)),
                (some (90, false), .mv 92 (.v 15)),
                (some (90, false), .bin 93 .neq (.v 91) (.v 92)),
                (none, .pick 94 (.v 90) (.c (.bool true)) (.v 93)),
                (none, .mv 95 (.v 94)),
                (some (95, false), .mv 96 (.v 13)),
                (some (95, false), .bin 97 .eql (.v 96) (.c (.int .i64 0))),
                (some (95, false), .mv 98 (.v 10)),
                (some (95, false), .mv 99 (.v 6)),
                (some (95, false), .bin 100 .mul (.c (.int .i64 60)) (.v 99)),
                (some (95, false), .bin 101 .leq (.v 98) (.v 100)),
                (some (95, false), .eqb 102 true (.v 97) (.v 101)),
                (none, .pick 103 (.v 95) (.c (.bool true)) (.v 102)),
                (none, .mv 104 (.v 103)),
                (some (104, false), .mv 105 (.v 13)),
                (some (104, false), .bin 106 .neq (.v 105) (.c (.int .i64 0))),
                (some (104, false), .mv 107 (.v 106)),
                (some (107, true), .mv 108 (.v 13)),
                (some (107, true), .bin 109 .neq (.v 108) (.c (.int .i64 5))),
                (some (104, false), .pick 110 (.v 107) (.v 109) (.c (.bool false))),
                (none, .pick 111 (.v 104) (.c (.bool true)) (.v 110))])
              (.cond (.v 111)
               (.seq
                (.region [] [] [4] false [
                  (none, .asg 4 (.c (.bool false)) .copy)])
                (.ret [4]))
               (.skip [1, 5, 6, 10, 12, 13, 14])))
             (.seq
              (.seq
               (.region [] [] [1, 5, 6, 10, 12, 14, 113] false [
                 (none, .mv 112 (.v 13)),
                 (none, .bin 113 .neq (.v 112) (.c (.int .i64 0)))])
               (.cond (.v 113)
                (.seq
                 (.region [] [] [4] false [
                   (none, .asg 4 (.c (.bool true)) .copy)])
                 (.ret [4]))
                (.skip [1, 5, 6, 10, 12, 14])))
              (.seq
               (.region [] [] [1, 5, 6, 10, 12, 14, 16, 17] false [
                 (none, .mv 115 (.v 12)),
                 (none, .mv 116 (.v 6)),
                 (none, .call (some 117) 174 false [((.v 115), false), ((.v 116), false)]),
                 (none, .asg 114 (.v 117) .move),
                 (none, .ext 118 (.v 114) 0),
                 (none, .extp 119 (.v 114) 1),
                 (none, .asg 16 (.v 118) .move),
                 (none, .asg 17 (.v 119) .copy)])
               (.seq
                (.seq
                 (.region [(136, 5, false), (135, 16, false)] [] [1, 5, 6, 10, 12, 139] false [
                   (none, .mv 120 (.v 12)),
                   (none, .len 121 true (.v 120)),
                   (none, .mv 122 (.v 6)),
                   (none, .bin 123 .mul (.v 121) (.v 122)),
                   (none, .mv 124 (.v 10)),
                   (none, .bin 125 .neq (.v 123) (.v 124)),
                   (none, .mv 126 (.v 125)),
                   (some (126, false), .mv 127 (.v 14)),
                   (some (126, false), .bin 128 .neq (.v 127) (.c (.int .i64 0))),
                   (none, .pick 129 (.v 126) (.c (.bool true)) (.v 128)),
                   (none, .mv 130 (.v 129)),
                   (some (130, false), .mv 131 (.v 17)),
                   (some (130, false), .bin 132 .neq (.v 131) (.c (.int .i64 0))),
                   (none, .pick 133 (.v 130) (.c (.bool true)) (.v 132)),
                   (none, .mv 134 (.v 133)),
                   (some (134, false), .mv 135 (.v 16)),
                   (some (134, false), .mv 136 (.v 5)),
                   (some (134, false), .call (some 137) 562 false [((.v 135), false), ((.v 136), false)]),
                   (some (134, false), .un 138 .not (.v 137)),
                   (none, .pick 139 (.v 134) (.c (.bool true)) (.v 138))])
                 (.cond (.v 139)
                  (.seq
                   (.region [] [] [4] false [
                     (none, .asg 4 (.c (.bool false)) .copy)])
                   (.ret [4]))
                  (.skip [1, 5, 6, 10, 12])))
                (.seq
                 (.region [(140, 1, false)] [] [5, 6, 10, 12, 18] false [
                   (none, .mv 140 (.v 1)),
                   (none, .mv 141 (.v 10)),
                   (none, .call (some 142) 384 false [((.v 140), false), ((.c (.int .i64 0)), false), ((.v 141), false)]),
                   (none, .asg 18 (.v 142) .copy)])
                 (.seq
                  (.region [] [] [5, 6, 10, 12, 18, 19, 20] false [
                    (none, .mv 144 (.v 12)),
                    (none, .mv 145 (.v 6)),
                    (none, .mv 146 (.v 18)),
                    (none, .call (some 147) 159 false [((.v 144), false), ((.v 145), false), ((.v 146), false)]),
                    (none, .asg 143 (.v 147) .copy),
                    (none, .extp 148 (.v 143) 0),
                    (none, .extp 149 (.v 143) 1),
                    (none, .asg 19 (.v 148) .copy),
                    (none, .asg 20 (.v 149) .copy)])
                  (.seq
                   (.region [] [] [5, 18, 19, 20, 22] false [
                     (none, .mv 151 (.v 12)),
                     (none, .mv 152 (.v 6)),
                     (none, .mv 153 (.v 10)),
                     (none, .call (some 154) 159 false [((.v 151), false), ((.v 152), false), ((.v 153), false)]),
                     (none, .asg 150 (.v 154) .copy),
                     (none, .extp 155 (.v 150) 0),
                     (none, .extp 156 (.v 150) 1),
                     (none, .asg 21 (.v 155) .copy),
                     (none, .asg 22 (.v 156) .copy)])
                   (.seq
                    (.region [] [] [5, 18, 19, 20, 22, 23] false [
                      (none, .asg 23 (.c (.int .i64 0)) .copy)])
                    (.seq
                     (.region [] [] [5, 18, 19, 20, 22, 23, 24] false [
                       (none, .asg 24 (.c (.int .i64 0)) .copy)])
                     (.seq
                      (.block 2
                       (.loop
                        (.seq
                         (.seq
                          (.region [(166, 5, false), (165, 5, false), (163, 5, false), (158, 5, false)] [] [5, 18, 19, 20, 22, 23, 24, 171] false [
                            (none, .mv 157 (.v 24)),
                            (none, .mv 158 (.v 5)),
                            (none, .len 159 false (.v 158)),
                            (none, .bin 160 .lss (.v 157) (.v 159)),
                            (none, .mv 161 (.v 160)),
                            (some (161, true), .mv 162 (.v 23)),
                            (some (161, true), .mv 163 (.v 5)),
                            (some (161, true), .mv 164 (.v 24)),
                            (some (161, true), .iadr 165 2 (.v 163) (.v 164)),
                            (some (161, true), .fadr 166 1 1 (.v 165)),
                            (some (161, true), .load 167 false 1 (.v 166) none),
                            (some (161, true), .bin 168 .add (.v 162) (.v 167)),
                            (some (161, true), .mv 169 (.v 18)),
                            (some (161, true), .bin 170 .leq (.v 168) (.v 169)),
                            (none, .pick 171 (.v 161) (.v 170) (.c (.bool false)))])
                          (.cond (.v 171)
                           (.skip [5, 18, 19, 20, 22, 23, 24])
                           (.exit 2 [5, 19, 20, 22, 24])))
                         (.block 3
                          (.seq
                           (.region [(176, 5, false), (175, 5, false), (173, 5, false)] [] [5, 18, 19, 20, 22, 23, 24] false [
                             (none, .mv 172 (.v 23)),
                             (none, .mv 173 (.v 5)),
                             (none, .mv 174 (.v 24)),
                             (none, .iadr 175 2 (.v 173) (.v 174)),
                             (none, .fadr 176 1 1 (.v 175)),
                             (none, .load 177 false 1 (.v 176) none),
                             (none, .bin 178 .add (.v 172) (.v 177)),
                             (none, .asg 23 (.v 178) .copy)])
                           (.region [] [] [5, 18, 19, 20, 22, 23, 24] false [
                             (none, .mv 179 (.v 24)),
                             (none, .bin 180 .add (.v 179) (.c (.int .i64 1))),
                             (none, .asg 24 (.v 180) .copy)]))))))
                      (.seq
                       (.region [(194, 5, false), (193, 5, false), (191, 5, false), (185, 5, false)] [] [4] false [
                         (none, .mv 181 (.v 20)),
                         (none, .bin 182 .eql (.v 181) (.c (.int .i64 0))),
                         (none, .mv 183 (.v 182)),
                         (some (183, true), .mv 184 (.v 24)),
                         (some (183, true), .mv 185 (.v 5)),
                         (some (183, true), .len 186 false (.v 185)),
                         (some (183, true), .bin 187 .lss (.v 184) (.v 186)),
                         (none, .pick 188 (.v 183) (.v 187) (.c (.bool false))),
                         (none, .mv 189 (.v 188)),
                         (some (189, true), .mv 190 (.v 19)),
                         (some (189, true), .mv 191 (.v 5)),
                         (some (189, true), .mv 192 (.v 24)),
                         (some (189, true), .iadr 193 2 (.v 191) (.v 192)),
                         (some (189, true), .fadr 194 0 1 (.v 193)),
                         (some (189, true), .load 195 false 1 (.v 194) none),
                         (some (189, true), .bin 196 .eql (.v 190) (.v 195)),
                         (none, .pick 197 (.v 189) (.v 196) (.c (.bool false))),
                         (none, .mv 198 (.v 197)),
                         (some (198, true), .mv 199 (.v 22)),
                         (some (198, true), .bin 200 .eql (.v 199) (.c (.int .i64 3))),
                         (none, .pick 201 (.v 198) (.v 200) (.c (.bool false))),
                         (none, .asg 4 (.v 201) .copy)])
                       (.ret [4]))))))))))))))))))))))⟩
def tabl : List (Nat × PFunc) := [(277, F277), (326, F326), (227, F227), (301, F301), (296, F296), (315, F315), (252, F252), (57, F57), (245, F245), (265, F265), (77, F77), (81, F81), (827, F827), (805, F805), (80, F80), (127, F127), (295, F295), (159, F159), (174, F174), (384, F384), (386, F386), (603, F603), (5, F5), (7, F7), (6, F6), (8, F8), (657, F657), (431, F431), (562, F562), (328, F328)]
def T : Nat → Option PFunc := tabOf tabl
end Go.Vs.G
