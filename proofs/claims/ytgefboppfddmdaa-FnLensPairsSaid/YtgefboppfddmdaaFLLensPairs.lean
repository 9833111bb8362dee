/- The functions that the law reaches, in the small language, printed by program. No conditions. -/
import Derived.Test.YtgefboppfddmdaaDLLensPairs
import Derived.Test.YtgefboppfddmdaaV4
set_option maxRecDepth 100000
open Go Go.Vs
namespace Go.Vs.G
def F269 : PFunc :=
 ⟨[false, false], [.tmp 4],
  (.seq
   (.region [] [] [0, 1] false [
     (none, .asg 4 (.c (.int .i64 0)) .copy)])
   (.seq
    (.block 0
     (.loop
      (.seq
       (.seq
        (.region [] [] [0, 1, 6] false [
          (none, .mv 5 (.v 1)),
          (none, .bin 6 .neq (.v 5) (.c (.int .i64 0)))])
        (.cond (.v 6)
         (.skip [0, 1])
         (.exit 0 [0])))
       (.block 1
        (.region [] [] [0, 1] true [
          (none, .mv 7 (.v 1)),
          (none, .mv 8 (.v 0)),
          (none, .mv 9 (.v 1)),
          (none, .bin 10 .rem (.v 8) (.v 9)),
          (none, .asg 0 (.v 7) .copy),
          (none, .asg 1 (.v 10) .copy)])))))
    (.seq
     (.region [] [] [4] false [
       (none, .mv 11 (.v 0)),
       (none, .mv 12 (.v 0)),
       (none, .un 13 .neg (.v 12)),
       (none, .mm 14 true (.v 11) [(.v 13)]),
       (none, .asg 4 (.v 14) .copy)])
     (.ret [4]))))⟩
def F326 : PFunc :=
 ⟨[false, false, false], [.tmp 6],
  (.seq
   (.region [] [] [0, 1, 2] false [
     (none, .asg 6 (.c (.bool false)) .copy)])
   (.seq
    (.region [] [] [6] false [
      (none, .mv 7 (.v 0)),
      (none, .mv 8 (.v 1)),
      (none, .bin 9 .geq (.v 7) (.v 8)),
      (none, .mv 10 (.v 9)),
      (some (10, true), .mv 11 (.v 0)),
      (some (10, true), .mv 12 (.v 2)),
      (some (10, true), .bin 13 .leq (.v 11) (.v 12)),
      (none, .pick 14 (.v 10) (.v 13) (.c (.bool false))),
      (none, .asg 6 (.v 14) .copy)])
    (.ret [6])))⟩
def F213 : PFunc :=
 ⟨[false], [.tmp 2],
  (.seq
   (.region [] [] [1] false [
     (none, .box 1 (.v 0) .copy),
     (none, .asg 2 (.c (.bool false)) .copy)])
   (.seq
    (.region [(14, 1, false), (12, 1, false), (7, 1, false), (3, 1, false)] [] [2] false [
      (none, .fadr 3 1 1 (.v 1)),
      (none, .load 4 false 1 (.v 3) none),
      (none, .call (some 5) 326 false [((.v 4), false), ((.c (.int .i64 1)), false), ((.c (.int .i64 1000000)), false)]),
      (none, .mv 6 (.v 5)),
      (some (6, true), .fadr 7 0 1 (.v 1)),
      (some (6, true), .load 8 false 1 (.v 7) none),
      (some (6, true), .call (some 9) 326 false [((.v 8), false), ((.c (.int .i64 (-1000000))), false), ((.c (.int .i64 1000000)), false)]),
      (none, .pick 10 (.v 6) (.v 9) (.c (.bool false))),
      (none, .mv 11 (.v 10)),
      (some (11, true), .fadr 12 0 1 (.v 1)),
      (some (11, true), .load 13 false 1 (.v 12) none),
      (some (11, true), .fadr 14 1 1 (.v 1)),
      (some (11, true), .load 15 false 1 (.v 14) none),
      (some (11, true), .call (some 16) 269 false [((.v 13), false), ((.v 15), false)]),
      (some (11, true), .bin 17 .eql (.v 16) (.c (.int .i64 1))),
      (none, .pick 18 (.v 11) (.v 17) (.c (.bool false))),
      (none, .asg 2 (.v 18) .copy)])
    (.ret [2])))⟩
def F257 : PFunc :=
 ⟨[false], [.cell 2 true 2, .tmp 3],
  (.seq
   (.region [] [] [1, 2] false [
     (none, .box 1 (.v 0) .copy),
     (none, .new 2 (.agg [(.int .i64 0), (.int .i64 0)])),
     (none, .asg 3 (.c (.int .i64 0)) .copy)])
   (.seq
    (.seq
     (.region [] [] [1, 2, 6] false [
       (none, .load 4 true 2 (.v 1) none),
       (none, .call (some 5) 213 false [((.v 4), false)]),
       (none, .un 6 .not (.v 5))])
     (.cond (.v 6)
      (.seq
       (.region [] [] [2, 3] false [
         (none, .build 7 [(.int .i64 0), (.int .i64 0)] []),
         (none, .store 2 (.v 2) (.v 7) .copy),
         (none, .asg 3 (.c (.int .i64 5)) .copy)])
       (.ret [2, 3]))
      (.skip [1, 2])))
    (.seq
     (.region [] [] [2, 3] false [
       (none, .load 8 true 2 (.v 1) none),
       (none, .store 2 (.v 2) (.v 8) .copy),
       (none, .asg 3 (.c (.int .i64 0)) .copy)])
     (.ret [2, 3]))))⟩
def F275 : PFunc :=
 ⟨[false], [.tmp 2],
  (.seq
   (.region [] [] [0] false [
     (none, .asg 2 (.c (.bool false)) .copy)])
   (.seq
    (.region [] [] [2] false [
      (none, .mv 3 (.v 0)),
      (none, .call (some 4) 326 false [((.v 3), false), ((.c (.int .i64 1)), false), ((.c (.int .i64 2000)), false)]),
      (none, .asg 2 (.v 4) .copy)])
    (.ret [2])))⟩
def F292 : PFunc :=
 ⟨[false, false], [.cell 4 true 2],
  (.seq
   (.region [] [] [0, 1, 4] false [
     (none, .new 4 (.agg [(.int .i64 0), (.int .i64 0)]))])
   (.seq
    (.seq
     (.region [] [] [0, 1, 4, 7] false [
       (none, .mv 6 (.v 1)),
       (none, .bin 7 .lss (.v 6) (.c (.int .i64 0)))])
     (.cond (.v 7)
      (.region [] [] [0, 1, 4] false [
        (none, .mv 8 (.v 0)),
        (none, .un 9 .neg (.v 8)),
        (none, .mv 10 (.v 1)),
        (none, .un 11 .neg (.v 10)),
        (none, .asg 0 (.v 9) .copy),
        (none, .asg 1 (.v 11) .copy)])
      (.skip [0, 1, 4])))
    (.seq
     (.region [] [] [0, 1, 4, 5] false [
       (none, .mv 12 (.v 0)),
       (none, .mv 13 (.v 1)),
       (none, .call (some 14) 269 false [((.v 12), false), ((.v 13), false)]),
       (none, .asg 5 (.v 14) .copy)])
     (.seq
      (.region [] [] [4] true [
        (none, .mv 15 (.v 0)),
        (none, .mv 16 (.v 5)),
        (none, .bin 17 .quo (.v 15) (.v 16)),
        (none, .mv 18 (.v 1)),
        (none, .mv 19 (.v 5)),
        (none, .bin 20 .quo (.v 18) (.v 19)),
        (none, .build 21 [(.int .i64 0), (.int .i64 0)] [(0, 1, (.v 17), .copy), (1, 1, (.v 20), .copy)]),
        (none, .store 2 (.v 4) (.v 21) .copy)])
      (.ret [4])))))⟩
def F282 : PFunc :=
 ⟨[false, false], [.cell 4 true 2],
  (.seq
   (.region [] [] [0, 1, 4] false [
     (none, .new 4 (.agg [(.int .i64 0), (.int .i64 0)]))])
   (.seq
    (.region [] [] [4] false [
      (none, .mv 5 (.v 0)),
      (none, .mv 6 (.v 1)),
      (none, .bin 7 .mul (.v 5) (.v 6)),
      (none, .mv 8 (.v 0)),
      (none, .mv 9 (.v 1)),
      (none, .bin 10 .add (.v 8) (.v 9)),
      (none, .call (some 11) 292 false [((.v 7), false), ((.v 10), false)]),
      (none, .store 2 (.v 4) (.v 11) .copy)])
    (.ret [4])))⟩
def F119 : PFunc :=
 ⟨[false, false], [.cell 4 true 2, .tmp 5],
  (.seq
   (.region [] [] [0, 1, 4] false [
     (none, .new 4 (.agg [(.int .i64 0), (.int .i64 0)])),
     (none, .asg 5 (.c (.int .i64 0)) .copy)])
   (.seq
    (.seq
     (.region [] [] [0, 1, 4, 13] false [
       (none, .mv 6 (.v 0)),
       (none, .call (some 7) 275 false [((.v 6), false)]),
       (none, .un 8 .not (.v 7)),
       (none, .mv 9 (.v 8)),
       (some (9, false), .mv 10 (.v 1)),
       (some (9, false), .call (some 11) 275 false [((.v 10), false)]),
       (some (9, false), .un 12 .not (.v 11)),
       (none, .pick 13 (.v 9) (.c (.bool true)) (.v 12))])
     (.cond (.v 13)
      (.seq
       (.region [] [] [4, 5] false [
         (none, .build 14 [(.int .i64 0), (.int .i64 0)] []),
         (none, .store 2 (.v 4) (.v 14) .copy),
         (none, .asg 5 (.c (.int .i64 2)) .copy)])
       (.ret [4, 5]))
      (.skip [0, 1, 4])))
    (.seq
     (.region [] [] [4, 5] false [
       (none, .mv 15 (.v 0)),
       (none, .mv 16 (.v 1)),
       (none, .call (some 17) 282 false [((.v 15), false), ((.v 16), false)]),
       (none, .call (some 18) 257 false [((.v 17), false)]),
       (none, .extp 19 (.v 18) 0),
       (none, .extp 20 (.v 18) 1),
       (none, .store 2 (.v 4) (.v 19) .copy),
       (none, .asg 5 (.v 20) .copy)])
     (.ret [4, 5]))))⟩
def F245 : PFunc :=
 ⟨[false, false], [.tmp 4],
  (.seq
   (.region [] [] [0, 1] false [
     (none, .asg 4 (.c (.int .i64 0)) .copy)])
   (.seq
    (.region [] [] [4] false [
      (none, .mv 5 (.v 0)),
      (none, .mv 6 (.v 1)),
      (none, .bin 7 .sub (.v 5) (.v 6)),
      (none, .mv 8 (.v 1)),
      (none, .mv 9 (.v 0)),
      (none, .bin 10 .sub (.v 8) (.v 9)),
      (none, .mm 11 true (.v 7) [(.v 10)]),
      (none, .asg 4 (.v 11) .copy)])
    (.ret [4])))⟩
def F288 : PFunc :=
 ⟨[false], [.tmp 2],
  (.seq
   (.region [] [] [0] false [
     (none, .asg 2 (.c (.bool false)) .copy)])
   (.seq
    (.region [] [] [2] false [
      (none, .mv 3 (.v 0)),
      (none, .call (some 4) 275 false [((.v 3), false)]),
      (none, .un 5 .not (.v 4)),
      (none, .asg 2 (.v 5) .copy)])
    (.ret [2])))⟩
def F818 : PFunc :=
 ⟨[false, false], [.tmp 4],
  (.seq
   (.region [] [] [0, 1] false [
     (none, .asg 4 (.c (.int .i64 0)) .copy)])
   (.seq
    (.seq
     (.region [(6, 0, false)] [] [0, 1, 7, 8] false [
       (none, .mv 6 (.v 0)),
       (none, .len 7 false (.v 6)),
       (none, .mv 8 (.c (.int .i64 0)))])
     (.block 0
      (.loop
       (.seq
        (.region [] [] [0, 1, 7, 8, 9] false [
          (none, .bin 9 .lss (.v 8) (.v 7))])
        (.seq
         (.cond (.v 9)
          (.skip [0, 1, 7, 8])
          (.exit 0 []))
         (.seq
          (.block 1
           (.seq
            (.region [] [] [0, 1, 5, 7, 8] false [
              (none, .mv 10 (.v 8)),
              (none, .asg 5 (.v 10) .copy)])
            (.seq
             (.region [(14, 0, false), (12, 0, false), (11, 1, false)] [] [0, 1, 5, 7, 8, 16] false [
               (none, .mv 11 (.v 1)),
               (none, .mv 12 (.v 0)),
               (none, .mv 13 (.v 5)),
               (none, .iadr 14 1 (.v 12) (.v 13)),
               (none, .load 15 false 1 (.v 14) none),
               (none, .callv (some 16) (.v 11) [(.v 15)])])
             (.cond (.v 16)
              (.seq
               (.region [] [] [4] false [
                 (none, .mv 17 (.v 5)),
                 (none, .asg 4 (.v 17) .copy)])
               (.ret [4]))
              (.skip [0, 1, 7, 8])))))
          (.region [] [] [0, 1, 7, 8] false [
            (none, .bin 18 .add (.v 8) (.c (.int .i64 1))),
            (none, .mv 8 (.v 18))])))))))
    (.seq
     (.region [] [] [4] false [
       (none, .asg 4 (.c (.int .i64 (-1))) .copy)])
     (.ret [4]))))⟩
def F796 : PFunc :=
 ⟨[false, false], [.tmp 4],
  (.seq
   (.region [] [] [0, 1] false [
     (none, .asg 4 (.c (.bool false)) .copy)])
   (.seq
    (.region [(6, 1, false), (5, 0, false)] [] [4] false [
      (none, .mv 5 (.v 0)),
      (none, .mv 6 (.v 1)),
      (none, .call (some 7) 818 false [((.v 5), false), ((.v 6), false)]),
      (none, .bin 8 .geq (.v 7) (.c (.int .i64 0))),
      (none, .asg 4 (.v 8) .copy)])
    (.ret [4])))⟩
def F287 : PFunc :=
 ⟨[false, false], [.tmp 4],
  (.seq
   (.region [] [] [0, 1] false [
     (none, .asg 4 (.c (.bool false)) .copy)])
   (.seq
    (.region [(10, 0, false), (5, 0, false)] [] [4] false [
      (none, .mv 5 (.v 0)),
      (none, .len 6 false (.v 5)),
      (none, .mv 7 (.v 1)),
      (none, .bin 8 .leq (.v 6) (.v 7)),
      (none, .mv 9 (.v 8)),
      (some (9, true), .mv 10 (.v 0)),
      (some (9, true), .call (some 11) 796 false [((.v 10), false), ((.c (.fn 288 [])), false)]),
      (some (9, true), .un 12 .not (.v 11)),
      (none, .pick 13 (.v 9) (.v 12) (.c (.bool false))),
      (none, .asg 4 (.v 13) .copy)])
    (.ret [4])))⟩
def F152 : PFunc :=
 ⟨[false, false], [.tmp 4, .tmp 5],
  (.seq
   (.region [] [] [0, 1] false [
     (none, .asg 4 (.c (.int .i64 0)) .copy),
     (none, .asg 5 (.c (.int .i64 0)) .copy)])
   (.seq
    (.block 0
     (.seq
      (.region [(10, 0, false)] [] [0, 1, 9] false [
        (none, .mv 10 (.v 0)),
        (none, .call (some 11) 287 false [((.v 10), false), ((.c (.int .i64 12)), false)]),
        (none, .un 12 .not (.v 11)),
        (none, .mv 13 (.v 12)),
        (some (13, false), .mv 14 (.v 1)),
        (some (13, false), .call (some 15) 275 false [((.v 14), false)]),
        (some (13, false), .un 16 .not (.v 15)),
        (none, .pick 17 (.v 13) (.c (.bool true)) (.v 16)),
        (none, .asg 9 (.v 17) .copy)])
      (.cond (.v 9)
       (.seq
        (.region [] [] [4, 5] false [
          (none, .asg 4 (.c (.int .i64 0)) .copy),
          (none, .asg 5 (.c (.int .i64 2)) .copy)])
        (.ret [4, 5]))
       (.seq
        (.region [(19, 0, false)] [] [0, 1, 18] false [
          (none, .mv 19 (.v 0)),
          (none, .len 20 false (.v 19)),
          (none, .bin 21 .eql (.v 20) (.c (.int .i64 0))),
          (none, .asg 18 (.v 21) .copy)])
        (.cond (.v 18)
         (.seq
          (.region [] [] [4, 5] false [
            (none, .asg 4 (.c (.int .i64 0)) .copy),
            (none, .asg 5 (.c (.int .i64 3)) .copy)])
          (.ret [4, 5]))
         (.skip [0, 1]))))))
    (.seq
     (.region [] [] [0, 1, 6] false [
       (none, .asg 6 (.c (.int .i64 0)) .copy)])
     (.seq
      (.seq
       (.region [(22, 0, false)] [] [0, 1, 6, 22, 23, 24] false [
         (none, .mv 22 (.v 0)),
         (none, .len 23 false (.v 22)),
         (none, .mv 24 (.c (.int .i64 0)))])
       (.block 1
        (.loop
         (.seq
          (.region [(22, 0, false)] [] [0, 1, 6, 22, 23, 24, 25] false [
            (none, .bin 25 .lss (.v 24) (.v 23))])
          (.seq
           (.cond (.v 25)
            (.skip [0, 1, 6, 22, 23, 24])
            (.exit 1 [6]))
           (.seq
            (.block 2
             (.seq
              (.region [(27, 0, false), (22, 0, false)] [] [0, 1, 6, 7, 8, 22, 23, 24] false [
                (none, .mv 26 (.v 24)),
                (none, .iadr 27 1 (.v 22) (.v 24)),
                (none, .load 28 false 1 (.v 27) none),
                (none, .asg 7 (.v 26) .copy),
                (none, .asg 8 (.v 28) .copy)])
              (.seq
               (.region [(34, 0, false), (32, 0, false), (22, 0, false)] [] [0, 1, 6, 7, 22, 23, 24, 38] true [
                 (none, .mv 29 (.v 8)),
                 (none, .mv 30 (.v 1)),
                 (none, .call (some 31) 245 false [((.v 29), false), ((.v 30), false)]),
                 (none, .mv 32 (.v 0)),
                 (none, .mv 33 (.v 6)),
                 (none, .iadr 34 1 (.v 32) (.v 33)),
                 (none, .load 35 false 1 (.v 34) none),
                 (none, .mv 36 (.v 1)),
                 (none, .call (some 37) 245 false [((.v 35), false), ((.v 36), false)]),
                 (none, .bin 38 .lss (.v 31) (.v 37))])
               (.cond (.v 38)
                (.region [(22, 0, false)] [] [0, 1, 6, 22, 23, 24] false [
                  (none, .mv 39 (.v 7)),
                  (none, .asg 6 (.v 39) .copy)])
                (.skip [0, 1, 6, 22, 23, 24])))))
            (.region [(22, 0, false)] [] [0, 1, 6, 22, 23, 24] false [
              (none, .bin 40 .add (.v 24) (.c (.int .i64 1))),
              (none, .mv 24 (.v 40))])))))))
      (.seq
       (.region [] [] [4, 5] false [
         (none, .mv 41 (.v 6)),
         (none, .asg 4 (.v 41) .copy),
         (none, .asg 5 (.c (.int .i64 0)) .copy)])
       (.ret [4, 5]))))))⟩
def F153 : PFunc :=
 ⟨[false, false], [.tmp 4, .tmp 5, .tmp 6],
  (.seq
   (.region [] [] [0, 1] false [
     (none, .asg 4 (.c (.int .i64 0)) .copy),
     (none, .asg 5 (.c (.int .i64 0)) .copy),
     (none, .asg 6 (.c (.int .i64 0)) .copy)])
   (.seq
    (.block 0
     (.seq
      (.region [(15, 0, false)] [] [0, 1, 14] false [
        (none, .mv 15 (.v 0)),
        (none, .call (some 16) 287 false [((.v 15), false), ((.c (.int .i64 12)), false)]),
        (none, .un 17 .not (.v 16)),
        (none, .mv 18 (.v 17)),
        (some (18, false), .mv 19 (.v 1)),
        (some (18, false), .call (some 20) 275 false [((.v 19), false)]),
        (some (18, false), .un 21 .not (.v 20)),
        (none, .pick 22 (.v 18) (.c (.bool true)) (.v 21)),
        (none, .asg 14 (.v 22) .copy)])
      (.cond (.v 14)
       (.seq
        (.region [] [] [4, 5, 6] false [
          (none, .asg 4 (.c (.int .i64 0)) .copy),
          (none, .asg 5 (.c (.int .i64 0)) .copy),
          (none, .asg 6 (.c (.int .i64 2)) .copy)])
        (.ret [4, 5, 6]))
       (.seq
        (.region [(24, 0, false)] [] [0, 1, 23] false [
          (none, .mv 24 (.v 0)),
          (none, .len 25 false (.v 24)),
          (none, .bin 26 .lss (.v 25) (.c (.int .i64 2))),
          (none, .asg 23 (.v 26) .copy)])
        (.cond (.v 23)
         (.seq
          (.region [] [] [4, 5, 6] false [
            (none, .asg 4 (.c (.int .i64 0)) .copy),
            (none, .asg 5 (.c (.int .i64 0)) .copy),
            (none, .asg 6 (.c (.int .i64 3)) .copy)])
          (.ret [4, 5, 6]))
         (.skip [0, 1]))))))
    (.seq
     (.region [] [] [0, 1, 7, 8, 9] false [
       (none, .build 27 [(.int .i64 0), (.int .i64 0)] [(0, 1, (.c (.int .i64 (-1))), .copy)]),
       (none, .new 7 (.agg [(.int .i64 0), (.int .i64 0)])),
       (none, .store 2 (.v 7) (.v 27) .copy),
       (none, .asg 8 (.c (.int .i64 0)) .copy),
       (none, .asg 9 (.c (.int .i64 0)) .copy)])
     (.seq
      (.seq
       (.region [(28, 0, false)] [] [0, 1, 7, 8, 9, 29, 30] false [
         (none, .mv 28 (.v 0)),
         (none, .len 29 false (.v 28)),
         (none, .mv 30 (.c (.int .i64 0)))])
       (.block 1
        (.loop
         (.seq
          (.region [] [] [0, 1, 7, 8, 9, 29, 30, 31] false [
            (none, .bin 31 .lss (.v 30) (.v 29))])
          (.seq
           (.cond (.v 31)
            (.skip [0, 1, 7, 8, 9, 29, 30])
            (.exit 1 [8, 9]))
           (.seq
            (.block 2
             (.seq
              (.region [] [] [0, 1, 7, 8, 9, 10, 29, 30] false [
                (none, .mv 32 (.v 30)),
                (none, .asg 10 (.v 32) .copy)])
              (.seq
               (.region [] [] [0, 1, 7, 8, 9, 10, 11, 29, 30] false [
                 (none, .mv 33 (.v 10)),
                 (none, .bin 34 .add (.v 33) (.c (.int .i64 1))),
                 (none, .asg 11 (.v 34) .copy)])
               (.block 3
                (.loop
                 (.seq
                  (.seq
                   (.region [(36, 0, false)] [] [0, 1, 7, 8, 9, 10, 11, 29, 30, 38] false [
                     (none, .mv 35 (.v 11)),
                     (none, .mv 36 (.v 0)),
                     (none, .len 37 false (.v 36)),
                     (none, .bin 38 .lss (.v 35) (.v 37))])
                   (.cond (.v 38)
                    (.skip [0, 1, 7, 8, 9, 10, 11, 29, 30])
                    (.exit 3 [0, 1, 7, 8, 9, 29, 30])))
                  (.seq
                   (.block 4
                    (.seq
                     (.region [(47, 0, false), (45, 0, false), (43, 0, false), (41, 0, false)] [] [0, 1, 7, 8, 9, 10, 11, 12, 29, 30] true [
                       (none, .mv 41 (.v 0)),
                       (none, .mv 42 (.v 10)),
                       (none, .iadr 43 1 (.v 41) (.v 42)),
                       (none, .load 44 false 1 (.v 43) none),
                       (none, .mv 45 (.v 0)),
                       (none, .mv 46 (.v 11)),
                       (none, .iadr 47 1 (.v 45) (.v 46)),
                       (none, .load 48 false 1 (.v 47) none),
                       (none, .call (some 49) 282 false [((.v 44), false), ((.v 48), false)]),
                       (none, .new 12 (.agg [(.int .i64 0), (.int .i64 0)])),
                       (none, .store 2 (.v 12) (.v 49) .copy)])
                     (.seq
                      (.region [(57, 12, false), (53, 12, false), (50, 12, false)] [] [0, 1, 7, 8, 9, 10, 11, 13, 29, 30] true [
                        (none, .fadr 50 0 1 (.v 12)),
                        (none, .load 51 false 1 (.v 50) none),
                        (none, .mv 52 (.v 1)),
                        (none, .fadr 53 1 1 (.v 12)),
                        (none, .load 54 false 1 (.v 53) none),
                        (none, .bin 55 .mul (.v 52) (.v 54)),
                        (none, .call (some 56) 245 false [((.v 51), false), ((.v 55), false)]),
                        (none, .fadr 57 1 1 (.v 12)),
                        (none, .load 58 false 1 (.v 57) none),
                        (none, .build 59 [(.int .i64 0), (.int .i64 0)] [(0, 1, (.v 56), .copy), (1, 1, (.v 58), .copy)]),
                        (none, .new 13 (.agg [(.int .i64 0), (.int .i64 0)])),
                        (none, .store 2 (.v 13) (.v 59) .copy)])
                      (.seq
                       (.region [(71, 13, false), (69, 7, false), (66, 7, false), (64, 13, false), (60, 7, false)] [] [0, 1, 7, 8, 9, 10, 11, 13, 29, 30, 75] false [
                         (none, .fadr 60 0 1 (.v 7)),
                         (none, .load 61 false 1 (.v 60) none),
                         (none, .bin 62 .lss (.v 61) (.c (.int .i64 0))),
                         (none, .mv 63 (.v 62)),
                         (some (63, false), .fadr 64 0 1 (.v 13)),
                         (some (63, false), .load 65 false 1 (.v 64) none),
                         (some (63, false), .fadr 66 1 1 (.v 7)),
                         (some (63, false), .load 67 false 1 (.v 66) none),
                         (some (63, false), .bin 68 .mul (.v 65) (.v 67)),
                         (some (63, false), .fadr 69 0 1 (.v 7)),
                         (some (63, false), .load 70 false 1 (.v 69) none),
                         (some (63, false), .fadr 71 1 1 (.v 13)),
                         (some (63, false), .load 72 false 1 (.v 71) none),
                         (some (63, false), .bin 73 .mul (.v 70) (.v 72)),
                         (some (63, false), .bin 74 .lss (.v 68) (.v 73)),
                         (none, .pick 75 (.v 63) (.c (.bool true)) (.v 74))])
                       (.cond (.v 75)
                        (.region [] [] [0, 1, 7, 8, 9, 10, 11, 29, 30] false [
                          (none, .load 76 true 2 (.v 13) none),
                          (none, .mv 77 (.v 10)),
                          (none, .mv 78 (.v 11)),
                          (none, .store 2 (.v 7) (.v 76) .copy),
                          (none, .asg 8 (.v 77) .copy),
                          (none, .asg 9 (.v 78) .copy)])
                        (.skip [0, 1, 7, 8, 9, 10, 11, 29, 30]))))))
                   (.region [] [] [0, 1, 7, 8, 9, 10, 11, 29, 30] false [
                     (none, .mv 39 (.v 11)),
                     (none, .bin 40 .add (.v 39) (.c (.int .i64 1))),
                     (none, .asg 11 (.v 40) .copy)]))))))))
            (.region [] [] [0, 1, 7, 8, 9, 29, 30] false [
              (none, .bin 79 .add (.v 30) (.c (.int .i64 1))),
              (none, .mv 30 (.v 79))])))))))
      (.seq
       (.region [] [] [4, 5, 6] false [
         (none, .mv 80 (.v 8)),
         (none, .mv 81 (.v 9)),
         (none, .asg 4 (.v 80) .copy),
         (none, .asg 5 (.v 81) .copy),
         (none, .asg 6 (.c (.int .i64 0)) .copy)])
       (.ret [4, 5, 6]))))))⟩
def F384 : PFunc :=
 ⟨[false, false, false], [.tmp 6],
  (.seq
   (.region [] [] [0, 1, 2] false [
     (none, .asg 6 (.c (.int .i64 0)) .copy)])
   (.seq
    (.seq
     (.region [(8, 0, false)] [] [0, 1, 2, 14] false [
       (none, .mv 7 (.v 1)),
       (none, .mv 8 (.v 0)),
       (none, .len 9 false (.v 8)),
       (none, .bin 10 .geq (.v 7) (.v 9)),
       (none, .mv 11 (.v 10)),
       (some (11, false), .mv 12 (.v 2)),
       (some (11, false), .bin 13 .lss (.v 12) (.c (.int .i64 1))),
       (none, .pick 14 (.v 11) (.c (.bool true)) (.v 13))])
     (.cond (.v 14)
      (.seq
       (.region [] [] [6] false [
         (none, .asg 6 (.c (.int .i64 0)) .copy)])
       (.ret [6]))
      (.skip [0, 1, 2])))
    (.seq
     (.region [(17, 0, false), (15, 0, false)] [] [6] false [
       (none, .mv 15 (.v 0)),
       (none, .mv 16 (.v 1)),
       (none, .iadr 17 1 (.v 15) (.v 16)),
       (none, .load 18 false 1 (.v 17) none),
       (none, .conv 19 .i64 (.v 18)),
       (none, .mv 20 (.v 2)),
       (none, .bin 21 .rem (.v 19) (.v 20)),
       (none, .asg 6 (.v 21) .copy)])
     (.ret [6]))))⟩
def F386 : PFunc :=
 ⟨[false, false], [.tmp 4],
  (.seq
   (.region [] [] [0, 1] false [
     (none, .asg 4 (.c (.bool false)) .copy)])
   (.seq
    (.region [(9, 1, false), (5, 0, false)] [] [4] false [
      (none, .mv 5 (.v 0)),
      (none, .len 6 false (.v 5)),
      (none, .bin 7 .gtr (.v 6) (.c (.int .i64 3000))),
      (none, .mv 8 (.v 7)),
      (some (8, false), .mv 9 (.v 1)),
      (some (8, false), .len 10 false (.v 9)),
      (some (8, false), .bin 11 .gtr (.v 10) (.c (.int .i64 3000))),
      (none, .pick 12 (.v 8) (.c (.bool true)) (.v 11)),
      (none, .asg 4 (.v 12) .copy)])
    (.ret [4])))⟩
def F5 : PFunc :=
 ⟨[true], [.tmp 2],
  (.seq
   (.region [] [] [0] false [
     (none, .asg 2 (.c (.int .i64 0)) .copy)])
   (.seq
    (.region [] [] [0, 3] false [
      (none, .asg 3 (.c (.int .i64 0)) .copy)])
    (.seq
     (.seq
      (.region [(11, 0, true), (10, 0, false), (9, 0, false), (8, 0, false), (6, 0, false), (5, 0, false), (4, 0, false)] [] [0, 3, 13] true [
        (none, .mv 4 (.v 0)),
        (none, .nchk 5 (.v 4)),
        (none, .fadr 6 1 1 (.v 5)),
        (none, .load 7 false 1 (.v 6) none),
        (none, .mv 8 (.v 0)),
        (none, .nchk 9 (.v 8)),
        (none, .fadr 10 0 1 (.v 9)),
        (none, .load 11 false 1 (.v 10) none),
        (none, .len 12 false (.v 11)),
        (none, .bin 13 .lss (.v 7) (.v 12))])
      (.cond (.v 13)
       (.region [(22, 0, true), (20, 0, false), (19, 0, false), (18, 0, false), (17, 0, true), (16, 0, false), (15, 0, false), (14, 0, false)] [] [0, 3] true [
         (none, .mv 14 (.v 0)),
         (none, .nchk 15 (.v 14)),
         (none, .fadr 16 0 1 (.v 15)),
         (none, .load 17 false 1 (.v 16) none),
         (none, .mv 18 (.v 0)),
         (none, .nchk 19 (.v 18)),
         (none, .fadr 20 1 1 (.v 19)),
         (none, .load 21 false 1 (.v 20) none),
         (none, .iadr 22 1 (.v 17) (.v 21)),
         (none, .load 23 false 1 (.v 22) none),
         (none, .conv 24 .i64 (.v 23)),
         (none, .asg 3 (.v 24) .copy)])
       (.skip [0, 3])))
     (.seq
      (.region [(31, 0, false), (30, 0, false), (27, 0, false), (26, 0, false), (25, 0, false)] [] [0, 3] false [
        (none, .mv 25 (.v 0)),
        (none, .nchk 26 (.v 25)),
        (none, .fadr 27 1 1 (.v 26)),
        (none, .load 28 false 1 (.v 27) none),
        (none, .bin 29 .add (.v 28) (.c (.int .i64 1))),
        (none, .nchk 30 (.v 25)),
        (none, .fadr 31 1 1 (.v 30)),
        (none, .store 1 (.v 31) (.v 29) .copy)])
      (.seq
       (.region [(43, 0, false), (42, 0, false), (35, 0, false), (34, 0, false), (33, 0, false), (32, 0, false)] [] [0, 3] false [
         (none, .mv 32 (.v 0)),
         (none, .mv 33 (.v 0)),
         (none, .nchk 34 (.v 33)),
         (none, .fadr 35 2 1 (.v 34)),
         (none, .load 36 false 1 (.v 35) none),
         (none, .bin 37 .mul (.v 36) (.c (.int .u64 6364136223846793005))),
         (none, .mv 38 (.v 3)),
         (none, .conv 39 .u64 (.v 38)),
         (none, .bin 40 .add (.v 37) (.v 39)),
         (none, .bin 41 .add (.v 40) (.c (.int .u64 1442695040888963407))),
         (none, .nchk 42 (.v 32)),
         (none, .fadr 43 2 1 (.v 42)),
         (none, .store 1 (.v 43) (.v 41) .copy)])
       (.seq
        (.seq
         (.region [(51, 0, true), (50, 0, false), (49, 0, false), (48, 0, false), (46, 0, false), (45, 0, false), (44, 0, false)] [] [0, 3, 53] true [
           (none, .mv 44 (.v 0)),
           (none, .nchk 45 (.v 44)),
           (none, .fadr 46 1 1 (.v 45)),
           (none, .load 47 false 1 (.v 46) none),
           (none, .mv 48 (.v 0)),
           (none, .nchk 49 (.v 48)),
           (none, .fadr 50 0 1 (.v 49)),
           (none, .load 51 false 1 (.v 50) none),
           (none, .len 52 false (.v 51)),
           (none, .bin 53 .leq (.v 47) (.v 52))])
         (.cond (.v 53)
          (.seq
           (.region [] [] [0, 2] false [
             (none, .mv 54 (.v 3)),
             (none, .asg 2 (.v 54) .copy)])
           (.ret [0, 2]))
          (.skip [0])))
        (.seq
         (.region [(57, 0, false), (56, 0, false), (55, 0, false)] [] [0, 2] false [
           (none, .mv 55 (.v 0)),
           (none, .nchk 56 (.v 55)),
           (none, .fadr 57 2 1 (.v 56)),
           (none, .load 58 false 1 (.v 57) none),
           (none, .bin 59 .shr (.v 58) (.c (.int .u64 40))),
           (none, .bin 60 .and (.v 59) (.c (.int .u64 255))),
           (none, .conv 61 .i64 (.v 60)),
           (none, .asg 2 (.v 61) .copy)])
         (.ret [0, 2]))))))))⟩
def F7 : PFunc :=
 ⟨[true, false], [.tmp 4],
  (.seq
   (.region [] [] [0, 1] false [
     (none, .asg 4 (.c (.int .i64 0)) .copy)])
   (.seq
    (.seq
     (.region [] [] [0, 1, 7] false [
       (none, .mv 6 (.v 1)),
       (none, .bin 7 .leq (.v 6) (.c (.int .i64 1)))])
     (.cond (.v 7)
      (.seq
       (.region [] [] [0, 4] false [
         (none, .asg 4 (.c (.int .i64 0)) .copy)])
       (.ret [0, 4]))
      (.skip [0, 1])))
    (.seq
     (.region [(8, 0, false)] [] [0, 1, 5] false [
       (none, .mv 8 (.v 0)),
       (none, .call (some 9) 5 true [((.v 8), true)]),
       (none, .asg 5 (.v 9) .copy)])
     (.seq
      (.seq
       (.region [] [] [0, 1, 5, 11] false [
         (none, .mv 10 (.v 1)),
         (none, .bin 11 .gtr (.v 10) (.c (.int .i64 200)))])
       (.cond (.v 11)
        (.region [(14, 0, false)] [] [0, 1, 5] false [
          (none, .mv 12 (.v 5)),
          (none, .bin 13 .mul (.v 12) (.c (.int .i64 256))),
          (none, .mv 14 (.v 0)),
          (none, .call (some 15) 5 true [((.v 14), true)]),
          (none, .bin 16 .add (.v 13) (.v 15)),
          (none, .asg 5 (.v 16) .copy)])
        (.skip [0, 1, 5])))
      (.seq
       (.region [] [] [0, 4] false [
         (none, .mv 17 (.v 5)),
         (none, .mv 18 (.v 1)),
         (none, .bin 19 .rem (.v 17) (.v 18)),
         (none, .asg 4 (.v 19) .copy)])
       (.ret [0, 4]))))))⟩
def F603 : PFunc :=
 ⟨[false], [.tmp 2],
  (.seq
   (.region [] [] [0] false [
     (none, .asg 2 (.c .nilp) .copy)])
   (.seq
    (.region [(3, 0, false)] [] [2] false [
      (none, .mv 3 (.v 0)),
      (none, .build 4 [(.sl false 1 []), (.int .i64 0), (.int .u64 0)] [(0, 1, (.v 3), .move)]),
      (none, .box 5 (.v 4) .move),
      (none, .asg 2 (.v 5) .move)])
    (.ret [2])))⟩
def F428 : PFunc :=
 ⟨[false], [.tmp 2],
  (.seq
   (.region [] [] [0] false [
     (none, .asg 2 (.c (.sl true 1 [])) .copy)])
   (.seq
    (.region [(6, 0, false)] [] [3] false [
      (none, .mv 6 (.v 0)),
      (none, .call (some 7) 603 true [((.v 6), false)]),
      (none, .asg 3 (.v 7) .move)])
    (.seq
     (.region [] [] [3, 4] false [
       (none, .mksl 8 1 (.int .i64 0) 0 []),
       (none, .asg 4 (.v 8) .move)])
     (.seq
      (.seq
       (.region [(9, 3, false)] [] [3, 4, 5] false [
         (none, .mv 9 (.v 3)),
         (none, .call (some 10) 7 true [((.v 9), true), ((.c (.int .i64 7)), false)]),
         (none, .asg 5 (.v 10) .copy)])
       (.block 0
        (.loop
         (.seq
          (.seq
           (.region [] [] [3, 4, 5, 12] false [
             (none, .mv 11 (.v 5)),
             (none, .bin 12 .gtr (.v 11) (.c (.int .i64 0)))])
           (.cond (.v 12)
            (.skip [3, 4, 5])
            (.exit 0 [4])))
          (.seq
           (.block 1
            (.region [(16, 3, false), (15, 4, false)] [] [3, 4, 5] false [
              (none, .mv 15 (.v 4)),
              (none, .mv 16 (.v 3)),
              (none, .call (some 17) 7 true [((.v 16), true), ((.c (.int .i64 40)), false)]),
              (none, .bin 18 .add (.c (.int .i64 1)) (.v 17)),
              (none, .bin 19 .mul (.c (.int .i64 10)) (.v 18)),
              (none, .mksl 20 1 (.int .i64 0) 1 [(0, (.v 19), .copy)]),
              (none, .app 21 1 (.v 15) (.v 20) .move),
              (none, .asg 4 (.v 21) .move)]))
           (.region [] [] [3, 4, 5] false [
             (none, .mv 13 (.v 5)),
             (none, .bin 14 .sub (.v 13) (.c (.int .i64 1))),
             (none, .asg 5 (.v 14) .copy)]))))))
      (.seq
       (.region [(22, 4, false)] [] [2] false [
         (none, .mv 22 (.v 4)),
         (none, .asg 2 (.v 22) .move)])
       (.ret [2]))))))⟩
def F361 : PFunc :=
 ⟨[false, false], [.tmp 4],
  (.seq
   (.region [] [] [0, 1] false [
     (none, .asg 4 (.c (.bool false)) .copy)])
   (.seq
    (.seq
     (.region [(22, 1, false), (21, 0, false)] [] [0, 1, 23] false [
       (none, .mv 21 (.v 0)),
       (none, .mv 22 (.v 1)),
       (none, .call (some 23) 386 false [((.v 21), false), ((.v 22), false)])])
     (.cond (.v 23)
      (.seq
       (.region [] [] [4] false [
         (none, .asg 4 (.c (.bool true)) .copy)])
       (.ret [4]))
      (.skip [0, 1])))
    (.seq
     (.region [(24, 0, false)] [] [1, 5] false [
       (none, .mv 24 (.v 0)),
       (none, .call (some 25) 428 false [((.v 24), false)]),
       (none, .asg 5 (.v 25) .move)])
     (.seq
      (.region [(26, 5, false)] [] [1, 5, 6] false [
        (none, .mv 26 (.v 5)),
        (none, .len 27 false (.v 26)),
        (none, .asg 6 (.v 27) .copy)])
      (.seq
       (.region [(28, 1, false)] [] [5, 6, 7] false [
         (none, .mv 28 (.v 1)),
         (none, .call (some 29) 384 false [((.v 28), false), ((.c (.int .i64 0)), false), ((.c (.int .i64 40)), false)]),
         (none, .bin 30 .add (.c (.int .i64 1)) (.v 29)),
         (none, .bin 31 .mul (.c (.int .i64 10)) (.v 30)),
         (none, .asg 7 (.v 31) .copy)])
       (.seq
        (.region [(33, 5, false)] [] [5, 6, 7, 8, 9] false [
          (none, .mv 33 (.v 5)),
          (none, .mv 34 (.v 7)),
          (none, .call (some 35) 152 false [((.v 33), false), ((.v 34), false)]),
          (none, .asg 32 (.v 35) .copy),
          (none, .extp 36 (.v 32) 0),
          (none, .extp 37 (.v 32) 1),
          (none, .asg 8 (.v 36) .copy),
          (none, .asg 9 (.v 37) .copy)])
        (.seq
         (.region [(39, 5, false)] [] [5, 6, 7, 8, 9, 10, 11, 12] false [
           (none, .mv 39 (.v 5)),
           (none, .mv 40 (.v 7)),
           (none, .call (some 41) 153 false [((.v 39), false), ((.v 40), false)]),
           (none, .asg 38 (.v 41) .copy),
           (none, .extp 42 (.v 38) 0),
           (none, .extp 43 (.v 38) 1),
           (none, .extp 44 (.v 38) 2),
           (none, .asg 10 (.v 42) .copy),
           (none, .asg 11 (.v 43) .copy),
           (none, .asg 12 (.v 44) .copy)])
         (.seq
          (.seq
           (.region [] [] [5, 6, 7, 8, 9, 10, 11, 12, 72] false [
             (none, .mv 45 (.v 9)),
             (none, .bin 46 .eql (.v 45) (.c (.int .i64 0))),
             (none, .mv 47 (.v 6)),
             (none, .bin 48 .gtr (.v 47) (.c (.int .i64 0))),
             (none, .eqb 49 true (.v 46) (.v 48)),
             (none, .mv 50 (.v 49)),
             (some (50, false), .mv 51 (.v 12)),
             (some (50, false), .bin 52 .eql (.v 51) (.c (.int .i64 0))),
             (some (50, false), .mv 53 (.v 6)),
             (some (50, false), .bin 54 .gtr (.v 53) (.c (.int .i64 1))),
             (some (50, false), .eqb 55 true (.v 52) (.v 54)),
             (none, .pick 56 (.v 50) (.c (.bool true)) (.v 55)),
             (none, .mv 57 (.v 56)),
             (some (57, false), .mv 58 (.v 9)),
             (some (57, false), .bin 59 .neq (.v 58) (.c (.int .i64 0))),
             (some (57, false), .mv 60 (.v 59)),
             (some (60, true), .mv 61 (.v 9)),
             (some (60, true), .bin 62 .neq (.v 61) (.c (.int .i64 3))),
             (some (57, false), .pick 63 (.v 60) (.v 62) (.c (.bool false))),
             (none, .pick 64 (.v 57) (.c (.bool true)) (.v 63)),
             (none, .mv 65 (.v 64)),
             (some (65, false), .mv 66 (.v 12)),
             (some (65, false), .bin 67 .neq (.v 66) (.c (.int .i64 0))),
             (some (65, false), .mv 68 (.v 67)),
             (some (68, true), .mv 69 (.v 12)),
             (some (68, true), .bin 70 .neq (.v 69) (.c (.int .i64 3))),
             (some (65, false), .pick 71 (.v 68) (.v 70) (.c (.bool false))),
             (none, .pick 72 (.v 65) (.c (.bool true)) (.v 71))])
           (.cond (.v 72)
            (.seq
             (.region [] [] [4] false [
               (none, .asg 4 (.c (.bool false)) .copy)])
             (.ret [4]))
            (.skip [5, 6, 7, 8, 9, 10, 11, 12])))
          (.seq
           (.seq
            (.region [] [] [5, 6, 7, 8, 10, 11, 101] false [
              (none, .mv 73 (.v 9)),
              (none, .bin 74 .eql (.v 73) (.c (.int .i64 0))),
              (none, .mv 75 (.v 74)),
              (some (75, true), .mv 76 (.v 8)),
              (some (75, true), .bin 77 .lss (.v 76) (.c (.int .i64 0))),
              (some (75, true), .mv 78 (.v 77)),
              (some (78, false), .mv 79 (.v 8)),
              (some (78, false), .mv 80 (.v 6)),
              (some (78, false), .bin 81 .geq (.v 79) (.v 80)),
              (some (75, true), .pick 82 (.v 78) (.c (.bool true)) (.v 81)),
              (none, .pick 83 (.v 75) (.v 82) (.c (.bool false))),
              (none, .mv 84 (.v 83)),
              (some (84, false), .mv 85 (.v 12)),
              (some (84, false), .bin 86 .eql (.v 85) (.c (.int .i64 0))),
              (some (84, false), .mv 87 (.v 86)),
              (some (87, true), .mv 88 (.v 10)),
              (some (87, true), .bin 89 .lss (.v 88) (.c (.int .i64 0))),
              (some (87, true), .mv 90 (.v 89)),
              (some (90, false), .mv 91 (.v 11)),
              (some (90, false), .mv 92 (.v 10)),
              (some (90, false), .bin 93 .leq (.v 91) (.v 92)),
              (some (87, true), .pick 94 (.v 90) (.c (.bool true)) (.v 93)),
              (some (87, true), .mv 95 (.v 94)),
              (some (95, false), .mv 96 (.v 11)),
              (some (95, false), .mv 97 (.v 6)),
              (some (95, false), .bin 98 .geq (.v 96) (.v 97)),
              (some (87, true), .pick 99 (.v 95) (.c (.bool true)) (.v 98)),
              (some (84, false), .pick 100 (.v 87) (.v 99) (.c (.bool false))),
              (none, .pick 101 (.v 84) (.c (.bool true)) (.v 100))])
            (.cond (.v 101)
             (.seq
              (.region [] [] [4] false [
                (none, .asg 4 (.c (.bool false)) .copy)])
              (.ret [4]))
             (.skip [5, 6, 7, 8, 10, 11])))
           (.seq
            (.seq
             (.region [] [] [5, 6, 7, 8, 10, 11, 13] false [
               (none, .asg 13 (.c (.int .i64 0)) .copy)])
             (.block 0
              (.loop
               (.seq
                (.seq
                 (.region [] [] [5, 6, 7, 8, 10, 11, 13, 104] false [
                   (none, .mv 102 (.v 13)),
                   (none, .mv 103 (.v 6)),
                   (none, .bin 104 .lss (.v 102) (.v 103))])
                 (.cond (.v 104)
                  (.skip [5, 6, 7, 8, 10, 11, 13])
                  (.exit 0 [])))
                (.seq
                 (.block 1
                  (.seq
                   (.region [(116, 5, false), (114, 5, false), (109, 5, false), (107, 5, false)] [] [5, 6, 7, 8, 10, 11, 13, 14] true [
                     (none, .mv 107 (.v 5)),
                     (none, .mv 108 (.v 13)),
                     (none, .iadr 109 1 (.v 107) (.v 108)),
                     (none, .load 110 false 1 (.v 109) none),
                     (none, .mv 111 (.v 7)),
                     (none, .bin 112 .sub (.v 110) (.v 111)),
                     (none, .mv 113 (.v 7)),
                     (none, .mv 114 (.v 5)),
                     (none, .mv 115 (.v 13)),
                     (none, .iadr 116 1 (.v 114) (.v 115)),
                     (none, .load 117 false 1 (.v 116) none),
                     (none, .bin 118 .sub (.v 113) (.v 117)),
                     (none, .mm 119 true (.v 112) [(.v 118)]),
                     (none, .asg 14 (.v 119) .copy)])
                   (.seq
                    (.region [(129, 5, false), (127, 5, false), (122, 5, false), (120, 5, false)] [] [5, 6, 7, 8, 10, 11, 13, 14, 15] true [
                      (none, .mv 120 (.v 5)),
                      (none, .mv 121 (.v 8)),
                      (none, .iadr 122 1 (.v 120) (.v 121)),
                      (none, .load 123 false 1 (.v 122) none),
                      (none, .mv 124 (.v 7)),
                      (none, .bin 125 .sub (.v 123) (.v 124)),
                      (none, .mv 126 (.v 7)),
                      (none, .mv 127 (.v 5)),
                      (none, .mv 128 (.v 8)),
                      (none, .iadr 129 1 (.v 127) (.v 128)),
                      (none, .load 130 false 1 (.v 129) none),
                      (none, .bin 131 .sub (.v 126) (.v 130)),
                      (none, .mm 132 true (.v 125) [(.v 131)]),
                      (none, .asg 15 (.v 132) .copy)])
                    (.seq
                     (.seq
                      (.region [] [] [5, 6, 7, 8, 10, 11, 13, 145] false [
                        (none, .mv 133 (.v 14)),
                        (none, .mv 134 (.v 15)),
                        (none, .bin 135 .lss (.v 133) (.v 134)),
                        (none, .mv 136 (.v 135)),
                        (some (136, false), .mv 137 (.v 14)),
                        (some (136, false), .mv 138 (.v 15)),
                        (some (136, false), .bin 139 .eql (.v 137) (.v 138)),
                        (some (136, false), .mv 140 (.v 139)),
                        (some (140, true), .mv 141 (.v 13)),
                        (some (140, true), .mv 142 (.v 8)),
                        (some (140, true), .bin 143 .lss (.v 141) (.v 142)),
                        (some (136, false), .pick 144 (.v 140) (.v 143) (.c (.bool false))),
                        (none, .pick 145 (.v 136) (.c (.bool true)) (.v 144))])
                      (.cond (.v 145)
                       (.seq
                        (.region [] [] [4] false [
                          (none, .asg 4 (.c (.bool false)) .copy)])
                        (.ret [4]))
                       (.skip [5, 6, 7, 8, 10, 11, 13])))
                     (.seq
                      (.region [] [] [5, 6, 7, 8, 10, 11, 13, 16] false [
                        (none, .mv 146 (.v 13)),
                        (none, .bin 147 .add (.v 146) (.c (.int .i64 1))),
                        (none, .asg 16 (.v 147) .copy)])
                      (.block 2
                       (.loop
                        (.seq
                         (.seq
                          (.region [] [] [5, 6, 7, 8, 10, 11, 13, 16, 150] false [
                            (none, .mv 148 (.v 16)),
                            (none, .mv 149 (.v 6)),
                            (none, .bin 150 .lss (.v 148) (.v 149))])
                          (.cond (.v 150)
                           (.skip [5, 6, 7, 8, 10, 11, 13, 16])
                           (.exit 2 [5, 6, 7, 8, 10, 11, 13])))
                         (.seq
                          (.block 3
                           (.seq
                            (.region [(160, 5, false), (158, 5, false), (156, 5, false), (154, 5, false)] [] [5, 6, 7, 8, 10, 11, 13, 16, 17, 18] true [
                              (none, .mv 154 (.v 5)),
                              (none, .mv 155 (.v 13)),
                              (none, .iadr 156 1 (.v 154) (.v 155)),
                              (none, .load 157 false 1 (.v 156) none),
                              (none, .mv 158 (.v 5)),
                              (none, .mv 159 (.v 16)),
                              (none, .iadr 160 1 (.v 158) (.v 159)),
                              (none, .load 161 false 1 (.v 160) none),
                              (none, .call (some 162) 119 false [((.v 157), false), ((.v 161), false)]),
                              (none, .asg 153 (.v 162) .copy),
                              (none, .extp 163 (.v 153) 0),
                              (none, .extp 164 (.v 153) 1),
                              (none, .new 17 (.agg [(.int .i64 0), (.int .i64 0)])),
                              (none, .store 2 (.v 17) (.v 163) .copy),
                              (none, .asg 18 (.v 164) .copy)])
                            (.seq
                             (.seq
                              (.region [(210, 5, false), (208, 5, false), (206, 5, false), (204, 5, false), (202, 17, false), (200, 17, false), (194, 17, false), (191, 5, false), (189, 5, false), (187, 5, false), (185, 5, false), (181, 5, false), (179, 5, false), (177, 5, false), (175, 5, false), (173, 17, false), (168, 17, false)] [] [5, 6, 7, 8, 10, 11, 13, 16, 215] true [
                                (none, .mv 165 (.v 18)),
                                (none, .bin 166 .neq (.v 165) (.c (.int .i64 0))),
                                (none, .mv 167 (.v 166)),
                                (some (167, false), .fadr 168 1 1 (.v 17)),
                                (some (167, false), .load 169 false 1 (.v 168) none),
                                (some (167, false), .bin 170 .lss (.v 169) (.c (.int .i64 1))),
                                (none, .pick 171 (.v 167) (.c (.bool true)) (.v 170)),
                                (none, .mv 172 (.v 171)),
                                (some (172, false), .fadr 173 0 1 (.v 17)),
                                (some (172, false), .load 174 false 1 (.v 173) none),
                                (some (172, false), .mv 175 (.v 5)),
                                (some (172, false), .mv 176 (.v 13)),
                                (some (172, false), .iadr 177 1 (.v 175) (.v 176)),
                                (some (172, false), .load 178 false 1 (.v 177) none),
                                (some (172, false), .mv 179 (.v 5)),
                                (some (172, false), .mv 180 (.v 16)),
                                (some (172, false), .iadr 181 1 (.v 179) (.v 180)),
                                (some (172, false), .load 182 false 1 (.v 181) none),
                                (some (172, false), .bin 183 .add (.v 178) (.v 182)),
                                (some (172, false), .bin 184 .mul (.v 174) (.v 183)),
                                (some (172, false), .mv 185 (.v 5)),
                                (some (172, false), .mv 186 (.v 13)),
                                (some (172, false), .iadr 187 1 (.v 185) (.v 186)),
                                (some (172, false), .load 188 false 1 (.v 187) none),
                                (some (172, false), .mv 189 (.v 5)),
                                (some (172, false), .mv 190 (.v 16)),
                                (some (172, false), .iadr 191 1 (.v 189) (.v 190)),
                                (some (172, false), .load 192 false 1 (.v 191) none),
                                (some (172, false), .bin 193 .mul (.v 188) (.v 192)),
                                (some (172, false), .fadr 194 1 1 (.v 17)),
                                (some (172, false), .load 195 false 1 (.v 194) none),
                                (some (172, false), .bin 196 .mul (.v 193) (.v 195)),
                                (some (172, false), .bin 197 .neq (.v 184) (.v 196)),
                                (none, .pick 198 (.v 172) (.c (.bool true)) (.v 197)),
                                (none, .mv 199 (.v 198)),
                                (some (199, false), .fadr 200 0 1 (.v 17)),
                                (some (199, false), .load 201 false 1 (.v 200) none),
                                (some (199, false), .fadr 202 1 1 (.v 17)),
                                (some (199, false), .load 203 false 1 (.v 202) none),
                                (some (199, false), .mv 204 (.v 5)),
                                (some (199, false), .mv 205 (.v 13)),
                                (some (199, false), .iadr 206 1 (.v 204) (.v 205)),
                                (some (199, false), .load 207 false 1 (.v 206) none),
                                (some (199, false), .mv 208 (.v 5)),
                                (some (199, false), .mv 209 (.v 16)),
                                (some (199, false), .iadr 210 1 (.v 208) (.v 209)),
                                (some (199, false), .load 211 false 1 (.v 210) none),
                                (some (199, false), .mm 212 false (.v 207) [(.v 211)]),
                                (some (199, false), .bin 213 .mul (.v 203) (.v 212)),
                                (some (199, false), .bin 214 .geq (.v 201) (.v 213)),
                                (none, .pick 215 (.v 199) (.c (.bool true)) (.v 214))])
                              (.cond (.v 215)
                               (.seq
                                (.region [] [] [4] false [
                                  (none, .asg 4 (.c (.bool false)) .copy)])
                                (.ret [4]))
                               (.skip [5, 6, 7, 8, 10, 11, 13, 16])))
                             (.seq
                              (.region [(232, 5, false), (230, 5, false), (228, 5, false), (226, 5, false), (222, 5, false), (220, 5, false), (218, 5, false), (216, 5, false)] [] [5, 6, 7, 8, 10, 11, 13, 16, 19] true [
                                (none, .mv 216 (.v 5)),
                                (none, .mv 217 (.v 13)),
                                (none, .iadr 218 1 (.v 216) (.v 217)),
                                (none, .load 219 false 1 (.v 218) none),
                                (none, .mv 220 (.v 5)),
                                (none, .mv 221 (.v 16)),
                                (none, .iadr 222 1 (.v 220) (.v 221)),
                                (none, .load 223 false 1 (.v 222) none),
                                (none, .bin 224 .mul (.v 219) (.v 223)),
                                (none, .mv 225 (.v 7)),
                                (none, .mv 226 (.v 5)),
                                (none, .mv 227 (.v 13)),
                                (none, .iadr 228 1 (.v 226) (.v 227)),
                                (none, .load 229 false 1 (.v 228) none),
                                (none, .mv 230 (.v 5)),
                                (none, .mv 231 (.v 16)),
                                (none, .iadr 232 1 (.v 230) (.v 231)),
                                (none, .load 233 false 1 (.v 232) none),
                                (none, .bin 234 .add (.v 229) (.v 233)),
                                (none, .bin 235 .mul (.v 225) (.v 234)),
                                (none, .bin 236 .sub (.v 224) (.v 235)),
                                (none, .asg 19 (.v 236) .copy)])
                              (.seq
                               (.region [(253, 5, false), (251, 5, false), (249, 5, false), (247, 5, false), (243, 5, false), (241, 5, false), (239, 5, false), (237, 5, false)] [] [5, 6, 7, 8, 10, 11, 13, 16, 19, 20] true [
                                 (none, .mv 237 (.v 5)),
                                 (none, .mv 238 (.v 10)),
                                 (none, .iadr 239 1 (.v 237) (.v 238)),
                                 (none, .load 240 false 1 (.v 239) none),
                                 (none, .mv 241 (.v 5)),
                                 (none, .mv 242 (.v 11)),
                                 (none, .iadr 243 1 (.v 241) (.v 242)),
                                 (none, .load 244 false 1 (.v 243) none),
                                 (none, .bin 245 .mul (.v 240) (.v 244)),
                                 (none, .mv 246 (.v 7)),
                                 (none, .mv 247 (.v 5)),
                                 (none, .mv 248 (.v 10)),
                                 (none, .iadr 249 1 (.v 247) (.v 248)),
                                 (none, .load 250 false 1 (.v 249) none),
                                 (none, .mv 251 (.v 5)),
                                 (none, .mv 252 (.v 11)),
                                 (none, .iadr 253 1 (.v 251) (.v 252)),
                                 (none, .load 254 false 1 (.v 253) none),
                                 (none, .bin 255 .add (.v 250) (.v 254)),
                                 (none, .bin 256 .mul (.v 246) (.v 255)),
                                 (none, .bin 257 .sub (.v 245) (.v 256)),
                                 (none, .asg 20 (.v 257) .copy)])
                               (.seq
                                (.region [(282, 5, false), (280, 5, false), (278, 5, false), (276, 5, false), (268, 5, false), (266, 5, false), (264, 5, false), (262, 5, false)] [] [5, 6, 7, 8, 10, 11, 13, 16, 286] true [
                                  (none, .mv 258 (.v 19)),
                                  (none, .mv 259 (.v 19)),
                                  (none, .un 260 .neg (.v 259)),
                                  (none, .mm 261 true (.v 258) [(.v 260)]),
                                  (none, .mv 262 (.v 5)),
                                  (none, .mv 263 (.v 10)),
                                  (none, .iadr 264 1 (.v 262) (.v 263)),
                                  (none, .load 265 false 1 (.v 264) none),
                                  (none, .mv 266 (.v 5)),
                                  (none, .mv 267 (.v 11)),
                                  (none, .iadr 268 1 (.v 266) (.v 267)),
                                  (none, .load 269 false 1 (.v 268) none),
                                  (none, .bin 270 .add (.v 265) (.v 269)),
                                  (none, .bin 271 .mul (.v 261) (.v 270)),
                                  (none, .mv 272 (.v 20)),
                                  (none, .mv 273 (.v 20)),
                                  (none, .un 274 .neg (.v 273)),
                                  (none, .mm 275 true (.v 272) [(.v 274)]),
                                  (none, .mv 276 (.v 5)),
                                  (none, .mv 277 (.v 13)),
                                  (none, .iadr 278 1 (.v 276) (.v 277)),
                                  (none, .load 279 false 1 (.v 278) none),
                                  (none, .mv 280 (.v 5)),
                                  (none, .mv 281 (.v 16)),
                                  (none, .iadr 282 1 (.v 280) (.v 281)),
                                  (none, .load 283 false 1 (.v 282) none),
                                  (none, .bin 284 .add (.v 279) (.v 283)),
                                  (none, .bin 285 .mul (.v 275) (.v 284)),
                                  (none, .bin 286 .lss (.v 271) (.v 285))])
                                (.cond (.v 286)
                                 (.seq
                                  (.region [] [] [4] false [
                                    (none, .asg 4 (.c (.bool false)) .copy)])
                                  (.ret [4]))
                                 (.skip [5, 6, 7, 8, 10, 11, 13, 16]))))))))
                          (.region [] [] [5, 6, 7, 8, 10, 11, 13, 16] false [
                            (none, .mv 151 (.v 16)),
                            (none, .bin 152 .add (.v 151) (.c (.int .i64 1))),
                            (none, .asg 16 (.v 152) .copy)]))))))))))
                 (.region [] [] [5, 6, 7, 8, 10, 11, 13] false [
                   (none, .mv 105 (.v 13)),
                   (none, .bin 106 .add (.v 105) (.c (.int .i64 1))),
                   (none, .asg 13 (.v 106) .copy)]))))))
            (.seq
             (.region [] [] [4] false [
               (none, .asg 4 (.c (.bool true)) .copy)])
             (.ret [4]))))))))))))⟩
def tabl : List (Nat × PFunc) := [(269, F269), (326, F326), (213, F213), (257, F257), (275, F275), (292, F292), (282, F282), (119, F119), (245, F245), (288, F288), (818, F818), (796, F796), (287, F287), (152, F152), (153, F153), (384, F384), (386, F386), (5, F5), (7, F7), (603, F603), (428, F428), (361, F361)]
def T : Nat → Option PFunc := tabOf tabl
end Go.Vs.G
