/- The functions that the law reaches, in the small language, printed by program. No conditions. -/
import Derived.Test.YtglbcomjdcbbaaaDoorDLPieces
import Derived.Test.YtglbcomjdcbbaaaDoorV4
set_option maxRecDepth 100000
open Go Go.Vs
namespace Go.Vs.G
def F326 : PFunc :=
 ⟨[false, false, false], [.tmp 6],
  (.seq
   (.region [] [] [0, 1, 2] false [
     (none, .asg 6 (.c (.bool false)) .copy)])
   (.seq
    (.region [] [] [6] false [
      (none, .mv 7 (.v 0)),
      (none, .mv 8 (.v 1)),
      (none, .bin 9 .geq (.v 7) (.v 8)),
      (none, .mv 10 (.v 9)),
      (some (10, true), .mv 11 (.v 0)),
      (some (10, true), .mv 12 (.v 2)),
      (some (10, true), .bin 13 .leq (.v 11) (.v 12)),
      (none, .pick 14 (.v 10) (.v 13) (.c (.bool false))),
      (none, .asg 6 (.v 14) .copy)])
    (.ret [6])))⟩
def F323 : PFunc :=
 ⟨[false], [.tmp 2],
  (.seq
   (.region [] [] [1] false [
     (none, .box 1 (.v 0) .copy),
     (none, .asg 2 (.c (.bool false)) .copy)])
   (.seq
    (.region [(12, 1, false), (7, 1, false), (3, 1, false)] [] [2] false [
      (none, .fadr 3 0 1 (.v 1)),
      (none, .load 4 false 1 (.v 3) none),
      (none, .call (some 5) 326 false [((.v 4), false), ((.c (.int .i64 1)), false), ((.c (.int .i64 200)), false)]),
      (none, .mv 6 (.v 5)),
      (some (6, true), .fadr 7 1 1 (.v 1)),
      (some (6, true), .load 8 false 1 (.v 7) none),
      (some (6, true), .call (some 9) 326 false [((.v 8), false), ((.c (.int .i64 1)), false), ((.c (.int .i64 12)), false)]),
      (none, .pick 10 (.v 6) (.v 9) (.c (.bool false))),
      (none, .mv 11 (.v 10)),
      (some (11, true), .fadr 12 2 1 (.v 1)),
      (some (11, true), .load 13 false 1 (.v 12) none),
      (some (11, true), .call (some 14) 326 false [((.v 13), false), ((.c (.int .i64 20)), false), ((.c (.int .i64 300)), false)]),
      (none, .pick 15 (.v 11) (.v 14) (.c (.bool false))),
      (none, .asg 2 (.v 15) .copy)])
    (.ret [2])))⟩
def F224 : PFunc :=
 ⟨[false], [.tmp 2],
  (.seq
   (.region [] [] [1] false [
     (none, .box 1 (.v 0) .copy),
     (none, .asg 2 (.c (.bool false)) .copy)])
   (.seq
    (.region [] [] [2] false [
      (none, .load 3 true 3 (.v 1) none),
      (none, .call (some 4) 323 false [((.v 3), false)]),
      (none, .un 5 .not (.v 4)),
      (none, .asg 2 (.v 5) .copy)])
    (.ret [2])))⟩
def F825 : PFunc :=
 ⟨[false, false], [.tmp 4],
  (.seq
   (.region [] [] [0, 1] false [
     (none, .asg 4 (.c (.int .i64 0)) .copy)])
   (.seq
    (.seq
     (.region [(6, 0, false)] [] [0, 1, 7, 8] false [
       (none, .mv 6 (.v 0)),
       (none, .len 7 false (.v 6)),
       (none, .mv 8 (.c (.int .i64 0)))])
     (.block 0
      (.loop
       (.seq
        (.region [] [] [0, 1, 7, 8, 9] false [
          (none, .bin 9 .lss (.v 8) (.v 7))])
        (.seq
         (.cond (.v 9)
          (.skip [0, 1, 7, 8])
          (.exit 0 []))
         (.seq
          (.block 1
           (.seq
            (.region [] [] [0, 1, 5, 7, 8] false [
              (none, .mv 10 (.v 8)),
              (none, .asg 5 (.v 10) .copy)])
            (.seq
             (.region [(14, 0, false), (12, 0, false), (11, 1, false)] [] [0, 1, 5, 7, 8, 16] false [
               (none, .mv 11 (.v 1)),
               (none, .mv 12 (.v 0)),
               (none, .mv 13 (.v 5)),
               (none, .iadr 14 3 (.v 12) (.v 13)),
               (none, .load 15 true 3 (.v 14) none),
               (none, .callv (some 16) (.v 11) [(.v 15)])])
             (.cond (.v 16)
              (.seq
               (.region [] [] [4] false [
                 (none, .mv 17 (.v 5)),
                 (none, .asg 4 (.v 17) .copy)])
               (.ret [4]))
              (.skip [0, 1, 7, 8])))))
          (.region [] [] [0, 1, 7, 8] false [
            (none, .bin 18 .add (.v 8) (.c (.int .i64 1))),
            (none, .mv 8 (.v 18))])))))))
    (.seq
     (.region [] [] [4] false [
       (none, .asg 4 (.c (.int .i64 (-1))) .copy)])
     (.ret [4]))))⟩
def F803 : PFunc :=
 ⟨[false, false], [.tmp 4],
  (.seq
   (.region [] [] [0, 1] false [
     (none, .asg 4 (.c (.bool false)) .copy)])
   (.seq
    (.region [(6, 1, false), (5, 0, false)] [] [4] false [
      (none, .mv 5 (.v 0)),
      (none, .mv 6 (.v 1)),
      (none, .call (some 7) 825 false [((.v 5), false), ((.v 6), false)]),
      (none, .bin 8 .geq (.v 7) (.c (.int .i64 0))),
      (none, .asg 4 (.v 8) .copy)])
    (.ret [4])))⟩
def F223 : PFunc :=
 ⟨[false], [.tmp 2],
  (.seq
   (.region [] [] [0] false [
     (none, .asg 2 (.c (.bool false)) .copy)])
   (.seq
    (.region [(12, 0, false), (7, 0, false), (3, 0, false)] [] [2] false [
      (none, .mv 3 (.v 0)),
      (none, .len 4 false (.v 3)),
      (none, .bin 5 .geq (.v 4) (.c (.int .i64 1))),
      (none, .mv 6 (.v 5)),
      (some (6, true), .mv 7 (.v 0)),
      (some (6, true), .len 8 false (.v 7)),
      (some (6, true), .bin 9 .leq (.v 8) (.c (.int .i64 12))),
      (none, .pick 10 (.v 6) (.v 9) (.c (.bool false))),
      (none, .mv 11 (.v 10)),
      (some (11, true), .mv 12 (.v 0)),
      (some (11, true), .call (some 13) 803 false [((.v 12), false), ((.c (.fn 224 [])), false)]),
      (some (11, true), .un 14 .not (.v 13)),
      (none, .pick 15 (.v 11) (.v 14) (.c (.bool false))),
      (none, .asg 2 (.v 15) .copy)])
    (.ret [2])))⟩
def F246 : PFunc :=
 ⟨[false], [.tmp 2],
  (.seq
   (.region [] [] [0] false [
     (none, .asg 2 (.c (.int .i64 0)) .copy)])
   (.seq
    (.region [] [] [0, 3] false [
      (none, .asg 3 (.c (.int .i64 0)) .copy)])
    (.seq
     (.seq
      (.region [(6, 0, false)] [] [0, 3, 6, 7, 8] false [
        (none, .mv 6 (.v 0)),
        (none, .len 7 false (.v 6)),
        (none, .mv 8 (.c (.int .i64 0)))])
      (.block 0
       (.loop
        (.seq
         (.region [(6, 0, false)] [] [0, 3, 6, 7, 8, 9] false [
           (none, .bin 9 .lss (.v 8) (.v 7))])
         (.seq
          (.cond (.v 9)
           (.skip [0, 3, 6, 7, 8])
           (.exit 0 [3]))
          (.seq
           (.block 1
            (.seq
             (.region [(10, 0, false), (6, 0, false)] [] [0, 3, 5, 6, 7, 8] false [
               (none, .iadr 10 3 (.v 6) (.v 8)),
               (none, .load 11 true 3 (.v 10) none),
               (none, .new 5 (.agg [(.int .i64 0), (.int .i64 0), (.int .i64 0)])),
               (none, .store 3 (.v 5) (.v 11) .copy)])
             (.region [(15, 5, false), (13, 5, false), (6, 0, false)] [] [0, 3, 6, 7, 8] false [
               (none, .mv 12 (.v 3)),
               (none, .fadr 13 0 1 (.v 5)),
               (none, .load 14 false 1 (.v 13) none),
               (none, .fadr 15 1 1 (.v 5)),
               (none, .load 16 false 1 (.v 15) none),
               (none, .bin 17 .mul (.v 14) (.v 16)),
               (none, .bin 18 .add (.v 12) (.v 17)),
               (none, .asg 3 (.v 18) .copy)])))
           (.region [(6, 0, false)] [] [0, 3, 6, 7, 8] false [
             (none, .bin 19 .add (.v 8) (.c (.int .i64 1))),
             (none, .mv 8 (.v 19))])))))))
     (.seq
      (.region [] [] [2] false [
        (none, .mv 20 (.v 3)),
        (none, .asg 2 (.v 20) .copy)])
      (.ret [2])))))⟩
def F48 : PFunc :=
 ⟨[false], [.tmp 2, .tmp 3],
  (.seq
   (.region [] [] [0] false [
     (none, .asg 2 (.c (.int .i64 0)) .copy),
     (none, .asg 3 (.c (.int .i64 0)) .copy)])
   (.seq
    (.seq
     (.region [(4, 0, false)] [] [0, 6] false [
       (none, .mv 4 (.v 0)),
       (none, .call (some 5) 223 false [((.v 4), false)]),
       (none, .un 6 .not (.v 5))])
     (.cond (.v 6)
      (.seq
       (.region [] [] [2, 3] false [
         (none, .asg 2 (.c (.int .i64 0)) .copy),
         (none, .asg 3 (.c (.int .i64 1)) .copy)])
       (.ret [2, 3]))
      (.skip [0])))
    (.seq
     (.region [(7, 0, false)] [] [2, 3] false [
       (none, .mv 7 (.v 0)),
       (none, .call (some 8) 246 false [((.v 7), false)]),
       (none, .asg 2 (.v 8) .copy),
       (none, .asg 3 (.c (.int .i64 0)) .copy)])
     (.ret [2, 3]))))⟩
def F200 : PFunc :=
 ⟨[false, false], [.tmp 2],
  (.seq
   (.region [] [] [0, 1] false [
     (none, .asg 2 (.c (.bool false)) .copy)])
   (.seq
    (.region [(4, 1, true)] [] [2] true [
      (none, .load 3 false 1 (.v 0) none),
      (none, .load 4 false 1 (.v 1) none),
      (none, .call (some 5) 246 false [((.v 4), false)]),
      (none, .bin 6 .sub (.v 5) (.c (.int .i64 1))),
      (none, .call (some 7) 326 false [((.v 3), false), ((.c (.int .i64 0)), false), ((.v 6), false)]),
      (none, .asg 2 (.v 7) .copy)])
    (.ret [2])))⟩
def F269 : PFunc :=
 ⟨[false, false], [.tmp 4],
  (.seq
   (.region [] [] [0, 1] false [
     (none, .asg 4 (.c (.int .i64 0)) .copy)])
   (.seq
    (.block 0
     (.loop
      (.seq
       (.seq
        (.region [] [] [0, 1, 6] false [
          (none, .mv 5 (.v 1)),
          (none, .bin 6 .neq (.v 5) (.c (.int .i64 0)))])
        (.cond (.v 6)
         (.skip [0, 1])
         (.exit 0 [0])))
       (.block 1
        (.region [] [] [0, 1] true [
          (none, .mv 7 (.v 1)),
          (none, .mv 8 (.v 0)),
          (none, .mv 9 (.v 1)),
          (none, .bin 10 .rem (.v 8) (.v 9)),
          (none, .asg 0 (.v 7) .copy),
          (none, .asg 1 (.v 10) .copy)])))))
    (.seq
     (.region [] [] [4] false [
       (none, .mv 11 (.v 0)),
       (none, .mv 12 (.v 0)),
       (none, .un 13 .neg (.v 12)),
       (none, .mm 14 true (.v 11) [(.v 13)]),
       (none, .asg 4 (.v 14) .copy)])
     (.ret [4]))))⟩
def F292 : PFunc :=
 ⟨[false, false], [.cell 4 true 2],
  (.seq
   (.region [] [] [0, 1, 4] false [
     (none, .new 4 (.agg [(.int .i64 0), (.int .i64 0)]))])
   (.seq
    (.seq
     (.region [] [] [0, 1, 4, 7] false [
       (none, .mv 6 (.v 1)),
       (none, .bin 7 .lss (.v 6) (.c (.int .i64 0)))])
     (.cond (.v 7)
      (.region [] [] [0, 1, 4] false [
        (none, .mv 8 (.v 0)),
        (none, .un 9 .neg (.v 8)),
        (none, .mv 10 (.v 1)),
        (none, .un 11 .neg (.v 10)),
        (none, .asg 0 (.v 9) .copy),
        (none, .asg 1 (.v 11) .copy)])
      (.skip [0, 1, 4])))
    (.seq
     (.region [] [] [0, 1, 4, 5] false [
       (none, .mv 12 (.v 0)),
       (none, .mv 13 (.v 1)),
       (none, .call (some 14) 269 false [((.v 12), false), ((.v 13), false)]),
       (none, .asg 5 (.v 14) .copy)])
     (.seq
      (.region [] [] [4] true [
        (none, .mv 15 (.v 0)),
        (none, .mv 16 (.v 5)),
        (none, .bin 17 .quo (.v 15) (.v 16)),
        (none, .mv 18 (.v 1)),
        (none, .mv 19 (.v 5)),
        (none, .bin 20 .quo (.v 18) (.v 19)),
        (none, .build 21 [(.int .i64 0), (.int .i64 0)] [(0, 1, (.v 17), .copy), (1, 1, (.v 20), .copy)]),
        (none, .store 2 (.v 4) (.v 21) .copy)])
      (.ret [4])))))⟩
def F248 : PFunc :=
 ⟨[false, false], [.tmp 4],
  (.seq
   (.region [] [] [0, 1] false [
     (none, .asg 4 (.c (.sl true 1 [])) .copy)])
   (.seq
    (.region [] [] [0, 1, 5, 6] false [
      (none, .mksl 9 1 (.int .i64 0) 0 []),
      (none, .asg 5 (.v 9) .move),
      (none, .asg 6 (.c (.int .i64 0)) .copy)])
    (.seq
     (.seq
      (.region [(10, 0, false)] [] [0, 1, 5, 6, 10, 11, 12] false [
        (none, .mv 10 (.v 0)),
        (none, .len 11 false (.v 10)),
        (none, .mv 12 (.c (.int .i64 0)))])
      (.block 0
       (.loop
        (.seq
         (.region [(10, 0, false)] [] [0, 1, 5, 6, 10, 11, 12, 13] false [
           (none, .bin 13 .lss (.v 12) (.v 11))])
         (.seq
          (.cond (.v 13)
           (.skip [0, 1, 5, 6, 10, 11, 12])
           (.exit 0 [5, 6]))
          (.seq
           (.block 1
            (.seq
             (.region [(14, 0, false), (10, 0, false)] [] [0, 1, 5, 6, 8, 10, 11, 12] false [
               (none, .iadr 14 3 (.v 10) (.v 12)),
               (none, .load 15 true 3 (.v 14) none),
               (none, .new 8 (.agg [(.int .i64 0), (.int .i64 0), (.int .i64 0)])),
               (none, .store 3 (.v 8) (.v 15) .copy)])
             (.seq
              (.region [(18, 8, false), (16, 8, false), (10, 0, false)] [] [0, 1, 5, 6, 8, 10, 11, 12, 20, 21] false [
                (none, .fadr 16 0 1 (.v 8)),
                (none, .load 17 false 1 (.v 16) none),
                (none, .fadr 18 1 1 (.v 8)),
                (none, .load 19 false 1 (.v 18) none),
                (none, .bin 20 .mul (.v 17) (.v 19)),
                (none, .mv 21 (.c (.int .i64 0)))])
              (.block 2
               (.loop
                (.seq
                 (.region [(10, 0, false)] [] [0, 1, 5, 6, 8, 10, 11, 12, 20, 21, 22] false [
                   (none, .bin 22 .lss (.v 21) (.v 20))])
                 (.seq
                  (.cond (.v 22)
                   (.skip [0, 1, 5, 6, 8, 10, 11, 12, 20, 21])
                   (.exit 2 [0, 1, 5, 6, 10, 11, 12]))
                  (.seq
                   (.block 3
                    (.seq
                     (.region [(23, 5, false), (10, 0, false)] [] [0, 1, 5, 6, 8, 10, 11, 12, 20, 21] false [
                       (none, .mv 23 (.v 5)),
                       (none, .mv 24 (.v 6)),
                       (none, .mksl 25 1 (.int .i64 0) 1 [(0, (.v 24), .copy)]),
                       (none, .app 26 1 (.v 23) (.v 25) .move),
                       (none, .asg 5 (.v 26) .move)])
                     (.region [(30, 8, false), (10, 0, false)] [] [0, 1, 5, 6, 8, 10, 11, 12, 20, 21] false [
                       (none, .mv 27 (.v 6)),
                       (none, .mv 28 (.v 1)),
                       (none, .bin 29 .mul (.c (.int .i64 60)) (.v 28)),
                       (none, .fadr 30 2 1 (.v 8)),
                       (none, .load 31 false 1 (.v 30) none),
                       (none, .bin 32 .quo (.v 29) (.v 31)),
                       (none, .bin 33 .add (.v 27) (.v 32)),
                       (none, .asg 6 (.v 33) .copy)])))
                   (.region [(10, 0, false)] [] [0, 1, 5, 6, 8, 10, 11, 12, 20, 21] false [
                     (none, .bin 34 .add (.v 21) (.c (.int .i64 1))),
                     (none, .mv 21 (.v 34))])))))))))
           (.region [(10, 0, false)] [] [0, 1, 5, 6, 10, 11, 12] false [
             (none, .bin 35 .add (.v 12) (.c (.int .i64 1))),
             (none, .mv 12 (.v 35))])))))))
     (.seq
      (.region [(36, 5, false)] [] [4] false [
        (none, .mv 36 (.v 5)),
        (none, .mv 37 (.v 6)),
        (none, .mksl 38 1 (.int .i64 0) 1 [(0, (.v 37), .copy)]),
        (none, .app 39 1 (.v 36) (.v 38) .move),
        (none, .asg 4 (.v 39) .move)])
      (.ret [4])))))⟩
def F259 : PFunc :=
 ⟨[false, false], [.tmp 4],
  (.seq
   (.region [] [] [0, 1] false [
     (none, .asg 4 (.c (.int .i64 0)) .copy)])
   (.seq
    (.region [] [] [4] false [
      (none, .mv 5 (.v 0)),
      (none, .mv 6 (.v 0)),
      (none, .mv 7 (.v 1)),
      (none, .call (some 8) 269 false [((.v 6), false), ((.v 7), false)]),
      (none, .bin 9 .quo (.v 5) (.v 8)),
      (none, .mv 10 (.v 1)),
      (none, .bin 11 .mul (.v 9) (.v 10)),
      (none, .asg 4 (.v 11) .copy)])
    (.ret [4])))⟩
def F321 : PFunc :=
 ⟨[false], [.tmp 2],
  (.seq
   (.region [] [] [0] false [
     (none, .asg 2 (.c (.int .i64 0)) .copy)])
   (.seq
    (.region [] [] [0, 3] false [
      (none, .asg 3 (.c (.int .i64 1)) .copy)])
    (.seq
     (.seq
      (.region [(6, 0, false)] [] [0, 3, 6, 7, 8] false [
        (none, .mv 6 (.v 0)),
        (none, .len 7 false (.v 6)),
        (none, .mv 8 (.c (.int .i64 0)))])
      (.block 0
       (.loop
        (.seq
         (.region [(6, 0, false)] [] [0, 3, 6, 7, 8, 9] false [
           (none, .bin 9 .lss (.v 8) (.v 7))])
         (.seq
          (.cond (.v 9)
           (.skip [0, 3, 6, 7, 8])
           (.exit 0 [3]))
          (.seq
           (.block 1
            (.seq
             (.region [(10, 0, false), (6, 0, false)] [] [0, 3, 5, 6, 7, 8] false [
               (none, .iadr 10 3 (.v 6) (.v 8)),
               (none, .load 11 true 3 (.v 10) none),
               (none, .new 5 (.agg [(.int .i64 0), (.int .i64 0), (.int .i64 0)])),
               (none, .store 3 (.v 5) (.v 11) .copy)])
             (.seq
              (.region [(13, 5, false), (6, 0, false)] [] [0, 3, 6, 7, 8] false [
                (none, .mv 12 (.v 3)),
                (none, .fadr 13 2 1 (.v 5)),
                (none, .load 14 false 1 (.v 13) none),
                (none, .call (some 15) 259 false [((.v 12), false), ((.v 14), false)]),
                (none, .asg 3 (.v 15) .copy)])
              (.seq
               (.region [(6, 0, false)] [] [0, 3, 6, 7, 8, 17] false [
                 (none, .mv 16 (.v 3)),
                 (none, .bin 17 .gtr (.v 16) (.c (.int .i64 100000000)))])
               (.cond (.v 17)
                (.seq
                 (.region [] [] [2] false [
                   (none, .asg 2 (.c (.int .i64 0)) .copy)])
                 (.ret [2]))
                (.skip [0, 3, 6, 7, 8]))))))
           (.region [(6, 0, false)] [] [0, 3, 6, 7, 8] false [
             (none, .bin 18 .add (.v 8) (.c (.int .i64 1))),
             (none, .mv 8 (.v 18))])))))))
     (.seq
      (.region [] [] [2] false [
        (none, .mv 19 (.v 3)),
        (none, .asg 2 (.v 19) .copy)])
      (.ret [2])))))⟩
def F317 : PFunc :=
 ⟨[false, false], [.tmp 4, .tmp 5, .tmp 6],
  (.seq
   (.region [] [] [0, 1] false [
     (none, .asg 4 (.c (.int .i64 0)) .copy),
     (none, .asg 5 (.c (.sl true 1 [])) .copy),
     (none, .asg 6 (.c (.int .i64 0)) .copy)])
   (.seq
    (.seq
     (.region [(8, 0, false)] [] [0, 1, 10] false [
       (none, .mv 8 (.v 0)),
       (none, .call (some 9) 223 false [((.v 8), false)]),
       (none, .un 10 .not (.v 9))])
     (.cond (.v 10)
      (.seq
       (.region [] [] [4, 5, 6] false [
         (none, .asg 4 (.c (.int .i64 0)) .copy),
         (none, .asg 5 (.c (.sl true 1 [])) .copy),
         (none, .asg 6 (.c (.int .i64 1)) .copy)])
       (.ret [4, 5, 6]))
      (.skip [0, 1])))
    (.seq
     (.seq
      (.region [(11, 1, false)] [] [0, 13] false [
        (none, .mv 11 (.v 1)),
        (none, .callv (some 12) (.v 11) []),
        (none, .un 13 .not (.v 12))])
      (.cond (.v 13)
       (.seq
        (.region [] [] [4, 5, 6] false [
          (none, .asg 4 (.c (.int .i64 0)) .copy),
          (none, .asg 5 (.c (.sl true 1 [])) .copy),
          (none, .asg 6 (.c (.int .i64 2)) .copy)])
        (.ret [4, 5, 6]))
       (.skip [0])))
     (.seq
      (.region [(14, 0, false)] [] [0, 7] false [
        (none, .mv 14 (.v 0)),
        (none, .call (some 15) 321 false [((.v 14), false)]),
        (none, .asg 7 (.v 15) .copy)])
      (.seq
       (.seq
        (.region [] [] [0, 7, 17] false [
          (none, .mv 16 (.v 7)),
          (none, .bin 17 .eql (.v 16) (.c (.int .i64 0)))])
        (.cond (.v 17)
         (.seq
          (.region [] [] [4, 5, 6] false [
            (none, .asg 4 (.c (.int .i64 0)) .copy),
            (none, .asg 5 (.c (.sl true 1 [])) .copy),
            (none, .asg 6 (.c (.int .i64 5)) .copy)])
          (.ret [4, 5, 6]))
         (.skip [0, 7])))
       (.seq
        (.region [(19, 0, false)] [] [4, 5, 6] false [
          (none, .mv 18 (.v 7)),
          (none, .mv 19 (.v 0)),
          (none, .mv 20 (.v 7)),
          (none, .call (some 21) 248 false [((.v 19), false), ((.v 20), false)]),
          (none, .asg 4 (.v 18) .copy),
          (none, .asg 5 (.v 21) .move),
          (none, .asg 6 (.c (.int .i64 0)) .copy)])
        (.ret [4, 5, 6])))))))⟩
def F199 : PFunc :=
 ⟨[false, false], [.cell 4 true 2, .tmp 5],
  (.seq
   (.region [] [] [2, 3, 4] false [
     (none, .box 2 (.v 0) .move),
     (none, .box 3 (.v 1) .copy),
     (none, .new 4 (.agg [(.int .i64 0), (.int .i64 0)])),
     (none, .asg 5 (.c (.int .i64 0)) .copy)])
   (.seq
    (.region [(10, 2, true)] [3, 2] [3, 4, 6, 7, 8] false [
      (none, .load 10 false 1 (.v 2) none),
      (none, .mkfn 11 200 [3, 2]),
      (none, .call (some 12) 317 false [((.v 10), false), ((.v 11), false)]),
      (none, .asg 9 (.v 12) .move),
      (none, .extp 13 (.v 9) 0),
      (none, .ext 14 (.v 9) 1),
      (none, .extp 15 (.v 9) 2),
      (none, .asg 6 (.v 13) .copy),
      (none, .asg 7 (.v 14) .move),
      (none, .asg 8 (.v 15) .copy)])
    (.seq
     (.seq
      (.region [] [3, 2] [3, 4, 6, 7, 8, 17] false [
        (none, .mv 16 (.v 8)),
        (none, .bin 17 .neq (.v 16) (.c (.int .i64 0)))])
      (.cond (.v 17)
       (.seq
        (.region [] [3, 2] [4, 5] false [
          (none, .build 18 [(.int .i64 0), (.int .i64 0)] []),
          (none, .mv 19 (.v 8)),
          (none, .store 2 (.v 4) (.v 18) .copy),
          (none, .asg 5 (.v 19) .copy)])
        (.ret [4, 5]))
       (.skip [3, 4, 6, 7])))
     (.seq
      (.region [(22, 7, false), (20, 7, false)] [3, 2] [4, 5] false [
        (none, .mv 20 (.v 7)),
        (none, .load 21 false 1 (.v 3) none),
        (none, .iadr 22 1 (.v 20) (.v 21)),
        (none, .load 23 false 1 (.v 22) none),
        (none, .mv 24 (.v 6)),
        (none, .call (some 25) 292 false [((.v 23), false), ((.v 24), false)]),
        (none, .store 2 (.v 4) (.v 25) .copy),
        (none, .asg 5 (.c (.int .i64 0)) .copy)])
      (.ret [4, 5])))))⟩
def F398 : PFunc :=
 ⟨[false], [.tmp 2],
  (.seq
   (.region [] [] [0] false [
     (none, .asg 2 (.c (.bool false)) .copy)])
   (.seq
    (.region [(3, 0, false)] [] [2] false [
      (none, .mv 3 (.v 0)),
      (none, .len 4 false (.v 3)),
      (none, .bin 5 .gtr (.v 4) (.c (.int .i64 4096))),
      (none, .asg 2 (.v 5) .copy)])
    (.ret [2])))⟩
def F5 : PFunc :=
 ⟨[true], [.tmp 2],
  (.seq
   (.region [] [] [0] false [
     (none, .asg 2 (.c (.int .i64 0)) .copy)])
   (.seq
    (.region [] [] [0, 3] false [
      (none, .asg 3 (.c (.int .i64 0)) .copy)])
    (.seq
     (.seq
      (.region [(11, 0, true), (10, 0, false), (9, 0, false), (8, 0, false), (6, 0, false), (5, 0, false), (4, 0, false)] [] [0, 3, 13] true [
        (none, .mvr 4 0),
        (none, .nchk 5 (.v 4)),
        (none, .fadr 6 1 1 (.v 5)),
        (none, .load 7 false 1 (.v 6) none),
        (none, .mvr 8 0),
        (none, .nchk 9 (.v 8)),
        (none, .fadr 10 0 1 (.v 9)),
        (none, .load 11 false 1 (.v 10) none),
        (none, .len 12 false (.v 11)),
        (none, .bin 13 .lss (.v 7) (.v 12))])
      (.cond (.v 13)
       (.region [(22, 0, true), (20, 0, false), (19, 0, false), (18, 0, false), (17, 0, true), (16, 0, false), (15, 0, false), (14, 0, false)] [] [0, 3] true [
         (none, .mvr 14 0),
         (none, .nchk 15 (.v 14)),
         (none, .fadr 16 0 1 (.v 15)),
         (none, .load 17 false 1 (.v 16) none),
         (none, .mvr 18 0),
         (none, .nchk 19 (.v 18)),
         (none, .fadr 20 1 1 (.v 19)),
         (none, .load 21 false 1 (.v 20) none),
         (none, .iadr 22 1 (.v 17) (.v 21)),
         (none, .load 23 false 1 (.v 22) none),
         (none, .conv 24 .i64 (.v 23)),
         (none, .asg 3 (.v 24) .copy)])
       (.skip [0, 3])))
     (.seq
      (.region [(31, 0, false), (30, 0, false), (27, 0, false), (26, 0, false), (25, 0, false)] [] [0, 3] false [
        (none, .mv 25 (.v 0)),
        (none, .nchk 26 (.v 25)),
        (none, .fadr 27 1 1 (.v 26)),
        (none, .load 28 false 1 (.v 27) none),
        (none, .bin 29 .add (.v 28) (.c (.int .i64 1))),
        (none, .nchk 30 (.v 25)),
        (none, .fadr 31 1 1 (.v 30)),
        (none, .store 1 (.v 31) (.v 29) .copy)])
      (.seq
       (.region [(43, 0, false), (42, 0, false), (35, 0, false), (34, 0, false), (33, 0, false), (32, 0, false)] [] [0, 3] false [
         (none, .mv 32 (.v 0)),
         (none, .mv 33 (.v 0)),
         (none, .nchk 34 (.v 33)),
         (none, .fadr 35 2 1 (.v 34)),
         (none, .load 36 false 1 (.v 35) none),
         (none, .bin 37 .mul (.v 36) (.c (.int .u64 6364136223846793005))),
         (none, .mv 38 (.v 3)),
         (none, .conv 39 .u64 (.v 38)),
         (none, .bin 40 .add (.v 37) (.v 39)),
         (none, .bin 41 .add (.v 40) (.c (.int .u64 1442695040888963407))),
         (none, .nchk 42 (.v 32)),
         (none, .fadr 43 2 1 (.v 42)),
         (none, .store 1 (.v 43) (.v 41) .copy)])
       (.seq
        (.seq
         (.region [(51, 0, true), (50, 0, false), (49, 0, false), (48, 0, false), (46, 0, false), (45, 0, false), (44, 0, false)] [] [0, 3, 53] true [
           (none, .mvr 44 0),
           (none, .nchk 45 (.v 44)),
           (none, .fadr 46 1 1 (.v 45)),
           (none, .load 47 false 1 (.v 46) none),
           (none, .mvr 48 0),
           (none, .nchk 49 (.v 48)),
           (none, .fadr 50 0 1 (.v 49)),
           (none, .load 51 false 1 (.v 50) none),
           (none, .len 52 false (.v 51)),
           (none, .bin 53 .leq (.v 47) (.v 52))])
         (.cond (.v 53)
          (.seq
           (.region [] [] [0, 2] false [
             (none, .mv 54 (.v 3)),
             (none, .asg 2 (.v 54) .copy)])
           (.ret [0, 2]))
          (.skip [0])))
        (.seq
         (.region [(57, 0, false), (56, 0, false), (55, 0, false)] [] [0, 2] false [
           (none, .mv 55 (.v 0)),
           (none, .nchk 56 (.v 55)),
           (none, .fadr 57 2 1 (.v 56)),
           (none, .load 58 false 1 (.v 57) none),
           (none, .bin 59 .shr (.v 58) (.c (.int .u64 40))),
           (none, .bin 60 .and (.v 59) (.c (.int .u64 255))),
           (none, .conv 61 .i64 (.v 60)),
           (none, .asg 2 (.v 61) .copy)])
         (.ret [0, 2]))))))))⟩
def F7 : PFunc :=
 ⟨[true, false], [.tmp 4],
  (.seq
   (.region [] [] [0, 1] false [
     (none, .asg 4 (.c (.int .i64 0)) .copy)])
   (.seq
    (.seq
     (.region [] [] [0, 1, 7] false [
       (none, .mv 6 (.v 1)),
       (none, .bin 7 .leq (.v 6) (.c (.int .i64 1)))])
     (.cond (.v 7)
      (.seq
       (.region [] [] [0, 4] false [
         (none, .asg 4 (.c (.int .i64 0)) .copy)])
       (.ret [0, 4]))
      (.skip [0, 1])))
    (.seq
     (.region [(8, 0, false)] [] [0, 1, 5] false [
       (none, .mv 8 (.v 0)),
       (none, .call (some 9) 5 true [((.v 8), true)]),
       (none, .asg 5 (.v 9) .copy)])
     (.seq
      (.seq
       (.region [] [] [0, 1, 5, 11] false [
         (none, .mv 10 (.v 1)),
         (none, .bin 11 .gtr (.v 10) (.c (.int .i64 200)))])
       (.cond (.v 11)
        (.region [(14, 0, false)] [] [0, 1, 5] false [
          (none, .mv 12 (.v 5)),
          (none, .bin 13 .mul (.v 12) (.c (.int .i64 256))),
          (none, .mv 14 (.v 0)),
          (none, .call (some 15) 5 true [((.v 14), true)]),
          (none, .bin 16 .add (.v 13) (.v 15)),
          (none, .asg 5 (.v 16) .copy)])
        (.skip [0, 1, 5])))
      (.seq
       (.region [] [] [0, 4] false [
         (none, .mv 17 (.v 5)),
         (none, .mv 18 (.v 1)),
         (none, .bin 19 .rem (.v 17) (.v 18)),
         (none, .asg 4 (.v 19) .copy)])
       (.ret [0, 4]))))))⟩
def F4 : PFunc :=
 ⟨[true, false], [.tmp 4],
  (.seq
   (.region [] [] [0, 1] false [
     (none, .asg 4 (.c (.int .i64 0)) .copy)])
   (.seq
    (.region [(10, 1, false), (7, 1, false), (6, 0, false), (5, 1, false)] [] [0, 4] false [
      (none, .mv 5 (.v 1)),
      (none, .mv 6 (.v 0)),
      (none, .mv 7 (.v 1)),
      (none, .len 8 false (.v 7)),
      (none, .call (some 9) 7 true [((.v 6), true), ((.v 8), false)]),
      (none, .iadr 10 1 (.v 5) (.v 9)),
      (none, .load 11 false 1 (.v 10) none),
      (none, .asg 4 (.v 11) .copy)])
    (.ret [0, 4])))⟩
def F6 : PFunc :=
 ⟨[true, false], [.tmp 4],
  (.seq
   (.region [] [] [0, 1] false [
     (none, .asg 4 (.c (.bool false)) .copy)])
   (.seq
    (.region [(5, 0, false)] [] [0, 4] false [
      (none, .mv 5 (.v 0)),
      (none, .mv 6 (.v 1)),
      (none, .call (some 7) 7 true [((.v 5), true), ((.v 6), false)]),
      (none, .bin 8 .eql (.v 7) (.c (.int .i64 0))),
      (none, .asg 4 (.v 8) .copy)])
    (.ret [0, 4])))⟩
def F603 : PFunc :=
 ⟨[false], [.tmp 2],
  (.seq
   (.region [] [] [0] false [
     (none, .asg 2 (.c .nilp) .copy)])
   (.seq
    (.region [(3, 0, false)] [] [2] false [
      (none, .mv 3 (.v 0)),
      (none, .build 4 [(.sl false 1 []), (.int .i64 0), (.int .u64 0)] [(0, 1, (.v 3), .move)]),
      (none, .box 5 (.v 4) .move),
      (none, .asg 2 (.v 5) .move)])
    (.ret [2])))⟩
def F743 : PFunc :=
 ⟨[false], [.tmp 2],
  (.seq
   (.region [] [] [0] false [
     (none, .asg 2 (.c (.int .i64 0)) .copy)])
   (.seq
    (.region [] [] [0, 3] false [
      (none, .asg 3 (.c (.int .i64 0)) .copy)])
    (.seq
     (.seq
      (.region [] [] [0, 3, 4] false [
        (none, .asg 4 (.c (.int .i64 0)) .copy)])
      (.block 0
       (.loop
        (.seq
         (.seq
          (.region [(6, 0, false)] [] [0, 3, 4, 8] false [
            (none, .mv 5 (.v 4)),
            (none, .mv 6 (.v 0)),
            (none, .len 7 false (.v 6)),
            (none, .bin 8 .lss (.v 5) (.v 7))])
          (.cond (.v 8)
           (.skip [0, 3, 4])
           (.exit 0 [3])))
         (.seq
          (.block 1
           (.region [(20, 0, false), (19, 0, false), (17, 0, false), (15, 0, false), (14, 0, false), (12, 0, false)] [] [0, 3, 4] true [
             (none, .mv 11 (.v 3)),
             (none, .mv 12 (.v 0)),
             (none, .mv 13 (.v 4)),
             (none, .iadr 14 3 (.v 12) (.v 13)),
             (none, .fadr 15 0 1 (.v 14)),
             (none, .load 16 false 1 (.v 15) none),
             (none, .mv 17 (.v 0)),
             (none, .mv 18 (.v 4)),
             (none, .iadr 19 3 (.v 17) (.v 18)),
             (none, .fadr 20 1 1 (.v 19)),
             (none, .load 21 false 1 (.v 20) none),
             (none, .bin 22 .mul (.v 16) (.v 21)),
             (none, .bin 23 .add (.v 11) (.v 22)),
             (none, .asg 3 (.v 23) .copy)]))
          (.region [] [] [0, 3, 4] false [
            (none, .mv 9 (.v 4)),
            (none, .bin 10 .add (.v 9) (.c (.int .i64 1))),
            (none, .asg 4 (.v 10) .copy)]))))))
     (.seq
      (.region [] [] [2] false [
        (none, .mv 24 (.v 3)),
        (none, .asg 2 (.v 24) .copy)])
      (.ret [2])))))⟩
def F745 : PFunc :=
 ⟨[true], [.cell 2 true 3],
  (.seq
   (.region [] [] [0, 2] false [
     (none, .new 2 (.agg [(.int .i64 0), (.int .i64 0), (.int .i64 0)]))])
   (.seq
    (.region [(7, 0, false), (4, 0, false)] [] [0, 2, 3] false [
      (none, .mv 4 (.v 0)),
      (none, .call (some 5) 7 true [((.v 4), true), ((.c (.int .i64 12)), false)]),
      (none, .bin 6 .add (.c (.int .i64 1)) (.v 5)),
      (none, .mv 7 (.v 0)),
      (none, .mksl 8 1 (.int .i64 0) 4 [(0, (.c (.int .i64 2)), .copy), (1, (.c (.int .i64 3)), .copy), (2, (.c (.int .i64 4)), .copy), (3, (.c (.int .i64 6)), .copy)]),
      (none, .call (some 9) 4 true [((.v 7), true), ((.v 8), false)]),
      (none, .build 10 [(.int .i64 0), (.int .i64 0), (.int .i64 0)] [(0, 1, (.v 6), .copy), (1, 1, (.v 9), .copy)]),
      (none, .new 3 (.agg [(.int .i64 0), (.int .i64 0), (.int .i64 0)])),
      (none, .store 3 (.v 3) (.v 10) .copy)])
    (.seq
     (.region [(14, 3, false), (11, 0, false)] [] [0, 2, 3] false [
       (none, .mv 11 (.v 0)),
       (none, .mksl 12 1 (.int .i64 0) 8 [(0, (.c (.int .i64 60)), .copy), (1, (.c (.int .i64 72)), .copy), (2, (.c (.int .i64 80)), .copy), (3, (.c (.int .i64 90)), .copy), (4, (.c (.int .i64 100)), .copy), (5, (.c (.int .i64 120)), .copy), (6, (.c (.int .i64 132)), .copy), (7, (.c (.int .i64 144)), .copy)]),
       (none, .call (some 13) 4 true [((.v 11), true), ((.v 12), false)]),
       (none, .fadr 14 2 1 (.v 3)),
       (none, .store 1 (.v 14) (.v 13) .copy)])
     (.seq
      (.region [] [] [0, 2] false [
        (none, .load 15 true 3 (.v 3) none),
        (none, .store 3 (.v 2) (.v 15) .copy)])
      (.ret [0, 2])))))⟩
def F750 : PFunc :=
 ⟨[true, true], [],
  (.seq
   (.region [(4, 0, false)] [] [0, 1, 5] false [
     (none, .mv 4 (.v 0)),
     (none, .call (some 5) 7 true [((.v 4), true), ((.c (.int .i64 3)), false)])])
   (.block 0
    (.seq
     (.region [] [] [0, 1, 5, 6] false [
       (none, .bin 7 .eql (.v 5) (.c (.int .i64 0))),
       (none, .asg 6 (.v 7) .copy)])
     (.cond (.v 6)
      (.region [(13, 1, false), (12, 1, false), (9, 0, false), (8, 1, false)] [] [0, 1] false [
        (none, .mv 8 (.v 1)),
        (none, .mv 9 (.v 0)),
        (none, .mksl 10 1 (.int .i64 0) 6 [(0, (.c (.int .i64 (-1))), .copy), (1, (.c (.int .i64 0)), .copy), (2, (.c (.int .i64 1)), .copy), (3, (.c (.int .i64 200)), .copy), (4, (.c (.int .i64 201)), .copy), (5, (.c (.int .i64 (-9223372036854775808))), .copy)]),
        (none, .call (some 11) 4 true [((.v 9), true), ((.v 10), false)]),
        (none, .nchk 12 (.v 8)),
        (none, .fadr 13 0 1 (.v 12)),
        (none, .store 1 (.v 13) (.v 11) .copy)])
      (.seq
       (.region [] [] [0, 1, 5, 14] false [
         (none, .bin 15 .eql (.v 5) (.c (.int .i64 1))),
         (none, .asg 14 (.v 15) .copy)])
       (.cond (.v 14)
        (.region [(21, 1, false), (20, 1, false), (17, 0, false), (16, 1, false)] [] [0, 1] false [
          (none, .mv 16 (.v 1)),
          (none, .mv 17 (.v 0)),
          (none, .mksl 18 1 (.int .i64 0) 5 [(0, (.c (.int .i64 (-1))), .copy), (1, (.c (.int .i64 0)), .copy), (2, (.c (.int .i64 1)), .copy), (3, (.c (.int .i64 12)), .copy), (4, (.c (.int .i64 13)), .copy)]),
          (none, .call (some 19) 4 true [((.v 17), true), ((.v 18), false)]),
          (none, .nchk 20 (.v 16)),
          (none, .fadr 21 1 1 (.v 20)),
          (none, .store 1 (.v 21) (.v 19) .copy)])
        (.seq
         (.region [] [] [0, 1, 22] false [
           (none, .bin 23 .eql (.v 5) (.c (.int .i64 2))),
           (none, .asg 22 (.v 23) .copy)])
         (.cond (.v 22)
          (.region [(29, 1, false), (28, 1, false), (25, 0, false), (24, 1, false)] [] [0, 1] false [
            (none, .mv 24 (.v 1)),
            (none, .mv 25 (.v 0)),
            (none, .mksl 26 1 (.int .i64 0) 5 [(0, (.c (.int .i64 (-1))), .copy), (1, (.c (.int .i64 19)), .copy), (2, (.c (.int .i64 20)), .copy), (3, (.c (.int .i64 300)), .copy), (4, (.c (.int .i64 301)), .copy)]),
            (none, .call (some 27) 4 true [((.v 25), true), ((.v 26), false)]),
            (none, .nchk 28 (.v 24)),
            (none, .fadr 29 2 1 (.v 28)),
            (none, .store 1 (.v 29) (.v 27) .copy)])
          (.skip [0, 1])))))))))⟩
def F744 : PFunc :=
 ⟨[true], [.tmp 2],
  (.seq
   (.region [] [] [0] false [
     (none, .asg 2 (.c (.sl true 3 [])) .copy)])
   (.seq
    (.region [] [] [0, 3] false [
      (none, .mksl 6 3 (.agg [(.int .i64 0), (.int .i64 0), (.int .i64 0)]) 0 []),
      (none, .asg 3 (.v 6) .move)])
    (.seq
     (.region [(7, 0, false)] [] [0, 3, 4] false [
       (none, .mv 7 (.v 0)),
       (none, .call (some 8) 7 true [((.v 7), true), ((.c (.int .i64 4)), false)]),
       (none, .bin 9 .add (.c (.int .i64 1)) (.v 8)),
       (none, .asg 4 (.v 9) .copy)])
     (.seq
      (.seq
       (.region [(10, 0, false)] [] [0, 3, 4, 11] false [
         (none, .mv 10 (.v 0)),
         (none, .call (some 11) 6 true [((.v 10), true), ((.c (.int .i64 20)), false)])])
       (.cond (.v 11)
        (.region [(12, 0, false)] [] [0, 3, 4] false [
          (none, .mv 12 (.v 0)),
          (none, .mksl 13 1 (.int .i64 0) 3 [(0, (.c (.int .i64 0)), .copy), (1, (.c (.int .i64 12)), .copy), (2, (.c (.int .i64 13)), .copy)]),
          (none, .call (some 14) 4 true [((.v 12), true), ((.v 13), false)]),
          (none, .asg 4 (.v 14) .copy)])
        (.skip [0, 3, 4])))
      (.seq
       (.seq
        (.region [] [] [0, 3, 5] false [
          (none, .mv 15 (.v 4)),
          (none, .asg 5 (.v 15) .copy)])
        (.block 0
         (.loop
          (.seq
           (.seq
            (.region [] [] [0, 3, 5, 17] false [
              (none, .mv 16 (.v 5)),
              (none, .bin 17 .gtr (.v 16) (.c (.int .i64 0)))])
            (.cond (.v 17)
             (.skip [0, 3, 5])
             (.exit 0 [0, 3])))
           (.seq
            (.block 1
             (.region [(21, 0, false), (20, 3, false)] [] [0, 3, 5] false [
               (none, .mv 20 (.v 3)),
               (none, .mv 21 (.v 0)),
               (none, .call (some 22) 745 true [((.v 21), true)]),
               (none, .mksl 23 3 (.agg [(.int .i64 0), (.int .i64 0), (.int .i64 0)]) 1 [(0, (.v 22), .copy)]),
               (none, .app 24 3 (.v 20) (.v 23) .move),
               (none, .asg 3 (.v 24) .move)]))
            (.region [] [] [0, 3, 5] false [
              (none, .mv 18 (.v 5)),
              (none, .bin 19 .sub (.v 18) (.c (.int .i64 1))),
              (none, .asg 5 (.v 19) .copy)]))))))
       (.seq
        (.seq
         (.region [(25, 0, false)] [] [0, 3, 26] false [
           (none, .mv 25 (.v 0)),
           (none, .call (some 26) 6 true [((.v 25), true), ((.c (.int .i64 24)), false)])])
         (.cond (.v 26)
          (.region [] [] [0, 3] false [
            (none, .build 27 [(.int .i64 0), (.int .i64 0), (.int .i64 0)] [(0, 1, (.c (.int .i64 1)), .copy), (1, 1, (.c (.int .i64 1)), .copy), (2, 1, (.c (.int .i64 293)), .copy)]),
            (none, .build 28 [(.int .i64 0), (.int .i64 0), (.int .i64 0)] [(0, 1, (.c (.int .i64 1)), .copy), (1, 1, (.c (.int .i64 1)), .copy), (2, 1, (.c (.int .i64 283)), .copy)]),
            (none, .build 29 [(.int .i64 0), (.int .i64 0), (.int .i64 0)] [(0, 1, (.c (.int .i64 1)), .copy), (1, 1, (.c (.int .i64 1)), .copy), (2, 1, (.c (.int .i64 281)), .copy)]),
            (none, .build 30 [(.int .i64 0), (.int .i64 0), (.int .i64 0)] [(0, 1, (.c (.int .i64 1)), .copy), (1, 1, (.c (.int .i64 1)), .copy), (2, 1, (.c (.int .i64 277)), .copy)]),
            (none, .mksl 31 3 (.agg [(.int .i64 0), (.int .i64 0), (.int .i64 0)]) 4 [(0, (.v 27), .copy), (1, (.v 28), .copy), (2, (.v 29), .copy), (3, (.v 30), .copy)]),
            (none, .asg 3 (.v 31) .move)])
          (.skip [0, 3])))
        (.seq
         (.seq
          (.region [(36, 0, false), (32, 3, false)] [] [0, 3, 38] false [
            (none, .mv 32 (.v 3)),
            (none, .len 33 false (.v 32)),
            (none, .bin 34 .gtr (.v 33) (.c (.int .i64 0))),
            (none, .mv 35 (.v 34)),
            (some (35, true), .mv 36 (.v 0)),
            (some (35, true), .call (some 37) 6 true [((.v 36), true), ((.c (.int .i64 12)), false)]),
            (none, .pick 38 (.v 35) (.v 37) (.c (.bool false)))])
          (.cond (.v 38)
           (.region [(41, 3, false), (40, 3, false), (39, 0, false)] [] [0, 3] false [
             (none, .mv 39 (.v 0)),
             (none, .mv 40 (.v 3)),
             (none, .iadr 41 3 (.v 40) (.c (.int .i64 0))),
             (none, .calle (some 42) 750 39 41)])
           (.skip [0, 3])))
         (.seq
          (.region [(43, 3, false)] [] [0, 2] false [
            (none, .mv 43 (.v 3)),
            (none, .asg 2 (.v 43) .move)])
          (.ret [0, 2])))))))))⟩
def F605 : PFunc :=
 ⟨[false, false, false], [.tmp 6],
  (.seq
   (.region [] [] [0, 1, 2] false [
     (none, .asg 6 (.c (.bool false)) .copy)])
   (.seq
    (.region [] [] [6] false [
      (none, .mv 7 (.v 0)),
      (none, .mv 8 (.v 1)),
      (none, .bin 9 .geq (.v 7) (.v 8)),
      (none, .mv 10 (.v 9)),
      (some (10, true), .mv 11 (.v 0)),
      (some (10, true), .mv 12 (.v 2)),
      (some (10, true), .bin 13 .leq (.v 11) (.v 12)),
      (none, .pick 14 (.v 10) (.v 13) (.c (.bool false))),
      (none, .asg 6 (.v 14) .copy)])
    (.ret [6])))⟩
def F747 : PFunc :=
 ⟨[false], [.tmp 2],
  (.seq
   (.region [] [] [0] false [
     (none, .asg 2 (.c (.bool false)) .copy)])
   (.seq
    (.region [(18, 0, false), (17, 0, false), (16, 0, false), (11, 0, false), (10, 0, false), (9, 0, false), (5, 0, false), (4, 0, false), (3, 0, false)] [] [2] false [
      (none, .mv 3 (.v 0)),
      (none, .nchk 4 (.v 3)),
      (none, .fadr 5 0 1 (.v 4)),
      (none, .load 6 false 1 (.v 5) none),
      (none, .call (some 7) 605 false [((.v 6), false), ((.c (.int .i64 1)), false), ((.c (.int .i64 200)), false)]),
      (none, .mv 8 (.v 7)),
      (some (8, true), .mv 9 (.v 0)),
      (some (8, true), .nchk 10 (.v 9)),
      (some (8, true), .fadr 11 1 1 (.v 10)),
      (some (8, true), .load 12 false 1 (.v 11) none),
      (some (8, true), .call (some 13) 605 false [((.v 12), false), ((.c (.int .i64 1)), false), ((.c (.int .i64 12)), false)]),
      (none, .pick 14 (.v 8) (.v 13) (.c (.bool false))),
      (none, .mv 15 (.v 14)),
      (some (15, true), .mv 16 (.v 0)),
      (some (15, true), .nchk 17 (.v 16)),
      (some (15, true), .fadr 18 2 1 (.v 17)),
      (some (15, true), .load 19 false 1 (.v 18) none),
      (some (15, true), .call (some 20) 605 false [((.v 19), false), ((.c (.int .i64 20)), false), ((.c (.int .i64 300)), false)]),
      (none, .pick 21 (.v 15) (.v 20) (.c (.bool false))),
      (none, .asg 2 (.v 21) .copy)])
    (.ret [2])))⟩
def F746 : PFunc :=
 ⟨[false], [.tmp 2],
  (.seq
   (.region [] [] [0] false [
     (none, .asg 2 (.c (.bool false)) .copy)])
   (.seq
    (.seq
     (.region [] [] [0, 3] false [
       (none, .asg 3 (.c (.int .i64 0)) .copy)])
     (.block 0
      (.loop
       (.seq
        (.seq
         (.region [(5, 0, false)] [] [0, 3, 7] false [
           (none, .mv 4 (.v 3)),
           (none, .mv 5 (.v 0)),
           (none, .len 6 false (.v 5)),
           (none, .bin 7 .lss (.v 4) (.v 6))])
         (.cond (.v 7)
          (.skip [0, 3])
          (.exit 0 [0])))
        (.seq
         (.block 1
          (.seq
           (.region [(12, 0, false), (10, 0, false)] [] [0, 3, 14] false [
             (none, .mv 10 (.v 0)),
             (none, .mv 11 (.v 3)),
             (none, .iadr 12 3 (.v 10) (.v 11)),
             (none, .call (some 13) 747 false [((.v 12), false)]),
             (none, .un 14 .not (.v 13))])
           (.cond (.v 14)
            (.seq
             (.region [] [] [2] false [
               (none, .asg 2 (.c (.bool false)) .copy)])
             (.ret [2]))
            (.skip [0, 3]))))
         (.region [] [] [0, 3] false [
           (none, .mv 8 (.v 3)),
           (none, .bin 9 .add (.v 8) (.c (.int .i64 1))),
           (none, .asg 3 (.v 9) .copy)]))))))
    (.seq
     (.region [(15, 0, false)] [] [2] false [
       (none, .mv 15 (.v 0)),
       (none, .len 16 false (.v 15)),
       (none, .call (some 17) 605 false [((.v 16), false), ((.c (.int .i64 1)), false), ((.c (.int .i64 12)), false)]),
       (none, .asg 2 (.v 17) .copy)])
     (.ret [2]))))⟩
def F946 : PFunc :=
 ⟨[false], [.tmp 2, .tmp 3],
  (.seq
   (.region [] [] [0] false [
     (none, .asg 2 (.c (.sl true 3 [])) .copy),
     (none, .asg 3 (.c (.int .i64 0)) .copy)])
   (.seq
    (.region [(6, 0, false)] [] [4] false [
      (none, .mv 6 (.v 0)),
      (none, .call (some 7) 603 true [((.v 6), false)]),
      (none, .asg 4 (.v 7) .move)])
    (.seq
     (.region [(8, 4, false)] [] [4, 5] false [
       (none, .mv 8 (.v 4)),
       (none, .call (some 9) 744 true [((.v 8), true)]),
       (none, .asg 5 (.v 9) .move)])
     (.seq
      (.seq
       (.region [(13, 5, false), (10, 4, false)] [] [4, 5, 15] false [
         (none, .mv 10 (.v 4)),
         (none, .call (some 11) 6 true [((.v 10), true), ((.c (.int .i64 8)), false)]),
         (none, .mv 12 (.v 11)),
         (some (12, true), .mv 13 (.v 5)),
         (some (12, true), .call (some 14) 746 false [((.v 13), false)]),
         (none, .pick 15 (.v 12) (.v 14) (.c (.bool false)))])
       (.cond (.v 15)
        (.seq
         (.region [(21, 5, false), (18, 5, false), (17, 4, false), (16, 5, false)] [] [2, 3] false [
           (none, .mv 16 (.v 5)),
           (none, .mv 17 (.v 4)),
           (none, .mv 18 (.v 5)),
           (none, .call (some 19) 743 false [((.v 18), false)]),
           (none, .bin 20 .sub (.v 19) (.c (.int .i64 1))),
           (none, .mv 21 (.v 5)),
           (none, .call (some 22) 743 false [((.v 21), false)]),
           (none, .mksl 23 1 (.int .i64 0) 4 [(0, (.c (.int .i64 (-1))), .copy), (1, (.c (.int .i64 0)), .copy), (2, (.v 20), .copy), (3, (.v 22), .copy)]),
           (none, .call (some 24) 4 true [((.v 17), true), ((.v 23), false)]),
           (none, .asg 2 (.v 16) .move),
           (none, .asg 3 (.v 24) .copy)])
         (.ret [2, 3]))
        (.skip [4, 5])))
      (.seq
       (.region [(26, 4, false), (25, 5, false)] [] [2, 3] false [
         (none, .mv 25 (.v 5)),
         (none, .mv 26 (.v 4)),
         (none, .call (some 27) 7 true [((.v 26), true), ((.c (.int .i64 60)), false)]),
         (none, .asg 2 (.v 25) .move),
         (none, .asg 3 (.v 27) .copy)])
       (.ret [2, 3]))))))⟩
def F925 : PFunc :=
 ⟨[false], [.tmp 2, .tmp 3],
  (.seq
   (.region [] [] [0] false [
     (none, .asg 2 (.c (.sl true 3 [])) .copy),
     (none, .asg 3 (.c (.int .i64 0)) .copy)])
   (.seq
    (.region [(4, 0, false)] [] [2, 3] false [
      (none, .mv 4 (.v 0)),
      (none, .call (some 5) 946 false [((.v 4), false)]),
      (none, .ext 6 (.v 5) 0),
      (none, .extp 7 (.v 5) 1),
      (none, .asg 2 (.v 6) .move),
      (none, .asg 3 (.v 7) .copy)])
    (.ret [2, 3])))⟩
def F926 : PFunc :=
 ⟨[false, false], [.tmp 4, .tmp 5, .tmp 6, .tmp 7],
  (.seq
   (.region [] [] [0, 1] false [
     (none, .asg 4 (.c (.int .i64 0)) .copy),
     (none, .asg 5 (.c (.int .i64 0)) .copy),
     (none, .asg 6 (.c (.int .i64 0)) .copy),
     (none, .asg 7 (.c (.int .i64 0)) .copy)])
   (.seq
    (.block 0
     (.seq
      (.region [(10, 0, false)] [] [0, 1, 9] false [
        (none, .mv 10 (.v 0)),
        (none, .call (some 11) 223 false [((.v 10), false)]),
        (none, .un 12 .not (.v 11)),
        (none, .asg 9 (.v 12) .copy)])
      (.cond (.v 9)
       (.seq
        (.region [] [] [4, 5, 6, 7] false [
          (none, .asg 4 (.c (.int .i64 0)) .copy),
          (none, .asg 5 (.c (.int .i64 0)) .copy),
          (none, .asg 6 (.c (.int .i64 0)) .copy),
          (none, .asg 7 (.c (.int .i64 1)) .copy)])
        (.ret [4, 5, 6, 7]))
       (.seq
        (.region [(15, 0, false)] [] [0, 1, 13] false [
          (none, .mv 14 (.v 1)),
          (none, .mv 15 (.v 0)),
          (none, .call (some 16) 246 false [((.v 15), false)]),
          (none, .bin 17 .sub (.v 16) (.c (.int .i64 1))),
          (none, .call (some 18) 326 false [((.v 14), false), ((.c (.int .i64 0)), false), ((.v 17), false)]),
          (none, .un 19 .not (.v 18)),
          (none, .asg 13 (.v 19) .copy)])
        (.cond (.v 13)
         (.seq
          (.region [] [] [4, 5, 6, 7] false [
            (none, .asg 4 (.c (.int .i64 0)) .copy),
            (none, .asg 5 (.c (.int .i64 0)) .copy),
            (none, .asg 6 (.c (.int .i64 0)) .copy),
            (none, .asg 7 (.c (.int .i64 2)) .copy)])
          (.ret [4, 5, 6, 7]))
         (.skip [0, 1]))))))
    (.seq
     (.region [] [] [0, 1, 8] false [
       (none, .asg 8 (.c (.int .i64 0)) .copy)])
     (.seq
      (.block 1
       (.loop
        (.seq
         (.seq
          (.region [(29, 0, false), (28, 0, false), (26, 0, false), (24, 0, false), (23, 0, false), (21, 0, false)] [] [0, 1, 8, 32] true [
            (none, .mv 20 (.v 1)),
            (none, .mv 21 (.v 0)),
            (none, .mv 22 (.v 8)),
            (none, .iadr 23 3 (.v 21) (.v 22)),
            (none, .fadr 24 0 1 (.v 23)),
            (none, .load 25 false 1 (.v 24) none),
            (none, .mv 26 (.v 0)),
            (none, .mv 27 (.v 8)),
            (none, .iadr 28 3 (.v 26) (.v 27)),
            (none, .fadr 29 1 1 (.v 28)),
            (none, .load 30 false 1 (.v 29) none),
            (none, .bin 31 .mul (.v 25) (.v 30)),
            (none, .bin 32 .geq (.v 20) (.v 31))])
          (.cond (.v 32)
           (.skip [0, 1, 8])
           (.exit 1 [0, 1, 8])))
         (.block 2
          (.seq
           (.region [(42, 0, false), (41, 0, false), (39, 0, false), (37, 0, false), (36, 0, false), (34, 0, false)] [] [0, 1, 8] true [
             (none, .mv 33 (.v 1)),
             (none, .mv 34 (.v 0)),
             (none, .mv 35 (.v 8)),
             (none, .iadr 36 3 (.v 34) (.v 35)),
             (none, .fadr 37 0 1 (.v 36)),
             (none, .load 38 false 1 (.v 37) none),
             (none, .mv 39 (.v 0)),
             (none, .mv 40 (.v 8)),
             (none, .iadr 41 3 (.v 39) (.v 40)),
             (none, .fadr 42 1 1 (.v 41)),
             (none, .load 43 false 1 (.v 42) none),
             (none, .bin 44 .mul (.v 38) (.v 43)),
             (none, .bin 45 .sub (.v 33) (.v 44)),
             (none, .asg 1 (.v 45) .copy)])
           (.region [] [] [0, 1, 8] false [
             (none, .mv 46 (.v 8)),
             (none, .bin 47 .add (.v 46) (.c (.int .i64 1))),
             (none, .asg 8 (.v 47) .copy)]))))))
      (.seq
       (.region [(60, 0, false), (59, 0, false), (57, 0, false), (53, 0, false), (52, 0, false), (50, 0, false)] [] [4, 5, 6, 7] true [
         (none, .mv 48 (.v 8)),
         (none, .mv 49 (.v 1)),
         (none, .mv 50 (.v 0)),
         (none, .mv 51 (.v 8)),
         (none, .iadr 52 3 (.v 50) (.v 51)),
         (none, .fadr 53 1 1 (.v 52)),
         (none, .load 54 false 1 (.v 53) none),
         (none, .bin 55 .quo (.v 49) (.v 54)),
         (none, .mv 56 (.v 1)),
         (none, .mv 57 (.v 0)),
         (none, .mv 58 (.v 8)),
         (none, .iadr 59 3 (.v 57) (.v 58)),
         (none, .fadr 60 1 1 (.v 59)),
         (none, .load 61 false 1 (.v 60) none),
         (none, .bin 62 .rem (.v 56) (.v 61)),
         (none, .asg 4 (.v 48) .copy),
         (none, .asg 5 (.v 55) .copy),
         (none, .asg 6 (.v 62) .copy),
         (none, .asg 7 (.c (.int .i64 0)) .copy)])
       (.ret [4, 5, 6, 7]))))))⟩
def F947 : PFunc :=
 ⟨[false, false], [.tmp 4],
  (.seq
   (.region [] [] [0, 1] false [
     (none, .asg 4 (.c (.int .i64 0)) .copy)])
   (.seq
    (.seq
     (.region [(5, 0, false)] [] [0, 1, 7] false [
       (none, .mv 5 (.v 0)),
       (none, .call (some 6) 746 false [((.v 5), false)]),
       (none, .un 7 .not (.v 6))])
     (.cond (.v 7)
      (.seq
       (.region [] [] [4] false [
         (none, .asg 4 (.c (.int .i64 1)) .copy)])
       (.ret [4]))
      (.skip [0, 1])))
    (.seq
     (.seq
      (.region [(9, 0, false)] [] [13] false [
        (none, .mv 8 (.v 1)),
        (none, .mv 9 (.v 0)),
        (none, .call (some 10) 743 false [((.v 9), false)]),
        (none, .bin 11 .sub (.v 10) (.c (.int .i64 1))),
        (none, .call (some 12) 605 false [((.v 8), false), ((.c (.int .i64 0)), false), ((.v 11), false)]),
        (none, .un 13 .not (.v 12))])
      (.cond (.v 13)
       (.seq
        (.region [] [] [4] false [
          (none, .asg 4 (.c (.int .i64 2)) .copy)])
        (.ret [4]))
       (.skip [])))
     (.seq
      (.region [] [] [4] false [
        (none, .asg 4 (.c (.int .i64 0)) .copy)])
      (.ret [4])))))⟩
def F927 : PFunc :=
 ⟨[false, false], [.tmp 4, .tmp 5, .tmp 6, .tmp 7],
  (.seq
   (.region [] [] [0, 1] false [
     (none, .asg 4 (.c (.int .i64 0)) .copy),
     (none, .asg 5 (.c (.int .i64 0)) .copy),
     (none, .asg 6 (.c (.int .i64 0)) .copy),
     (none, .asg 7 (.c (.int .i64 0)) .copy)])
   (.seq
    (.region [(10, 0, false)] [] [0, 1, 8] false [
      (none, .mv 10 (.v 0)),
      (none, .mv 11 (.v 1)),
      (none, .call (some 12) 947 false [((.v 10), false), ((.v 11), false)]),
      (none, .asg 8 (.v 12) .copy)])
    (.seq
     (.seq
      (.region [] [] [0, 1, 8, 14] false [
        (none, .mv 13 (.v 8)),
        (none, .bin 14 .neq (.v 13) (.c (.int .i64 0)))])
      (.cond (.v 14)
       (.seq
        (.region [] [] [4, 5, 6, 7] false [
          (none, .mv 15 (.v 8)),
          (none, .asg 4 (.c (.int .i64 0)) .copy),
          (none, .asg 5 (.c (.int .i64 0)) .copy),
          (none, .asg 6 (.c (.int .i64 0)) .copy),
          (none, .asg 7 (.v 15) .copy)])
        (.ret [4, 5, 6, 7]))
       (.skip [0, 1])))
     (.seq
      (.region [] [] [0, 1, 9] false [
        (none, .asg 9 (.c (.int .i64 0)) .copy)])
      (.seq
       (.block 0
        (.loop
         (.seq
          (.seq
           (.region [(25, 0, false), (24, 0, false), (22, 0, false), (20, 0, false), (19, 0, false), (17, 0, false)] [] [0, 1, 9, 28] true [
             (none, .mv 16 (.v 1)),
             (none, .mv 17 (.v 0)),
             (none, .mv 18 (.v 9)),
             (none, .iadr 19 3 (.v 17) (.v 18)),
             (none, .fadr 20 0 1 (.v 19)),
             (none, .load 21 false 1 (.v 20) none),
             (none, .mv 22 (.v 0)),
             (none, .mv 23 (.v 9)),
             (none, .iadr 24 3 (.v 22) (.v 23)),
             (none, .fadr 25 1 1 (.v 24)),
             (none, .load 26 false 1 (.v 25) none),
             (none, .bin 27 .mul (.v 21) (.v 26)),
             (none, .bin 28 .geq (.v 16) (.v 27))])
           (.cond (.v 28)
            (.skip [0, 1, 9])
            (.exit 0 [0, 1, 9])))
          (.block 1
           (.seq
            (.region [(38, 0, false), (37, 0, false), (35, 0, false), (33, 0, false), (32, 0, false), (30, 0, false)] [] [0, 1, 9] true [
              (none, .mv 29 (.v 1)),
              (none, .mv 30 (.v 0)),
              (none, .mv 31 (.v 9)),
              (none, .iadr 32 3 (.v 30) (.v 31)),
              (none, .fadr 33 0 1 (.v 32)),
              (none, .load 34 false 1 (.v 33) none),
              (none, .mv 35 (.v 0)),
              (none, .mv 36 (.v 9)),
              (none, .iadr 37 3 (.v 35) (.v 36)),
              (none, .fadr 38 1 1 (.v 37)),
              (none, .load 39 false 1 (.v 38) none),
              (none, .bin 40 .mul (.v 34) (.v 39)),
              (none, .bin 41 .sub (.v 29) (.v 40)),
              (none, .asg 1 (.v 41) .copy)])
            (.region [] [] [0, 1, 9] false [
              (none, .mv 42 (.v 9)),
              (none, .bin 43 .add (.v 42) (.c (.int .i64 1))),
              (none, .asg 9 (.v 43) .copy)]))))))
       (.seq
        (.region [(56, 0, false), (55, 0, false), (53, 0, false), (49, 0, false), (48, 0, false), (46, 0, false)] [] [4, 5, 6, 7] true [
          (none, .mv 44 (.v 9)),
          (none, .mv 45 (.v 1)),
          (none, .mv 46 (.v 0)),
          (none, .mv 47 (.v 9)),
          (none, .iadr 48 3 (.v 46) (.v 47)),
          (none, .fadr 49 1 1 (.v 48)),
          (none, .load 50 false 1 (.v 49) none),
          (none, .bin 51 .quo (.v 45) (.v 50)),
          (none, .mv 52 (.v 1)),
          (none, .mv 53 (.v 0)),
          (none, .mv 54 (.v 9)),
          (none, .iadr 55 3 (.v 53) (.v 54)),
          (none, .fadr 56 1 1 (.v 55)),
          (none, .load 57 false 1 (.v 56) none),
          (none, .bin 58 .rem (.v 52) (.v 57)),
          (none, .asg 4 (.v 44) .copy),
          (none, .asg 5 (.v 51) .copy),
          (none, .asg 6 (.v 58) .copy),
          (none, .asg 7 (.c (.int .i64 0)) .copy)])
        (.ret [4, 5, 6, 7])))))))⟩
def F604 : PFunc :=
 ⟨[false, false], [.tmp 4],
  (.seq
   (.region [] [] [0, 1] false [
     (none, .asg 4 (.c (.int .i64 0)) .copy)])
   (.seq
    (.block 0
     (.loop
      (.seq
       (.seq
        (.region [] [] [0, 1, 7] false [
          (none, .mv 6 (.v 1)),
          (none, .bin 7 .neq (.v 6) (.c (.int .i64 0)))])
        (.cond (.v 7)
         (.skip [0, 1])
         (.exit 0 [0])))
       (.block 1
        (.seq
         (.region [] [] [1, 5] false [
           (none, .mv 8 (.v 0)),
           (none, .mv 9 (.v 1)),
           (none, .bin 10 .rem (.v 8) (.v 9)),
           (none, .asg 5 (.v 10) .copy)])
         (.seq
          (.region [] [] [0, 5] false [
            (none, .mv 11 (.v 1)),
            (none, .asg 0 (.v 11) .copy)])
          (.region [] [] [0, 1] false [
            (none, .mv 12 (.v 5)),
            (none, .asg 1 (.v 12) .copy)])))))))
    (.seq
     (.region [] [] [4] false [
       (none, .mv 13 (.v 0)),
       (none, .asg 4 (.v 13) .copy)])
     (.ret [4]))))⟩
def F611 : PFunc :=
 ⟨[false], [.tmp 2],
  (.seq
   (.region [] [] [0] false [
     (none, .asg 2 (.c (.int .i64 0)) .copy)])
   (.seq
    (.seq
     (.region [] [] [0, 4] false [
       (none, .mv 3 (.v 0)),
       (none, .bin 4 .lss (.v 3) (.c (.int .i64 0)))])
     (.cond (.v 4)
      (.seq
       (.region [] [] [2] false [
         (none, .mv 5 (.v 0)),
         (none, .un 6 .neg (.v 5)),
         (none, .asg 2 (.v 6) .copy)])
       (.ret [2]))
      (.skip [0])))
    (.seq
     (.region [] [] [2] false [
       (none, .mv 7 (.v 0)),
       (none, .asg 2 (.v 7) .copy)])
     (.ret [2]))))⟩
def F616 : PFunc :=
 ⟨[false, false], [.cell 4 true 2],
  (.seq
   (.region [] [] [0, 1, 4] false [
     (none, .new 4 (.agg [(.int .i64 0), (.int .i64 0)]))])
   (.seq
    (.region [] [] [0, 1, 4, 5] false [
      (none, .mv 6 (.v 0)),
      (none, .call (some 7) 611 false [((.v 6), false)]),
      (none, .mv 8 (.v 1)),
      (none, .call (some 9) 604 false [((.v 7), false), ((.v 8), false)]),
      (none, .asg 5 (.v 9) .copy)])
    (.seq
     (.region [] [] [4] true [
       (none, .mv 10 (.v 0)),
       (none, .mv 11 (.v 5)),
       (none, .bin 12 .quo (.v 10) (.v 11)),
       (none, .mv 13 (.v 1)),
       (none, .mv 14 (.v 5)),
       (none, .bin 15 .quo (.v 13) (.v 14)),
       (none, .build 16 [(.int .i64 0), (.int .i64 0)] [(0, 1, (.v 12), .copy), (1, 1, (.v 15), .copy)]),
       (none, .store 2 (.v 4) (.v 16) .copy)])
     (.ret [4]))))⟩
def F748 : PFunc :=
 ⟨[false], [.tmp 2],
  (.seq
   (.region [] [] [0] false [
     (none, .asg 2 (.c (.int .i64 0)) .copy)])
   (.seq
    (.region [] [] [0, 3] false [
      (none, .asg 3 (.c (.int .i64 1)) .copy)])
    (.seq
     (.seq
      (.region [] [] [0, 3, 4] false [
        (none, .asg 4 (.c (.int .i64 0)) .copy)])
      (.block 0
       (.loop
        (.seq
         (.seq
          (.region [(6, 0, false)] [] [0, 3, 4, 8] false [
            (none, .mv 5 (.v 4)),
            (none, .mv 6 (.v 0)),
            (none, .len 7 false (.v 6)),
            (none, .bin 8 .lss (.v 5) (.v 7))])
          (.cond (.v 8)
           (.skip [0, 3, 4])
           (.exit 0 [3])))
         (.seq
          (.block 1
           (.seq
            (.region [(23, 0, false), (22, 0, false), (20, 0, false), (16, 0, false), (15, 0, false), (13, 0, false)] [] [0, 3, 4] true [
              (none, .mv 11 (.v 3)),
              (none, .mv 12 (.v 3)),
              (none, .mv 13 (.v 0)),
              (none, .mv 14 (.v 4)),
              (none, .iadr 15 3 (.v 13) (.v 14)),
              (none, .fadr 16 2 1 (.v 15)),
              (none, .load 17 false 1 (.v 16) none),
              (none, .call (some 18) 604 false [((.v 12), false), ((.v 17), false)]),
              (none, .bin 19 .quo (.v 11) (.v 18)),
              (none, .mv 20 (.v 0)),
              (none, .mv 21 (.v 4)),
              (none, .iadr 22 3 (.v 20) (.v 21)),
              (none, .fadr 23 2 1 (.v 22)),
              (none, .load 24 false 1 (.v 23) none),
              (none, .bin 25 .mul (.v 19) (.v 24)),
              (none, .asg 3 (.v 25) .copy)])
            (.seq
             (.region [] [] [0, 3, 4, 27] false [
               (none, .mv 26 (.v 3)),
               (none, .bin 27 .gtr (.v 26) (.c (.int .i64 100000000)))])
             (.cond (.v 27)
              (.seq
               (.region [] [] [2] false [
                 (none, .asg 2 (.c (.int .i64 0)) .copy)])
               (.ret [2]))
              (.skip [0, 3, 4])))))
          (.region [] [] [0, 3, 4] false [
            (none, .mv 9 (.v 4)),
            (none, .bin 10 .add (.v 9) (.c (.int .i64 1))),
            (none, .asg 4 (.v 10) .copy)]))))))
     (.seq
      (.region [] [] [2] false [
        (none, .mv 28 (.v 3)),
        (none, .asg 2 (.v 28) .copy)])
      (.ret [2])))))⟩
def F607 : PFunc :=
 ⟨[false, false], [.tmp 4],
  (.seq
   (.region [] [] [0, 1] false [
     (none, .asg 4 (.c (.int .i64 0)) .copy)])
   (.seq
    (.seq
     (.region [] [] [0, 1, 7] false [
       (none, .mv 5 (.v 0)),
       (none, .mv 6 (.v 1)),
       (none, .bin 7 .lss (.v 5) (.v 6))])
     (.cond (.v 7)
      (.seq
       (.region [] [] [4] false [
         (none, .mv 8 (.v 0)),
         (none, .asg 4 (.v 8) .copy)])
       (.ret [4]))
      (.skip [1])))
    (.seq
     (.region [] [] [4] false [
       (none, .mv 9 (.v 1)),
       (none, .asg 4 (.v 9) .copy)])
     (.ret [4]))))⟩
def F751 : PFunc :=
 ⟨[false, false, false], [.tmp 6],
  (.seq
   (.region [] [] [0, 1, 2] false [
     (none, .asg 6 (.c (.int .i64 0)) .copy)])
   (.seq
    (.region [] [] [0, 1, 2, 7] false [
      (none, .asg 7 (.c (.int .i64 0)) .copy)])
    (.seq
     (.seq
      (.region [] [] [0, 1, 2, 7, 8] false [
        (none, .asg 8 (.c (.int .i64 0)) .copy)])
      (.block 0
       (.loop
        (.seq
         (.seq
          (.region [(11, 0, false)] [] [0, 1, 2, 7, 8, 17] false [
            (none, .mv 10 (.v 8)),
            (none, .mv 11 (.v 0)),
            (none, .len 12 false (.v 11)),
            (none, .bin 13 .lss (.v 10) (.v 12)),
            (none, .mv 14 (.v 13)),
            (some (14, true), .mv 15 (.v 1)),
            (some (14, true), .bin 16 .gtr (.v 15) (.c (.int .i64 0))),
            (none, .pick 17 (.v 14) (.v 16) (.c (.bool false)))])
          (.cond (.v 17)
           (.skip [0, 1, 2, 7, 8])
           (.exit 0 [7])))
         (.seq
          (.block 1
           (.seq
            (.region [(29, 0, false), (28, 0, false), (26, 0, false), (24, 0, false), (23, 0, false), (21, 0, false)] [] [0, 1, 2, 7, 8, 9] true [
              (none, .mv 20 (.v 1)),
              (none, .mv 21 (.v 0)),
              (none, .mv 22 (.v 8)),
              (none, .iadr 23 3 (.v 21) (.v 22)),
              (none, .fadr 24 0 1 (.v 23)),
              (none, .load 25 false 1 (.v 24) none),
              (none, .mv 26 (.v 0)),
              (none, .mv 27 (.v 8)),
              (none, .iadr 28 3 (.v 26) (.v 27)),
              (none, .fadr 29 1 1 (.v 28)),
              (none, .load 30 false 1 (.v 29) none),
              (none, .bin 31 .mul (.v 25) (.v 30)),
              (none, .call (some 32) 607 false [((.v 20), false), ((.v 31), false)]),
              (none, .asg 9 (.v 32) .copy)])
            (.seq
             (.region [(40, 0, false), (39, 0, false), (37, 0, false)] [] [0, 1, 2, 7, 8, 9] false [
               (none, .mv 33 (.v 7)),
               (none, .mv 34 (.v 9)),
               (none, .mv 35 (.v 2)),
               (none, .bin 36 .mul (.c (.int .i64 60)) (.v 35)),
               (none, .mv 37 (.v 0)),
               (none, .mv 38 (.v 8)),
               (none, .iadr 39 3 (.v 37) (.v 38)),
               (none, .fadr 40 2 1 (.v 39)),
               (none, .load 41 false 1 (.v 40) none),
               (none, .bin 42 .quo (.v 36) (.v 41)),
               (none, .bin 43 .mul (.v 34) (.v 42)),
               (none, .bin 44 .add (.v 33) (.v 43)),
               (none, .asg 7 (.v 44) .copy)])
             (.region [] [] [0, 1, 2, 7, 8] false [
               (none, .mv 45 (.v 1)),
               (none, .mv 46 (.v 9)),
               (none, .bin 47 .sub (.v 45) (.v 46)),
               (none, .asg 1 (.v 47) .copy)]))))
          (.region [] [] [0, 1, 2, 7, 8] false [
            (none, .mv 18 (.v 8)),
            (none, .bin 19 .add (.v 18) (.c (.int .i64 1))),
            (none, .asg 8 (.v 19) .copy)]))))))
     (.seq
      (.region [] [] [6] false [
        (none, .mv 48 (.v 7)),
        (none, .asg 6 (.v 48) .copy)])
      (.ret [6])))))⟩
def F928 : PFunc :=
 ⟨[false, false], [.cell 4 true 2, .tmp 5],
  (.seq
   (.region [] [] [0, 1, 4] false [
     (none, .new 4 (.agg [(.int .i64 0), (.int .i64 0)])),
     (none, .asg 5 (.c (.int .i64 0)) .copy)])
   (.seq
    (.region [(8, 0, false)] [] [0, 1, 4, 6] false [
      (none, .mv 8 (.v 0)),
      (none, .mv 9 (.v 1)),
      (none, .call (some 10) 947 false [((.v 8), false), ((.v 9), false)]),
      (none, .asg 6 (.v 10) .copy)])
    (.seq
     (.region [] [] [0, 1, 4, 6, 7] false [
       (none, .asg 7 (.c (.int .i64 0)) .copy)])
     (.seq
      (.seq
       (.region [] [] [0, 1, 4, 6, 7, 12] false [
         (none, .mv 11 (.v 6)),
         (none, .bin 12 .eql (.v 11) (.c (.int .i64 0)))])
       (.cond (.v 12)
        (.seq
         (.region [(13, 0, false)] [] [0, 1, 4, 6, 7] false [
           (none, .mv 13 (.v 0)),
           (none, .call (some 14) 748 false [((.v 13), false)]),
           (none, .asg 7 (.v 14) .copy)])
         (.seq
          (.region [] [] [0, 1, 4, 6, 7, 16] false [
            (none, .mv 15 (.v 7)),
            (none, .bin 16 .eql (.v 15) (.c (.int .i64 0)))])
          (.cond (.v 16)
           (.region [] [] [0, 1, 4, 6, 7] false [
             (none, .asg 6 (.c (.int .i64 5)) .copy)])
           (.skip [0, 1, 4, 6, 7]))))
        (.skip [0, 1, 4, 6, 7])))
      (.seq
       (.seq
        (.region [] [] [0, 1, 4, 6, 7, 18] false [
          (none, .mv 17 (.v 6)),
          (none, .bin 18 .neq (.v 17) (.c (.int .i64 0)))])
        (.cond (.v 18)
         (.seq
          (.region [] [] [4, 5] false [
            (none, .build 19 [(.int .i64 0), (.int .i64 0)] []),
            (none, .mv 20 (.v 6)),
            (none, .store 2 (.v 4) (.v 19) .copy),
            (none, .asg 5 (.v 20) .copy)])
          (.ret [4, 5]))
         (.skip [0, 1, 4, 7])))
       (.seq
        (.region [(21, 0, false)] [] [4, 5] false [
          (none, .mv 21 (.v 0)),
          (none, .mv 22 (.v 1)),
          (none, .mv 23 (.v 7)),
          (none, .call (some 24) 751 false [((.v 21), false), ((.v 22), false), ((.v 23), false)]),
          (none, .mv 25 (.v 7)),
          (none, .call (some 26) 616 false [((.v 24), false), ((.v 25), false)]),
          (none, .store 2 (.v 4) (.v 26) .copy),
          (none, .asg 5 (.c (.int .i64 0)) .copy)])
        (.ret [4, 5])))))))⟩
def F929 : PFunc :=
 ⟨[false], [.tmp 2, .tmp 3],
  (.seq
   (.region [] [] [0] false [
     (none, .asg 2 (.c (.int .i64 0)) .copy),
     (none, .asg 3 (.c (.int .i64 0)) .copy)])
   (.seq
    (.seq
     (.region [(4, 0, false)] [] [0, 6] false [
       (none, .mv 4 (.v 0)),
       (none, .call (some 5) 746 false [((.v 4), false)]),
       (none, .un 6 .not (.v 5))])
     (.cond (.v 6)
      (.seq
       (.region [] [] [2, 3] false [
         (none, .asg 2 (.c (.int .i64 0)) .copy),
         (none, .asg 3 (.c (.int .i64 1)) .copy)])
       (.ret [2, 3]))
      (.skip [0])))
    (.seq
     (.region [(7, 0, false)] [] [2, 3] false [
       (none, .mv 7 (.v 0)),
       (none, .call (some 8) 743 false [((.v 7), false)]),
       (none, .asg 2 (.v 8) .copy),
       (none, .asg 3 (.c (.int .i64 0)) .copy)])
     (.ret [2, 3]))))⟩
def F930 : PFunc :=
 ⟨[false], [.tmp 2, .tmp 3, .tmp 4, .tmp 5],
  (.seq
   (.region [] [] [0] false [
     (none, .asg 2 (.c (.sl true 3 [])) .copy),
     (none, .asg 3 (.c (.int .i64 0)) .copy),
     (none, .asg 4 (.c (.int .i64 0)) .copy),
     (none, .asg 5 (.c (.int .i64 0)) .copy)])
   (.seq
    (.region [(10, 0, false)] [] [6] false [
      (none, .mv 10 (.v 0)),
      (none, .call (some 11) 603 true [((.v 10), false)]),
      (none, .asg 6 (.v 11) .move)])
    (.seq
     (.region [(12, 6, false)] [] [6, 7] false [
       (none, .mv 12 (.v 6)),
       (none, .call (some 13) 744 true [((.v 12), true)]),
       (none, .asg 7 (.v 13) .move)])
     (.seq
      (.region [(19, 6, false), (15, 7, false), (14, 6, false)] [] [6, 7, 8] false [
        (none, .mv 14 (.v 6)),
        (none, .mv 15 (.v 7)),
        (none, .len 16 false (.v 15)),
        (none, .bin 17 .add (.v 16) (.c (.int .i64 1))),
        (none, .call (some 18) 7 true [((.v 14), true), ((.v 17), false)]),
        (none, .mv 19 (.v 6)),
        (none, .call (some 20) 7 true [((.v 19), true), ((.c (.int .i64 16)), false)]),
        (none, .bin 21 .quo (.v 20) (.c (.int .i64 15))),
        (none, .bin 22 .sub (.v 18) (.v 21)),
        (none, .asg 8 (.v 22) .copy)])
      (.seq
       (.region [(25, 6, false), (23, 6, false)] [] [6, 7, 8, 9] false [
         (none, .mv 23 (.v 6)),
         (none, .call (some 24) 7 true [((.v 23), true), ((.c (.int .i64 9)), false)]),
         (none, .mv 25 (.v 6)),
         (none, .call (some 26) 7 true [((.v 25), true), ((.c (.int .i64 16)), false)]),
         (none, .bin 27 .quo (.v 26) (.c (.int .i64 15))),
         (none, .bin 28 .sub (.v 24) (.v 27)),
         (none, .asg 9 (.v 28) .copy)])
       (.seq
        (.region [(34, 6, false), (32, 6, false), (29, 7, false)] [] [2, 3, 4, 5] false [
          (none, .mv 29 (.v 7)),
          (none, .mv 30 (.v 8)),
          (none, .mv 31 (.v 9)),
          (none, .mv 32 (.v 6)),
          (none, .call (some 33) 7 true [((.v 32), true), ((.c (.int .i64 5)), false)]),
          (none, .mv 34 (.v 6)),
          (none, .call (some 35) 7 true [((.v 34), true), ((.c (.int .i64 16)), false)]),
          (none, .bin 36 .quo (.v 35) (.c (.int .i64 15))),
          (none, .bin 37 .sub (.v 33) (.v 36)),
          (none, .asg 2 (.v 29) .move),
          (none, .asg 3 (.v 30) .copy),
          (none, .asg 4 (.v 31) .copy),
          (none, .asg 5 (.v 37) .copy)])
        (.ret [2, 3, 4, 5])))))))⟩
def F931 : PFunc :=
 ⟨[false, false, false, false], [.tmp 8, .tmp 9],
  (.seq
   (.region [] [] [0, 1, 2, 3] false [
     (none, .asg 8 (.c (.int .i64 0)) .copy),
     (none, .asg 9 (.c (.int .i64 0)) .copy)])
   (.seq
    (.block 0
     (.seq
      (.region [(11, 0, false)] [] [0, 1, 2, 3, 10] false [
        (none, .mv 11 (.v 0)),
        (none, .call (some 12) 223 false [((.v 11), false)]),
        (none, .un 13 .not (.v 12)),
        (none, .asg 10 (.v 13) .copy)])
      (.cond (.v 10)
       (.seq
        (.region [] [] [8, 9] false [
          (none, .asg 8 (.c (.int .i64 0)) .copy),
          (none, .asg 9 (.c (.int .i64 1)) .copy)])
        (.ret [8, 9]))
       (.seq
        (.region [(37, 0, false), (36, 0, false), (34, 0, false), (26, 0, false), (25, 0, false), (23, 0, false), (16, 0, false)] [] [0, 1, 2, 3, 14] false [
          (none, .mv 15 (.v 1)),
          (none, .mv 16 (.v 0)),
          (none, .len 17 false (.v 16)),
          (none, .bin 18 .sub (.v 17) (.c (.int .i64 1))),
          (none, .call (some 19) 326 false [((.v 15), false), ((.c (.int .i64 0)), false), ((.v 18), false)]),
          (none, .un 20 .not (.v 19)),
          (none, .mv 21 (.v 20)),
          (some (21, false), .mv 22 (.v 2)),
          (some (21, false), .mv 23 (.v 0)),
          (some (21, false), .mv 24 (.v 1)),
          (some (21, false), .iadr 25 3 (.v 23) (.v 24)),
          (some (21, false), .fadr 26 0 1 (.v 25)),
          (some (21, false), .load 27 false 1 (.v 26) none),
          (some (21, false), .bin 28 .sub (.v 27) (.c (.int .i64 1))),
          (some (21, false), .call (some 29) 326 false [((.v 22), false), ((.c (.int .i64 0)), false), ((.v 28), false)]),
          (some (21, false), .un 30 .not (.v 29)),
          (none, .pick 31 (.v 21) (.c (.bool true)) (.v 30)),
          (none, .mv 32 (.v 31)),
          (some (32, false), .mv 33 (.v 3)),
          (some (32, false), .mv 34 (.v 0)),
          (some (32, false), .mv 35 (.v 1)),
          (some (32, false), .iadr 36 3 (.v 34) (.v 35)),
          (some (32, false), .fadr 37 1 1 (.v 36)),
          (some (32, false), .load 38 false 1 (.v 37) none),
          (some (32, false), .bin 39 .sub (.v 38) (.c (.int .i64 1))),
          (some (32, false), .call (some 40) 326 false [((.v 33), false), ((.c (.int .i64 0)), false), ((.v 39), false)]),
          (some (32, false), .un 41 .not (.v 40)),
          (none, .pick 42 (.v 32) (.c (.bool true)) (.v 41)),
          (none, .asg 14 (.v 42) .copy)])
        (.cond (.v 14)
         (.seq
          (.region [] [] [8, 9] false [
            (none, .asg 8 (.c (.int .i64 0)) .copy),
            (none, .asg 9 (.c (.int .i64 2)) .copy)])
          (.ret [8, 9]))
         (.skip [0, 1, 2, 3]))))))
    (.seq
     (.region [(51, 0, false), (50, 0, false), (48, 0, false), (43, 0, false)] [] [8, 9] true [
       (none, .mv 43 (.v 0)),
       (none, .mv 44 (.v 1)),
       (none, .slc 45 false 3 (.v 43) none (some (.v 44)) .copy),
       (none, .call (some 46) 246 false [((.v 45), false)]),
       (none, .mv 47 (.v 2)),
       (none, .mv 48 (.v 0)),
       (none, .mv 49 (.v 1)),
       (none, .iadr 50 3 (.v 48) (.v 49)),
       (none, .fadr 51 1 1 (.v 50)),
       (none, .load 52 false 1 (.v 51) none),
       (none, .bin 53 .mul (.v 47) (.v 52)),
       (none, .bin 54 .add (.v 46) (.v 53)),
       (none, .mv 55 (.v 3)),
       (none, .bin 56 .add (.v 54) (.v 55)),
       (none, .asg 8 (.v 56) .copy),
       (none, .asg 9 (.c (.int .i64 0)) .copy)])
     (.ret [8, 9]))))⟩
def F932 : PFunc :=
 ⟨[false, false, false, false], [.tmp 8, .tmp 9],
  (.seq
   (.region [] [] [0, 1, 2, 3] false [
     (none, .asg 8 (.c (.int .i64 0)) .copy),
     (none, .asg 9 (.c (.int .i64 0)) .copy)])
   (.seq
    (.seq
     (.region [(11, 0, false)] [] [0, 1, 2, 3, 13] false [
       (none, .mv 11 (.v 0)),
       (none, .call (some 12) 746 false [((.v 11), false)]),
       (none, .un 13 .not (.v 12))])
     (.cond (.v 13)
      (.seq
       (.region [] [] [8, 9] false [
         (none, .asg 8 (.c (.int .i64 0)) .copy),
         (none, .asg 9 (.c (.int .i64 1)) .copy)])
       (.ret [8, 9]))
      (.skip [0, 1, 2, 3])))
    (.seq
     (.seq
      (.region [(15, 0, false)] [] [0, 1, 2, 3, 19] false [
        (none, .mv 14 (.v 1)),
        (none, .mv 15 (.v 0)),
        (none, .len 16 false (.v 15)),
        (none, .bin 17 .sub (.v 16) (.c (.int .i64 1))),
        (none, .call (some 18) 605 false [((.v 14), false), ((.c (.int .i64 0)), false), ((.v 17), false)]),
        (none, .un 19 .not (.v 18))])
      (.cond (.v 19)
       (.seq
        (.region [] [] [8, 9] false [
          (none, .asg 8 (.c (.int .i64 0)) .copy),
          (none, .asg 9 (.c (.int .i64 2)) .copy)])
        (.ret [8, 9]))
       (.skip [0, 1, 2, 3])))
     (.seq
      (.region [(22, 0, false), (20, 0, false)] [] [0, 1, 2, 3, 10] false [
        (none, .mv 20 (.v 0)),
        (none, .mv 21 (.v 1)),
        (none, .iadr 22 3 (.v 20) (.v 21)),
        (none, .load 23 true 3 (.v 22) none),
        (none, .new 10 (.agg [(.int .i64 0), (.int .i64 0), (.int .i64 0)])),
        (none, .store 3 (.v 10) (.v 23) .copy)])
      (.seq
       (.seq
        (.region [(32, 10, false), (25, 10, false)] [] [0, 1, 2, 3, 10, 37] false [
          (none, .mv 24 (.v 2)),
          (none, .fadr 25 0 1 (.v 10)),
          (none, .load 26 false 1 (.v 25) none),
          (none, .bin 27 .sub (.v 26) (.c (.int .i64 1))),
          (none, .call (some 28) 605 false [((.v 24), false), ((.c (.int .i64 0)), false), ((.v 27), false)]),
          (none, .un 29 .not (.v 28)),
          (none, .mv 30 (.v 29)),
          (some (30, false), .mv 31 (.v 3)),
          (some (30, false), .fadr 32 1 1 (.v 10)),
          (some (30, false), .load 33 false 1 (.v 32) none),
          (some (30, false), .bin 34 .sub (.v 33) (.c (.int .i64 1))),
          (some (30, false), .call (some 35) 605 false [((.v 31), false), ((.c (.int .i64 0)), false), ((.v 34), false)]),
          (some (30, false), .un 36 .not (.v 35)),
          (none, .pick 37 (.v 30) (.c (.bool true)) (.v 36))])
        (.cond (.v 37)
         (.seq
          (.region [] [] [8, 9] false [
            (none, .asg 8 (.c (.int .i64 0)) .copy),
            (none, .asg 9 (.c (.int .i64 2)) .copy)])
          (.ret [8, 9]))
         (.skip [0, 1, 2, 3, 10])))
       (.seq
        (.region [(43, 10, false), (38, 0, false)] [] [8, 9] true [
          (none, .mv 38 (.v 0)),
          (none, .mv 39 (.v 1)),
          (none, .slc 40 false 3 (.v 38) none (some (.v 39)) .copy),
          (none, .call (some 41) 743 false [((.v 40), false)]),
          (none, .mv 42 (.v 2)),
          (none, .fadr 43 1 1 (.v 10)),
          (none, .load 44 false 1 (.v 43) none),
          (none, .bin 45 .mul (.v 42) (.v 44)),
          (none, .bin 46 .add (.v 41) (.v 45)),
          (none, .mv 47 (.v 3)),
          (none, .bin 48 .add (.v 46) (.v 47)),
          (none, .asg 8 (.v 48) .copy),
          (none, .asg 9 (.c (.int .i64 0)) .copy)])
        (.ret [8, 9])))))))⟩
def F939 : PFunc :=
 ⟨[false], [.tmp 2],
  (.seq
   (.region [] [] [0] false [
     (none, .asg 2 (.c (.str [])) .copy)])
   (.seq
    (.region [] [] [2] false [
      (none, .mv 3 (.v 0)),
      (none, .call (some 4) 953 false [((.v 3), false), ((.c (.int .i64 10)), false)]),
      (none, .asg 2 (.v 4) .copy)])
    (.ret [2])))⟩
def F933 : PFunc :=
 ⟨[false], [.tmp 2],
  (.seq
   (.region [] [] [0] false [
     (none, .asg 2 (.c (.str [])) .copy)])
   (.seq
    (.seq
     (.region [(6, 0, false)] [] [0, 8] false [
       (none, .mv 6 (.v 0)),
       (none, .call (some 7) 223 false [((.v 6), false)]),
       (none, .un 8 .not (.v 7))])
     (.cond (.v 8)
      (.seq
       (.region [] [] [2] false [
         (none, .asg 2 (.c (.str [])) .copy)])
       (.ret [2]))
      (.skip [0])))
    (.seq
     (.region [] [] [0, 3] false [
       (none, .mksl 9 1 (.str []) 0 []),
       (none, .asg 3 (.v 9) .move)])
     (.seq
      (.seq
       (.region [(10, 0, false)] [] [0, 3, 10, 11, 12] false [
         (none, .mv 10 (.v 0)),
         (none, .len 11 false (.v 10)),
         (none, .mv 12 (.c (.int .i64 0)))])
       (.block 0
        (.loop
         (.seq
          (.region [(10, 0, false)] [] [0, 3, 10, 11, 12, 13] false [
            (none, .bin 13 .lss (.v 12) (.v 11))])
          (.seq
           (.cond (.v 13)
            (.skip [0, 3, 10, 11, 12])
            (.exit 0 [3]))
           (.seq
            (.block 1
             (.seq
              (.region [(14, 0, false), (10, 0, false)] [] [0, 3, 5, 10, 11, 12] false [
                (none, .iadr 14 3 (.v 10) (.v 12)),
                (none, .load 15 true 3 (.v 14) none),
                (none, .new 5 (.agg [(.int .i64 0), (.int .i64 0), (.int .i64 0)])),
                (none, .store 3 (.v 5) (.v 15) .copy)])
              (.region [(26, 5, false), (21, 5, false), (17, 5, false), (16, 3, false), (10, 0, false)] [] [0, 3, 10, 11, 12] true [
                (none, .mvr 16 3),
                (none, .fadr 17 0 1 (.v 5)),
                (none, .load 18 false 1 (.v 17) none),
                (none, .call (some 19) 939 false [((.v 18), false)]),
                (none, .bin 20 .add (.v 19) (.c (.str [120]))),
                (none, .fadr 21 1 1 (.v 5)),
                (none, .load 22 false 1 (.v 21) none),
                (none, .call (some 23) 939 false [((.v 22), false)]),
                (none, .bin 24 .add (.v 20) (.v 23)),
                (none, .bin 25 .add (.v 24) (.c (.str [64]))),
                (none, .fadr 26 2 1 (.v 5)),
                (none, .load 27 false 1 (.v 26) none),
                (none, .call (some 28) 939 false [((.v 27), false)]),
                (none, .bin 29 .add (.v 25) (.v 28)),
                (none, .mksl 30 1 (.str []) 1 [(0, (.v 29), .copy)]),
                (none, .app 31 1 (.v 16) (.v 30) .move),
                (none, .asg 3 (.v 31) .move)])))
            (.region [(10, 0, false)] [] [0, 3, 10, 11, 12] false [
              (none, .bin 32 .add (.v 12) (.c (.int .i64 1))),
              (none, .mv 12 (.v 32))])))))))
      (.seq
       (.region [(33, 3, false)] [] [2] false [
         (none, .mv 33 (.v 3)),
         (none, .call (some 34) 948 false [((.v 33), false), ((.c (.str [44, 32])), false)]),
         (none, .asg 2 (.v 34) .copy)])
       (.ret [2]))))))⟩
def F949 : PFunc :=
 ⟨[false], [.tmp 2],
  (.seq
   (.region [] [] [0] false [
     (none, .asg 2 (.c (.str [])) .copy)])
   (.seq
    (.region [] [] [0, 3] false [
      (none, .mksl 6 1 (.int .u8 0) 0 []),
      (none, .asg 3 (.v 6) .move)])
    (.seq
     (.seq
      (.region [] [] [0, 3, 4] false [
        (none, .mv 7 (.v 0)),
        (none, .asg 4 (.v 7) .copy)])
      (.block 0
       (.loop
        (.seq
         (.seq
          (.region [] [] [0, 3, 4, 9] false [
            (none, .mv 8 (.v 4)),
            (none, .bin 9 .neq (.v 8) (.c (.int .i64 0)))])
          (.cond (.v 9)
           (.skip [0, 3, 4])
           (.exit 0 [0, 3])))
         (.seq
          (.block 1
           (.seq
            (.region [] [] [0, 3, 4, 5] false [
              (none, .mv 12 (.v 4)),
              (none, .bin 13 .rem (.v 12) (.c (.int .i64 10))),
              (none, .asg 5 (.v 13) .copy)])
            (.seq
             (.seq
              (.region [] [] [0, 3, 4, 5, 15] false [
                (none, .mv 14 (.v 5)),
                (none, .bin 15 .lss (.v 14) (.c (.int .i64 0)))])
              (.cond (.v 15)
               (.region [] [] [0, 3, 4, 5] false [
                 (none, .mv 16 (.v 5)),
                 (none, .un 17 .neg (.v 16)),
                 (none, .asg 5 (.v 17) .copy)])
               (.skip [0, 3, 4, 5])))
             (.region [(22, 3, false)] [] [0, 3, 4] false [
               (none, .mv 18 (.v 5)),
               (none, .bin 19 .add (.c (.int .i64 48)) (.v 18)),
               (none, .conv 20 .u8 (.v 19)),
               (none, .mksl 21 1 (.int .u8 0) 1 [(0, (.v 20), .copy)]),
               (none, .mv 22 (.v 3)),
               (none, .app 23 1 (.v 21) (.v 22) .freeze),
               (none, .asg 3 (.v 23) .move)]))))
          (.region [] [] [0, 3, 4] false [
            (none, .mv 10 (.v 4)),
            (none, .bin 11 .quo (.v 10) (.c (.int .i64 10))),
            (none, .asg 4 (.v 11) .copy)]))))))
     (.seq
      (.seq
       (.region [(24, 3, false)] [] [0, 3, 26] false [
         (none, .mv 24 (.v 3)),
         (none, .len 25 false (.v 24)),
         (none, .bin 26 .eql (.v 25) (.c (.int .i64 0)))])
       (.cond (.v 26)
        (.seq
         (.region [] [] [2] false [
           (none, .asg 2 (.c (.str [48])) .copy)])
         (.ret [2]))
        (.skip [0, 3])))
      (.seq
       (.seq
        (.region [] [] [3, 28] false [
          (none, .mv 27 (.v 0)),
          (none, .bin 28 .lss (.v 27) (.c (.int .i64 0)))])
        (.cond (.v 28)
         (.seq
          (.region [(29, 3, false)] [] [2] false [
            (none, .mv 29 (.v 3)),
            (none, .b2s 30 (.v 29)),
            (none, .bin 31 .add (.c (.str [45])) (.v 30)),
            (none, .asg 2 (.v 31) .copy)])
          (.ret [2]))
         (.skip [3])))
       (.seq
        (.region [(32, 3, false)] [] [2] false [
          (none, .mv 32 (.v 3)),
          (none, .b2s 33 (.v 32)),
          (none, .asg 2 (.v 33) .copy)])
        (.ret [2])))))))⟩
def F934 : PFunc :=
 ⟨[false], [.tmp 2],
  (.seq
   (.region [] [] [0] false [
     (none, .asg 2 (.c (.str [])) .copy)])
   (.seq
    (.seq
     (.region [(5, 0, false)] [] [0, 7] false [
       (none, .mv 5 (.v 0)),
       (none, .call (some 6) 746 false [((.v 5), false)]),
       (none, .un 7 .not (.v 6))])
     (.cond (.v 7)
      (.seq
       (.region [] [] [2] false [
         (none, .asg 2 (.c (.str [])) .copy)])
       (.ret [2]))
      (.skip [0])))
    (.seq
     (.region [] [] [0, 3] false [
       (none, .asg 3 (.c (.str [])) .copy)])
     (.seq
      (.seq
       (.region [] [] [0, 3, 4] false [
         (none, .asg 4 (.c (.int .i64 0)) .copy)])
       (.block 0
        (.loop
         (.seq
          (.seq
           (.region [(9, 0, false)] [] [0, 3, 4, 11] false [
             (none, .mv 8 (.v 4)),
             (none, .mv 9 (.v 0)),
             (none, .len 10 false (.v 9)),
             (none, .bin 11 .lss (.v 8) (.v 10))])
           (.cond (.v 11)
            (.skip [0, 3, 4])
            (.exit 0 [3])))
          (.seq
           (.block 1
            (.seq
             (.seq
              (.region [] [] [0, 3, 4, 15] false [
                (none, .mv 14 (.v 4)),
                (none, .bin 15 .gtr (.v 14) (.c (.int .i64 0)))])
              (.cond (.v 15)
               (.region [] [] [0, 3, 4] false [
                 (none, .mv 16 (.v 3)),
                 (none, .bin 17 .add (.v 16) (.c (.str [44, 32]))),
                 (none, .asg 3 (.v 17) .copy)])
               (.skip [0, 3, 4])))
             (.region [(37, 0, false), (36, 0, false), (34, 0, false), (29, 0, false), (28, 0, false), (26, 0, false), (22, 0, false), (21, 0, false), (19, 0, false)] [] [0, 3, 4] true [
               (none, .mv 18 (.v 3)),
               (none, .mv 19 (.v 0)),
               (none, .mv 20 (.v 4)),
               (none, .iadr 21 3 (.v 19) (.v 20)),
               (none, .fadr 22 0 1 (.v 21)),
               (none, .load 23 false 1 (.v 22) none),
               (none, .call (some 24) 949 false [((.v 23), false)]),
               (none, .bin 25 .add (.v 24) (.c (.str [120]))),
               (none, .mv 26 (.v 0)),
               (none, .mv 27 (.v 4)),
               (none, .iadr 28 3 (.v 26) (.v 27)),
               (none, .fadr 29 1 1 (.v 28)),
               (none, .load 30 false 1 (.v 29) none),
               (none, .call (some 31) 949 false [((.v 30), false)]),
               (none, .bin 32 .add (.v 25) (.v 31)),
               (none, .bin 33 .add (.v 32) (.c (.str [64]))),
               (none, .mv 34 (.v 0)),
               (none, .mv 35 (.v 4)),
               (none, .iadr 36 3 (.v 34) (.v 35)),
               (none, .fadr 37 2 1 (.v 36)),
               (none, .load 38 false 1 (.v 37) none),
               (none, .call (some 39) 949 false [((.v 38), false)]),
               (none, .bin 40 .add (.v 33) (.v 39)),
               (none, .bin 41 .add (.v 18) (.v 40)),
               (none, .asg 3 (.v 41) .copy)])))
           (.region [] [] [0, 3, 4] false [
             (none, .mv 12 (.v 4)),
             (none, .bin 13 .add (.v 12) (.c (.int .i64 1))),
             (none, .asg 4 (.v 13) .copy)]))))))
      (.seq
       (.region [] [] [2] false [
         (none, .mv 42 (.v 3)),
         (none, .asg 2 (.v 42) .copy)])
       (.ret [2]))))))⟩
def F935 : PFunc :=
 ⟨[false], [.tmp 2],
  (.seq
   (.region [] [] [0] false [
     (none, .asg 2 (.c (.bool false)) .copy)])
   (.seq
    (.region [(3, 0, false)] [] [2] false [
      (none, .mv 3 (.v 0)),
      (none, .call (some 4) 746 false [((.v 3), false)]),
      (none, .asg 2 (.v 4) .copy)])
    (.ret [2])))⟩
def F898 : PFunc :=
 ⟨[false], [.tmp 2],
  (.seq
   (.region [] [] [0] false [
     (none, .asg 2 (.c (.bool false)) .copy)])
   (.seq
    (.seq
     (.region [(37, 0, false)] [] [0, 38] false [
       (none, .mv 37 (.v 0)),
       (none, .call (some 38) 398 false [((.v 37), false)])])
     (.cond (.v 38)
      (.seq
       (.region [] [] [2] false [
         (none, .asg 2 (.c (.bool true)) .copy)])
       (.ret [2]))
      (.skip [0])))
    (.seq
     (.region [(40, 0, false)] [] [0, 3, 4] false [
       (none, .mv 40 (.v 0)),
       (none, .call (some 41) 925 false [((.v 40), false)]),
       (none, .asg 39 (.v 41) .move),
       (none, .ext 42 (.v 39) 0),
       (none, .extp 43 (.v 39) 1),
       (none, .asg 3 (.v 42) .move),
       (none, .asg 4 (.v 43) .copy)])
     (.seq
      (.region [(45, 3, false)] [] [0, 3, 4, 5, 6, 7, 8] false [
        (none, .mv 45 (.v 3)),
        (none, .mv 46 (.v 4)),
        (none, .call (some 47) 926 false [((.v 45), false), ((.v 46), false)]),
        (none, .asg 44 (.v 47) .copy),
        (none, .extp 48 (.v 44) 0),
        (none, .extp 49 (.v 44) 1),
        (none, .extp 50 (.v 44) 2),
        (none, .extp 51 (.v 44) 3),
        (none, .asg 5 (.v 48) .copy),
        (none, .asg 6 (.v 49) .copy),
        (none, .asg 7 (.v 50) .copy),
        (none, .asg 8 (.v 51) .copy)])
      (.seq
       (.region [(53, 3, false)] [] [0, 3, 4, 5, 6, 7, 8, 9, 10, 11, 12] false [
         (none, .mv 53 (.v 3)),
         (none, .mv 54 (.v 4)),
         (none, .call (some 55) 927 false [((.v 53), false), ((.v 54), false)]),
         (none, .asg 52 (.v 55) .copy),
         (none, .extp 56 (.v 52) 0),
         (none, .extp 57 (.v 52) 1),
         (none, .extp 58 (.v 52) 2),
         (none, .extp 59 (.v 52) 3),
         (none, .asg 9 (.v 56) .copy),
         (none, .asg 10 (.v 57) .copy),
         (none, .asg 11 (.v 58) .copy),
         (none, .asg 12 (.v 59) .copy)])
       (.seq
        (.region [(61, 3, false)] [] [0, 3, 4, 5, 6, 7, 8, 9, 10, 11, 12, 13, 14] false [
          (none, .mv 61 (.v 3)),
          (none, .mv 62 (.v 4)),
          (none, .call (some 63) 199 false [((.v 61), false), ((.v 62), false)]),
          (none, .asg 60 (.v 63) .copy),
          (none, .extp 64 (.v 60) 0),
          (none, .extp 65 (.v 60) 1),
          (none, .new 13 (.agg [(.int .i64 0), (.int .i64 0)])),
          (none, .store 2 (.v 13) (.v 64) .copy),
          (none, .asg 14 (.v 65) .copy)])
        (.seq
         (.region [(67, 3, false)] [] [0, 3, 4, 5, 6, 7, 8, 9, 10, 11, 12, 13, 14, 15, 16] false [
           (none, .mv 67 (.v 3)),
           (none, .mv 68 (.v 4)),
           (none, .call (some 69) 928 false [((.v 67), false), ((.v 68), false)]),
           (none, .asg 66 (.v 69) .copy),
           (none, .extp 70 (.v 66) 0),
           (none, .extp 71 (.v 66) 1),
           (none, .new 15 (.agg [(.int .i64 0), (.int .i64 0)])),
           (none, .store 2 (.v 15) (.v 70) .copy),
           (none, .asg 16 (.v 71) .copy)])
         (.seq
          (.region [(73, 3, false)] [] [0, 3, 4, 5, 6, 7, 8, 9, 10, 11, 12, 13, 14, 15, 16, 17, 18] false [
            (none, .mv 73 (.v 3)),
            (none, .call (some 74) 48 false [((.v 73), false)]),
            (none, .asg 72 (.v 74) .copy),
            (none, .extp 75 (.v 72) 0),
            (none, .extp 76 (.v 72) 1),
            (none, .asg 17 (.v 75) .copy),
            (none, .asg 18 (.v 76) .copy)])
          (.seq
           (.region [(78, 3, false)] [] [0, 3, 4, 5, 6, 7, 8, 9, 10, 11, 12, 13, 14, 15, 16, 17, 18, 19, 20] false [
             (none, .mv 78 (.v 3)),
             (none, .call (some 79) 929 false [((.v 78), false)]),
             (none, .asg 77 (.v 79) .copy),
             (none, .extp 80 (.v 77) 0),
             (none, .extp 81 (.v 77) 1),
             (none, .asg 19 (.v 80) .copy),
             (none, .asg 20 (.v 81) .copy)])
           (.seq
            (.region [(83, 0, false)] [] [3, 4, 5, 6, 7, 8, 9, 10, 11, 12, 13, 14, 15, 16, 17, 18, 19, 20, 21, 22, 23, 24] false [
              (none, .mv 83 (.v 0)),
              (none, .call (some 84) 930 false [((.v 83), false)]),
              (none, .asg 82 (.v 84) .move),
              (none, .ext 85 (.v 82) 0),
              (none, .extp 86 (.v 82) 1),
              (none, .extp 87 (.v 82) 2),
              (none, .extp 88 (.v 82) 3),
              (none, .asg 21 (.v 85) .move),
              (none, .asg 22 (.v 86) .copy),
              (none, .asg 23 (.v 87) .copy),
              (none, .asg 24 (.v 88) .copy)])
            (.seq
             (.region [(90, 21, false)] [] [3, 4, 5, 6, 7, 8, 9, 10, 11, 12, 13, 14, 15, 16, 17, 18, 19, 20, 21, 22, 23, 24, 25, 26] false [
               (none, .mv 90 (.v 21)),
               (none, .mv 91 (.v 22)),
               (none, .mv 92 (.v 23)),
               (none, .mv 93 (.v 24)),
               (none, .call (some 94) 931 false [((.v 90), false), ((.v 91), false), ((.v 92), false), ((.v 93), false)]),
               (none, .asg 89 (.v 94) .copy),
               (none, .extp 95 (.v 89) 0),
               (none, .extp 96 (.v 89) 1),
               (none, .asg 25 (.v 95) .copy),
               (none, .asg 26 (.v 96) .copy)])
             (.seq
              (.region [(98, 21, false)] [] [3, 4, 5, 6, 7, 8, 9, 10, 11, 12, 13, 14, 15, 16, 17, 18, 19, 20, 21, 22, 23, 24, 25, 26, 27, 28] false [
                (none, .mv 98 (.v 21)),
                (none, .mv 99 (.v 22)),
                (none, .mv 100 (.v 23)),
                (none, .mv 101 (.v 24)),
                (none, .call (some 102) 932 false [((.v 98), false), ((.v 99), false), ((.v 100), false), ((.v 101), false)]),
                (none, .asg 97 (.v 102) .copy),
                (none, .extp 103 (.v 97) 0),
                (none, .extp 104 (.v 97) 1),
                (none, .asg 27 (.v 103) .copy),
                (none, .asg 28 (.v 104) .copy)])
              (.seq
               (.seq
                (.region [(163, 3, false), (161, 3, false), (156, 3, false), (154, 3, false)] [] [3, 4, 8, 9, 10, 11, 14, 15, 19, 21, 22, 23, 24, 26, 27, 166] false [
                  (none, .mv 105 (.v 8)),
                  (none, .mv 106 (.v 12)),
                  (none, .bin 107 .neq (.v 105) (.v 106)),
                  (none, .mv 108 (.v 107)),
                  (some (108, false), .mv 109 (.v 5)),
                  (some (108, false), .mv 110 (.v 9)),
                  (some (108, false), .bin 111 .neq (.v 109) (.v 110)),
                  (none, .pick 112 (.v 108) (.c (.bool true)) (.v 111)),
                  (none, .mv 113 (.v 112)),
                  (some (113, false), .mv 114 (.v 6)),
                  (some (113, false), .mv 115 (.v 10)),
                  (some (113, false), .bin 116 .neq (.v 114) (.v 115)),
                  (none, .pick 117 (.v 113) (.c (.bool true)) (.v 116)),
                  (none, .mv 118 (.v 117)),
                  (some (118, false), .mv 119 (.v 7)),
                  (some (118, false), .mv 120 (.v 11)),
                  (some (118, false), .bin 121 .neq (.v 119) (.v 120)),
                  (none, .pick 122 (.v 118) (.c (.bool true)) (.v 121)),
                  (none, .mv 123 (.v 122)),
                  (some (123, false), .mv 124 (.v 14)),
                  (some (123, false), .mv 125 (.v 16)),
                  (some (123, false), .bin 126 .neq (.v 124) (.v 125)),
                  (none, .pick 127 (.v 123) (.c (.bool true)) (.v 126)),
                  (none, .mv 128 (.v 127)),
                  (some (128, false), .load 129 true 2 (.v 13) none),
                  (some (128, false), .load 130 true 2 (.v 15) none),
                  (some (128, false), .eqv 131 true [.i, .i] (.v 129) (.v 130)),
                  (none, .pick 132 (.v 128) (.c (.bool true)) (.v 131)),
                  (none, .mv 133 (.v 132)),
                  (some (133, false), .mv 134 (.v 18)),
                  (some (133, false), .mv 135 (.v 20)),
                  (some (133, false), .bin 136 .neq (.v 134) (.v 135)),
                  (none, .pick 137 (.v 133) (.c (.bool true)) (.v 136)),
                  (none, .mv 138 (.v 137)),
                  (some (138, false), .mv 139 (.v 17)),
                  (some (138, false), .mv 140 (.v 19)),
                  (some (138, false), .bin 141 .neq (.v 139) (.v 140)),
                  (none, .pick 142 (.v 138) (.c (.bool true)) (.v 141)),
                  (none, .mv 143 (.v 142)),
                  (some (143, false), .mv 144 (.v 26)),
                  (some (143, false), .mv 145 (.v 28)),
                  (some (143, false), .bin 146 .neq (.v 144) (.v 145)),
                  (none, .pick 147 (.v 143) (.c (.bool true)) (.v 146)),
                  (none, .mv 148 (.v 147)),
                  (some (148, false), .mv 149 (.v 25)),
                  (some (148, false), .mv 150 (.v 27)),
                  (some (148, false), .bin 151 .neq (.v 149) (.v 150)),
                  (none, .pick 152 (.v 148) (.c (.bool true)) (.v 151)),
                  (none, .mv 153 (.v 152)),
                  (some (153, false), .mv 154 (.v 3)),
                  (some (153, false), .call (some 155) 933 false [((.v 154), false)]),
                  (some (153, false), .mv 156 (.v 3)),
                  (some (153, false), .call (some 157) 934 false [((.v 156), false)]),
                  (some (153, false), .bin 158 .neq (.v 155) (.v 157)),
                  (none, .pick 159 (.v 153) (.c (.bool true)) (.v 158)),
                  (none, .mv 160 (.v 159)),
                  (some (160, false), .mv 161 (.v 3)),
                  (some (160, false), .call (some 162) 223 false [((.v 161), false)]),
                  (some (160, false), .mv 163 (.v 3)),
                  (some (160, false), .call (some 164) 935 false [((.v 163), false)]),
                  (some (160, false), .eqb 165 true (.v 162) (.v 164)),
                  (none, .pick 166 (.v 160) (.c (.bool true)) (.v 165))])
                (.cond (.v 166)
                 (.seq
                  (.region [] [] [2] false [
                    (none, .asg 2 (.c (.bool false)) .copy)])
                  (.ret [2]))
                 (.skip [3, 4, 8, 9, 10, 11, 14, 15, 19, 21, 22, 23, 24, 26, 27])))
               (.seq
                (.seq
                 (.region [] [] [3, 4, 8, 9, 10, 11, 14, 15, 19, 21, 22, 23, 24, 27, 168] false [
                   (none, .mv 167 (.v 26)),
                   (none, .bin 168 .eql (.v 167) (.c (.int .i64 0)))])
                 (.cond (.v 168)
                  (.seq
                   (.region [(170, 21, false)] [] [3, 4, 8, 9, 10, 11, 14, 15, 19, 22, 23, 24, 29, 30, 31, 32] false [
                     (none, .mv 170 (.v 21)),
                     (none, .mv 171 (.v 27)),
                     (none, .call (some 172) 926 false [((.v 170), false), ((.v 171), false)]),
                     (none, .asg 169 (.v 172) .copy),
                     (none, .extp 173 (.v 169) 0),
                     (none, .extp 174 (.v 169) 1),
                     (none, .extp 175 (.v 169) 2),
                     (none, .extp 176 (.v 169) 3),
                     (none, .asg 29 (.v 173) .copy),
                     (none, .asg 30 (.v 174) .copy),
                     (none, .asg 31 (.v 175) .copy),
                     (none, .asg 32 (.v 176) .copy)])
                   (.seq
                    (.region [] [] [3, 4, 8, 9, 10, 11, 14, 15, 19, 193] false [
                      (none, .mv 177 (.v 32)),
                      (none, .bin 178 .neq (.v 177) (.c (.int .i64 0))),
                      (none, .mv 179 (.v 178)),
                      (some (179, false), .mv 180 (.v 29)),
                      (some (179, false), .mv 181 (.v 22)),
                      (some (179, false), .bin 182 .neq (.v 180) (.v 181)),
                      (none, .pick 183 (.v 179) (.c (.bool true)) (.v 182)),
                      (none, .mv 184 (.v 183)),
                      (some (184, false), .mv 185 (.v 30)),
                      (some (184, false), .mv 186 (.v 23)),
                      (some (184, false), .bin 187 .neq (.v 185) (.v 186)),
                      (none, .pick 188 (.v 184) (.c (.bool true)) (.v 187)),
                      (none, .mv 189 (.v 188)),
                      (some (189, false), .mv 190 (.v 31)),
                      (some (189, false), .mv 191 (.v 24)),
                      (some (189, false), .bin 192 .neq (.v 190) (.v 191)),
                      (none, .pick 193 (.v 189) (.c (.bool true)) (.v 192))])
                    (.cond (.v 193)
                     (.seq
                      (.region [] [] [2] false [
                        (none, .asg 2 (.c (.bool false)) .copy)])
                      (.ret [2]))
                     (.skip [3, 4, 8, 9, 10, 11, 14, 15, 19]))))
                  (.skip [3, 4, 8, 9, 10, 11, 14, 15, 19])))
                (.seq
                 (.seq
                  (.region [] [] [3, 4, 9, 10, 11, 14, 15, 19, 195] false [
                    (none, .mv 194 (.v 8)),
                    (none, .bin 195 .neq (.v 194) (.c (.int .i64 0)))])
                  (.cond (.v 195)
                   (.seq
                    (.region [] [] [2] false [
                      (none, .asg 2 (.c (.bool true)) .copy)])
                    (.ret [2]))
                   (.skip [3, 4, 9, 10, 11, 14, 15, 19])))
                 (.seq
                  (.region [(197, 3, false)] [] [3, 4, 14, 15, 19, 33, 34] false [
                    (none, .mv 197 (.v 3)),
                    (none, .mv 198 (.v 9)),
                    (none, .mv 199 (.v 10)),
                    (none, .mv 200 (.v 11)),
                    (none, .call (some 201) 931 false [((.v 197), false), ((.v 198), false), ((.v 199), false), ((.v 200), false)]),
                    (none, .asg 196 (.v 201) .copy),
                    (none, .extp 202 (.v 196) 0),
                    (none, .extp 203 (.v 196) 1),
                    (none, .asg 33 (.v 202) .copy),
                    (none, .asg 34 (.v 203) .copy)])
                  (.seq
                   (.seq
                    (.region [] [] [3, 4, 14, 15, 19, 215] false [
                      (none, .mv 204 (.v 34)),
                      (none, .bin 205 .neq (.v 204) (.c (.int .i64 0))),
                      (none, .mv 206 (.v 205)),
                      (some (206, false), .mv 207 (.v 33)),
                      (some (206, false), .mv 208 (.v 4)),
                      (some (206, false), .bin 209 .neq (.v 207) (.v 208)),
                      (none, .pick 210 (.v 206) (.c (.bool true)) (.v 209)),
                      (none, .mv 211 (.v 210)),
                      (some (211, false), .mv 212 (.v 4)),
                      (some (211, false), .mv 213 (.v 19)),
                      (some (211, false), .bin 214 .geq (.v 212) (.v 213)),
                      (none, .pick 215 (.v 211) (.c (.bool true)) (.v 214))])
                    (.cond (.v 215)
                     (.seq
                      (.region [] [] [2] false [
                        (none, .asg 2 (.c (.bool false)) .copy)])
                      (.ret [2]))
                     (.skip [3, 4, 14, 15, 19])))
                   (.seq
                    (.seq
                     (.region [] [] [3, 4, 15, 223] false [
                       (none, .mv 216 (.v 14)),
                       (none, .bin 217 .neq (.v 216) (.c (.int .i64 0))),
                       (none, .mv 218 (.v 217)),
                       (some (218, false), .mv 219 (.v 4)),
                       (some (218, false), .bin 220 .add (.v 219) (.c (.int .i64 1))),
                       (some (218, false), .mv 221 (.v 19)),
                       (some (218, false), .bin 222 .geq (.v 220) (.v 221)),
                       (none, .pick 223 (.v 218) (.c (.bool true)) (.v 222))])
                     (.cond (.v 223)
                      (.seq
                       (.region [] [] [2] false [
                         (none, .asg 2 (.c (.bool true)) .copy)])
                       (.ret [2]))
                      (.skip [3, 4, 15])))
                    (.seq
                     (.region [(225, 3, false)] [] [15, 35, 36] false [
                       (none, .mv 225 (.v 3)),
                       (none, .mv 226 (.v 4)),
                       (none, .bin 227 .add (.v 226) (.c (.int .i64 1))),
                       (none, .call (some 228) 199 false [((.v 225), false), ((.v 227), false)]),
                       (none, .asg 224 (.v 228) .copy),
                       (none, .extp 229 (.v 224) 0),
                       (none, .extp 230 (.v 224) 1),
                       (none, .new 35 (.agg [(.int .i64 0), (.int .i64 0)])),
                       (none, .store 2 (.v 35) (.v 229) .copy),
                       (none, .asg 36 (.v 230) .copy)])
                     (.seq
                      (.seq
                       (.region [(264, 15, false), (262, 15, false), (256, 35, false), (254, 35, false), (249, 35, false), (244, 15, false), (239, 35, false), (234, 35, false)] [] [15, 35, 268] false [
                         (none, .mv 231 (.v 36)),
                         (none, .bin 232 .neq (.v 231) (.c (.int .i64 0))),
                         (none, .mv 233 (.v 232)),
                         (some (233, false), .fadr 234 1 1 (.v 35)),
                         (some (233, false), .load 235 false 1 (.v 234) none),
                         (some (233, false), .bin 236 .lss (.v 235) (.c (.int .i64 1))),
                         (none, .pick 237 (.v 233) (.c (.bool true)) (.v 236)),
                         (none, .mv 238 (.v 237)),
                         (some (238, false), .fadr 239 1 1 (.v 35)),
                         (some (238, false), .load 240 false 1 (.v 239) none),
                         (some (238, false), .bin 241 .gtr (.v 240) (.c (.int .i64 100000000))),
                         (none, .pick 242 (.v 238) (.c (.bool true)) (.v 241)),
                         (none, .mv 243 (.v 242)),
                         (some (243, false), .fadr 244 1 1 (.v 15)),
                         (some (243, false), .load 245 false 1 (.v 244) none),
                         (some (243, false), .bin 246 .gtr (.v 245) (.c (.int .i64 100000000))),
                         (none, .pick 247 (.v 243) (.c (.bool true)) (.v 246)),
                         (none, .mv 248 (.v 247)),
                         (some (248, false), .fadr 249 0 1 (.v 35)),
                         (some (248, false), .load 250 false 1 (.v 249) none),
                         (some (248, false), .bin 251 .lss (.v 250) (.c (.int .i64 0))),
                         (none, .pick 252 (.v 248) (.c (.bool true)) (.v 251)),
                         (none, .mv 253 (.v 252)),
                         (some (253, false), .fadr 254 0 1 (.v 35)),
                         (some (253, false), .load 255 false 1 (.v 254) none),
                         (some (253, false), .fadr 256 1 1 (.v 35)),
                         (some (253, false), .load 257 false 1 (.v 256) none),
                         (some (253, false), .bin 258 .mul (.c (.int .i64 100000)) (.v 257)),
                         (some (253, false), .bin 259 .gtr (.v 255) (.v 258)),
                         (none, .pick 260 (.v 253) (.c (.bool true)) (.v 259)),
                         (none, .mv 261 (.v 260)),
                         (some (261, false), .fadr 262 0 1 (.v 15)),
                         (some (261, false), .load 263 false 1 (.v 262) none),
                         (some (261, false), .fadr 264 1 1 (.v 15)),
                         (some (261, false), .load 265 false 1 (.v 264) none),
                         (some (261, false), .bin 266 .mul (.c (.int .i64 100000)) (.v 265)),
                         (some (261, false), .bin 267 .gtr (.v 263) (.v 266)),
                         (none, .pick 268 (.v 261) (.c (.bool true)) (.v 267))])
                       (.cond (.v 268)
                        (.seq
                         (.region [] [] [2] false [
                           (none, .asg 2 (.c (.bool false)) .copy)])
                         (.ret [2]))
                        (.skip [15, 35])))
                      (.seq
                       (.region [(288, 15, false), (286, 15, false), (283, 35, false), (281, 35, false), (276, 15, false), (274, 15, false), (271, 35, false), (269, 35, false)] [] [2] true [
                         (none, .fadr 269 0 1 (.v 35)),
                         (none, .load 270 false 1 (.v 269) none),
                         (none, .fadr 271 1 1 (.v 35)),
                         (none, .load 272 false 1 (.v 271) none),
                         (none, .bin 273 .quo (.v 270) (.v 272)),
                         (none, .fadr 274 0 1 (.v 15)),
                         (none, .load 275 false 1 (.v 274) none),
                         (none, .fadr 276 1 1 (.v 15)),
                         (none, .load 277 false 1 (.v 276) none),
                         (none, .bin 278 .quo (.v 275) (.v 277)),
                         (none, .bin 279 .geq (.v 273) (.v 278)),
                         (none, .mv 280 (.v 279)),
                         (some (280, true), .fadr 281 0 1 (.v 35)),
                         (some (280, true), .load 282 false 1 (.v 281) none),
                         (some (280, true), .fadr 283 1 1 (.v 35)),
                         (some (280, true), .load 284 false 1 (.v 283) none),
                         (some (280, true), .bin 285 .quo (.v 282) (.v 284)),
                         (some (280, true), .fadr 286 0 1 (.v 15)),
                         (some (280, true), .load 287 false 1 (.v 286) none),
                         (some (280, true), .fadr 288 1 1 (.v 15)),
                         (some (280, true), .load 289 false 1 (.v 288) none),
                         (some (280, true), .bin 290 .quo (.v 287) (.v 289)),
                         (some (280, true), .bin 291 .add (.v 290) (.c (.int .i64 4))),
                         (some (280, true), .bin 292 .leq (.v 285) (.v 291)),
                         (none, .pick 293 (.v 280) (.v 292) (.c (.bool false))),
                         (none, .asg 2 (.v 293) .copy)])
                       (.ret [2]))))))))))))))))))))))⟩
def tabl : List (Nat × PFunc) := [(326, F326), (323, F323), (224, F224), (825, F825), (803, F803), (223, F223), (246, F246), (48, F48), (200, F200), (269, F269), (292, F292), (248, F248), (259, F259), (321, F321), (317, F317), (199, F199), (398, F398), (5, F5), (7, F7), (4, F4), (6, F6), (603, F603), (743, F743), (745, F745), (750, F750), (744, F744), (605, F605), (747, F747), (746, F746), (946, F946), (925, F925), (926, F926), (947, F947), (927, F927), (604, F604), (611, F611), (616, F616), (748, F748), (607, F607), (751, F751), (928, F928), (929, F929), (930, F930), (931, F931), (932, F932), (939, F939), (933, F933), (949, F949), (934, F934), (935, F935), (898, F898)]
def T : Nat → Option PFunc := tabOf tabl
end Go.Vs.G
