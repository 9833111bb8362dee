/- The functions that the law reaches, in the small language, printed by program. No conditions. -/
import Derived.Test.YtiefnapeghkjnaaDLTempos
import Derived.Test.YtiefnapeghkjnaaV4
set_option maxRecDepth 100000
open Go Go.Vs
namespace Go.Vs.G
def F326 : PFunc :=
 ⟨[false, false, false], [.tmp 6],
  (.seq
   (.region [] [] [0, 1, 2] false [
     (none, .asg 6 (.c (.bool false)) .copy)])
   (.seq
    (.region [] [] [6] false [
      (none, .mv 7 (.v 0)),
      (none, .mv 8 (.v 1)),
      (none, .bin 9 .geq (.v 7) (.v 8)),
      (none, .mv 10 (.v 9)),
      (some (10, true), .mv 11 (.v 0)),
      (some (10, true), .mv 12 (.v 2)),
      (some (10, true), .bin 13 .leq (.v 11) (.v 12)),
      (none, .pick 14 (.v 10) (.v 13) (.c (.bool false))),
      (none, .asg 6 (.v 14) .copy)])
    (.ret [6])))⟩
def F47 : PFunc :=
 ⟨[false], [.tmp 1],
  (.seq
   (.region [] [] [0] false [
     (none, .asg 1 (.c (.bool false)) .copy)])
   (.seq
    (.region [] [] [1] false [
      (none, .load 2 false 1 (.v 0) none),
      (none, .call (some 3) 326 false [((.v 2), false), ((.c (.int .i64 0)), false), ((.c (.int .i64 100000)), false)]),
      (none, .asg 1 (.v 3) .copy)])
    (.ret [1])))⟩
def F323 : PFunc :=
 ⟨[false], [.tmp 2],
  (.seq
   (.region [] [] [1] false [
     (none, .box 1 (.v 0) .copy),
     (none, .asg 2 (.c (.bool false)) .copy)])
   (.seq
    (.region [(12, 1, false), (7, 1, false), (3, 1, false)] [] [2] false [
      (none, .fadr 3 0 1 (.v 1)),
      (none, .load 4 false 1 (.v 3) none),
      (none, .call (some 5) 326 false [((.v 4), false), ((.c (.int .i64 1)), false), ((.c (.int .i64 200)), false)]),
      (none, .mv 6 (.v 5)),
      (some (6, true), .fadr 7 1 1 (.v 1)),
      (some (6, true), .load 8 false 1 (.v 7) none),
      (some (6, true), .call (some 9) 326 false [((.v 8), false), ((.c (.int .i64 1)), false), ((.c (.int .i64 12)), false)]),
      (none, .pick 10 (.v 6) (.v 9) (.c (.bool false))),
      (none, .mv 11 (.v 10)),
      (some (11, true), .fadr 12 2 1 (.v 1)),
      (some (11, true), .load 13 false 1 (.v 12) none),
      (some (11, true), .call (some 14) 326 false [((.v 13), false), ((.c (.int .i64 20)), false), ((.c (.int .i64 300)), false)]),
      (none, .pick 15 (.v 11) (.v 14) (.c (.bool false))),
      (none, .asg 2 (.v 15) .copy)])
    (.ret [2])))⟩
def F224 : PFunc :=
 ⟨[false], [.tmp 2],
  (.seq
   (.region [] [] [1] false [
     (none, .box 1 (.v 0) .copy),
     (none, .asg 2 (.c (.bool false)) .copy)])
   (.seq
    (.region [] [] [2] false [
      (none, .load 3 true 3 (.v 1) none),
      (none, .call (some 4) 323 false [((.v 3), false)]),
      (none, .un 5 .not (.v 4)),
      (none, .asg 2 (.v 5) .copy)])
    (.ret [2])))⟩
def F825 : PFunc :=
 ⟨[false, false], [.tmp 4],
  (.seq
   (.region [] [] [0, 1] false [
     (none, .asg 4 (.c (.int .i64 0)) .copy)])
   (.seq
    (.seq
     (.region [(6, 0, false)] [] [0, 1, 7, 8] false [
       (none, .mv 6 (.v 0)),
       (none, .len 7 false (.v 6)),
       (none, .mv 8 (.c (.int .i64 0)))])
     (.block 0
      (.loop
       (.seq
        (.region [] [] [0, 1, 7, 8, 9] false [
          (none, .bin 9 .lss (.v 8) (.v 7))])
        (.seq
         (.cond (.v 9)
          (.skip [0, 1, 7, 8])
          (.exit 0 []))
         (.seq
          (.block 1
           (.seq
            (.region [] [] [0, 1, 5, 7, 8] false [
              (none, .mv 10 (.v 8)),
              (none, .asg 5 (.v 10) .copy)])
            (.seq
             (.region [(14, 0, false), (12, 0, false), (11, 1, false)] [] [0, 1, 5, 7, 8, 16] false [
               (none, .mv 11 (.v 1)),
               (none, .mv 12 (.v 0)),
               (none, .mv 13 (.v 5)),
               (none, .iadr 14 3 (.v 12) (.v 13)),
               (none, .load 15 true 3 (.v 14) none),
               (none, .callv (some 16) (.v 11) [(.v 15)])])
             (.cond (.v 16)
              (.seq
               (.region [] [] [4] false [
                 (none, .mv 17 (.v 5)),
                 (none, .asg 4 (.v 17) .copy)])
               (.ret [4]))
              (.skip [0, 1, 7, 8])))))
          (.region [] [] [0, 1, 7, 8] false [
            (none, .bin 18 .add (.v 8) (.c (.int .i64 1))),
            (none, .mv 8 (.v 18))])))))))
    (.seq
     (.region [] [] [4] false [
       (none, .asg 4 (.c (.int .i64 (-1))) .copy)])
     (.ret [4]))))⟩
def F803 : PFunc :=
 ⟨[false, false], [.tmp 4],
  (.seq
   (.region [] [] [0, 1] false [
     (none, .asg 4 (.c (.bool false)) .copy)])
   (.seq
    (.region [(6, 1, false), (5, 0, false)] [] [4] false [
      (none, .mv 5 (.v 0)),
      (none, .mv 6 (.v 1)),
      (none, .call (some 7) 825 false [((.v 5), false), ((.v 6), false)]),
      (none, .bin 8 .geq (.v 7) (.c (.int .i64 0))),
      (none, .asg 4 (.v 8) .copy)])
    (.ret [4])))⟩
def F223 : PFunc :=
 ⟨[false], [.tmp 2],
  (.seq
   (.region [] [] [0] false [
     (none, .asg 2 (.c (.bool false)) .copy)])
   (.seq
    (.region [(12, 0, false), (7, 0, false), (3, 0, false)] [] [2] false [
      (none, .mv 3 (.v 0)),
      (none, .len 4 false (.v 3)),
      (none, .bin 5 .geq (.v 4) (.c (.int .i64 1))),
      (none, .mv 6 (.v 5)),
      (some (6, true), .mv 7 (.v 0)),
      (some (6, true), .len 8 false (.v 7)),
      (some (6, true), .bin 9 .leq (.v 8) (.c (.int .i64 12))),
      (none, .pick 10 (.v 6) (.v 9) (.c (.bool false))),
      (none, .mv 11 (.v 10)),
      (some (11, true), .mv 12 (.v 0)),
      (some (11, true), .call (some 13) 803 false [((.v 12), false), ((.c (.fn 224 [])), false)]),
      (some (11, true), .un 14 .not (.v 13)),
      (none, .pick 15 (.v 11) (.v 14) (.c (.bool false))),
      (none, .asg 2 (.v 15) .copy)])
    (.ret [2])))⟩
def F248 : PFunc :=
 ⟨[false, false], [.tmp 4],
  (.seq
   (.region [] [] [0, 1] false [
     (none, .asg 4 (.c (.sl true 1 [])) .copy)])
   (.seq
    (.region [] [] [0, 1, 5, 6] false [
      (none, .mksl 9 1 (.int .i64 0) 0 []),
      (none, .asg 5 (.v 9) .move),
      (none, .asg 6 (.c (.int .i64 0)) .copy)])
    (.seq
     (.seq
      (.region [(10, 0, false)] [] [0, 1, 5, 6, 10, 11, 12] false [
        (none, .mv 10 (.v 0)),
        (none, .len 11 false (.v 10)),
        (none, .mv 12 (.c (.int .i64 0)))])
      (.block 0
       (.loop
        (.seq
         (.region [(10, 0, false)] [] [0, 1, 5, 6, 10, 11, 12, 13] false [
           (none, .bin 13 .lss (.v 12) (.v 11))])
         (.seq
          (.cond (.v 13)
           (.skip [0, 1, 5, 6, 10, 11, 12])
           (.exit 0 [5, 6]))
          (.seq
           (.block 1
            (.seq
             (.region [(14, 0, false), (10, 0, false)] [] [0, 1, 5, 6, 8, 10, 11, 12] false [
               (none, .iadr 14 3 (.v 10) (.v 12)),
               (none, .load 15 true 3 (.v 14) none),
               (none, .new 8 (.agg [(.int .i64 0), (.int .i64 0), (.int .i64 0)])),
               (none, .store 3 (.v 8) (.v 15) .copy)])
             (.seq
              (.region [(18, 8, false), (16, 8, false), (10, 0, false)] [] [0, 1, 5, 6, 8, 10, 11, 12, 20, 21] false [
                (none, .fadr 16 0 1 (.v 8)),
                (none, .load 17 false 1 (.v 16) none),
                (none, .fadr 18 1 1 (.v 8)),
                (none, .load 19 false 1 (.v 18) none),
                (none, .bin 20 .mul (.v 17) (.v 19)),
                (none, .mv 21 (.c (.int .i64 0)))])
              (.block 2
               (.loop
                (.seq
                 (.region [(10, 0, false)] [] [0, 1, 5, 6, 8, 10, 11, 12, 20, 21, 22] false [
                   (none, .bin 22 .lss (.v 21) (.v 20))])
                 (.seq
                  (.cond (.v 22)
                   (.skip [0, 1, 5, 6, 8, 10, 11, 12, 20, 21])
                   (.exit 2 [0, 1, 5, 6, 10, 11, 12]))
                  (.seq
                   (.block 3
                    (.seq
                     (.region [(23, 5, false), (10, 0, false)] [] [0, 1, 5, 6, 8, 10, 11, 12, 20, 21] false [
                       (none, .mv 23 (.v 5)),
                       (none, .mv 24 (.v 6)),
                       (none, .mksl 25 1 (.int .i64 0) 1 [(0, (.v 24), .copy)]),
                       (none, .app 26 1 (.v 23) (.v 25) .move),
                       (none, .asg 5 (.v 26) .move)])
                     (.region [(30, 8, false), (10, 0, false)] [] [0, 1, 5, 6, 8, 10, 11, 12, 20, 21] false [
                       (none, .mv 27 (.v 6)),
                       (none, .mv 28 (.v 1)),
                       (none, .bin 29 .mul (.c (.int .i64 60)) (.v 28)),
                       (none, .fadr 30 2 1 (.v 8)),
                       (none, .load 31 false 1 (.v 30) none),
                       (none, .bin 32 .quo (.v 29) (.v 31)),
                       (none, .bin 33 .add (.v 27) (.v 32)),
                       (none, .asg 6 (.v 33) .copy)])))
                   (.region [(10, 0, false)] [] [0, 1, 5, 6, 8, 10, 11, 12, 20, 21] false [
                     (none, .bin 34 .add (.v 21) (.c (.int .i64 1))),
                     (none, .mv 21 (.v 34))])))))))))
           (.region [(10, 0, false)] [] [0, 1, 5, 6, 10, 11, 12] false [
             (none, .bin 35 .add (.v 12) (.c (.int .i64 1))),
             (none, .mv 12 (.v 35))])))))))
     (.seq
      (.region [(36, 5, false)] [] [4] false [
        (none, .mv 36 (.v 5)),
        (none, .mv 37 (.v 6)),
        (none, .mksl 38 1 (.int .i64 0) 1 [(0, (.v 37), .copy)]),
        (none, .app 39 1 (.v 36) (.v 38) .move),
        (none, .asg 4 (.v 39) .move)])
      (.ret [4])))))⟩
def F269 : PFunc :=
 ⟨[false, false], [.tmp 4],
  (.seq
   (.region [] [] [0, 1] false [
     (none, .asg 4 (.c (.int .i64 0)) .copy)])
   (.seq
    (.block 0
     (.loop
      (.seq
       (.seq
        (.region [] [] [0, 1, 6] false [
          (none, .mv 5 (.v 1)),
          (none, .bin 6 .neq (.v 5) (.c (.int .i64 0)))])
        (.cond (.v 6)
         (.skip [0, 1])
         (.exit 0 [0])))
       (.block 1
        (.region [] [] [0, 1] true [
          (none, .mv 7 (.v 1)),
          (none, .mv 8 (.v 0)),
          (none, .mv 9 (.v 1)),
          (none, .bin 10 .rem (.v 8) (.v 9)),
          (none, .asg 0 (.v 7) .copy),
          (none, .asg 1 (.v 10) .copy)])))))
    (.seq
     (.region [] [] [4] false [
       (none, .mv 11 (.v 0)),
       (none, .mv 12 (.v 0)),
       (none, .un 13 .neg (.v 12)),
       (none, .mm 14 true (.v 11) [(.v 13)]),
       (none, .asg 4 (.v 14) .copy)])
     (.ret [4]))))⟩
def F259 : PFunc :=
 ⟨[false, false], [.tmp 4],
  (.seq
   (.region [] [] [0, 1] false [
     (none, .asg 4 (.c (.int .i64 0)) .copy)])
   (.seq
    (.region [] [] [4] false [
      (none, .mv 5 (.v 0)),
      (none, .mv 6 (.v 0)),
      (none, .mv 7 (.v 1)),
      (none, .call (some 8) 269 false [((.v 6), false), ((.v 7), false)]),
      (none, .bin 9 .quo (.v 5) (.v 8)),
      (none, .mv 10 (.v 1)),
      (none, .bin 11 .mul (.v 9) (.v 10)),
      (none, .asg 4 (.v 11) .copy)])
    (.ret [4])))⟩
def F321 : PFunc :=
 ⟨[false], [.tmp 2],
  (.seq
   (.region [] [] [0] false [
     (none, .asg 2 (.c (.int .i64 0)) .copy)])
   (.seq
    (.region [] [] [0, 3] false [
      (none, .asg 3 (.c (.int .i64 1)) .copy)])
    (.seq
     (.seq
      (.region [(6, 0, false)] [] [0, 3, 6, 7, 8] false [
        (none, .mv 6 (.v 0)),
        (none, .len 7 false (.v 6)),
        (none, .mv 8 (.c (.int .i64 0)))])
      (.block 0
       (.loop
        (.seq
         (.region [(6, 0, false)] [] [0, 3, 6, 7, 8, 9] false [
           (none, .bin 9 .lss (.v 8) (.v 7))])
         (.seq
          (.cond (.v 9)
           (.skip [0, 3, 6, 7, 8])
           (.exit 0 [3]))
          (.seq
           (.block 1
            (.seq
             (.region [(10, 0, false), (6, 0, false)] [] [0, 3, 5, 6, 7, 8] false [
               (none, .iadr 10 3 (.v 6) (.v 8)),
               (none, .load 11 true 3 (.v 10) none),
               (none, .new 5 (.agg [(.int .i64 0), (.int .i64 0), (.int .i64 0)])),
               (none, .store 3 (.v 5) (.v 11) .copy)])
             (.seq
              (.region [(13, 5, false), (6, 0, false)] [] [0, 3, 6, 7, 8] false [
                (none, .mv 12 (.v 3)),
                (none, .fadr 13 2 1 (.v 5)),
                (none, .load 14 false 1 (.v 13) none),
                (none, .call (some 15) 259 false [((.v 12), false), ((.v 14), false)]),
                (none, .asg 3 (.v 15) .copy)])
              (.seq
               (.region [(6, 0, false)] [] [0, 3, 6, 7, 8, 17] false [
                 (none, .mv 16 (.v 3)),
                 (none, .bin 17 .gtr (.v 16) (.c (.int .i64 100000000)))])
               (.cond (.v 17)
                (.seq
                 (.region [] [] [2] false [
                   (none, .asg 2 (.c (.int .i64 0)) .copy)])
                 (.ret [2]))
                (.skip [0, 3, 6, 7, 8]))))))
           (.region [(6, 0, false)] [] [0, 3, 6, 7, 8] false [
             (none, .bin 18 .add (.v 8) (.c (.int .i64 1))),
             (none, .mv 8 (.v 18))])))))))
     (.seq
      (.region [] [] [2] false [
        (none, .mv 19 (.v 3)),
        (none, .asg 2 (.v 19) .copy)])
      (.ret [2])))))⟩
def F317 : PFunc :=
 ⟨[false, false], [.tmp 4, .tmp 5, .tmp 6],
  (.seq
   (.region [] [] [0, 1] false [
     (none, .asg 4 (.c (.int .i64 0)) .copy),
     (none, .asg 5 (.c (.sl true 1 [])) .copy),
     (none, .asg 6 (.c (.int .i64 0)) .copy)])
   (.seq
    (.seq
     (.region [(8, 0, false)] [] [0, 1, 10] false [
       (none, .mv 8 (.v 0)),
       (none, .call (some 9) 223 false [((.v 8), false)]),
       (none, .un 10 .not (.v 9))])
     (.cond (.v 10)
      (.seq
       (.region [] [] [4, 5, 6] false [
         (none, .asg 4 (.c (.int .i64 0)) .copy),
         (none, .asg 5 (.c (.sl true 1 [])) .copy),
         (none, .asg 6 (.c (.int .i64 1)) .copy)])
       (.ret [4, 5, 6]))
      (.skip [0, 1])))
    (.seq
     (.seq
      (.region [(11, 1, false)] [] [0, 13] false [
        (none, .mv 11 (.v 1)),
        (none, .callv (some 12) (.v 11) []),
        (none, .un 13 .not (.v 12))])
      (.cond (.v 13)
       (.seq
        (.region [] [] [4, 5, 6] false [
          (none, .asg 4 (.c (.int .i64 0)) .copy),
          (none, .asg 5 (.c (.sl true 1 [])) .copy),
          (none, .asg 6 (.c (.int .i64 2)) .copy)])
        (.ret [4, 5, 6]))
       (.skip [0])))
     (.seq
      (.region [(14, 0, false)] [] [0, 7] false [
        (none, .mv 14 (.v 0)),
        (none, .call (some 15) 321 false [((.v 14), false)]),
        (none, .asg 7 (.v 15) .copy)])
      (.seq
       (.seq
        (.region [] [] [0, 7, 17] false [
          (none, .mv 16 (.v 7)),
          (none, .bin 17 .eql (.v 16) (.c (.int .i64 0)))])
        (.cond (.v 17)
         (.seq
          (.region [] [] [4, 5, 6] false [
            (none, .asg 4 (.c (.int .i64 0)) .copy),
            (none, .asg 5 (.c (.sl true 1 [])) .copy),
            (none, .asg 6 (.c (.int .i64 5)) .copy)])
          (.ret [4, 5, 6]))
         (.skip [0, 7])))
       (.seq
        (.region [(19, 0, false)] [] [4, 5, 6] false [
          (none, .mv 18 (.v 7)),
          (none, .mv 19 (.v 0)),
          (none, .mv 20 (.v 7)),
          (none, .call (some 21) 248 false [((.v 19), false), ((.v 20), false)]),
          (none, .asg 4 (.v 18) .copy),
          (none, .asg 5 (.v 21) .move),
          (none, .asg 6 (.c (.int .i64 0)) .copy)])
        (.ret [4, 5, 6])))))))⟩
def F46 : PFunc :=
 ⟨[false, false], [.tmp 4, .tmp 5],
  (.seq
   (.region [] [] [0, 3] false [
     (none, .box 3 (.v 1) .copy),
     (none, .asg 4 (.c (.int .i64 0)) .copy),
     (none, .asg 5 (.c (.int .i64 0)) .copy)])
   (.seq
    (.region [(12, 0, false)] [3] [3, 6, 7, 8] false [
      (none, .mv 12 (.v 0)),
      (none, .mkfn 13 47 [3]),
      (none, .call (some 14) 317 false [((.v 12), false), ((.v 13), false)]),
      (none, .asg 11 (.v 14) .move),
      (none, .extp 15 (.v 11) 0),
      (none, .ext 16 (.v 11) 1),
      (none, .extp 17 (.v 11) 2),
      (none, .asg 6 (.v 15) .copy),
      (none, .asg 7 (.v 16) .move),
      (none, .asg 8 (.v 17) .copy)])
    (.seq
     (.region [(18, 7, false)] [3] [3, 6, 7, 8, 9] false [
       (none, .mv 18 (.v 7)),
       (none, .len 19 false (.v 18)),
       (none, .bin 20 .sub (.v 19) (.c (.int .i64 1))),
       (none, .asg 9 (.v 20) .copy)])
     (.seq
      (.block 0
       (.seq
        (.region [] [3] [3, 6, 7, 8, 9, 21] false [
          (none, .mv 22 (.v 8)),
          (none, .bin 23 .neq (.v 22) (.c (.int .i64 0))),
          (none, .asg 21 (.v 23) .copy)])
        (.cond (.v 21)
         (.seq
          (.region [] [3] [4, 5] false [
            (none, .mv 24 (.v 8)),
            (none, .asg 4 (.c (.int .i64 0)) .copy),
            (none, .asg 5 (.v 24) .copy)])
          (.ret [4, 5]))
         (.seq
          (.region [(31, 7, false), (29, 7, false)] [3] [3, 6, 7, 25] true [
            (none, .load 26 false 1 (.v 3) none),
            (none, .mv 27 (.v 6)),
            (none, .bin 28 .mul (.v 26) (.v 27)),
            (none, .mvr 29 7),
            (none, .mv 30 (.v 9)),
            (none, .iadr 31 1 (.v 29) (.v 30)),
            (none, .load 32 false 1 (.v 31) none),
            (none, .bin 33 .geq (.v 28) (.v 32)),
            (none, .asg 25 (.v 33) .copy)])
          (.cond (.v 25)
           (.seq
            (.region [] [3] [4, 5] false [
              (none, .asg 4 (.c (.int .i64 0)) .copy),
              (none, .asg 5 (.c (.int .i64 3)) .copy)])
            (.ret [4, 5]))
           (.skip [3, 6, 7]))))))
      (.seq
       (.region [] [3] [3, 6, 7, 10] false [
         (none, .asg 10 (.c (.int .i64 0)) .copy)])
       (.seq
        (.block 1
         (.loop
          (.seq
           (.seq
            (.region [(37, 7, false), (34, 7, false)] [3] [3, 6, 7, 10, 42] true [
              (none, .mvr 34 7),
              (none, .mv 35 (.v 10)),
              (none, .bin 36 .add (.v 35) (.c (.int .i64 1))),
              (none, .iadr 37 1 (.v 34) (.v 36)),
              (none, .load 38 false 1 (.v 37) none),
              (none, .load 39 false 1 (.v 3) none),
              (none, .mv 40 (.v 6)),
              (none, .bin 41 .mul (.v 39) (.v 40)),
              (none, .bin 42 .leq (.v 38) (.v 41))])
            (.cond (.v 42)
             (.skip [3, 6, 7, 10])
             (.exit 1 [10])))
           (.block 2
            (.region [] [3] [3, 6, 7, 10] false [
              (none, .mv 43 (.v 10)),
              (none, .bin 44 .add (.v 43) (.c (.int .i64 1))),
              (none, .asg 10 (.v 44) .copy)])))))
        (.seq
         (.region [] [3] [4, 5] false [
           (none, .mv 45 (.v 10)),
           (none, .asg 4 (.v 45) .copy),
           (none, .asg 5 (.c (.int .i64 0)) .copy)])
         (.ret [4, 5]))))))))⟩
def F246 : PFunc :=
 ⟨[false], [.tmp 2],
  (.seq
   (.region [] [] [0] false [
     (none, .asg 2 (.c (.int .i64 0)) .copy)])
   (.seq
    (.region [] [] [0, 3] false [
      (none, .asg 3 (.c (.int .i64 0)) .copy)])
    (.seq
     (.seq
      (.region [(6, 0, false)] [] [0, 3, 6, 7, 8] false [
        (none, .mv 6 (.v 0)),
        (none, .len 7 false (.v 6)),
        (none, .mv 8 (.c (.int .i64 0)))])
      (.block 0
       (.loop
        (.seq
         (.region [(6, 0, false)] [] [0, 3, 6, 7, 8, 9] false [
           (none, .bin 9 .lss (.v 8) (.v 7))])
         (.seq
          (.cond (.v 9)
           (.skip [0, 3, 6, 7, 8])
           (.exit 0 [3]))
          (.seq
           (.block 1
            (.seq
             (.region [(10, 0, false), (6, 0, false)] [] [0, 3, 5, 6, 7, 8] false [
               (none, .iadr 10 3 (.v 6) (.v 8)),
               (none, .load 11 true 3 (.v 10) none),
               (none, .new 5 (.agg [(.int .i64 0), (.int .i64 0), (.int .i64 0)])),
               (none, .store 3 (.v 5) (.v 11) .copy)])
             (.region [(15, 5, false), (13, 5, false), (6, 0, false)] [] [0, 3, 6, 7, 8] false [
               (none, .mv 12 (.v 3)),
               (none, .fadr 13 0 1 (.v 5)),
               (none, .load 14 false 1 (.v 13) none),
               (none, .fadr 15 1 1 (.v 5)),
               (none, .load 16 false 1 (.v 15) none),
               (none, .bin 17 .mul (.v 14) (.v 16)),
               (none, .bin 18 .add (.v 12) (.v 17)),
               (none, .asg 3 (.v 18) .copy)])))
           (.region [(6, 0, false)] [] [0, 3, 6, 7, 8] false [
             (none, .bin 19 .add (.v 8) (.c (.int .i64 1))),
             (none, .mv 8 (.v 19))])))))))
     (.seq
      (.region [] [] [2] false [
        (none, .mv 20 (.v 3)),
        (none, .asg 2 (.v 20) .copy)])
      (.ret [2])))))⟩
def F48 : PFunc :=
 ⟨[false], [.tmp 2, .tmp 3],
  (.seq
   (.region [] [] [0] false [
     (none, .asg 2 (.c (.int .i64 0)) .copy),
     (none, .asg 3 (.c (.int .i64 0)) .copy)])
   (.seq
    (.seq
     (.region [(4, 0, false)] [] [0, 6] false [
       (none, .mv 4 (.v 0)),
       (none, .call (some 5) 223 false [((.v 4), false)]),
       (none, .un 6 .not (.v 5))])
     (.cond (.v 6)
      (.seq
       (.region [] [] [2, 3] false [
         (none, .asg 2 (.c (.int .i64 0)) .copy),
         (none, .asg 3 (.c (.int .i64 1)) .copy)])
       (.ret [2, 3]))
      (.skip [0])))
    (.seq
     (.region [(7, 0, false)] [] [2, 3] false [
       (none, .mv 7 (.v 0)),
       (none, .call (some 8) 246 false [((.v 7), false)]),
       (none, .asg 2 (.v 8) .copy),
       (none, .asg 3 (.c (.int .i64 0)) .copy)])
     (.ret [2, 3]))))⟩
def F99 : PFunc :=
 ⟨[false], [.tmp 2],
  (.seq
   (.region [] [] [0] false [
     (none, .asg 2 (.c (.bool false)) .copy)])
   (.seq
    (.region [] [] [2] false [
      (none, .mv 3 (.v 0)),
      (none, .call (some 4) 326 false [((.v 3), false), ((.c (.int .i64 0)), false), ((.c (.int .i64 100000)), false)]),
      (none, .un 5 .not (.v 4)),
      (none, .asg 2 (.v 5) .copy)])
    (.ret [2])))⟩
def F818 : PFunc :=
 ⟨[false, false], [.tmp 4],
  (.seq
   (.region [] [] [0, 1] false [
     (none, .asg 4 (.c (.int .i64 0)) .copy)])
   (.seq
    (.seq
     (.region [(6, 0, false)] [] [0, 1, 7, 8] false [
       (none, .mv 6 (.v 0)),
       (none, .len 7 false (.v 6)),
       (none, .mv 8 (.c (.int .i64 0)))])
     (.block 0
      (.loop
       (.seq
        (.region [] [] [0, 1, 7, 8, 9] false [
          (none, .bin 9 .lss (.v 8) (.v 7))])
        (.seq
         (.cond (.v 9)
          (.skip [0, 1, 7, 8])
          (.exit 0 []))
         (.seq
          (.block 1
           (.seq
            (.region [] [] [0, 1, 5, 7, 8] false [
              (none, .mv 10 (.v 8)),
              (none, .asg 5 (.v 10) .copy)])
            (.seq
             (.region [(14, 0, false), (12, 0, false), (11, 1, false)] [] [0, 1, 5, 7, 8, 16] false [
               (none, .mv 11 (.v 1)),
               (none, .mv 12 (.v 0)),
               (none, .mv 13 (.v 5)),
               (none, .iadr 14 1 (.v 12) (.v 13)),
               (none, .load 15 false 1 (.v 14) none),
               (none, .callv (some 16) (.v 11) [(.v 15)])])
             (.cond (.v 16)
              (.seq
               (.region [] [] [4] false [
                 (none, .mv 17 (.v 5)),
                 (none, .asg 4 (.v 17) .copy)])
               (.ret [4]))
              (.skip [0, 1, 7, 8])))))
          (.region [] [] [0, 1, 7, 8] false [
            (none, .bin 18 .add (.v 8) (.c (.int .i64 1))),
            (none, .mv 8 (.v 18))])))))))
    (.seq
     (.region [] [] [4] false [
       (none, .asg 4 (.c (.int .i64 (-1))) .copy)])
     (.ret [4]))))⟩
def F796 : PFunc :=
 ⟨[false, false], [.tmp 4],
  (.seq
   (.region [] [] [0, 1] false [
     (none, .asg 4 (.c (.bool false)) .copy)])
   (.seq
    (.region [(6, 1, false), (5, 0, false)] [] [4] false [
      (none, .mv 5 (.v 0)),
      (none, .mv 6 (.v 1)),
      (none, .call (some 7) 818 false [((.v 5), false), ((.v 6), false)]),
      (none, .bin 8 .geq (.v 7) (.c (.int .i64 0))),
      (none, .asg 4 (.v 8) .copy)])
    (.ret [4])))⟩
def F98 : PFunc :=
 ⟨[false], [.tmp 1],
  (.seq
   (.region [] [] [0] false [
     (none, .asg 1 (.c (.bool false)) .copy)])
   (.seq
    (.region [(6, 0, true), (2, 0, true)] [] [1] false [
      (none, .load 2 false 1 (.v 0) none),
      (none, .len 3 false (.v 2)),
      (none, .bin 4 .leq (.v 3) (.c (.int .i64 20))),
      (none, .mv 5 (.v 4)),
      (some (5, true), .load 6 false 1 (.v 0) none),
      (some (5, true), .call (some 7) 796 false [((.v 6), false), ((.c (.fn 99 [])), false)]),
      (some (5, true), .un 8 .not (.v 7)),
      (none, .pick 9 (.v 5) (.v 8) (.c (.bool false))),
      (none, .asg 1 (.v 9) .copy)])
    (.ret [1])))⟩
def F245 : PFunc :=
 ⟨[false, false], [.tmp 4],
  (.seq
   (.region [] [] [0, 1] false [
     (none, .asg 4 (.c (.int .i64 0)) .copy)])
   (.seq
    (.region [] [] [4] false [
      (none, .mv 5 (.v 0)),
      (none, .mv 6 (.v 1)),
      (none, .bin 7 .sub (.v 5) (.v 6)),
      (none, .mv 8 (.v 1)),
      (none, .mv 9 (.v 0)),
      (none, .bin 10 .sub (.v 8) (.v 9)),
      (none, .mm 11 true (.v 7) [(.v 10)]),
      (none, .asg 4 (.v 11) .copy)])
    (.ret [4])))⟩
def F97 : PFunc :=
 ⟨[false, false], [.tmp 4, .tmp 5],
  (.seq
   (.region [] [] [0, 3] false [
     (none, .box 3 (.v 1) .move),
     (none, .asg 4 (.c (.sl true 1 [])) .copy),
     (none, .asg 5 (.c (.int .i64 0)) .copy)])
   (.seq
    (.region [(15, 0, false)] [3] [3, 6, 7, 8] false [
      (none, .mv 15 (.v 0)),
      (none, .mkfn 16 98 [3]),
      (none, .call (some 17) 317 false [((.v 15), false), ((.v 16), false)]),
      (none, .asg 14 (.v 17) .move),
      (none, .extp 18 (.v 14) 0),
      (none, .ext 19 (.v 14) 1),
      (none, .extp 20 (.v 14) 2),
      (none, .asg 6 (.v 18) .copy),
      (none, .asg 7 (.v 19) .move),
      (none, .asg 8 (.v 20) .copy)])
    (.seq
     (.seq
      (.region [] [3] [3, 6, 7, 8, 22] false [
        (none, .mv 21 (.v 8)),
        (none, .bin 22 .neq (.v 21) (.c (.int .i64 0)))])
      (.cond (.v 22)
       (.seq
        (.region [] [3] [4, 5] false [
          (none, .mv 23 (.v 8)),
          (none, .asg 4 (.c (.sl true 1 [])) .copy),
          (none, .asg 5 (.v 23) .copy)])
        (.ret [4, 5]))
       (.skip [3, 6, 7])))
     (.seq
      (.region [] [3] [3, 6, 7, 9] false [
        (none, .mksl 24 1 (.int .i64 0) 0 []),
        (none, .asg 9 (.v 24) .move)])
      (.seq
       (.seq
        (.region [(25, 3, true)] [3] [3, 6, 7, 9, 25, 26, 27] false [
          (none, .load 25 false 1 (.v 3) none),
          (none, .len 26 false (.v 25)),
          (none, .mv 27 (.c (.int .i64 0)))])
        (.block 0
         (.loop
          (.seq
           (.region [(25, 3, true)] [3] [3, 6, 7, 9, 25, 26, 27, 28] false [
             (none, .bin 28 .lss (.v 27) (.v 26))])
           (.seq
            (.cond (.v 28)
             (.skip [3, 6, 7, 9, 25, 26, 27])
             (.exit 0 [9]))
            (.seq
             (.block 1
              (.seq
               (.region [(29, 3, true), (25, 3, true)] [3] [3, 6, 7, 9, 11, 25, 26, 27] false [
                 (none, .iadr 29 1 (.v 25) (.v 27)),
                 (none, .load 30 false 1 (.v 29) none),
                 (none, .asg 11 (.v 30) .copy)])
               (.seq
                (.region [(25, 3, true)] [3] [3, 6, 7, 9, 11, 12, 25, 26, 27] false [
                  (none, .asg 12 (.c (.int .i64 0)) .copy)])
                (.seq
                 (.seq
                  (.region [(31, 7, false), (25, 3, true)] [3] [3, 6, 7, 9, 11, 12, 25, 26, 27, 33, 34] false [
                    (none, .mv 31 (.v 7)),
                    (none, .len 32 false (.v 31)),
                    (none, .bin 33 .sub (.v 32) (.c (.int .i64 1))),
                    (none, .mv 34 (.c (.int .i64 0)))])
                  (.block 2
                   (.loop
                    (.seq
                     (.region [(25, 3, true)] [3] [3, 6, 7, 9, 11, 12, 25, 26, 27, 33, 34, 35] false [
                       (none, .bin 35 .lss (.v 34) (.v 33))])
                     (.seq
                      (.cond (.v 35)
                       (.skip [3, 6, 7, 9, 11, 12, 25, 26, 27, 33, 34])
                       (.exit 2 [3, 6, 7, 9, 12, 25, 26, 27]))
                      (.seq
                       (.block 3
                        (.seq
                         (.region [(25, 3, true)] [3] [3, 6, 7, 9, 11, 12, 13, 25, 26, 27, 33, 34] false [
                           (none, .mv 36 (.v 34)),
                           (none, .asg 13 (.v 36) .copy)])
                         (.seq
                          (.region [(47, 7, false), (45, 7, false), (39, 7, false), (37, 7, false), (25, 3, true)] [3] [3, 6, 7, 9, 11, 12, 13, 25, 26, 27, 33, 34, 53] true [
                            (none, .mvr 37 7),
                            (none, .mv 38 (.v 13)),
                            (none, .iadr 39 1 (.v 37) (.v 38)),
                            (none, .load 40 false 1 (.v 39) none),
                            (none, .mv 41 (.v 11)),
                            (none, .mv 42 (.v 6)),
                            (none, .bin 43 .mul (.v 41) (.v 42)),
                            (none, .call (some 44) 245 false [((.v 40), false), ((.v 43), false)]),
                            (none, .mvr 45 7),
                            (none, .mv 46 (.v 12)),
                            (none, .iadr 47 1 (.v 45) (.v 46)),
                            (none, .load 48 false 1 (.v 47) none),
                            (none, .mv 49 (.v 11)),
                            (none, .mv 50 (.v 6)),
                            (none, .bin 51 .mul (.v 49) (.v 50)),
                            (none, .call (some 52) 245 false [((.v 48), false), ((.v 51), false)]),
                            (none, .bin 53 .lss (.v 44) (.v 52))])
                          (.cond (.v 53)
                           (.region [(25, 3, true)] [3] [3, 6, 7, 9, 11, 12, 25, 26, 27, 33, 34] false [
                             (none, .mv 54 (.v 13)),
                             (none, .asg 12 (.v 54) .copy)])
                           (.skip [3, 6, 7, 9, 11, 12, 25, 26, 27, 33, 34])))))
                       (.region [(25, 3, true)] [3] [3, 6, 7, 9, 11, 12, 25, 26, 27, 33, 34] false [
                         (none, .bin 55 .add (.v 34) (.c (.int .i64 1))),
                         (none, .mv 34 (.v 55))])))))))
                 (.region [(56, 9, false), (25, 3, true)] [3] [3, 6, 7, 9, 25, 26, 27] false [
                   (none, .mv 56 (.v 9)),
                   (none, .mv 57 (.v 12)),
                   (none, .mksl 58 1 (.int .i64 0) 1 [(0, (.v 57), .copy)]),
                   (none, .app 59 1 (.v 56) (.v 58) .move),
                   (none, .asg 9 (.v 59) .move)])))))
             (.region [(25, 3, true)] [3] [3, 6, 7, 9, 25, 26, 27] false [
               (none, .bin 60 .add (.v 27) (.c (.int .i64 1))),
               (none, .mv 27 (.v 60))])))))))
       (.seq
        (.region [(61, 9, false)] [3] [4, 5] false [
          (none, .mv 61 (.v 9)),
          (none, .asg 4 (.v 61) .move),
          (none, .asg 5 (.c (.int .i64 0)) .copy)])
        (.ret [4, 5])))))))⟩
def F126 : PFunc :=
 ⟨[], [.tmp 0],
  (.seq
   (.region [] [] [] false [
     (none, .asg 0 (.c (.bool false)) .copy)])
   (.seq
    (.region [] [] [0] false [
      (none, .asg 0 (.c (.bool true)) .copy)])
    (.ret [0])))⟩
def F292 : PFunc :=
 ⟨[false, false], [.cell 4 true 2],
  (.seq
   (.region [] [] [0, 1, 4] false [
     (none, .new 4 (.agg [(.int .i64 0), (.int .i64 0)]))])
   (.seq
    (.seq
     (.region [] [] [0, 1, 4, 7] false [
       (none, .mv 6 (.v 1)),
       (none, .bin 7 .lss (.v 6) (.c (.int .i64 0)))])
     (.cond (.v 7)
      (.region [] [] [0, 1, 4] false [
        (none, .mv 8 (.v 0)),
        (none, .un 9 .neg (.v 8)),
        (none, .mv 10 (.v 1)),
        (none, .un 11 .neg (.v 10)),
        (none, .asg 0 (.v 9) .copy),
        (none, .asg 1 (.v 11) .copy)])
      (.skip [0, 1, 4])))
    (.seq
     (.region [] [] [0, 1, 4, 5] false [
       (none, .mv 12 (.v 0)),
       (none, .mv 13 (.v 1)),
       (none, .call (some 14) 269 false [((.v 12), false), ((.v 13), false)]),
       (none, .asg 5 (.v 14) .copy)])
     (.seq
      (.region [] [] [4] true [
        (none, .mv 15 (.v 0)),
        (none, .mv 16 (.v 5)),
        (none, .bin 17 .quo (.v 15) (.v 16)),
        (none, .mv 18 (.v 1)),
        (none, .mv 19 (.v 5)),
        (none, .bin 20 .quo (.v 18) (.v 19)),
        (none, .build 21 [(.int .i64 0), (.int .i64 0)] [(0, 1, (.v 17), .copy), (1, 1, (.v 20), .copy)]),
        (none, .store 2 (.v 4) (.v 21) .copy)])
      (.ret [4])))))⟩
def F125 : PFunc :=
 ⟨[false], [.cell 2 true 2, .tmp 3],
  (.seq
   (.region [] [] [0, 2] false [
     (none, .new 2 (.agg [(.int .i64 0), (.int .i64 0)])),
     (none, .asg 3 (.c (.int .i64 0)) .copy)])
   (.seq
    (.region [(8, 0, false)] [] [2, 4, 5, 6] false [
      (none, .mv 8 (.v 0)),
      (none, .call (some 9) 317 false [((.v 8), false), ((.c (.fn 126 [])), false)]),
      (none, .asg 7 (.v 9) .move),
      (none, .extp 10 (.v 7) 0),
      (none, .ext 11 (.v 7) 1),
      (none, .extp 12 (.v 7) 2),
      (none, .asg 4 (.v 10) .copy),
      (none, .asg 5 (.v 11) .move),
      (none, .asg 6 (.v 12) .copy)])
    (.seq
     (.seq
      (.region [] [] [2, 4, 5, 6, 14] false [
        (none, .mv 13 (.v 6)),
        (none, .bin 14 .neq (.v 13) (.c (.int .i64 0)))])
      (.cond (.v 14)
       (.seq
        (.region [] [] [2, 3] false [
          (none, .build 15 [(.int .i64 0), (.int .i64 0)] []),
          (none, .mv 16 (.v 6)),
          (none, .store 2 (.v 2) (.v 15) .copy),
          (none, .asg 3 (.v 16) .copy)])
        (.ret [2, 3]))
       (.skip [2, 4, 5])))
     (.seq
      (.region [(21, 5, false), (18, 5, false), (17, 5, false)] [] [2, 3] false [
        (none, .mv 17 (.v 5)),
        (none, .mv 18 (.v 5)),
        (none, .len 19 false (.v 18)),
        (none, .bin 20 .sub (.v 19) (.c (.int .i64 1))),
        (none, .iadr 21 1 (.v 17) (.v 20)),
        (none, .load 22 false 1 (.v 21) none),
        (none, .mv 23 (.v 4)),
        (none, .call (some 24) 292 false [((.v 22), false), ((.v 23), false)]),
        (none, .store 2 (.v 2) (.v 24) .copy),
        (none, .asg 3 (.c (.int .i64 0)) .copy)])
      (.ret [2, 3])))))⟩
def F196 : PFunc :=
 ⟨[false, false], [.tmp 4, .tmp 5],
  (.seq
   (.region [] [] [1, 2] false [
     (none, .box 2 (.v 0) .copy),
     (none, .asg 4 (.c (.int .i64 0)) .copy),
     (none, .asg 5 (.c (.int .i64 0)) .copy)])
   (.seq
    (.block 0
     (.seq
      (.region [] [] [1, 2, 7] false [
        (none, .load 8 true 3 (.v 2) none),
        (none, .call (some 9) 323 false [((.v 8), false)]),
        (none, .un 10 .not (.v 9)),
        (none, .asg 7 (.v 10) .copy)])
      (.cond (.v 7)
       (.seq
        (.region [] [] [4, 5] false [
          (none, .asg 4 (.c (.int .i64 0)) .copy),
          (none, .asg 5 (.c (.int .i64 1)) .copy)])
        (.ret [4, 5]))
       (.seq
        (.region [] [] [1, 2, 11] false [
          (none, .mv 12 (.v 1)),
          (none, .call (some 13) 326 false [((.v 12), false), ((.c (.int .i64 1)), false), ((.c (.int .i64 100000)), false)]),
          (none, .un 14 .not (.v 13)),
          (none, .asg 11 (.v 14) .copy)])
        (.cond (.v 11)
         (.seq
          (.region [] [] [4, 5] false [
            (none, .asg 4 (.c (.int .i64 0)) .copy),
            (none, .asg 5 (.c (.int .i64 2)) .copy)])
          (.ret [4, 5]))
         (.skip [1, 2]))))))
    (.seq
     (.seq
      (.region [] [] [1, 2, 6] false [
        (none, .asg 6 (.c (.int .i64 20)) .copy)])
      (.block 1
       (.loop
        (.seq
         (.seq
          (.region [] [] [1, 2, 6, 16] false [
            (none, .mv 15 (.v 6)),
            (none, .bin 16 .leq (.v 15) (.c (.int .i64 300)))])
          (.cond (.v 16)
           (.skip [1, 2, 6])
           (.exit 1 [])))
         (.seq
          (.block 2
           (.seq
            (.region [(21, 2, false), (19, 2, false)] [] [1, 2, 6, 28] false [
              (none, .fadr 19 0 1 (.v 2)),
              (none, .load 20 false 1 (.v 19) none),
              (none, .fadr 21 1 1 (.v 2)),
              (none, .load 22 false 1 (.v 21) none),
              (none, .bin 23 .mul (.v 20) (.v 22)),
              (none, .bin 24 .mul (.v 23) (.c (.int .i64 60))),
              (none, .mv 25 (.v 1)),
              (none, .mv 26 (.v 6)),
              (none, .bin 27 .mul (.v 25) (.v 26)),
              (none, .bin 28 .leq (.v 24) (.v 27))])
            (.cond (.v 28)
             (.seq
              (.region [] [] [4, 5] false [
                (none, .mv 29 (.v 6)),
                (none, .asg 4 (.v 29) .copy),
                (none, .asg 5 (.c (.int .i64 0)) .copy)])
              (.ret [4, 5]))
             (.skip [1, 2, 6]))))
          (.region [] [] [1, 2, 6] false [
            (none, .mv 17 (.v 6)),
            (none, .bin 18 .add (.v 17) (.c (.int .i64 1))),
            (none, .asg 6 (.v 18) .copy)]))))))
     (.seq
      (.region [] [] [4, 5] false [
        (none, .asg 4 (.c (.int .i64 0)) .copy),
        (none, .asg 5 (.c (.int .i64 3)) .copy)])
      (.ret [4, 5])))))⟩
def F200 : PFunc :=
 ⟨[false, false], [.tmp 2],
  (.seq
   (.region [] [] [0, 1] false [
     (none, .asg 2 (.c (.bool false)) .copy)])
   (.seq
    (.region [(4, 1, true)] [] [2] true [
      (none, .load 3 false 1 (.v 0) none),
      (none, .load 4 false 1 (.v 1) none),
      (none, .call (some 5) 246 false [((.v 4), false)]),
      (none, .bin 6 .sub (.v 5) (.c (.int .i64 1))),
      (none, .call (some 7) 326 false [((.v 3), false), ((.c (.int .i64 0)), false), ((.v 6), false)]),
      (none, .asg 2 (.v 7) .copy)])
    (.ret [2])))⟩
def F199 : PFunc :=
 ⟨[false, false], [.cell 4 true 2, .tmp 5],
  (.seq
   (.region [] [] [2, 3, 4] false [
     (none, .box 2 (.v 0) .move),
     (none, .box 3 (.v 1) .copy),
     (none, .new 4 (.agg [(.int .i64 0), (.int .i64 0)])),
     (none, .asg 5 (.c (.int .i64 0)) .copy)])
   (.seq
    (.region [(10, 2, true)] [3, 2] [3, 4, 6, 7, 8] false [
      (none, .load 10 false 1 (.v 2) none),
      (none, .mkfn 11 200 [3, 2]),
      (none, .call (some 12) 317 false [((.v 10), false), ((.v 11), false)]),
      (none, .asg 9 (.v 12) .move),
      (none, .extp 13 (.v 9) 0),
      (none, .ext 14 (.v 9) 1),
      (none, .extp 15 (.v 9) 2),
      (none, .asg 6 (.v 13) .copy),
      (none, .asg 7 (.v 14) .move),
      (none, .asg 8 (.v 15) .copy)])
    (.seq
     (.seq
      (.region [] [3, 2] [3, 4, 6, 7, 8, 17] false [
        (none, .mv 16 (.v 8)),
        (none, .bin 17 .neq (.v 16) (.c (.int .i64 0)))])
      (.cond (.v 17)
       (.seq
        (.region [] [3, 2] [4, 5] false [
          (none, .build 18 [(.int .i64 0), (.int .i64 0)] []),
          (none, .mv 19 (.v 8)),
          (none, .store 2 (.v 4) (.v 18) .copy),
          (none, .asg 5 (.v 19) .copy)])
        (.ret [4, 5]))
       (.skip [3, 4, 6, 7])))
     (.seq
      (.region [(22, 7, false), (20, 7, false)] [3, 2] [4, 5] false [
        (none, .mv 20 (.v 7)),
        (none, .load 21 false 1 (.v 3) none),
        (none, .iadr 22 1 (.v 20) (.v 21)),
        (none, .load 23 false 1 (.v 22) none),
        (none, .mv 24 (.v 6)),
        (none, .call (some 25) 292 false [((.v 23), false), ((.v 24), false)]),
        (none, .store 2 (.v 4) (.v 25) .copy),
        (none, .asg 5 (.c (.int .i64 0)) .copy)])
      (.ret [4, 5])))))⟩
def F398 : PFunc :=
 ⟨[false], [.tmp 2],
  (.seq
   (.region [] [] [0] false [
     (none, .asg 2 (.c (.bool false)) .copy)])
   (.seq
    (.region [(3, 0, false)] [] [2] false [
      (none, .mv 3 (.v 0)),
      (none, .len 4 false (.v 3)),
      (none, .bin 5 .gtr (.v 4) (.c (.int .i64 4096))),
      (none, .asg 2 (.v 5) .copy)])
    (.ret [2])))⟩
def F400 : PFunc :=
 ⟨[false, false], [.tmp 4],
  (.seq
   (.region [] [] [0, 1] false [
     (none, .asg 4 (.c (.bool false)) .copy)])
   (.seq
    (.seq
     (.region [(8, 1, false), (6, 0, false)] [] [0, 1, 10] false [
       (none, .mv 6 (.v 0)),
       (none, .len 7 false (.v 6)),
       (none, .mv 8 (.v 1)),
       (none, .len 9 false (.v 8)),
       (none, .bin 10 .neq (.v 7) (.v 9))])
     (.cond (.v 10)
      (.seq
       (.region [] [] [4] false [
         (none, .asg 4 (.c (.bool false)) .copy)])
       (.ret [4]))
      (.skip [0, 1])))
    (.seq
     (.seq
      (.region [] [] [0, 1, 5] false [
        (none, .asg 5 (.c (.int .i64 0)) .copy)])
      (.block 0
       (.loop
        (.seq
         (.seq
          (.region [(12, 0, false)] [] [0, 1, 5, 14] false [
            (none, .mv 11 (.v 5)),
            (none, .mv 12 (.v 0)),
            (none, .len 13 false (.v 12)),
            (none, .bin 14 .lss (.v 11) (.v 13))])
          (.cond (.v 14)
           (.skip [0, 1, 5])
           (.exit 0 [])))
         (.seq
          (.block 1
           (.seq
            (.region [(23, 1, false), (21, 1, false), (19, 0, false), (17, 0, false)] [] [0, 1, 5, 25] true [
              (none, .mv 17 (.v 0)),
              (none, .mv 18 (.v 5)),
              (none, .iadr 19 1 (.v 17) (.v 18)),
              (none, .load 20 false 1 (.v 19) none),
              (none, .mv 21 (.v 1)),
              (none, .mv 22 (.v 5)),
              (none, .iadr 23 1 (.v 21) (.v 22)),
              (none, .load 24 false 1 (.v 23) none),
              (none, .bin 25 .neq (.v 20) (.v 24))])
            (.cond (.v 25)
             (.seq
              (.region [] [] [4] false [
                (none, .asg 4 (.c (.bool false)) .copy)])
              (.ret [4]))
             (.skip [0, 1, 5]))))
          (.region [] [] [0, 1, 5] false [
            (none, .mv 15 (.v 5)),
            (none, .bin 16 .add (.v 15) (.c (.int .i64 1))),
            (none, .asg 5 (.v 16) .copy)]))))))
     (.seq
      (.region [] [] [4] false [
        (none, .asg 4 (.c (.bool true)) .copy)])
      (.ret [4])))))⟩
def F605 : PFunc :=
 ⟨[false, false, false], [.tmp 6],
  (.seq
   (.region [] [] [0, 1, 2] false [
     (none, .asg 6 (.c (.bool false)) .copy)])
   (.seq
    (.region [] [] [6] false [
      (none, .mv 7 (.v 0)),
      (none, .mv 8 (.v 1)),
      (none, .bin 9 .geq (.v 7) (.v 8)),
      (none, .mv 10 (.v 9)),
      (some (10, true), .mv 11 (.v 0)),
      (some (10, true), .mv 12 (.v 2)),
      (some (10, true), .bin 13 .leq (.v 11) (.v 12)),
      (none, .pick 14 (.v 10) (.v 13) (.c (.bool false))),
      (none, .asg 6 (.v 14) .copy)])
    (.ret [6])))⟩
def F743 : PFunc :=
 ⟨[false], [.tmp 2],
  (.seq
   (.region [] [] [0] false [
     (none, .asg 2 (.c (.int .i64 0)) .copy)])
   (.seq
    (.region [] [] [0, 3] false [
      (none, .asg 3 (.c (.int .i64 0)) .copy)])
    (.seq
     (.seq
      (.region [] [] [0, 3, 4] false [
        (none, .asg 4 (.c (.int .i64 0)) .copy)])
      (.block 0
       (.loop
        (.seq
         (.seq
          (.region [(6, 0, false)] [] [0, 3, 4, 8] false [
            (none, .mv 5 (.v 4)),
            (none, .mv 6 (.v 0)),
            (none, .len 7 false (.v 6)),
            (none, .bin 8 .lss (.v 5) (.v 7))])
          (.cond (.v 8)
           (.skip [0, 3, 4])
           (.exit 0 [3])))
         (.seq
          (.block 1
           (.region [(20, 0, false), (19, 0, false), (17, 0, false), (15, 0, false), (14, 0, false), (12, 0, false)] [] [0, 3, 4] true [
             (none, .mv 11 (.v 3)),
             (none, .mv 12 (.v 0)),
             (none, .mv 13 (.v 4)),
             (none, .iadr 14 3 (.v 12) (.v 13)),
             (none, .fadr 15 0 1 (.v 14)),
             (none, .load 16 false 1 (.v 15) none),
             (none, .mv 17 (.v 0)),
             (none, .mv 18 (.v 4)),
             (none, .iadr 19 3 (.v 17) (.v 18)),
             (none, .fadr 20 1 1 (.v 19)),
             (none, .load 21 false 1 (.v 20) none),
             (none, .bin 22 .mul (.v 16) (.v 21)),
             (none, .bin 23 .add (.v 11) (.v 22)),
             (none, .asg 3 (.v 23) .copy)]))
          (.region [] [] [0, 3, 4] false [
            (none, .mv 9 (.v 4)),
            (none, .bin 10 .add (.v 9) (.c (.int .i64 1))),
            (none, .asg 4 (.v 10) .copy)]))))))
     (.seq
      (.region [] [] [2] false [
        (none, .mv 24 (.v 3)),
        (none, .asg 2 (.v 24) .copy)])
      (.ret [2])))))⟩
def F747 : PFunc :=
 ⟨[false], [.tmp 2],
  (.seq
   (.region [] [] [0] false [
     (none, .asg 2 (.c (.bool false)) .copy)])
   (.seq
    (.region [(18, 0, false), (17, 0, false), (16, 0, false), (11, 0, false), (10, 0, false), (9, 0, false), (5, 0, false), (4, 0, false), (3, 0, false)] [] [2] false [
      (none, .mv 3 (.v 0)),
      (none, .nchk 4 (.v 3)),
      (none, .fadr 5 0 1 (.v 4)),
      (none, .load 6 false 1 (.v 5) none),
      (none, .call (some 7) 605 false [((.v 6), false), ((.c (.int .i64 1)), false), ((.c (.int .i64 200)), false)]),
      (none, .mv 8 (.v 7)),
      (some (8, true), .mv 9 (.v 0)),
      (some (8, true), .nchk 10 (.v 9)),
      (some (8, true), .fadr 11 1 1 (.v 10)),
      (some (8, true), .load 12 false 1 (.v 11) none),
      (some (8, true), .call (some 13) 605 false [((.v 12), false), ((.c (.int .i64 1)), false), ((.c (.int .i64 12)), false)]),
      (none, .pick 14 (.v 8) (.v 13) (.c (.bool false))),
      (none, .mv 15 (.v 14)),
      (some (15, true), .mv 16 (.v 0)),
      (some (15, true), .nchk 17 (.v 16)),
      (some (15, true), .fadr 18 2 1 (.v 17)),
      (some (15, true), .load 19 false 1 (.v 18) none),
      (some (15, true), .call (some 20) 605 false [((.v 19), false), ((.c (.int .i64 20)), false), ((.c (.int .i64 300)), false)]),
      (none, .pick 21 (.v 15) (.v 20) (.c (.bool false))),
      (none, .asg 2 (.v 21) .copy)])
    (.ret [2])))⟩
def F746 : PFunc :=
 ⟨[false], [.tmp 2],
  (.seq
   (.region [] [] [0] false [
     (none, .asg 2 (.c (.bool false)) .copy)])
   (.seq
    (.seq
     (.region [] [] [0, 3] false [
       (none, .asg 3 (.c (.int .i64 0)) .copy)])
     (.block 0
      (.loop
       (.seq
        (.seq
         (.region [(5, 0, false)] [] [0, 3, 7] false [
           (none, .mv 4 (.v 3)),
           (none, .mv 5 (.v 0)),
           (none, .len 6 false (.v 5)),
           (none, .bin 7 .lss (.v 4) (.v 6))])
         (.cond (.v 7)
          (.skip [0, 3])
          (.exit 0 [0])))
        (.seq
         (.block 1
          (.seq
           (.region [(12, 0, false), (10, 0, false)] [] [0, 3, 14] false [
             (none, .mv 10 (.v 0)),
             (none, .mv 11 (.v 3)),
             (none, .iadr 12 3 (.v 10) (.v 11)),
             (none, .call (some 13) 747 false [((.v 12), false)]),
             (none, .un 14 .not (.v 13))])
           (.cond (.v 14)
            (.seq
             (.region [] [] [2] false [
               (none, .asg 2 (.c (.bool false)) .copy)])
             (.ret [2]))
            (.skip [0, 3]))))
         (.region [] [] [0, 3] false [
           (none, .mv 8 (.v 3)),
           (none, .bin 9 .add (.v 8) (.c (.int .i64 1))),
           (none, .asg 3 (.v 9) .copy)]))))))
    (.seq
     (.region [(15, 0, false)] [] [2] false [
       (none, .mv 15 (.v 0)),
       (none, .len 16 false (.v 15)),
       (none, .call (some 17) 605 false [((.v 16), false), ((.c (.int .i64 1)), false), ((.c (.int .i64 12)), false)]),
       (none, .asg 2 (.v 17) .copy)])
     (.ret [2]))))⟩
def F604 : PFunc :=
 ⟨[false, false], [.tmp 4],
  (.seq
   (.region [] [] [0, 1] false [
     (none, .asg 4 (.c (.int .i64 0)) .copy)])
   (.seq
    (.block 0
     (.loop
      (.seq
       (.seq
        (.region [] [] [0, 1, 7] false [
          (none, .mv 6 (.v 1)),
          (none, .bin 7 .neq (.v 6) (.c (.int .i64 0)))])
        (.cond (.v 7)
         (.skip [0, 1])
         (.exit 0 [0])))
       (.block 1
        (.seq
         (.region [] [] [1, 5] false [
           (none, .mv 8 (.v 0)),
           (none, .mv 9 (.v 1)),
           (none, .bin 10 .rem (.v 8) (.v 9)),
           (none, .asg 5 (.v 10) .copy)])
         (.seq
          (.region [] [] [0, 5] false [
            (none, .mv 11 (.v 1)),
            (none, .asg 0 (.v 11) .copy)])
          (.region [] [] [0, 1] false [
            (none, .mv 12 (.v 5)),
            (none, .asg 1 (.v 12) .copy)])))))))
    (.seq
     (.region [] [] [4] false [
       (none, .mv 13 (.v 0)),
       (none, .asg 4 (.v 13) .copy)])
     (.ret [4]))))⟩
def F748 : PFunc :=
 ⟨[false], [.tmp 2],
  (.seq
   (.region [] [] [0] false [
     (none, .asg 2 (.c (.int .i64 0)) .copy)])
   (.seq
    (.region [] [] [0, 3] false [
      (none, .asg 3 (.c (.int .i64 1)) .copy)])
    (.seq
     (.seq
      (.region [] [] [0, 3, 4] false [
        (none, .asg 4 (.c (.int .i64 0)) .copy)])
      (.block 0
       (.loop
        (.seq
         (.seq
          (.region [(6, 0, false)] [] [0, 3, 4, 8] false [
            (none, .mv 5 (.v 4)),
            (none, .mv 6 (.v 0)),
            (none, .len 7 false (.v 6)),
            (none, .bin 8 .lss (.v 5) (.v 7))])
          (.cond (.v 8)
           (.skip [0, 3, 4])
           (.exit 0 [3])))
         (.seq
          (.block 1
           (.seq
            (.region [(23, 0, false), (22, 0, false), (20, 0, false), (16, 0, false), (15, 0, false), (13, 0, false)] [] [0, 3, 4] true [
              (none, .mv 11 (.v 3)),
              (none, .mv 12 (.v 3)),
              (none, .mv 13 (.v 0)),
              (none, .mv 14 (.v 4)),
              (none, .iadr 15 3 (.v 13) (.v 14)),
              (none, .fadr 16 2 1 (.v 15)),
              (none, .load 17 false 1 (.v 16) none),
              (none, .call (some 18) 604 false [((.v 12), false), ((.v 17), false)]),
              (none, .bin 19 .quo (.v 11) (.v 18)),
              (none, .mv 20 (.v 0)),
              (none, .mv 21 (.v 4)),
              (none, .iadr 22 3 (.v 20) (.v 21)),
              (none, .fadr 23 2 1 (.v 22)),
              (none, .load 24 false 1 (.v 23) none),
              (none, .bin 25 .mul (.v 19) (.v 24)),
              (none, .asg 3 (.v 25) .copy)])
            (.seq
             (.region [] [] [0, 3, 4, 27] false [
               (none, .mv 26 (.v 3)),
               (none, .bin 27 .gtr (.v 26) (.c (.int .i64 100000000)))])
             (.cond (.v 27)
              (.seq
               (.region [] [] [2] false [
                 (none, .asg 2 (.c (.int .i64 0)) .copy)])
               (.ret [2]))
              (.skip [0, 3, 4])))))
          (.region [] [] [0, 3, 4] false [
            (none, .mv 9 (.v 4)),
            (none, .bin 10 .add (.v 9) (.c (.int .i64 1))),
            (none, .asg 4 (.v 10) .copy)]))))))
     (.seq
      (.region [] [] [2] false [
        (none, .mv 28 (.v 3)),
        (none, .asg 2 (.v 28) .copy)])
      (.ret [2])))))⟩
def F607 : PFunc :=
 ⟨[false, false], [.tmp 4],
  (.seq
   (.region [] [] [0, 1] false [
     (none, .asg 4 (.c (.int .i64 0)) .copy)])
   (.seq
    (.seq
     (.region [] [] [0, 1, 7] false [
       (none, .mv 5 (.v 0)),
       (none, .mv 6 (.v 1)),
       (none, .bin 7 .lss (.v 5) (.v 6))])
     (.cond (.v 7)
      (.seq
       (.region [] [] [4] false [
         (none, .mv 8 (.v 0)),
         (none, .asg 4 (.v 8) .copy)])
       (.ret [4]))
      (.skip [1])))
    (.seq
     (.region [] [] [4] false [
       (none, .mv 9 (.v 1)),
       (none, .asg 4 (.v 9) .copy)])
     (.ret [4]))))⟩
def F751 : PFunc :=
 ⟨[false, false, false], [.tmp 6],
  (.seq
   (.region [] [] [0, 1, 2] false [
     (none, .asg 6 (.c (.int .i64 0)) .copy)])
   (.seq
    (.region [] [] [0, 1, 2, 7] false [
      (none, .asg 7 (.c (.int .i64 0)) .copy)])
    (.seq
     (.seq
      (.region [] [] [0, 1, 2, 7, 8] false [
        (none, .asg 8 (.c (.int .i64 0)) .copy)])
      (.block 0
       (.loop
        (.seq
         (.seq
          (.region [(11, 0, false)] [] [0, 1, 2, 7, 8, 17] false [
            (none, .mv 10 (.v 8)),
            (none, .mv 11 (.v 0)),
            (none, .len 12 false (.v 11)),
            (none, .bin 13 .lss (.v 10) (.v 12)),
            (none, .mv 14 (.v 13)),
            (some (14, true), .mv 15 (.v 1)),
            (some (14, true), .bin 16 .gtr (.v 15) (.c (.int .i64 0))),
            (none, .pick 17 (.v 14) (.v 16) (.c (.bool false)))])
          (.cond (.v 17)
           (.skip [0, 1, 2, 7, 8])
           (.exit 0 [7])))
         (.seq
          (.block 1
           (.seq
            (.region [(29, 0, false), (28, 0, false), (26, 0, false), (24, 0, false), (23, 0, false), (21, 0, false)] [] [0, 1, 2, 7, 8, 9] true [
              (none, .mv 20 (.v 1)),
              (none, .mv 21 (.v 0)),
              (none, .mv 22 (.v 8)),
              (none, .iadr 23 3 (.v 21) (.v 22)),
              (none, .fadr 24 0 1 (.v 23)),
              (none, .load 25 false 1 (.v 24) none),
              (none, .mv 26 (.v 0)),
              (none, .mv 27 (.v 8)),
              (none, .iadr 28 3 (.v 26) (.v 27)),
              (none, .fadr 29 1 1 (.v 28)),
              (none, .load 30 false 1 (.v 29) none),
              (none, .bin 31 .mul (.v 25) (.v 30)),
              (none, .call (some 32) 607 false [((.v 20), false), ((.v 31), false)]),
              (none, .asg 9 (.v 32) .copy)])
            (.seq
             (.region [(40, 0, false), (39, 0, false), (37, 0, false)] [] [0, 1, 2, 7, 8, 9] false [
               (none, .mv 33 (.v 7)),
               (none, .mv 34 (.v 9)),
               (none, .mv 35 (.v 2)),
               (none, .bin 36 .mul (.c (.int .i64 60)) (.v 35)),
               (none, .mv 37 (.v 0)),
               (none, .mv 38 (.v 8)),
               (none, .iadr 39 3 (.v 37) (.v 38)),
               (none, .fadr 40 2 1 (.v 39)),
               (none, .load 41 false 1 (.v 40) none),
               (none, .bin 42 .quo (.v 36) (.v 41)),
               (none, .bin 43 .mul (.v 34) (.v 42)),
               (none, .bin 44 .add (.v 33) (.v 43)),
               (none, .asg 7 (.v 44) .copy)])
             (.region [] [] [0, 1, 2, 7, 8] false [
               (none, .mv 45 (.v 1)),
               (none, .mv 46 (.v 9)),
               (none, .bin 47 .sub (.v 45) (.v 46)),
               (none, .asg 1 (.v 47) .copy)]))))
          (.region [] [] [0, 1, 2, 7, 8] false [
            (none, .mv 18 (.v 8)),
            (none, .bin 19 .add (.v 18) (.c (.int .i64 1))),
            (none, .asg 8 (.v 19) .copy)]))))))
     (.seq
      (.region [] [] [6] false [
        (none, .mv 48 (.v 7)),
        (none, .asg 6 (.v 48) .copy)])
      (.ret [6])))))⟩
def F438 : PFunc :=
 ⟨[false, false], [.tmp 4, .tmp 5],
  (.seq
   (.region [] [] [0, 1] false [
     (none, .asg 4 (.c (.int .i64 0)) .copy),
     (none, .asg 5 (.c (.int .i64 0)) .copy)])
   (.seq
    (.seq
     (.region [(11, 0, false)] [] [0, 1, 13] false [
       (none, .mv 11 (.v 0)),
       (none, .call (some 12) 746 false [((.v 11), false)]),
       (none, .un 13 .not (.v 12))])
     (.cond (.v 13)
      (.seq
       (.region [] [] [4, 5] false [
         (none, .asg 4 (.c (.int .i64 0)) .copy),
         (none, .asg 5 (.c (.int .i64 1)) .copy)])
       (.ret [4, 5]))
      (.skip [0, 1])))
    (.seq
     (.seq
      (.region [] [] [0, 1, 16] false [
        (none, .mv 14 (.v 1)),
        (none, .call (some 15) 605 false [((.v 14), false), ((.c (.int .i64 0)), false), ((.c (.int .i64 100000)), false)]),
        (none, .un 16 .not (.v 15))])
      (.cond (.v 16)
       (.seq
        (.region [] [] [4, 5] false [
          (none, .asg 4 (.c (.int .i64 0)) .copy),
          (none, .asg 5 (.c (.int .i64 2)) .copy)])
        (.ret [4, 5]))
       (.skip [0, 1])))
     (.seq
      (.region [(17, 0, false)] [] [0, 1, 6] false [
        (none, .mv 17 (.v 0)),
        (none, .call (some 18) 748 false [((.v 17), false)]),
        (none, .asg 6 (.v 18) .copy)])
      (.seq
       (.seq
        (.region [] [] [0, 1, 6, 20] false [
          (none, .mv 19 (.v 6)),
          (none, .bin 20 .eql (.v 19) (.c (.int .i64 0)))])
        (.cond (.v 20)
         (.seq
          (.region [] [] [4, 5] false [
            (none, .asg 4 (.c (.int .i64 0)) .copy),
            (none, .asg 5 (.c (.int .i64 5)) .copy)])
          (.ret [4, 5]))
         (.skip [0, 1, 6])))
       (.seq
        (.region [(21, 0, false)] [] [0, 1, 6, 7] false [
          (none, .mv 21 (.v 0)),
          (none, .call (some 22) 743 false [((.v 21), false)]),
          (none, .asg 7 (.v 22) .copy)])
        (.seq
         (.seq
          (.region [(23, 0, false)] [] [0, 1, 6, 7, 30] false [
            (none, .mv 23 (.v 0)),
            (none, .mv 24 (.v 7)),
            (none, .mv 25 (.v 6)),
            (none, .call (some 26) 751 false [((.v 23), false), ((.v 24), false), ((.v 25), false)]),
            (none, .mv 27 (.v 1)),
            (none, .mv 28 (.v 6)),
            (none, .bin 29 .mul (.v 27) (.v 28)),
            (none, .bin 30 .leq (.v 26) (.v 29))])
          (.cond (.v 30)
           (.seq
            (.region [] [] [4, 5] false [
              (none, .asg 4 (.c (.int .i64 0)) .copy),
              (none, .asg 5 (.c (.int .i64 3)) .copy)])
            (.ret [4, 5]))
           (.skip [0, 1, 6, 7])))
         (.seq
          (.region [] [] [0, 1, 6, 7, 8] false [
            (none, .asg 8 (.c (.int .i64 0)) .copy)])
          (.seq
           (.region [] [] [0, 1, 6, 8, 9] false [
             (none, .mv 31 (.v 7)),
             (none, .asg 9 (.v 31) .copy)])
           (.seq
            (.block 0
             (.loop
              (.seq
               (.seq
                (.region [] [] [0, 1, 6, 8, 9, 35] false [
                  (none, .mv 32 (.v 9)),
                  (none, .mv 33 (.v 8)),
                  (none, .bin 34 .sub (.v 32) (.v 33)),
                  (none, .bin 35 .gtr (.v 34) (.c (.int .i64 1)))])
                (.cond (.v 35)
                 (.skip [0, 1, 6, 8, 9])
                 (.exit 0 [8])))
               (.block 1
                (.seq
                 (.region [] [] [0, 1, 6, 8, 9, 10] false [
                   (none, .mv 36 (.v 8)),
                   (none, .mv 37 (.v 9)),
                   (none, .bin 38 .add (.v 36) (.v 37)),
                   (none, .bin 39 .quo (.v 38) (.c (.int .i64 2))),
                   (none, .asg 10 (.v 39) .copy)])
                 (.seq
                  (.region [(40, 0, false)] [] [0, 1, 6, 8, 9, 10, 47] false [
                    (none, .mv 40 (.v 0)),
                    (none, .mv 41 (.v 10)),
                    (none, .mv 42 (.v 6)),
                    (none, .call (some 43) 751 false [((.v 40), false), ((.v 41), false), ((.v 42), false)]),
                    (none, .mv 44 (.v 1)),
                    (none, .mv 45 (.v 6)),
                    (none, .bin 46 .mul (.v 44) (.v 45)),
                    (none, .bin 47 .leq (.v 43) (.v 46))])
                  (.cond (.v 47)
                   (.region [] [] [0, 1, 6, 8, 9] false [
                     (none, .mv 48 (.v 10)),
                     (none, .asg 8 (.v 48) .copy)])
                   (.region [] [] [0, 1, 6, 8, 9] false [
                     (none, .mv 49 (.v 10)),
                     (none, .asg 9 (.v 49) .copy)]))))))))
            (.seq
             (.region [] [] [4, 5] false [
               (none, .mv 50 (.v 8)),
               (none, .asg 4 (.v 50) .copy),
               (none, .asg 5 (.c (.int .i64 0)) .copy)])
             (.ret [4, 5]))))))))))))⟩
def F603 : PFunc :=
 ⟨[false], [.tmp 2],
  (.seq
   (.region [] [] [0] false [
     (none, .asg 2 (.c .nilp) .copy)])
   (.seq
    (.region [(3, 0, false)] [] [2] false [
      (none, .mv 3 (.v 0)),
      (none, .build 4 [(.sl false 1 []), (.int .i64 0), (.int .u64 0)] [(0, 1, (.v 3), .move)]),
      (none, .box 5 (.v 4) .move),
      (none, .asg 2 (.v 5) .move)])
    (.ret [2])))⟩
def F5 : PFunc :=
 ⟨[true], [.tmp 2],
  (.seq
   (.region [] [] [0] false [
     (none, .asg 2 (.c (.int .i64 0)) .copy)])
   (.seq
    (.region [] [] [0, 3] false [
      (none, .asg 3 (.c (.int .i64 0)) .copy)])
    (.seq
     (.seq
      (.region [(11, 0, true), (10, 0, false), (9, 0, false), (8, 0, false), (6, 0, false), (5, 0, false), (4, 0, false)] [] [0, 3, 13] true [
        (none, .mvr 4 0),
        (none, .nchk 5 (.v 4)),
        (none, .fadr 6 1 1 (.v 5)),
        (none, .load 7 false 1 (.v 6) none),
        (none, .mvr 8 0),
        (none, .nchk 9 (.v 8)),
        (none, .fadr 10 0 1 (.v 9)),
        (none, .load 11 false 1 (.v 10) none),
        (none, .len 12 false (.v 11)),
        (none, .bin 13 .lss (.v 7) (.v 12))])
      (.cond (.v 13)
       (.region [(22, 0, true), (20, 0, false), (19, 0, false), (18, 0, false), (17, 0, true), (16, 0, false), (15, 0, false), (14, 0, false)] [] [0, 3] true [
         (none, .mvr 14 0),
         (none, .nchk 15 (.v 14)),
         (none, .fadr 16 0 1 (.v 15)),
         (none, .load 17 false 1 (.v 16) none),
         (none, .mvr 18 0),
         (none, .nchk 19 (.v 18)),
         (none, .fadr 20 1 1 (.v 19)),
         (none, .load 21 false 1 (.v 20) none),
         (none, .iadr 22 1 (.v 17) (.v 21)),
         (none, .load 23 false 1 (.v 22) none),
         (none, .conv 24 .i64 (.v 23)),
         (none, .asg 3 (.v 24) .copy)])
       (.skip [0, 3])))
     (.seq
      (.region [(31, 0, false), (30, 0, false), (27, 0, false), (26, 0, false), (25, 0, false)] [] [0, 3] false [
        (none, .mv 25 (.v 0)),
        (none, .nchk 26 (.v 25)),
        (none, .fadr 27 1 1 (.v 26)),
        (none, .load 28 false 1 (.v 27) none),
        (none, .bin 29 .add (.v 28) (.c (.int .i64 1))),
        (none, .nchk 30 (.v 25)),
        (none, .fadr 31 1 1 (.v 30)),
        (none, .store 1 (.v 31) (.v 29) .copy)])
      (.seq
       (.region [(43, 0, false), (42, 0, false), (35, 0, false), (34, 0, false), (33, 0, false), (32, 0, false)] [] [0, 3] false [
         (none, .mv 32 (.v 0)),
         (none, .mv 33 (.v 0)),
         (none, .nchk 34 (.v 33)),
         (none, .fadr 35 2 1 (.v 34)),
         (none, .load 36 false 1 (.v 35) none),
         (none, .bin 37 .mul (.v 36) (.c (.int .u64 6364136223846793005))),
         (none, .mv 38 (.v 3)),
         (none, .conv 39 .u64 (.v 38)),
         (none, .bin 40 .add (.v 37) (.v 39)),
         (none, .bin 41 .add (.v 40) (.c (.int .u64 1442695040888963407))),
         (none, .nchk 42 (.v 32)),
         (none, .fadr 43 2 1 (.v 42)),
         (none, .store 1 (.v 43) (.v 41) .copy)])
       (.seq
        (.seq
         (.region [(51, 0, true), (50, 0, false), (49, 0, false), (48, 0, false), (46, 0, false), (45, 0, false), (44, 0, false)] [] [0, 3, 53] true [
           (none, .mvr 44 0),
           (none, .nchk 45 (.v 44)),
           (none, .fadr 46 1 1 (.v 45)),
           (none, .load 47 false 1 (.v 46) none),
           (none, .mvr 48 0),
           (none, .nchk 49 (.v 48)),
           (none, .fadr 50 0 1 (.v 49)),
           (none, .load 51 false 1 (.v 50) none),
           (none, .len 52 false (.v 51)),
           (none, .bin 53 .leq (.v 47) (.v 52))])
         (.cond (.v 53)
          (.seq
           (.region [] [] [0, 2] false [
             (none, .mv 54 (.v 3)),
             (none, .asg 2 (.v 54) .copy)])
           (.ret [0, 2]))
          (.skip [0])))
        (.seq
         (.region [(57, 0, false), (56, 0, false), (55, 0, false)] [] [0, 2] false [
           (none, .mv 55 (.v 0)),
           (none, .nchk 56 (.v 55)),
           (none, .fadr 57 2 1 (.v 56)),
           (none, .load 58 false 1 (.v 57) none),
           (none, .bin 59 .shr (.v 58) (.c (.int .u64 40))),
           (none, .bin 60 .and (.v 59) (.c (.int .u64 255))),
           (none, .conv 61 .i64 (.v 60)),
           (none, .asg 2 (.v 61) .copy)])
         (.ret [0, 2]))))))))⟩
def F7 : PFunc :=
 ⟨[true, false], [.tmp 4],
  (.seq
   (.region [] [] [0, 1] false [
     (none, .asg 4 (.c (.int .i64 0)) .copy)])
   (.seq
    (.seq
     (.region [] [] [0, 1, 7] false [
       (none, .mv 6 (.v 1)),
       (none, .bin 7 .leq (.v 6) (.c (.int .i64 1)))])
     (.cond (.v 7)
      (.seq
       (.region [] [] [0, 4] false [
         (none, .asg 4 (.c (.int .i64 0)) .copy)])
       (.ret [0, 4]))
      (.skip [0, 1])))
    (.seq
     (.region [(8, 0, false)] [] [0, 1, 5] false [
       (none, .mv 8 (.v 0)),
       (none, .call (some 9) 5 true [((.v 8), true)]),
       (none, .asg 5 (.v 9) .copy)])
     (.seq
      (.seq
       (.region [] [] [0, 1, 5, 11] false [
         (none, .mv 10 (.v 1)),
         (none, .bin 11 .gtr (.v 10) (.c (.int .i64 200)))])
       (.cond (.v 11)
        (.region [(14, 0, false)] [] [0, 1, 5] false [
          (none, .mv 12 (.v 5)),
          (none, .bin 13 .mul (.v 12) (.c (.int .i64 256))),
          (none, .mv 14 (.v 0)),
          (none, .call (some 15) 5 true [((.v 14), true)]),
          (none, .bin 16 .add (.v 13) (.v 15)),
          (none, .asg 5 (.v 16) .copy)])
        (.skip [0, 1, 5])))
      (.seq
       (.region [] [] [0, 4] false [
         (none, .mv 17 (.v 5)),
         (none, .mv 18 (.v 1)),
         (none, .bin 19 .rem (.v 17) (.v 18)),
         (none, .asg 4 (.v 19) .copy)])
       (.ret [0, 4]))))))⟩
def F4 : PFunc :=
 ⟨[true, false], [.tmp 4],
  (.seq
   (.region [] [] [0, 1] false [
     (none, .asg 4 (.c (.int .i64 0)) .copy)])
   (.seq
    (.region [(10, 1, false), (7, 1, false), (6, 0, false), (5, 1, false)] [] [0, 4] false [
      (none, .mv 5 (.v 1)),
      (none, .mv 6 (.v 0)),
      (none, .mv 7 (.v 1)),
      (none, .len 8 false (.v 7)),
      (none, .call (some 9) 7 true [((.v 6), true), ((.v 8), false)]),
      (none, .iadr 10 1 (.v 5) (.v 9)),
      (none, .load 11 false 1 (.v 10) none),
      (none, .asg 4 (.v 11) .copy)])
    (.ret [0, 4])))⟩
def F6 : PFunc :=
 ⟨[true, false], [.tmp 4],
  (.seq
   (.region [] [] [0, 1] false [
     (none, .asg 4 (.c (.bool false)) .copy)])
   (.seq
    (.region [(5, 0, false)] [] [0, 4] false [
      (none, .mv 5 (.v 0)),
      (none, .mv 6 (.v 1)),
      (none, .call (some 7) 7 true [((.v 5), true), ((.v 6), false)]),
      (none, .bin 8 .eql (.v 7) (.c (.int .i64 0))),
      (none, .asg 4 (.v 8) .copy)])
    (.ret [0, 4])))⟩
def F745 : PFunc :=
 ⟨[true], [.cell 2 true 3],
  (.seq
   (.region [] [] [0, 2] false [
     (none, .new 2 (.agg [(.int .i64 0), (.int .i64 0), (.int .i64 0)]))])
   (.seq
    (.region [(7, 0, false), (4, 0, false)] [] [0, 2, 3] false [
      (none, .mv 4 (.v 0)),
      (none, .call (some 5) 7 true [((.v 4), true), ((.c (.int .i64 12)), false)]),
      (none, .bin 6 .add (.c (.int .i64 1)) (.v 5)),
      (none, .mv 7 (.v 0)),
      (none, .mksl 8 1 (.int .i64 0) 4 [(0, (.c (.int .i64 2)), .copy), (1, (.c (.int .i64 3)), .copy), (2, (.c (.int .i64 4)), .copy), (3, (.c (.int .i64 6)), .copy)]),
      (none, .call (some 9) 4 true [((.v 7), true), ((.v 8), false)]),
      (none, .build 10 [(.int .i64 0), (.int .i64 0), (.int .i64 0)] [(0, 1, (.v 6), .copy), (1, 1, (.v 9), .copy)]),
      (none, .new 3 (.agg [(.int .i64 0), (.int .i64 0), (.int .i64 0)])),
      (none, .store 3 (.v 3) (.v 10) .copy)])
    (.seq
     (.region [(14, 3, false), (11, 0, false)] [] [0, 2, 3] false [
       (none, .mv 11 (.v 0)),
       (none, .mksl 12 1 (.int .i64 0) 8 [(0, (.c (.int .i64 60)), .copy), (1, (.c (.int .i64 72)), .copy), (2, (.c (.int .i64 80)), .copy), (3, (.c (.int .i64 90)), .copy), (4, (.c (.int .i64 100)), .copy), (5, (.c (.int .i64 120)), .copy), (6, (.c (.int .i64 132)), .copy), (7, (.c (.int .i64 144)), .copy)]),
       (none, .call (some 13) 4 true [((.v 11), true), ((.v 12), false)]),
       (none, .fadr 14 2 1 (.v 3)),
       (none, .store 1 (.v 14) (.v 13) .copy)])
     (.seq
      (.region [] [] [0, 2] false [
        (none, .load 15 true 3 (.v 3) none),
        (none, .store 3 (.v 2) (.v 15) .copy)])
      (.ret [0, 2])))))⟩
def F750 : PFunc :=
 ⟨[true, true], [],
  (.seq
   (.region [(4, 0, false)] [] [0, 1, 5] false [
     (none, .mv 4 (.v 0)),
     (none, .call (some 5) 7 true [((.v 4), true), ((.c (.int .i64 3)), false)])])
   (.block 0
    (.seq
     (.region [] [] [0, 1, 5, 6] false [
       (none, .bin 7 .eql (.v 5) (.c (.int .i64 0))),
       (none, .asg 6 (.v 7) .copy)])
     (.cond (.v 6)
      (.region [(13, 1, false), (12, 1, false), (9, 0, false), (8, 1, false)] [] [0, 1] false [
        (none, .mv 8 (.v 1)),
        (none, .mv 9 (.v 0)),
        (none, .mksl 10 1 (.int .i64 0) 6 [(0, (.c (.int .i64 (-1))), .copy), (1, (.c (.int .i64 0)), .copy), (2, (.c (.int .i64 1)), .copy), (3, (.c (.int .i64 200)), .copy), (4, (.c (.int .i64 201)), .copy), (5, (.c (.int .i64 (-9223372036854775808))), .copy)]),
        (none, .call (some 11) 4 true [((.v 9), true), ((.v 10), false)]),
        (none, .nchk 12 (.v 8)),
        (none, .fadr 13 0 1 (.v 12)),
        (none, .store 1 (.v 13) (.v 11) .copy)])
      (.seq
       (.region [] [] [0, 1, 5, 14] false [
         (none, .bin 15 .eql (.v 5) (.c (.int .i64 1))),
         (none, .asg 14 (.v 15) .copy)])
       (.cond (.v 14)
        (.region [(21, 1, false), (20, 1, false), (17, 0, false), (16, 1, false)] [] [0, 1] false [
          (none, .mv 16 (.v 1)),
          (none, .mv 17 (.v 0)),
          (none, .mksl 18 1 (.int .i64 0) 5 [(0, (.c (.int .i64 (-1))), .copy), (1, (.c (.int .i64 0)), .copy), (2, (.c (.int .i64 1)), .copy), (3, (.c (.int .i64 12)), .copy), (4, (.c (.int .i64 13)), .copy)]),
          (none, .call (some 19) 4 true [((.v 17), true), ((.v 18), false)]),
          (none, .nchk 20 (.v 16)),
          (none, .fadr 21 1 1 (.v 20)),
          (none, .store 1 (.v 21) (.v 19) .copy)])
        (.seq
         (.region [] [] [0, 1, 22] false [
           (none, .bin 23 .eql (.v 5) (.c (.int .i64 2))),
           (none, .asg 22 (.v 23) .copy)])
         (.cond (.v 22)
          (.region [(29, 1, false), (28, 1, false), (25, 0, false), (24, 1, false)] [] [0, 1] false [
            (none, .mv 24 (.v 1)),
            (none, .mv 25 (.v 0)),
            (none, .mksl 26 1 (.int .i64 0) 5 [(0, (.c (.int .i64 (-1))), .copy), (1, (.c (.int .i64 19)), .copy), (2, (.c (.int .i64 20)), .copy), (3, (.c (.int .i64 300)), .copy), (4, (.c (.int .i64 301)), .copy)]),
            (none, .call (some 27) 4 true [((.v 25), true), ((.v 26), false)]),
            (none, .nchk 28 (.v 24)),
            (none, .fadr 29 2 1 (.v 28)),
            (none, .store 1 (.v 29) (.v 27) .copy)])
          (.skip [0, 1])))))))))⟩
def F744 : PFunc :=
 ⟨[true], [.tmp 2],
  (.seq
   (.region [] [] [0] false [
     (none, .asg 2 (.c (.sl true 3 [])) .copy)])
   (.seq
    (.region [] [] [0, 3] false [
      (none, .mksl 6 3 (.agg [(.int .i64 0), (.int .i64 0), (.int .i64 0)]) 0 []),
      (none, .asg 3 (.v 6) .move)])
    (.seq
     (.region [(7, 0, false)] [] [0, 3, 4] false [
       (none, .mv 7 (.v 0)),
       (none, .call (some 8) 7 true [((.v 7), true), ((.c (.int .i64 4)), false)]),
       (none, .bin 9 .add (.c (.int .i64 1)) (.v 8)),
       (none, .asg 4 (.v 9) .copy)])
     (.seq
      (.seq
       (.region [(10, 0, false)] [] [0, 3, 4, 11] false [
         (none, .mv 10 (.v 0)),
         (none, .call (some 11) 6 true [((.v 10), true), ((.c (.int .i64 20)), false)])])
       (.cond (.v 11)
        (.region [(12, 0, false)] [] [0, 3, 4] false [
          (none, .mv 12 (.v 0)),
          (none, .mksl 13 1 (.int .i64 0) 3 [(0, (.c (.int .i64 0)), .copy), (1, (.c (.int .i64 12)), .copy), (2, (.c (.int .i64 13)), .copy)]),
          (none, .call (some 14) 4 true [((.v 12), true), ((.v 13), false)]),
          (none, .asg 4 (.v 14) .copy)])
        (.skip [0, 3, 4])))
      (.seq
       (.seq
        (.region [] [] [0, 3, 5] false [
          (none, .mv 15 (.v 4)),
          (none, .asg 5 (.v 15) .copy)])
        (.block 0
         (.loop
          (.seq
           (.seq
            (.region [] [] [0, 3, 5, 17] false [
              (none, .mv 16 (.v 5)),
              (none, .bin 17 .gtr (.v 16) (.c (.int .i64 0)))])
            (.cond (.v 17)
             (.skip [0, 3, 5])
             (.exit 0 [0, 3])))
           (.seq
            (.block 1
             (.region [(21, 0, false), (20, 3, false)] [] [0, 3, 5] false [
               (none, .mv 20 (.v 3)),
               (none, .mv 21 (.v 0)),
               (none, .call (some 22) 745 true [((.v 21), true)]),
               (none, .mksl 23 3 (.agg [(.int .i64 0), (.int .i64 0), (.int .i64 0)]) 1 [(0, (.v 22), .copy)]),
               (none, .app 24 3 (.v 20) (.v 23) .move),
               (none, .asg 3 (.v 24) .move)]))
            (.region [] [] [0, 3, 5] false [
              (none, .mv 18 (.v 5)),
              (none, .bin 19 .sub (.v 18) (.c (.int .i64 1))),
              (none, .asg 5 (.v 19) .copy)]))))))
       (.seq
        (.seq
         (.region [(25, 0, false)] [] [0, 3, 26] false [
           (none, .mv 25 (.v 0)),
           (none, .call (some 26) 6 true [((.v 25), true), ((.c (.int .i64 24)), false)])])
         (.cond (.v 26)
          (.region [] [] [0, 3] false [
            (none, .build 27 [(.int .i64 0), (.int .i64 0), (.int .i64 0)] [(0, 1, (.c (.int .i64 1)), .copy), (1, 1, (.c (.int .i64 1)), .copy), (2, 1, (.c (.int .i64 293)), .copy)]),
            (none, .build 28 [(.int .i64 0), (.int .i64 0), (.int .i64 0)] [(0, 1, (.c (.int .i64 1)), .copy), (1, 1, (.c (.int .i64 1)), .copy), (2, 1, (.c (.int .i64 283)), .copy)]),
            (none, .build 29 [(.int .i64 0), (.int .i64 0), (.int .i64 0)] [(0, 1, (.c (.int .i64 1)), .copy), (1, 1, (.c (.int .i64 1)), .copy), (2, 1, (.c (.int .i64 281)), .copy)]),
            (none, .build 30 [(.int .i64 0), (.int .i64 0), (.int .i64 0)] [(0, 1, (.c (.int .i64 1)), .copy), (1, 1, (.c (.int .i64 1)), .copy), (2, 1, (.c (.int .i64 277)), .copy)]),
            (none, .mksl 31 3 (.agg [(.int .i64 0), (.int .i64 0), (.int .i64 0)]) 4 [(0, (.v 27), .copy), (1, (.v 28), .copy), (2, (.v 29), .copy), (3, (.v 30), .copy)]),
            (none, .asg 3 (.v 31) .move)])
          (.skip [0, 3])))
        (.seq
         (.seq
          (.region [(36, 0, false), (32, 3, false)] [] [0, 3, 38] false [
            (none, .mv 32 (.v 3)),
            (none, .len 33 false (.v 32)),
            (none, .bin 34 .gtr (.v 33) (.c (.int .i64 0))),
            (none, .mv 35 (.v 34)),
            (some (35, true), .mv 36 (.v 0)),
            (some (35, true), .call (some 37) 6 true [((.v 36), true), ((.c (.int .i64 12)), false)]),
            (none, .pick 38 (.v 35) (.v 37) (.c (.bool false)))])
          (.cond (.v 38)
           (.region [(41, 3, false), (40, 3, false), (39, 0, false)] [] [0, 3] false [
             (none, .mv 39 (.v 0)),
             (none, .mv 40 (.v 3)),
             (none, .iadr 41 3 (.v 40) (.c (.int .i64 0))),
             (none, .calle (some 42) 750 39 41)])
           (.skip [0, 3])))
         (.seq
          (.region [(43, 3, false)] [] [0, 2] false [
            (none, .mv 43 (.v 3)),
            (none, .asg 2 (.v 43) .move)])
          (.ret [0, 2])))))))))⟩
def F749 : PFunc :=
 ⟨[true], [.tmp 2],
  (.seq
   (.region [] [] [0] false [
     (none, .asg 2 (.c (.int .i64 0)) .copy)])
   (.seq
    (.seq
     (.region [(3, 0, false)] [] [0, 4] false [
       (none, .mv 3 (.v 0)),
       (none, .call (some 4) 6 true [((.v 3), true), ((.c (.int .i64 10)), false)])])
     (.cond (.v 4)
      (.seq
       (.region [(5, 0, false)] [] [0, 2] false [
         (none, .mv 5 (.v 0)),
         (none, .mksl 6 1 (.int .i64 0) 5 [(0, (.c (.int .i64 (-1))), .copy), (1, (.c (.int .i64 0)), .copy), (2, (.c (.int .i64 100000)), .copy), (3, (.c (.int .i64 100001)), .copy), (4, (.c (.int .i64 (-9223372036854775808))), .copy)]),
         (none, .call (some 7) 4 true [((.v 5), true), ((.v 6), false)]),
         (none, .asg 2 (.v 7) .copy)])
       (.ret [0, 2]))
      (.skip [0])))
    (.seq
     (.region [(8, 0, false)] [] [0, 2] false [
       (none, .mv 8 (.v 0)),
       (none, .call (some 9) 7 true [((.v 8), true), ((.c (.int .i64 60)), false)]),
       (none, .asg 2 (.v 9) .copy)])
     (.ret [0, 2]))))⟩
def F455 : PFunc :=
 ⟨[false], [.tmp 2, .tmp 3],
  (.seq
   (.region [] [] [0] false [
     (none, .asg 2 (.c (.sl true 3 [])) .copy),
     (none, .asg 3 (.c (.int .i64 0)) .copy)])
   (.seq
    (.region [(6, 0, false)] [] [4] false [
      (none, .mv 6 (.v 0)),
      (none, .call (some 7) 603 true [((.v 6), false)]),
      (none, .asg 4 (.v 7) .move)])
    (.seq
     (.region [(8, 4, false)] [] [4, 5] false [
       (none, .mv 8 (.v 4)),
       (none, .call (some 9) 744 true [((.v 8), true)]),
       (none, .asg 5 (.v 9) .move)])
     (.seq
      (.region [(11, 4, false), (10, 5, false)] [] [2, 3] false [
        (none, .mv 10 (.v 5)),
        (none, .mv 11 (.v 4)),
        (none, .call (some 12) 749 true [((.v 11), true)]),
        (none, .asg 2 (.v 10) .move),
        (none, .asg 3 (.v 12) .copy)])
      (.ret [2, 3])))))⟩
def F473 : PFunc :=
 ⟨[false], [.tmp 2, .tmp 3],
  (.seq
   (.region [] [] [0] false [
     (none, .asg 2 (.c (.sl true 3 [])) .copy),
     (none, .asg 3 (.c (.sl true 1 [])) .copy)])
   (.seq
    (.region [(9, 0, false)] [] [4] false [
      (none, .mv 9 (.v 0)),
      (none, .call (some 10) 603 true [((.v 9), false)]),
      (none, .asg 4 (.v 10) .move)])
    (.seq
     (.region [(11, 4, false)] [] [4, 5] false [
       (none, .mv 11 (.v 4)),
       (none, .call (some 12) 744 true [((.v 11), true)]),
       (none, .asg 5 (.v 12) .move)])
     (.seq
      (.region [] [] [4, 5, 6] false [
        (none, .mksl 13 1 (.int .i64 0) 0 []),
        (none, .asg 6 (.v 13) .move)])
      (.seq
       (.region [(14, 4, false)] [] [4, 5, 6, 7] false [
         (none, .mv 14 (.v 4)),
         (none, .call (some 15) 7 true [((.v 14), true), ((.c (.int .i64 6)), false)]),
         (none, .asg 7 (.v 15) .copy)])
       (.seq
        (.seq
         (.region [(16, 4, false)] [] [4, 5, 6, 7, 17] false [
           (none, .mv 16 (.v 4)),
           (none, .call (some 17) 6 true [((.v 16), true), ((.c (.int .i64 16)), false)])])
         (.cond (.v 17)
          (.region [(18, 4, false)] [] [4, 5, 6, 7] false [
            (none, .mv 18 (.v 4)),
            (none, .call (some 19) 7 true [((.v 18), true), ((.c (.int .i64 2)), false)]),
            (none, .bin 20 .add (.c (.int .i64 20)) (.v 19)),
            (none, .asg 7 (.v 20) .copy)])
          (.skip [4, 5, 6, 7])))
        (.seq
         (.seq
          (.region [] [] [4, 5, 6, 7, 8] false [
            (none, .mv 21 (.v 7)),
            (none, .asg 8 (.v 21) .copy)])
          (.block 0
           (.loop
            (.seq
             (.seq
              (.region [] [] [4, 5, 6, 7, 8, 23] false [
                (none, .mv 22 (.v 8)),
                (none, .bin 23 .gtr (.v 22) (.c (.int .i64 0)))])
              (.cond (.v 23)
               (.skip [4, 5, 6, 7, 8])
               (.exit 0 [4, 5, 6, 7])))
             (.seq
              (.block 1
               (.region [(27, 4, false), (26, 6, false)] [] [4, 5, 6, 7, 8] false [
                 (none, .mv 26 (.v 6)),
                 (none, .mv 27 (.v 4)),
                 (none, .call (some 28) 7 true [((.v 27), true), ((.c (.int .i64 60)), false)]),
                 (none, .mksl 29 1 (.int .i64 0) 1 [(0, (.v 28), .copy)]),
                 (none, .app 30 1 (.v 26) (.v 29) .move),
                 (none, .asg 6 (.v 30) .move)]))
              (.region [] [] [4, 5, 6, 7, 8] false [
                (none, .mv 24 (.v 8)),
                (none, .bin 25 .sub (.v 24) (.c (.int .i64 1))),
                (none, .asg 8 (.v 25) .copy)]))))))
         (.seq
          (.seq
           (.region [(34, 4, false)] [] [4, 5, 6, 36] false [
             (none, .mv 31 (.v 7)),
             (none, .bin 32 .gtr (.v 31) (.c (.int .i64 0))),
             (none, .mv 33 (.v 32)),
             (some (33, true), .mv 34 (.v 4)),
             (some (33, true), .call (some 35) 6 true [((.v 34), true), ((.c (.int .i64 8)), false)]),
             (none, .pick 36 (.v 33) (.v 35) (.c (.bool false)))])
           (.cond (.v 36)
            (.region [(40, 6, false), (38, 4, false), (37, 6, false)] [] [5, 6] false [
              (none, .mv 37 (.v 6)),
              (none, .mv 38 (.v 4)),
              (none, .call (some 39) 749 true [((.v 38), true)]),
              (none, .iadr 40 1 (.v 37) (.c (.int .i64 0))),
              (none, .store 1 (.v 40) (.v 39) .copy)])
            (.skip [5, 6])))
          (.seq
           (.region [(42, 6, false), (41, 5, false)] [] [2, 3] false [
             (none, .mv 41 (.v 5)),
             (none, .mv 42 (.v 6)),
             (none, .asg 2 (.v 41) .move),
             (none, .asg 3 (.v 42) .move)])
           (.ret [2, 3]))))))))))⟩
def F504 : PFunc :=
 ⟨[false], [.cell 2 true 3, .tmp 3],
  (.seq
   (.region [] [] [0, 2] false [
     (none, .new 2 (.agg [(.int .i64 0), (.int .i64 0), (.int .i64 0)])),
     (none, .asg 3 (.c (.int .i64 0)) .copy)])
   (.seq
    (.region [(6, 0, false)] [] [2, 4] false [
      (none, .mv 6 (.v 0)),
      (none, .call (some 7) 603 true [((.v 6), false)]),
      (none, .asg 4 (.v 7) .move)])
    (.seq
     (.region [(8, 4, false)] [] [2, 4, 5] false [
       (none, .mv 8 (.v 4)),
       (none, .call (some 9) 745 true [((.v 8), true)]),
       (none, .new 5 (.agg [(.int .i64 0), (.int .i64 0), (.int .i64 0)])),
       (none, .store 3 (.v 5) (.v 9) .copy)])
     (.seq
      (.seq
       (.region [(10, 4, false)] [] [2, 4, 5, 11] false [
         (none, .mv 10 (.v 4)),
         (none, .call (some 11) 6 true [((.v 10), true), ((.c (.int .i64 8)), false)])])
       (.cond (.v 11)
        (.region [(12, 4, false)] [] [2, 4, 5] false [
          (none, .mv 12 (.v 4)),
          (none, .call (some 13) 750 true [((.v 12), true), ((.v 5), true)])])
        (.skip [2, 4, 5])))
      (.seq
       (.region [(15, 4, false)] [] [2, 3] true [
         (none, .load 14 true 3 (.v 5) none),
         (none, .mvr 15 4),
         (none, .call (some 16) 749 true [((.v 15), true)]),
         (none, .store 3 (.v 2) (.v 14) .copy),
         (none, .asg 3 (.v 16) .copy)])
       (.ret [2, 3]))))))⟩
def F522 : PFunc :=
 ⟨[false, false], [.tmp 4, .tmp 5],
  (.seq
   (.region [] [] [0, 1] false [
     (none, .asg 4 (.c (.sl true 1 [])) .copy),
     (none, .asg 5 (.c (.int .i64 0)) .copy)])
   (.seq
    (.seq
     (.region [(15, 0, false)] [] [0, 1, 17] false [
       (none, .mv 15 (.v 0)),
       (none, .call (some 16) 746 false [((.v 15), false)]),
       (none, .un 17 .not (.v 16))])
     (.cond (.v 17)
      (.seq
       (.region [] [] [4, 5] false [
         (none, .asg 4 (.c (.sl true 1 [])) .copy),
         (none, .asg 5 (.c (.int .i64 1)) .copy)])
       (.ret [4, 5]))
      (.skip [0, 1])))
    (.seq
     (.seq
      (.region [] [] [0, 1, 6] false [
        (none, .asg 6 (.c (.int .i64 0)) .copy)])
      (.block 0
       (.loop
        (.seq
         (.seq
          (.region [(19, 1, false)] [] [0, 1, 6, 21] false [
            (none, .mv 18 (.v 6)),
            (none, .mv 19 (.v 1)),
            (none, .len 20 false (.v 19)),
            (none, .bin 21 .lss (.v 18) (.v 20))])
          (.cond (.v 21)
           (.skip [0, 1, 6])
           (.exit 0 [0, 1])))
         (.seq
          (.block 1
           (.seq
            (.region [(26, 1, false), (24, 1, false)] [] [0, 1, 6, 29] false [
              (none, .mv 24 (.v 1)),
              (none, .mv 25 (.v 6)),
              (none, .iadr 26 1 (.v 24) (.v 25)),
              (none, .load 27 false 1 (.v 26) none),
              (none, .call (some 28) 605 false [((.v 27), false), ((.c (.int .i64 0)), false), ((.c (.int .i64 100000)), false)]),
              (none, .un 29 .not (.v 28))])
            (.cond (.v 29)
             (.seq
              (.region [] [] [4, 5] false [
                (none, .asg 4 (.c (.sl true 1 [])) .copy),
                (none, .asg 5 (.c (.int .i64 2)) .copy)])
              (.ret [4, 5]))
             (.skip [0, 1, 6]))))
          (.region [] [] [0, 1, 6] false [
            (none, .mv 22 (.v 6)),
            (none, .bin 23 .add (.v 22) (.c (.int .i64 1))),
            (none, .asg 6 (.v 23) .copy)]))))))
     (.seq
      (.seq
       (.region [(30, 1, false)] [] [0, 1, 32] false [
         (none, .mv 30 (.v 1)),
         (none, .len 31 false (.v 30)),
         (none, .bin 32 .gtr (.v 31) (.c (.int .i64 20)))])
       (.cond (.v 32)
        (.seq
         (.region [] [] [4, 5] false [
           (none, .asg 4 (.c (.sl true 1 [])) .copy),
           (none, .asg 5 (.c (.int .i64 2)) .copy)])
         (.ret [4, 5]))
        (.skip [0, 1])))
      (.seq
       (.region [(33, 0, false)] [] [0, 1, 7] false [
         (none, .mv 33 (.v 0)),
         (none, .call (some 34) 748 false [((.v 33), false)]),
         (none, .asg 7 (.v 34) .copy)])
       (.seq
        (.seq
         (.region [] [] [0, 1, 7, 36] false [
           (none, .mv 35 (.v 7)),
           (none, .bin 36 .eql (.v 35) (.c (.int .i64 0)))])
         (.cond (.v 36)
          (.seq
           (.region [] [] [4, 5] false [
             (none, .asg 4 (.c (.sl true 1 [])) .copy),
             (none, .asg 5 (.c (.int .i64 5)) .copy)])
           (.ret [4, 5]))
          (.skip [0, 1, 7])))
        (.seq
         (.region [(37, 0, false)] [] [0, 1, 7, 8] false [
           (none, .mv 37 (.v 0)),
           (none, .call (some 38) 743 false [((.v 37), false)]),
           (none, .asg 8 (.v 38) .copy)])
         (.seq
          (.region [] [] [0, 1, 7, 8, 9] false [
            (none, .mksl 39 1 (.int .i64 0) 0 []),
            (none, .asg 9 (.v 39) .move)])
          (.seq
           (.seq
            (.region [] [] [0, 1, 7, 8, 9, 10] false [
              (none, .asg 10 (.c (.int .i64 0)) .copy)])
            (.block 2
             (.loop
              (.seq
               (.seq
                (.region [(41, 1, false)] [] [0, 1, 7, 8, 9, 10, 43] false [
                  (none, .mv 40 (.v 10)),
                  (none, .mv 41 (.v 1)),
                  (none, .len 42 false (.v 41)),
                  (none, .bin 43 .lss (.v 40) (.v 42))])
                (.cond (.v 43)
                 (.skip [0, 1, 7, 8, 9, 10])
                 (.exit 2 [9])))
               (.seq
                (.block 3
                 (.seq
                  (.region [] [] [0, 1, 7, 8, 9, 10, 11] false [
                    (none, .asg 11 (.c (.int .i64 0)) .copy)])
                  (.seq
                   (.region [] [] [0, 1, 7, 8, 9, 10, 11, 12] false [
                     (none, .mv 46 (.v 8)),
                     (none, .asg 12 (.v 46) .copy)])
                   (.seq
                    (.block 4
                     (.loop
                      (.seq
                       (.seq
                        (.region [] [] [0, 1, 7, 8, 9, 10, 11, 12, 50] false [
                          (none, .mv 47 (.v 12)),
                          (none, .mv 48 (.v 11)),
                          (none, .bin 49 .sub (.v 47) (.v 48)),
                          (none, .bin 50 .gtr (.v 49) (.c (.int .i64 1)))])
                        (.cond (.v 50)
                         (.skip [0, 1, 7, 8, 9, 10, 11, 12])
                         (.exit 4 [0, 1, 7, 8, 9, 10, 11])))
                       (.block 5
                        (.seq
                         (.region [] [] [0, 1, 7, 8, 9, 10, 11, 12, 13] false [
                           (none, .mv 51 (.v 11)),
                           (none, .mv 52 (.v 12)),
                           (none, .bin 53 .add (.v 51) (.v 52)),
                           (none, .bin 54 .quo (.v 53) (.c (.int .i64 2))),
                           (none, .asg 13 (.v 54) .copy)])
                         (.seq
                          (.region [(61, 1, false), (59, 1, false), (55, 0, false)] [] [0, 1, 7, 8, 9, 10, 11, 12, 13, 65] true [
                            (none, .mv 55 (.v 0)),
                            (none, .mv 56 (.v 13)),
                            (none, .mv 57 (.v 7)),
                            (none, .call (some 58) 751 false [((.v 55), false), ((.v 56), false), ((.v 57), false)]),
                            (none, .mv 59 (.v 1)),
                            (none, .mv 60 (.v 10)),
                            (none, .iadr 61 1 (.v 59) (.v 60)),
                            (none, .load 62 false 1 (.v 61) none),
                            (none, .mv 63 (.v 7)),
                            (none, .bin 64 .mul (.v 62) (.v 63)),
                            (none, .bin 65 .leq (.v 58) (.v 64))])
                          (.cond (.v 65)
                           (.region [] [] [0, 1, 7, 8, 9, 10, 11, 12] false [
                             (none, .mv 66 (.v 13)),
                             (none, .asg 11 (.v 66) .copy)])
                           (.region [] [] [0, 1, 7, 8, 9, 10, 11, 12] false [
                             (none, .mv 67 (.v 13)),
                             (none, .asg 12 (.v 67) .copy)]))))))))
                    (.seq
                     (.region [(74, 0, false), (70, 1, false), (68, 1, false)] [] [0, 1, 7, 8, 9, 10, 11, 14] true [
                       (none, .mv 68 (.v 1)),
                       (none, .mv 69 (.v 10)),
                       (none, .iadr 70 1 (.v 68) (.v 69)),
                       (none, .load 71 false 1 (.v 70) none),
                       (none, .mv 72 (.v 7)),
                       (none, .bin 73 .mul (.v 71) (.v 72)),
                       (none, .mv 74 (.v 0)),
                       (none, .mv 75 (.v 11)),
                       (none, .mv 76 (.v 7)),
                       (none, .call (some 77) 751 false [((.v 74), false), ((.v 75), false), ((.v 76), false)]),
                       (none, .bin 78 .sub (.v 73) (.v 77)),
                       (none, .asg 14 (.v 78) .copy)])
                     (.seq
                      (.seq
                       (.region [(91, 1, false), (89, 1, false), (84, 0, false)] [] [0, 1, 7, 8, 9, 10, 11, 98] true [
                         (none, .mv 79 (.v 11)),
                         (none, .bin 80 .add (.v 79) (.c (.int .i64 1))),
                         (none, .mv 81 (.v 8)),
                         (none, .bin 82 .lss (.v 80) (.v 81)),
                         (none, .mv 83 (.v 82)),
                         (some (83, true), .mv 84 (.v 0)),
                         (some (83, true), .mv 85 (.v 11)),
                         (some (83, true), .bin 86 .add (.v 85) (.c (.int .i64 1))),
                         (some (83, true), .mv 87 (.v 7)),
                         (some (83, true), .call (some 88) 751 false [((.v 84), false), ((.v 86), false), ((.v 87), false)]),
                         (some (83, true), .mv 89 (.v 1)),
                         (some (83, true), .mv 90 (.v 10)),
                         (some (83, true), .iadr 91 1 (.v 89) (.v 90)),
                         (some (83, true), .load 92 false 1 (.v 91) none),
                         (some (83, true), .mv 93 (.v 7)),
                         (some (83, true), .bin 94 .mul (.v 92) (.v 93)),
                         (some (83, true), .bin 95 .sub (.v 88) (.v 94)),
                         (some (83, true), .mv 96 (.v 14)),
                         (some (83, true), .bin 97 .lss (.v 95) (.v 96)),
                         (none, .pick 98 (.v 83) (.v 97) (.c (.bool false)))])
                       (.cond (.v 98)
                        (.region [] [] [0, 1, 7, 8, 9, 10, 11] false [
                          (none, .mv 99 (.v 11)),
                          (none, .bin 100 .add (.v 99) (.c (.int .i64 1))),
                          (none, .asg 11 (.v 100) .copy)])
                        (.skip [0, 1, 7, 8, 9, 10, 11])))
                      (.region [(101, 9, false)] [] [0, 1, 7, 8, 9, 10] false [
                        (none, .mv 101 (.v 9)),
                        (none, .mv 102 (.v 11)),
                        (none, .mksl 103 1 (.int .i64 0) 1 [(0, (.v 102), .copy)]),
                        (none, .app 104 1 (.v 101) (.v 103) .move),
                        (none, .asg 9 (.v 104) .move)])))))))
                (.region [] [] [0, 1, 7, 8, 9, 10] false [
                  (none, .mv 44 (.v 10)),
                  (none, .bin 45 .add (.v 44) (.c (.int .i64 1))),
                  (none, .asg 10 (.v 45) .copy)]))))))
           (.seq
            (.region [(105, 9, false)] [] [4, 5] false [
              (none, .mv 105 (.v 9)),
              (none, .asg 4 (.v 105) .move),
              (none, .asg 5 (.c (.int .i64 0)) .copy)])
            (.ret [4, 5])))))))))))⟩
def F611 : PFunc :=
 ⟨[false], [.tmp 2],
  (.seq
   (.region [] [] [0] false [
     (none, .asg 2 (.c (.int .i64 0)) .copy)])
   (.seq
    (.seq
     (.region [] [] [0, 4] false [
       (none, .mv 3 (.v 0)),
       (none, .bin 4 .lss (.v 3) (.c (.int .i64 0)))])
     (.cond (.v 4)
      (.seq
       (.region [] [] [2] false [
         (none, .mv 5 (.v 0)),
         (none, .un 6 .neg (.v 5)),
         (none, .asg 2 (.v 6) .copy)])
       (.ret [2]))
      (.skip [0])))
    (.seq
     (.region [] [] [2] false [
       (none, .mv 7 (.v 0)),
       (none, .asg 2 (.v 7) .copy)])
     (.ret [2]))))⟩
def F616 : PFunc :=
 ⟨[false, false], [.cell 4 true 2],
  (.seq
   (.region [] [] [0, 1, 4] false [
     (none, .new 4 (.agg [(.int .i64 0), (.int .i64 0)]))])
   (.seq
    (.region [] [] [0, 1, 4, 5] false [
      (none, .mv 6 (.v 0)),
      (none, .call (some 7) 611 false [((.v 6), false)]),
      (none, .mv 8 (.v 1)),
      (none, .call (some 9) 604 false [((.v 7), false), ((.v 8), false)]),
      (none, .asg 5 (.v 9) .copy)])
    (.seq
     (.region [] [] [4] true [
       (none, .mv 10 (.v 0)),
       (none, .mv 11 (.v 5)),
       (none, .bin 12 .quo (.v 10) (.v 11)),
       (none, .mv 13 (.v 1)),
       (none, .mv 14 (.v 5)),
       (none, .bin 15 .quo (.v 13) (.v 14)),
       (none, .build 16 [(.int .i64 0), (.int .i64 0)] [(0, 1, (.v 12), .copy), (1, 1, (.v 15), .copy)]),
       (none, .store 2 (.v 4) (.v 16) .copy)])
     (.ret [4]))))⟩
def F538 : PFunc :=
 ⟨[false], [.cell 2 true 2, .tmp 3],
  (.seq
   (.region [] [] [0, 2] false [
     (none, .new 2 (.agg [(.int .i64 0), (.int .i64 0)])),
     (none, .asg 3 (.c (.int .i64 0)) .copy)])
   (.seq
    (.seq
     (.region [(5, 0, false)] [] [0, 2, 7] false [
       (none, .mv 5 (.v 0)),
       (none, .call (some 6) 746 false [((.v 5), false)]),
       (none, .un 7 .not (.v 6))])
     (.cond (.v 7)
      (.seq
       (.region [] [] [2, 3] false [
         (none, .build 8 [(.int .i64 0), (.int .i64 0)] []),
         (none, .store 2 (.v 2) (.v 8) .copy),
         (none, .asg 3 (.c (.int .i64 1)) .copy)])
       (.ret [2, 3]))
      (.skip [0, 2])))
    (.seq
     (.region [(9, 0, false)] [] [0, 2, 4] false [
       (none, .mv 9 (.v 0)),
       (none, .call (some 10) 748 false [((.v 9), false)]),
       (none, .asg 4 (.v 10) .copy)])
     (.seq
      (.seq
       (.region [] [] [0, 2, 4, 12] false [
         (none, .mv 11 (.v 4)),
         (none, .bin 12 .eql (.v 11) (.c (.int .i64 0)))])
       (.cond (.v 12)
        (.seq
         (.region [] [] [2, 3] false [
           (none, .build 13 [(.int .i64 0), (.int .i64 0)] []),
           (none, .store 2 (.v 2) (.v 13) .copy),
           (none, .asg 3 (.c (.int .i64 5)) .copy)])
         (.ret [2, 3]))
        (.skip [0, 2, 4])))
      (.seq
       (.region [(15, 0, false), (14, 0, false)] [] [2, 3] false [
         (none, .mv 14 (.v 0)),
         (none, .mv 15 (.v 0)),
         (none, .call (some 16) 743 false [((.v 15), false)]),
         (none, .mv 17 (.v 4)),
         (none, .call (some 18) 751 false [((.v 14), false), ((.v 16), false), ((.v 17), false)]),
         (none, .mv 19 (.v 4)),
         (none, .call (some 20) 616 false [((.v 18), false), ((.v 19), false)]),
         (none, .store 2 (.v 2) (.v 20) .copy),
         (none, .asg 3 (.c (.int .i64 0)) .copy)])
       (.ret [2, 3]))))))⟩
def F581 : PFunc :=
 ⟨[false, false], [.tmp 4, .tmp 5],
  (.seq
   (.region [] [] [1, 2] false [
     (none, .box 2 (.v 0) .copy),
     (none, .asg 4 (.c (.int .i64 0)) .copy),
     (none, .asg 5 (.c (.int .i64 0)) .copy)])
   (.seq
    (.seq
     (.region [] [] [1, 2, 8] false [
       (none, .call (some 7) 747 false [((.v 2), false)]),
       (none, .un 8 .not (.v 7))])
     (.cond (.v 8)
      (.seq
       (.region [] [] [4, 5] false [
         (none, .asg 4 (.c (.int .i64 0)) .copy),
         (none, .asg 5 (.c (.int .i64 1)) .copy)])
       (.ret [4, 5]))
      (.skip [1, 2])))
    (.seq
     (.seq
      (.region [] [] [1, 2, 11] false [
        (none, .mv 9 (.v 1)),
        (none, .call (some 10) 605 false [((.v 9), false), ((.c (.int .i64 1)), false), ((.c (.int .i64 100000)), false)]),
        (none, .un 11 .not (.v 10))])
      (.cond (.v 11)
       (.seq
        (.region [] [] [4, 5] false [
          (none, .asg 4 (.c (.int .i64 0)) .copy),
          (none, .asg 5 (.c (.int .i64 2)) .copy)])
        (.ret [4, 5]))
       (.skip [1, 2])))
     (.seq
      (.seq
       (.region [] [] [1, 2, 6] false [
         (none, .asg 6 (.c (.int .i64 20)) .copy)])
       (.block 0
        (.loop
         (.seq
          (.seq
           (.region [] [] [1, 2, 6, 13] false [
             (none, .mv 12 (.v 6)),
             (none, .bin 13 .leq (.v 12) (.c (.int .i64 300)))])
           (.cond (.v 13)
            (.skip [1, 2, 6])
            (.exit 0 [])))
          (.seq
           (.block 1
            (.seq
             (.region [(19, 2, false), (16, 2, false)] [] [1, 2, 6, 25] false [
               (none, .fadr 16 0 1 (.v 2)),
               (none, .load 17 false 1 (.v 16) none),
               (none, .bin 18 .mul (.c (.int .i64 60)) (.v 17)),
               (none, .fadr 19 1 1 (.v 2)),
               (none, .load 20 false 1 (.v 19) none),
               (none, .bin 21 .mul (.v 18) (.v 20)),
               (none, .mv 22 (.v 1)),
               (none, .mv 23 (.v 6)),
               (none, .bin 24 .mul (.v 22) (.v 23)),
               (none, .bin 25 .leq (.v 21) (.v 24))])
             (.cond (.v 25)
              (.seq
               (.region [] [] [4, 5] false [
                 (none, .mv 26 (.v 6)),
                 (none, .asg 4 (.v 26) .copy),
                 (none, .asg 5 (.c (.int .i64 0)) .copy)])
               (.ret [4, 5]))
              (.skip [1, 2, 6]))))
           (.region [] [] [1, 2, 6] false [
             (none, .mv 14 (.v 6)),
             (none, .bin 15 .add (.v 14) (.c (.int .i64 1))),
             (none, .asg 6 (.v 15) .copy)]))))))
      (.seq
       (.region [] [] [4, 5] false [
         (none, .asg 4 (.c (.int .i64 0)) .copy),
         (none, .asg 5 (.c (.int .i64 3)) .copy)])
       (.ret [4, 5]))))))⟩
def F379 : PFunc :=
 ⟨[false], [.tmp 2],
  (.seq
   (.region [] [] [0] false [
     (none, .asg 2 (.c (.bool false)) .copy)])
   (.seq
    (.seq
     (.region [(34, 0, false)] [] [0, 35] false [
       (none, .mv 34 (.v 0)),
       (none, .call (some 35) 398 false [((.v 34), false)])])
     (.cond (.v 35)
      (.seq
       (.region [] [] [2] false [
         (none, .asg 2 (.c (.bool true)) .copy)])
       (.ret [2]))
      (.skip [0])))
    (.seq
     (.region [(37, 0, false)] [] [0, 3, 4] false [
       (none, .mv 37 (.v 0)),
       (none, .call (some 38) 455 false [((.v 37), false)]),
       (none, .asg 36 (.v 38) .move),
       (none, .ext 39 (.v 36) 0),
       (none, .extp 40 (.v 36) 1),
       (none, .asg 3 (.v 39) .move),
       (none, .asg 4 (.v 40) .copy)])
     (.seq
      (.region [(42, 3, false)] [] [0, 3, 4, 5, 6] false [
        (none, .mv 42 (.v 3)),
        (none, .mv 43 (.v 4)),
        (none, .call (some 44) 46 false [((.v 42), false), ((.v 43), false)]),
        (none, .asg 41 (.v 44) .copy),
        (none, .extp 45 (.v 41) 0),
        (none, .extp 46 (.v 41) 1),
        (none, .asg 5 (.v 45) .copy),
        (none, .asg 6 (.v 46) .copy)])
      (.seq
       (.region [(48, 3, false)] [] [0, 3, 4, 5, 6, 7, 8] false [
         (none, .mv 48 (.v 3)),
         (none, .mv 49 (.v 4)),
         (none, .call (some 50) 438 false [((.v 48), false), ((.v 49), false)]),
         (none, .asg 47 (.v 50) .copy),
         (none, .extp 51 (.v 47) 0),
         (none, .extp 52 (.v 47) 1),
         (none, .asg 7 (.v 51) .copy),
         (none, .asg 8 (.v 52) .copy)])
       (.seq
        (.region [(54, 3, false)] [] [0, 3, 4, 5, 6, 7, 8, 9, 10] false [
          (none, .mv 54 (.v 3)),
          (none, .call (some 55) 125 false [((.v 54), false)]),
          (none, .asg 53 (.v 55) .copy),
          (none, .extp 56 (.v 53) 0),
          (none, .extp 57 (.v 53) 1),
          (none, .new 9 (.agg [(.int .i64 0), (.int .i64 0)])),
          (none, .store 2 (.v 9) (.v 56) .copy),
          (none, .asg 10 (.v 57) .copy)])
        (.seq
         (.region [(59, 3, false)] [] [0, 3, 4, 5, 6, 7, 8, 9, 10, 11, 12] false [
           (none, .mv 59 (.v 3)),
           (none, .call (some 60) 538 false [((.v 59), false)]),
           (none, .asg 58 (.v 60) .copy),
           (none, .extp 61 (.v 58) 0),
           (none, .extp 62 (.v 58) 1),
           (none, .new 11 (.agg [(.int .i64 0), (.int .i64 0)])),
           (none, .store 2 (.v 11) (.v 61) .copy),
           (none, .asg 12 (.v 62) .copy)])
         (.seq
          (.region [(64, 0, false)] [] [0, 3, 4, 5, 6, 7, 8, 9, 10, 11, 12, 13, 14] false [
            (none, .mv 64 (.v 0)),
            (none, .call (some 65) 504 false [((.v 64), false)]),
            (none, .asg 63 (.v 65) .copy),
            (none, .extp 66 (.v 63) 0),
            (none, .extp 67 (.v 63) 1),
            (none, .new 13 (.agg [(.int .i64 0), (.int .i64 0), (.int .i64 0)])),
            (none, .store 3 (.v 13) (.v 66) .copy),
            (none, .asg 14 (.v 67) .copy)])
          (.seq
           (.region [] [] [0, 3, 4, 5, 6, 7, 8, 9, 10, 11, 12, 13, 14, 15, 16] false [
             (none, .load 69 true 3 (.v 13) none),
             (none, .mv 70 (.v 14)),
             (none, .call (some 71) 196 false [((.v 69), false), ((.v 70), false)]),
             (none, .asg 68 (.v 71) .copy),
             (none, .extp 72 (.v 68) 0),
             (none, .extp 73 (.v 68) 1),
             (none, .asg 15 (.v 72) .copy),
             (none, .asg 16 (.v 73) .copy)])
           (.seq
            (.region [] [] [0, 3, 4, 5, 6, 7, 8, 9, 10, 11, 12, 13, 14, 15, 16, 17, 18] false [
              (none, .load 75 true 3 (.v 13) none),
              (none, .mv 76 (.v 14)),
              (none, .call (some 77) 581 false [((.v 75), false), ((.v 76), false)]),
              (none, .asg 74 (.v 77) .copy),
              (none, .extp 78 (.v 74) 0),
              (none, .extp 79 (.v 74) 1),
              (none, .asg 17 (.v 78) .copy),
              (none, .asg 18 (.v 79) .copy)])
            (.seq
             (.region [(81, 0, false)] [] [3, 4, 5, 6, 7, 8, 9, 10, 11, 12, 13, 14, 15, 16, 17, 18, 19, 20] false [
               (none, .mv 81 (.v 0)),
               (none, .call (some 82) 473 false [((.v 81), false)]),
               (none, .asg 80 (.v 82) .move),
               (none, .ext 83 (.v 80) 0),
               (none, .ext 84 (.v 80) 1),
               (none, .asg 19 (.v 83) .move),
               (none, .asg 20 (.v 84) .move)])
             (.seq
              (.region [(87, 20, false), (86, 19, false)] [] [3, 4, 5, 6, 7, 8, 9, 10, 11, 12, 13, 14, 15, 16, 17, 18, 19, 20, 21, 22] false [
                (none, .mv 86 (.v 19)),
                (none, .mv 87 (.v 20)),
                (none, .call (some 88) 97 false [((.v 86), false), ((.v 87), false)]),
                (none, .asg 85 (.v 88) .move),
                (none, .ext 89 (.v 85) 0),
                (none, .extp 90 (.v 85) 1),
                (none, .asg 21 (.v 89) .move),
                (none, .asg 22 (.v 90) .copy)])
              (.seq
               (.region [(93, 20, false), (92, 19, false)] [] [3, 4, 5, 6, 7, 8, 9, 10, 11, 12, 13, 14, 15, 16, 17, 18, 20, 21, 22, 23, 24] false [
                 (none, .mv 92 (.v 19)),
                 (none, .mv 93 (.v 20)),
                 (none, .call (some 94) 522 false [((.v 92), false), ((.v 93), false)]),
                 (none, .asg 91 (.v 94) .move),
                 (none, .ext 95 (.v 91) 0),
                 (none, .extp 96 (.v 91) 1),
                 (none, .asg 23 (.v 95) .move),
                 (none, .asg 24 (.v 96) .copy)])
               (.seq
                (.seq
                 (.region [(132, 23, false), (131, 21, false)] [] [3, 4, 6, 7, 11, 13, 14, 16, 17, 20, 22, 23, 135] false [
                   (none, .mv 97 (.v 6)),
                   (none, .mv 98 (.v 8)),
                   (none, .bin 99 .neq (.v 97) (.v 98)),
                   (none, .mv 100 (.v 99)),
                   (some (100, false), .mv 101 (.v 5)),
                   (some (100, false), .mv 102 (.v 7)),
                   (some (100, false), .bin 103 .neq (.v 101) (.v 102)),
                   (none, .pick 104 (.v 100) (.c (.bool true)) (.v 103)),
                   (none, .mv 105 (.v 104)),
                   (some (105, false), .mv 106 (.v 10)),
                   (some (105, false), .mv 107 (.v 12)),
                   (some (105, false), .bin 108 .neq (.v 106) (.v 107)),
                   (none, .pick 109 (.v 105) (.c (.bool true)) (.v 108)),
                   (none, .mv 110 (.v 109)),
                   (some (110, false), .load 111 true 2 (.v 9) none),
                   (some (110, false), .load 112 true 2 (.v 11) none),
                   (some (110, false), .eqv 113 true [.i, .i] (.v 111) (.v 112)),
                   (none, .pick 114 (.v 110) (.c (.bool true)) (.v 113)),
                   (none, .mv 115 (.v 114)),
                   (some (115, false), .mv 116 (.v 16)),
                   (some (115, false), .mv 117 (.v 18)),
                   (some (115, false), .bin 118 .neq (.v 116) (.v 117)),
                   (none, .pick 119 (.v 115) (.c (.bool true)) (.v 118)),
                   (none, .mv 120 (.v 119)),
                   (some (120, false), .mv 121 (.v 15)),
                   (some (120, false), .mv 122 (.v 17)),
                   (some (120, false), .bin 123 .neq (.v 121) (.v 122)),
                   (none, .pick 124 (.v 120) (.c (.bool true)) (.v 123)),
                   (none, .mv 125 (.v 124)),
                   (some (125, false), .mv 126 (.v 22)),
                   (some (125, false), .mv 127 (.v 24)),
                   (some (125, false), .bin 128 .neq (.v 126) (.v 127)),
                   (none, .pick 129 (.v 125) (.c (.bool true)) (.v 128)),
                   (none, .mv 130 (.v 129)),
                   (some (130, false), .mv 131 (.v 21)),
                   (some (130, false), .mv 132 (.v 23)),
                   (some (130, false), .call (some 133) 400 false [((.v 131), false), ((.v 132), false)]),
                   (some (130, false), .un 134 .not (.v 133)),
                   (none, .pick 135 (.v 130) (.c (.bool true)) (.v 134))])
                 (.cond (.v 135)
                  (.seq
                   (.region [] [] [2] false [
                     (none, .asg 2 (.c (.bool false)) .copy)])
                   (.ret [2]))
                  (.skip [3, 4, 6, 7, 11, 13, 14, 16, 17, 20, 22, 23])))
                (.seq
                 (.seq
                  (.region [] [] [3, 4, 6, 7, 11, 13, 14, 17, 20, 22, 23, 137] false [
                    (none, .mv 136 (.v 16)),
                    (none, .bin 137 .eql (.v 136) (.c (.int .i64 0)))])
                  (.cond (.v 137)
                   (.seq
                    (.region [] [] [3, 4, 6, 7, 11, 14, 17, 20, 22, 23, 25] false [
                      (none, .load 138 true 3 (.v 13) none),
                      (none, .new 25 (.agg [(.int .i64 0), (.int .i64 0), (.int .i64 0)])),
                      (none, .store 3 (.v 25) (.v 138) .copy)])
                    (.seq
                     (.region [(140, 25, false)] [] [3, 4, 6, 7, 11, 14, 20, 22, 23, 25] false [
                       (none, .mv 139 (.v 17)),
                       (none, .fadr 140 2 1 (.v 25)),
                       (none, .store 1 (.v 140) (.v 139) .copy)])
                     (.seq
                      (.region [] [] [3, 4, 6, 7, 11, 14, 20, 22, 23, 26, 27] false [
                        (none, .load 142 true 3 (.v 25) none),
                        (none, .mksl 143 3 (.agg [(.int .i64 0), (.int .i64 0), (.int .i64 0)]) 1 [(0, (.v 142), .copy)]),
                        (none, .call (some 144) 125 false [((.v 143), false)]),
                        (none, .asg 141 (.v 144) .copy),
                        (none, .extp 145 (.v 141) 0),
                        (none, .extp 146 (.v 141) 1),
                        (none, .new 26 (.agg [(.int .i64 0), (.int .i64 0)])),
                        (none, .store 2 (.v 26) (.v 145) .copy),
                        (none, .asg 27 (.v 146) .copy)])
                      (.seq
                       (.region [(163, 26, false), (160, 26, false), (155, 26, false), (150, 26, false)] [] [3, 4, 6, 7, 11, 20, 22, 23, 167] false [
                         (none, .mv 147 (.v 27)),
                         (none, .bin 148 .neq (.v 147) (.c (.int .i64 0))),
                         (none, .mv 149 (.v 148)),
                         (some (149, false), .fadr 150 1 1 (.v 26)),
                         (some (149, false), .load 151 false 1 (.v 150) none),
                         (some (149, false), .bin 152 .lss (.v 151) (.c (.int .i64 1))),
                         (none, .pick 153 (.v 149) (.c (.bool true)) (.v 152)),
                         (none, .mv 154 (.v 153)),
                         (some (154, false), .fadr 155 1 1 (.v 26)),
                         (some (154, false), .load 156 false 1 (.v 155) none),
                         (some (154, false), .bin 157 .gtr (.v 156) (.c (.int .i64 300))),
                         (none, .pick 158 (.v 154) (.c (.bool true)) (.v 157)),
                         (none, .mv 159 (.v 158)),
                         (some (159, false), .fadr 160 0 1 (.v 26)),
                         (some (159, false), .load 161 false 1 (.v 160) none),
                         (some (159, false), .mv 162 (.v 14)),
                         (some (159, false), .fadr 163 1 1 (.v 26)),
                         (some (159, false), .load 164 false 1 (.v 163) none),
                         (some (159, false), .bin 165 .mul (.v 162) (.v 164)),
                         (some (159, false), .bin 166 .gtr (.v 161) (.v 165)),
                         (none, .pick 167 (.v 159) (.c (.bool true)) (.v 166))])
                       (.cond (.v 167)
                        (.seq
                         (.region [] [] [2] false [
                           (none, .asg 2 (.c (.bool false)) .copy)])
                         (.ret [2]))
                        (.skip [3, 4, 6, 7, 11, 20, 22, 23]))))))
                   (.skip [3, 4, 6, 7, 11, 20, 22, 23])))
                 (.seq
                  (.seq
                   (.region [(173, 20, false), (171, 23, false)] [] [3, 4, 6, 7, 11, 176] false [
                     (none, .mv 168 (.v 22)),
                     (none, .bin 169 .eql (.v 168) (.c (.int .i64 0))),
                     (none, .mv 170 (.v 169)),
                     (some (170, true), .mv 171 (.v 23)),
                     (some (170, true), .len 172 false (.v 171)),
                     (some (170, true), .mv 173 (.v 20)),
                     (some (170, true), .len 174 false (.v 173)),
                     (some (170, true), .bin 175 .neq (.v 172) (.v 174)),
                     (none, .pick 176 (.v 170) (.v 175) (.c (.bool false)))])
                   (.cond (.v 176)
                    (.seq
                     (.region [] [] [2] false [
                       (none, .asg 2 (.c (.bool false)) .copy)])
                     (.ret [2]))
                    (.skip [3, 4, 6, 7, 11])))
                  (.seq
                   (.seq
                    (.region [] [] [3, 4, 6, 7, 11, 178] false [
                      (none, .mv 177 (.v 6)),
                      (none, .bin 178 .neq (.v 177) (.c (.int .i64 0)))])
                    (.cond (.v 178)
                     (.seq
                      (.region [(185, 11, false), (182, 11, false)] [] [2] false [
                        (none, .mv 179 (.v 6)),
                        (none, .bin 180 .neq (.v 179) (.c (.int .i64 3))),
                        (none, .mv 181 (.v 180)),
                        (some (181, false), .fadr 182 0 1 (.v 11)),
                        (some (181, false), .load 183 false 1 (.v 182) none),
                        (some (181, false), .mv 184 (.v 4)),
                        (some (181, false), .fadr 185 1 1 (.v 11)),
                        (some (181, false), .load 186 false 1 (.v 185) none),
                        (some (181, false), .bin 187 .mul (.v 184) (.v 186)),
                        (some (181, false), .bin 188 .leq (.v 183) (.v 187)),
                        (none, .pick 189 (.v 181) (.c (.bool true)) (.v 188)),
                        (none, .asg 2 (.v 189) .copy)])
                      (.ret [2]))
                     (.skip [3, 4, 7, 11])))
                   (.seq
                    (.region [(191, 3, false)] [] [3, 4, 7, 11, 28, 29] false [
                      (none, .mv 191 (.v 3)),
                      (none, .mv 192 (.v 7)),
                      (none, .call (some 193) 199 false [((.v 191), false), ((.v 192), false)]),
                      (none, .asg 190 (.v 193) .copy),
                      (none, .extp 194 (.v 190) 0),
                      (none, .extp 195 (.v 190) 1),
                      (none, .new 28 (.agg [(.int .i64 0), (.int .i64 0)])),
                      (none, .store 2 (.v 28) (.v 194) .copy),
                      (none, .asg 29 (.v 195) .copy)])
                    (.seq
                     (.seq
                      (.region [(221, 11, false), (218, 11, false), (212, 28, false), (209, 28, false), (204, 28, false), (199, 28, false)] [] [3, 4, 7, 225] false [
                        (none, .mv 196 (.v 29)),
                        (none, .bin 197 .neq (.v 196) (.c (.int .i64 0))),
                        (none, .mv 198 (.v 197)),
                        (some (198, false), .fadr 199 1 1 (.v 28)),
                        (some (198, false), .load 200 false 1 (.v 199) none),
                        (some (198, false), .bin 201 .lss (.v 200) (.c (.int .i64 1))),
                        (none, .pick 202 (.v 198) (.c (.bool true)) (.v 201)),
                        (none, .mv 203 (.v 202)),
                        (some (203, false), .fadr 204 1 1 (.v 28)),
                        (some (203, false), .load 205 false 1 (.v 204) none),
                        (some (203, false), .bin 206 .gtr (.v 205) (.c (.int .i64 100000000))),
                        (none, .pick 207 (.v 203) (.c (.bool true)) (.v 206)),
                        (none, .mv 208 (.v 207)),
                        (some (208, false), .fadr 209 0 1 (.v 28)),
                        (some (208, false), .load 210 false 1 (.v 209) none),
                        (some (208, false), .mv 211 (.v 4)),
                        (some (208, false), .fadr 212 1 1 (.v 28)),
                        (some (208, false), .load 213 false 1 (.v 212) none),
                        (some (208, false), .bin 214 .mul (.v 211) (.v 213)),
                        (some (208, false), .bin 215 .gtr (.v 210) (.v 214)),
                        (none, .pick 216 (.v 208) (.c (.bool true)) (.v 215)),
                        (none, .mv 217 (.v 216)),
                        (some (217, false), .fadr 218 0 1 (.v 11)),
                        (some (217, false), .load 219 false 1 (.v 218) none),
                        (some (217, false), .mv 220 (.v 4)),
                        (some (217, false), .fadr 221 1 1 (.v 11)),
                        (some (217, false), .load 222 false 1 (.v 221) none),
                        (some (217, false), .bin 223 .mul (.v 220) (.v 222)),
                        (some (217, false), .bin 224 .leq (.v 219) (.v 223)),
                        (none, .pick 225 (.v 217) (.c (.bool true)) (.v 224))])
                      (.cond (.v 225)
                       (.seq
                        (.region [] [] [2] false [
                          (none, .asg 2 (.c (.bool false)) .copy)])
                        (.ret [2]))
                       (.skip [3, 4, 7])))
                     (.seq
                      (.region [(227, 3, false)] [] [3, 4, 7, 30, 31] false [
                        (none, .mv 227 (.v 3)),
                        (none, .call (some 228) 48 false [((.v 227), false)]),
                        (none, .asg 226 (.v 228) .copy),
                        (none, .extp 229 (.v 226) 0),
                        (none, .extp 230 (.v 226) 1),
                        (none, .asg 30 (.v 229) .copy),
                        (none, .asg 31 (.v 230) .copy)])
                      (.seq
                       (.seq
                        (.region [] [] [3, 4, 7, 31, 238] false [
                          (none, .mv 231 (.v 31)),
                          (none, .bin 232 .neq (.v 231) (.c (.int .i64 0))),
                          (none, .mv 233 (.v 232)),
                          (some (233, false), .mv 234 (.v 7)),
                          (some (233, false), .bin 235 .add (.v 234) (.c (.int .i64 1))),
                          (some (233, false), .mv 236 (.v 30)),
                          (some (233, false), .bin 237 .geq (.v 235) (.v 236)),
                          (none, .pick 238 (.v 233) (.c (.bool true)) (.v 237))])
                        (.cond (.v 238)
                         (.seq
                          (.region [] [] [2] false [
                            (none, .mv 239 (.v 31)),
                            (none, .bin 240 .eql (.v 239) (.c (.int .i64 0))),
                            (none, .asg 2 (.v 240) .copy)])
                          (.ret [2]))
                         (.skip [3, 4, 7])))
                       (.seq
                        (.region [(242, 3, false)] [] [4, 32, 33] false [
                          (none, .mv 242 (.v 3)),
                          (none, .mv 243 (.v 7)),
                          (none, .bin 244 .add (.v 243) (.c (.int .i64 1))),
                          (none, .call (some 245) 199 false [((.v 242), false), ((.v 244), false)]),
                          (none, .asg 241 (.v 245) .copy),
                          (none, .extp 246 (.v 241) 0),
                          (none, .extp 247 (.v 241) 1),
                          (none, .new 32 (.agg [(.int .i64 0), (.int .i64 0)])),
                          (none, .store 2 (.v 32) (.v 246) .copy),
                          (none, .asg 33 (.v 247) .copy)])
                        (.seq
                         (.region [(264, 32, false), (261, 32, false), (256, 32, false), (251, 32, false)] [] [2] false [
                           (none, .mv 248 (.v 33)),
                           (none, .bin 249 .eql (.v 248) (.c (.int .i64 0))),
                           (none, .mv 250 (.v 249)),
                           (some (250, true), .fadr 251 1 1 (.v 32)),
                           (some (250, true), .load 252 false 1 (.v 251) none),
                           (some (250, true), .bin 253 .geq (.v 252) (.c (.int .i64 1))),
                           (none, .pick 254 (.v 250) (.v 253) (.c (.bool false))),
                           (none, .mv 255 (.v 254)),
                           (some (255, true), .fadr 256 1 1 (.v 32)),
                           (some (255, true), .load 257 false 1 (.v 256) none),
                           (some (255, true), .bin 258 .leq (.v 257) (.c (.int .i64 100000000))),
                           (none, .pick 259 (.v 255) (.v 258) (.c (.bool false))),
                           (none, .mv 260 (.v 259)),
                           (some (260, true), .fadr 261 0 1 (.v 32)),
                           (some (260, true), .load 262 false 1 (.v 261) none),
                           (some (260, true), .mv 263 (.v 4)),
                           (some (260, true), .fadr 264 1 1 (.v 32)),
                           (some (260, true), .load 265 false 1 (.v 264) none),
                           (some (260, true), .bin 266 .mul (.v 263) (.v 265)),
                           (some (260, true), .bin 267 .gtr (.v 262) (.v 266)),
                           (none, .pick 268 (.v 260) (.v 267) (.c (.bool false))),
                           (none, .asg 2 (.v 268) .copy)])
                         (.ret [2]))))))))))))))))))))))))⟩
def tabl : List (Nat × PFunc) := [(326, F326), (47, F47), (323, F323), (224, F224), (825, F825), (803, F803), (223, F223), (248, F248), (269, F269), (259, F259), (321, F321), (317, F317), (46, F46), (246, F246), (48, F48), (99, F99), (818, F818), (796, F796), (98, F98), (245, F245), (97, F97), (126, F126), (292, F292), (125, F125), (196, F196), (200, F200), (199, F199), (398, F398), (400, F400), (605, F605), (743, F743), (747, F747), (746, F746), (604, F604), (748, F748), (607, F607), (751, F751), (438, F438), (603, F603), (5, F5), (7, F7), (4, F4), (6, F6), (745, F745), (750, F750), (744, F744), (749, F749), (455, F455), (473, F473), (504, F504), (522, F522), (611, F611), (616, F616), (538, F538), (581, F581), (379, F379)]
def T : Nat → Option PFunc := tabOf tabl
end Go.Vs.G
