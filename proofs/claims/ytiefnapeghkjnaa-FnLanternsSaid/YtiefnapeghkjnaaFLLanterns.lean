/- The functions that the law reaches, in the small language, printed by program. No conditions. -/
import Derived.Test.YtiefnapeghkjnaaDLLanterns
import Derived.Test.YtiefnapeghkjnaaV4
set_option maxRecDepth 100000
open Go Go.Vs
namespace Go.Vs.G
def F43 : PFunc :=
 ⟨[false, false, false], [.tmp 5],
  (.seq
   (.region [] [] [0, 1, 2] false [
     (none, .asg 5 (.c (.int .i64 0)) .copy)])
   (.seq
    (.region [(14, 2, true), (13, 2, true), (11, 2, true), (9, 2, true), (8, 2, true), (6, 2, true)] [] [5] true [
      (none, .load 6 false 1 (.v 2) none),
      (none, .mv 7 (.v 0)),
      (none, .iadr 8 3 (.v 6) (.v 7)),
      (none, .fadr 9 0 1 (.v 8)),
      (none, .load 10 false 1 (.v 9) none),
      (none, .load 11 false 1 (.v 2) none),
      (none, .mv 12 (.v 1)),
      (none, .iadr 13 3 (.v 11) (.v 12)),
      (none, .fadr 14 0 1 (.v 13)),
      (none, .load 15 false 1 (.v 14) none),
      (none, .bin 16 .sub (.v 10) (.v 15)),
      (none, .asg 5 (.v 16) .copy)])
    (.ret [5])))⟩
def F44 : PFunc :=
 ⟨[false, false, false], [.tmp 4],
  (.seq
   (.region [] [] [0, 1, 2] false [
     (none, .asg 4 (.c (.bool false)) .copy)])
   (.seq
    (.region [(9, 1, true), (8, 1, true), (6, 1, true)] [] [4] false [
      (none, .mv 5 (.v 0)),
      (none, .load 6 false 1 (.v 1) none),
      (none, .load 7 false 1 (.v 2) none),
      (none, .iadr 8 3 (.v 6) (.v 7)),
      (none, .fadr 9 0 1 (.v 8)),
      (none, .load 10 false 1 (.v 9) none),
      (none, .bin 11 .leq (.v 5) (.v 10)),
      (none, .asg 4 (.v 11) .copy)])
    (.ret [4])))⟩
def F326 : PFunc :=
 ⟨[false, false, false], [.tmp 6],
  (.seq
   (.region [] [] [0, 1, 2] false [
     (none, .asg 6 (.c (.bool false)) .copy)])
   (.seq
    (.region [] [] [6] false [
      (none, .mv 7 (.v 0)),
      (none, .mv 8 (.v 1)),
      (none, .bin 9 .geq (.v 7) (.v 8)),
      (none, .mv 10 (.v 9)),
      (some (10, true), .mv 11 (.v 0)),
      (some (10, true), .mv 12 (.v 2)),
      (some (10, true), .bin 13 .leq (.v 11) (.v 12)),
      (none, .pick 14 (.v 10) (.v 13) (.c (.bool false))),
      (none, .asg 6 (.v 14) .copy)])
    (.ret [6])))⟩
def F231 : PFunc :=
 ⟨[false], [.tmp 2],
  (.seq
   (.region [] [] [1] false [
     (none, .box 1 (.v 0) .copy),
     (none, .asg 2 (.c (.bool false)) .copy)])
   (.seq
    (.region [(17, 1, false), (10, 1, false), (8, 1, false), (3, 1, false)] [] [2] false [
      (none, .fadr 3 0 1 (.v 1)),
      (none, .load 4 false 1 (.v 3) none),
      (none, .call (some 5) 326 false [((.v 4), false), ((.c (.int .i64 0)), false), ((.c (.int .i64 10000)), false)]),
      (none, .un 6 .not (.v 5)),
      (none, .mv 7 (.v 6)),
      (some (7, false), .fadr 8 1 1 (.v 1)),
      (some (7, false), .load 9 false 1 (.v 8) none),
      (some (7, false), .fadr 10 0 1 (.v 1)),
      (some (7, false), .load 11 false 1 (.v 10) none),
      (some (7, false), .bin 12 .add (.v 11) (.c (.int .i64 1))),
      (some (7, false), .call (some 13) 326 false [((.v 9), false), ((.v 12), false), ((.c (.int .i64 20000)), false)]),
      (some (7, false), .un 14 .not (.v 13)),
      (none, .pick 15 (.v 7) (.c (.bool true)) (.v 14)),
      (none, .mv 16 (.v 15)),
      (some (16, false), .fadr 17 2 1 (.v 1)),
      (some (16, false), .load 18 false 1 (.v 17) none),
      (some (16, false), .call (some 19) 326 false [((.v 18), false), ((.c (.int .i64 0)), false), ((.c (.int .i64 500)), false)]),
      (some (16, false), .un 20 .not (.v 19)),
      (none, .pick 21 (.v 16) (.c (.bool true)) (.v 20)),
      (none, .asg 2 (.v 21) .copy)])
    (.ret [2])))⟩
def F828 : PFunc :=
 ⟨[false, false], [.tmp 4],
  (.seq
   (.region [] [] [0, 1] false [
     (none, .asg 4 (.c (.int .i64 0)) .copy)])
   (.seq
    (.seq
     (.region [(6, 0, false)] [] [0, 1, 7, 8] false [
       (none, .mv 6 (.v 0)),
       (none, .len 7 false (.v 6)),
       (none, .mv 8 (.c (.int .i64 0)))])
     (.block 0
      (.loop
       (.seq
        (.region [] [] [0, 1, 7, 8, 9] false [
          (none, .bin 9 .lss (.v 8) (.v 7))])
        (.seq
         (.cond (.v 9)
          (.skip [0, 1, 7, 8])
          (.exit 0 []))
         (.seq
          (.block 1
           (.seq
            (.region [] [] [0, 1, 5, 7, 8] false [
              (none, .mv 10 (.v 8)),
              (none, .asg 5 (.v 10) .copy)])
            (.seq
             (.region [(14, 0, false), (12, 0, false), (11, 1, false)] [] [0, 1, 5, 7, 8, 16] false [
               (none, .mv 11 (.v 1)),
               (none, .mv 12 (.v 0)),
               (none, .mv 13 (.v 5)),
               (none, .iadr 14 3 (.v 12) (.v 13)),
               (none, .load 15 true 3 (.v 14) none),
               (none, .callv (some 16) (.v 11) [(.v 15)])])
             (.cond (.v 16)
              (.seq
               (.region [] [] [4] false [
                 (none, .mv 17 (.v 5)),
                 (none, .asg 4 (.v 17) .copy)])
               (.ret [4]))
              (.skip [0, 1, 7, 8])))))
          (.region [] [] [0, 1, 7, 8] false [
            (none, .bin 18 .add (.v 8) (.c (.int .i64 1))),
            (none, .mv 8 (.v 18))])))))))
    (.seq
     (.region [] [] [4] false [
       (none, .asg 4 (.c (.int .i64 (-1))) .copy)])
     (.ret [4]))))⟩
def F806 : PFunc :=
 ⟨[false, false], [.tmp 4],
  (.seq
   (.region [] [] [0, 1] false [
     (none, .asg 4 (.c (.bool false)) .copy)])
   (.seq
    (.region [(6, 1, false), (5, 0, false)] [] [4] false [
      (none, .mv 5 (.v 0)),
      (none, .mv 6 (.v 1)),
      (none, .call (some 7) 828 false [((.v 5), false), ((.v 6), false)]),
      (none, .bin 8 .geq (.v 7) (.c (.int .i64 0))),
      (none, .asg 4 (.v 8) .copy)])
    (.ret [4])))⟩
def F230 : PFunc :=
 ⟨[false], [.tmp 2],
  (.seq
   (.region [] [] [0] false [
     (none, .asg 2 (.c (.bool false)) .copy)])
   (.seq
    (.region [(7, 0, false), (3, 0, false)] [] [2] false [
      (none, .mv 3 (.v 0)),
      (none, .len 4 false (.v 3)),
      (none, .bin 5 .leq (.v 4) (.c (.int .i64 12))),
      (none, .mv 6 (.v 5)),
      (some (6, true), .mv 7 (.v 0)),
      (some (6, true), .call (some 8) 806 false [((.v 7), false), ((.c (.fn 231 [])), false)]),
      (some (6, true), .un 9 .not (.v 8)),
      (none, .pick 10 (.v 6) (.v 9) (.c (.bool false))),
      (none, .asg 2 (.v 10) .copy)])
    (.ret [2])))⟩
def F818 : PFunc :=
 ⟨[false, false], [.tmp 4],
  (.seq
   (.region [] [] [0, 1] false [
     (none, .asg 4 (.c (.int .i64 0)) .copy)])
   (.seq
    (.seq
     (.region [(6, 0, false)] [] [0, 1, 7, 8] false [
       (none, .mv 6 (.v 0)),
       (none, .len 7 false (.v 6)),
       (none, .mv 8 (.c (.int .i64 0)))])
     (.block 0
      (.loop
       (.seq
        (.region [] [] [0, 1, 7, 8, 9] false [
          (none, .bin 9 .lss (.v 8) (.v 7))])
        (.seq
         (.cond (.v 9)
          (.skip [0, 1, 7, 8])
          (.exit 0 []))
         (.seq
          (.block 1
           (.seq
            (.region [] [] [0, 1, 5, 7, 8] false [
              (none, .mv 10 (.v 8)),
              (none, .asg 5 (.v 10) .copy)])
            (.seq
             (.region [(14, 0, false), (12, 0, false), (11, 1, false)] [] [0, 1, 5, 7, 8, 16] false [
               (none, .mv 11 (.v 1)),
               (none, .mv 12 (.v 0)),
               (none, .mv 13 (.v 5)),
               (none, .iadr 14 1 (.v 12) (.v 13)),
               (none, .load 15 false 1 (.v 14) none),
               (none, .callv (some 16) (.v 11) [(.v 15)])])
             (.cond (.v 16)
              (.seq
               (.region [] [] [4] false [
                 (none, .mv 17 (.v 5)),
                 (none, .asg 4 (.v 17) .copy)])
               (.ret [4]))
              (.skip [0, 1, 7, 8])))))
          (.region [] [] [0, 1, 7, 8] false [
            (none, .bin 18 .add (.v 8) (.c (.int .i64 1))),
            (none, .mv 8 (.v 18))])))))))
    (.seq
     (.region [] [] [4] false [
       (none, .asg 4 (.c (.int .i64 (-1))) .copy)])
     (.ret [4]))))⟩
def F843 : PFunc :=
 ⟨[true, false, false, false], [],
  (.seq
   (.region [] [] [0, 1, 2, 3, 8] false [
     (none, .mv 10 (.v 1)),
     (none, .bin 11 .add (.v 10) (.c (.int .i64 1))),
     (none, .asg 8 (.v 11) .copy)])
   (.block 0
    (.loop
     (.seq
      (.seq
       (.region [] [] [0, 1, 2, 3, 8, 14] false [
         (none, .mv 12 (.v 8)),
         (none, .mv 13 (.v 2)),
         (none, .bin 14 .lss (.v 12) (.v 13))])
       (.cond (.v 14)
        (.skip [0, 1, 2, 3, 8])
        (.exit 0 [0])))
      (.seq
       (.block 1
        (.seq
         (.region [] [] [0, 1, 2, 3, 8, 9] false [
           (none, .mv 17 (.v 8)),
           (none, .asg 9 (.v 17) .copy)])
         (.block 2
          (.loop
           (.seq
            (.seq
             (.region [(30, 0, false), (27, 0, false), (25, 0, false), (23, 0, false), (22, 3, false)] [] [0, 1, 2, 3, 8, 9, 34] true [
               (none, .mv 18 (.v 9)),
               (none, .mv 19 (.v 1)),
               (none, .bin 20 .gtr (.v 18) (.v 19)),
               (none, .mv 21 (.v 20)),
               (some (21, true), .mv 22 (.v 3)),
               (some (21, true), .mvr 23 0),
               (some (21, true), .mv 24 (.v 9)),
               (some (21, true), .iadr 25 1 (.v 23) (.v 24)),
               (some (21, true), .load 26 false 1 (.v 25) none),
               (some (21, true), .mvr 27 0),
               (some (21, true), .mv 28 (.v 9)),
               (some (21, true), .bin 29 .sub (.v 28) (.c (.int .i64 1))),
               (some (21, true), .iadr 30 1 (.v 27) (.v 29)),
               (some (21, true), .load 31 false 1 (.v 30) none),
               (some (21, true), .callv (some 32) (.v 22) [(.v 26), (.v 31)]),
               (some (21, true), .bin 33 .lss (.v 32) (.c (.int .i64 0))),
               (none, .pick 34 (.v 21) (.v 33) (.c (.bool false)))])
             (.cond (.v 34)
              (.skip [0, 1, 2, 3, 8, 9])
              (.exit 2 [0, 1, 2, 3, 8])))
            (.seq
             (.block 3
              (.region [(52, 0, false), (51, 0, false), (49, 0, false), (47, 0, false), (45, 0, false), (42, 0, false), (39, 0, false), (37, 0, false)] [] [0, 1, 2, 3, 8, 9] true [
                (none, .mvr 37 0),
                (none, .mv 38 (.v 9)),
                (none, .mvr 39 0),
                (none, .mv 40 (.v 9)),
                (none, .bin 41 .sub (.v 40) (.c (.int .i64 1))),
                (none, .mvr 42 0),
                (none, .mv 43 (.v 9)),
                (none, .bin 44 .sub (.v 43) (.c (.int .i64 1))),
                (none, .iadr 45 1 (.v 42) (.v 44)),
                (none, .load 46 false 1 (.v 45) none),
                (none, .mvr 47 0),
                (none, .mv 48 (.v 9)),
                (none, .iadr 49 1 (.v 47) (.v 48)),
                (none, .load 50 false 1 (.v 49) none),
                (none, .iadr 51 1 (.v 37) (.v 38)),
                (none, .store 1 (.v 51) (.v 46) .copy),
                (none, .iadr 52 1 (.v 39) (.v 41)),
                (none, .store 1 (.v 52) (.v 50) .copy)]))
             (.region [] [] [0, 1, 2, 3, 8, 9] false [
               (none, .mv 35 (.v 9)),
               (none, .bin 36 .sub (.v 35) (.c (.int .i64 1))),
               (none, .asg 9 (.v 36) .copy)])))))))
       (.region [] [] [0, 1, 2, 3, 8] false [
         (none, .mv 15 (.v 8)),
         (none, .bin 16 .add (.v 15) (.c (.int .i64 1))),
         (none, .asg 8 (.v 16) .copy)]))))))⟩
def F866 : PFunc :=
 ⟨[true, false, false], [],
  (.seq
   (.region [] [] [0, 1, 2, 6] false [
     (none, .asg 6 (.c (.int .i64 20)) .copy)])
   (.seq
    (.region [] [] [0, 1, 2, 6, 7, 8] false [
      (none, .mv 10 (.v 6)),
      (none, .asg 7 (.c (.int .i64 0)) .copy),
      (none, .asg 8 (.v 10) .copy)])
    (.seq
     (.block 0
      (.loop
       (.seq
        (.seq
         (.region [] [] [0, 1, 2, 6, 7, 8, 13] false [
           (none, .mv 11 (.v 8)),
           (none, .mv 12 (.v 1)),
           (none, .bin 13 .leq (.v 11) (.v 12))])
         (.cond (.v 13)
          (.skip [0, 1, 2, 6, 7, 8])
          (.exit 0 [0, 1, 2, 6, 7])))
        (.block 1
         (.seq
          (.region [(17, 2, false), (14, 0, false)] [] [0, 1, 2, 6, 8] false [
            (none, .mv 14 (.v 0)),
            (none, .mv 15 (.v 7)),
            (none, .mv 16 (.v 8)),
            (none, .mv 17 (.v 2)),
            (none, .call (some 18) 843 false [((.v 14), true), ((.v 15), false), ((.v 16), false), ((.v 17), false)])])
          (.seq
           (.region [] [] [0, 1, 2, 6, 7, 8] false [
             (none, .mv 19 (.v 8)),
             (none, .asg 7 (.v 19) .copy)])
           (.region [] [] [0, 1, 2, 6, 7, 8] false [
             (none, .mv 20 (.v 8)),
             (none, .mv 21 (.v 6)),
             (none, .bin 22 .add (.v 20) (.v 21)),
             (none, .asg 8 (.v 22) .copy)])))))))
     (.seq
      (.region [(26, 2, false), (23, 0, false)] [] [0, 1, 2, 6] false [
        (none, .mv 23 (.v 0)),
        (none, .mv 24 (.v 7)),
        (none, .mv 25 (.v 1)),
        (none, .mv 26 (.v 2)),
        (none, .call (some 27) 843 false [((.v 23), true), ((.v 24), false), ((.v 25), false), ((.v 26), false)])])
      (.block 2
       (.loop
        (.seq
         (.seq
          (.region [] [] [0, 1, 2, 6, 30] false [
            (none, .mv 28 (.v 6)),
            (none, .mv 29 (.v 1)),
            (none, .bin 30 .lss (.v 28) (.v 29))])
          (.cond (.v 30)
           (.skip [0, 1, 2, 6])
           (.exit 2 [0])))
         (.block 3
          (.seq
           (.region [] [] [0, 1, 2, 6, 7, 8] false [
             (none, .mv 31 (.v 6)),
             (none, .bin 32 .mul (.c (.int .i64 2)) (.v 31)),
             (none, .asg 7 (.c (.int .i64 0)) .copy),
             (none, .asg 8 (.v 32) .copy)])
           (.seq
            (.block 4
             (.loop
              (.seq
               (.seq
                (.region [] [] [0, 1, 2, 6, 7, 8, 35] false [
                  (none, .mv 33 (.v 8)),
                  (none, .mv 34 (.v 1)),
                  (none, .bin 35 .leq (.v 33) (.v 34))])
                (.cond (.v 35)
                 (.skip [0, 1, 2, 6, 7, 8])
                 (.exit 4 [0, 1, 2, 6, 7])))
               (.block 5
                (.seq
                 (.region [(42, 2, false), (36, 0, false)] [] [0, 1, 2, 6, 8] false [
                   (none, .mv 36 (.v 0)),
                   (none, .mv 37 (.v 7)),
                   (none, .mv 38 (.v 7)),
                   (none, .mv 39 (.v 6)),
                   (none, .bin 40 .add (.v 38) (.v 39)),
                   (none, .mv 41 (.v 8)),
                   (none, .mv 42 (.v 2)),
                   (none, .nope (some 43))])
                 (.seq
                  (.region [] [] [0, 1, 2, 6, 7, 8] false [
                    (none, .mv 44 (.v 8)),
                    (none, .asg 7 (.v 44) .copy)])
                  (.region [] [] [0, 1, 2, 6, 7, 8] false [
                    (none, .mv 45 (.v 8)),
                    (none, .mv 46 (.v 6)),
                    (none, .bin 47 .mul (.c (.int .i64 2)) (.v 46)),
                    (none, .bin 48 .add (.v 45) (.v 47)),
                    (none, .asg 8 (.v 48) .copy)])))))))
            (.seq
             (.seq
              (.region [] [] [0, 1, 2, 6, 7, 9] false [
                (none, .mv 49 (.v 7)),
                (none, .mv 50 (.v 6)),
                (none, .bin 51 .add (.v 49) (.v 50)),
                (none, .asg 9 (.v 51) .copy)])
              (.seq
               (.region [] [] [0, 1, 2, 6, 7, 9, 54] false [
                 (none, .mv 52 (.v 9)),
                 (none, .mv 53 (.v 1)),
                 (none, .bin 54 .lss (.v 52) (.v 53))])
               (.cond (.v 54)
                (.region [(59, 2, false), (55, 0, false)] [] [0, 1, 2, 6] false [
                  (none, .mv 55 (.v 0)),
                  (none, .mv 56 (.v 7)),
                  (none, .mv 57 (.v 9)),
                  (none, .mv 58 (.v 1)),
                  (none, .mv 59 (.v 2)),
                  (none, .nope (some 60))])
                (.skip [0, 1, 2, 6]))))
             (.region [] [] [0, 1, 2, 6] false [
               (none, .mv 61 (.v 6)),
               (none, .bin 62 .mul (.v 61) (.c (.int .i64 2))),
               (none, .asg 6 (.v 62) .copy)]))))))))))))⟩
def F834 : PFunc :=
 ⟨[true, false], [],
  (.region [(7, 1, false), (5, 0, false), (4, 0, false)] [] [0] false [
    (none, .mv 4 (.v 0)),
    (none, .mv 5 (.v 0)),
    (none, .len 6 false (.v 5)),
    (none, .mv 7 (.v 1)),
    (none, .call (some 8) 866 false [((.v 4), true), ((.v 6), false), ((.v 7), false)])])⟩
def F42 : PFunc :=
 ⟨[false], [.tmp 2, .tmp 3],
  (.seq
   (.region [] [9] [1] false [
     (none, .box 1 (.v 0) .move),
     (none, .asg 2 (.c (.sl true 1 [])) .copy),
     (none, .asg 3 (.c (.int .i64 0)) .copy)])
   (.seq
    (.seq
     (.region [(11, 1, true)] [1, 1, 9] [1, 13] false [
       (none, .load 11 false 1 (.v 1) none),
       (none, .call (some 12) 230 false [((.v 11), false)]),
       (none, .un 13 .not (.v 12))])
     (.cond (.v 13)
      (.seq
       (.region [] [1, 1, 9] [2, 3] false [
         (none, .asg 2 (.c (.sl true 1 [])) .copy),
         (none, .asg 3 (.c (.int .i64 1)) .copy)])
       (.ret [2, 3]))
      (.skip [1])))
    (.seq
     (.region [(15, 1, true)] [1, 1, 9] [1, 4, 5, 6] true [
       (none, .mksl 14 1 (.int .i64 0) 0 []),
       (none, .load 15 false 1 (.v 1) none),
       (none, .len 16 false (.v 15)),
       (none, .make 17 1 (.int .i64 0) (.v 16)),
       (none, .mksl 18 1 (.int .i64 0) 0 []),
       (none, .asg 4 (.v 14) .move),
       (none, .asg 5 (.v 17) .move),
       (none, .asg 6 (.v 18) .move)])
     (.seq
      (.seq
       (.region [(19, 1, true)] [1, 1, 9] [1, 4, 5, 6, 20, 21] false [
         (none, .load 19 false 1 (.v 1) none),
         (none, .len 20 false (.v 19)),
         (none, .mv 21 (.c (.int .i64 0)))])
       (.block 0
        (.loop
         (.seq
          (.region [] [1, 1, 9] [1, 4, 5, 6, 20, 21, 22] false [
            (none, .bin 22 .lss (.v 21) (.v 20))])
          (.seq
           (.cond (.v 22)
            (.skip [1, 4, 5, 6, 20, 21])
            (.exit 0 [1, 4, 5, 6]))
           (.seq
            (.block 1
             (.seq
              (.region [] [1, 1, 9] [1, 4, 5, 6, 7, 20, 21] false [
                (none, .mv 23 (.v 21)),
                (none, .asg 7 (.v 23) .copy)])
              (.region [(24, 4, false)] [1, 1, 9] [1, 4, 5, 6, 20, 21] false [
                (none, .mv 24 (.v 4)),
                (none, .mv 25 (.v 7)),
                (none, .mksl 26 1 (.int .i64 0) 1 [(0, (.v 25), .copy)]),
                (none, .app 27 1 (.v 24) (.v 26) .move),
                (none, .asg 4 (.v 27) .move)])))
            (.region [] [1, 1, 9] [1, 4, 5, 6, 20, 21] false [
              (none, .bin 28 .add (.v 21) (.c (.int .i64 1))),
              (none, .mv 21 (.v 28))])))))))
      (.seq
       (.region [(29, 4, false)] [1, 1, 9] [1, 4, 5, 6] false [
         (none, .mv 29 (.v 4)),
         (none, .mkfn 30 43 [1]),
         (none, .call (some 31) 834 false [((.v 29), true), ((.v 30), false)])])
       (.seq
        (.seq
         (.region [(32, 4, false)] [1, 1, 9] [1, 4, 5, 6, 32, 33, 34] false [
           (none, .mv 32 (.v 4)),
           (none, .len 33 false (.v 32)),
           (none, .mv 34 (.c (.int .i64 0)))])
         (.block 2
          (.loop
           (.seq
            (.region [(32, 4, false)] [1, 1, 9] [1, 4, 5, 6, 32, 33, 34, 35] false [
              (none, .bin 35 .lss (.v 34) (.v 33))])
            (.seq
             (.cond (.v 35)
              (.skip [1, 4, 5, 6, 32, 33, 34])
              (.exit 2 [5]))
             (.seq
              (.block 3
               (.seq
                (.region [(36, 4, false), (32, 4, false)] [1, 1] [1, 4, 5, 6, 9, 32, 33, 34] false [
                  (none, .iadr 36 1 (.v 32) (.v 34)),
                  (none, .load 37 false 1 (.v 36) none),
                  (none, .new 9 (.int .i64 0)),
                  (none, .store 1 (.v 9) (.v 37) .copy)])
                (.seq
                 (.region [(38, 6, false), (32, 4, false)] [1, 1, 9] [1, 4, 5, 6, 9, 10, 32, 33, 34] false [
                   (none, .mv 38 (.v 6)),
                   (none, .mkfn 39 44 [1, 9]),
                   (none, .call (some 40) 818 false [((.v 38), false), ((.v 39), false)]),
                   (none, .asg 10 (.v 40) .copy)])
                 (.seq
                  (.seq
                   (.region [(32, 4, false)] [1, 1, 9] [1, 4, 5, 6, 9, 10, 32, 33, 34, 42] false [
                     (none, .mv 41 (.v 10)),
                     (none, .bin 42 .lss (.v 41) (.c (.int .i64 0)))])
                   (.cond (.v 42)
                    (.seq
                     (.region [(43, 6, false), (32, 4, false)] [1, 1, 9] [1, 4, 5, 6, 9, 10, 32, 33, 34] false [
                       (none, .mv 43 (.v 6)),
                       (none, .len 44 false (.v 43)),
                       (none, .asg 10 (.v 44) .copy)])
                     (.region [(45, 6, false), (32, 4, false)] [1, 1, 9] [1, 4, 5, 6, 9, 10, 32, 33, 34] false [
                       (none, .mv 45 (.v 6)),
                       (none, .mksl 46 1 (.int .i64 0) 1 [(0, (.c (.int .i64 0)), .copy)]),
                       (none, .app 47 1 (.v 45) (.v 46) .move),
                       (none, .asg 6 (.v 47) .move)]))
                    (.skip [1, 4, 5, 6, 9, 10, 32, 33, 34])))
                  (.region [(59, 5, false), (58, 6, false), (55, 1, true), (54, 1, true), (52, 1, true), (50, 5, false), (48, 6, false), (32, 4, false)] [1, 1, 9] [1, 4, 5, 6, 32, 33, 34] true [
                    (none, .mvr 48 6),
                    (none, .mv 49 (.v 10)),
                    (none, .mvr 50 5),
                    (none, .load 51 false 1 (.v 9) none),
                    (none, .load 52 false 1 (.v 1) none),
                    (none, .load 53 false 1 (.v 9) none),
                    (none, .iadr 54 3 (.v 52) (.v 53)),
                    (none, .fadr 55 1 1 (.v 54)),
                    (none, .load 56 false 1 (.v 55) none),
                    (none, .mv 57 (.v 10)),
                    (none, .iadr 58 1 (.v 48) (.v 49)),
                    (none, .store 1 (.v 58) (.v 56) .copy),
                    (none, .iadr 59 1 (.v 50) (.v 51)),
                    (none, .store 1 (.v 59) (.v 57) .copy)])))))
              (.region [(32, 4, false)] [1, 1, 9] [1, 4, 5, 6, 32, 33, 34] false [
                (none, .bin 60 .add (.v 34) (.c (.int .i64 1))),
                (none, .mv 34 (.v 60))])))))))
        (.seq
         (.region [(61, 5, false)] [1, 1, 9] [2, 3] false [
           (none, .mv 61 (.v 5)),
           (none, .asg 2 (.v 61) .move),
           (none, .asg 3 (.c (.int .i64 0)) .copy)])
         (.ret [2, 3]))))))))⟩
def F19 : PFunc :=
 ⟨[false, false], [.tmp 4],
  (.seq
   (.region [] [] [1, 2] false [
     (none, .box 2 (.v 0) .copy),
     (none, .asg 4 (.c (.bool false)) .copy)])
   (.seq
    (.region [(11, 2, false), (5, 2, false)] [] [4] false [
      (none, .fadr 5 0 1 (.v 2)),
      (none, .load 6 false 1 (.v 5) none),
      (none, .mv 7 (.v 1)),
      (none, .bin 8 .leq (.v 6) (.v 7)),
      (none, .mv 9 (.v 8)),
      (some (9, true), .mv 10 (.v 1)),
      (some (9, true), .fadr 11 1 1 (.v 2)),
      (some (9, true), .load 12 false 1 (.v 11) none),
      (some (9, true), .bin 13 .lss (.v 10) (.v 12)),
      (none, .pick 14 (.v 9) (.v 13) (.c (.bool false))),
      (none, .asg 4 (.v 14) .copy)])
    (.ret [4])))⟩
def F20 : PFunc :=
 ⟨[false, false], [.tmp 4],
  (.seq
   (.region [] [] [1, 2] false [
     (none, .box 2 (.v 0) .copy),
     (none, .asg 4 (.c (.int .i64 0)) .copy)])
   (.seq
    (.block 0
     (.seq
      (.region [] [] [1, 2, 5] false [
        (none, .load 6 true 3 (.v 2) none),
        (none, .mv 7 (.v 1)),
        (none, .call (some 8) 19 false [((.v 6), false), ((.v 7), false)]),
        (none, .un 9 .not (.v 8)),
        (none, .asg 5 (.v 9) .copy)])
      (.cond (.v 5)
       (.seq
        (.region [] [] [4] false [
          (none, .asg 4 (.c (.int .i64 0)) .copy)])
        (.ret [4]))
       (.seq
        (.region [(11, 2, false)] [] [1, 2, 10] false [
          (none, .fadr 11 2 1 (.v 2)),
          (none, .load 12 false 1 (.v 11) none),
          (none, .bin 13 .eql (.v 12) (.c (.int .i64 0))),
          (none, .asg 10 (.v 13) .copy)])
        (.cond (.v 10)
         (.seq
          (.region [] [] [4] false [
            (none, .asg 4 (.c (.int .i64 100)) .copy)])
          (.ret [4]))
         (.skip [1, 2]))))))
    (.seq
     (.region [(27, 2, false), (22, 2, false), (19, 2, false), (15, 2, false)] [] [4] true [
       (none, .mv 14 (.v 1)),
       (none, .fadr 15 0 1 (.v 2)),
       (none, .load 16 false 1 (.v 15) none),
       (none, .bin 17 .sub (.v 14) (.v 16)),
       (none, .bin 18 .mul (.c (.int .i64 100)) (.v 17)),
       (none, .fadr 19 2 1 (.v 2)),
       (none, .load 20 false 1 (.v 19) none),
       (none, .bin 21 .quo (.v 18) (.v 20)),
       (none, .fadr 22 1 1 (.v 2)),
       (none, .load 23 false 1 (.v 22) none),
       (none, .mv 24 (.v 1)),
       (none, .bin 25 .sub (.v 23) (.v 24)),
       (none, .bin 26 .mul (.c (.int .i64 100)) (.v 25)),
       (none, .fadr 27 2 1 (.v 2)),
       (none, .load 28 false 1 (.v 27) none),
       (none, .bin 29 .quo (.v 26) (.v 28)),
       (none, .mm 30 false (.c (.int .i64 100)) [(.v 21), (.v 29)]),
       (none, .asg 4 (.v 30) .copy)])
     (.ret [4]))))⟩
def F289 : PFunc :=
 ⟨[false, false], [.tmp 4],
  (.seq
   (.region [] [] [0, 1] false [
     (none, .asg 4 (.c (.int .i64 0)) .copy)])
   (.seq
    (.region [] [] [0, 1, 5] false [
      (none, .asg 5 (.c (.int .i64 0)) .copy)])
    (.seq
     (.seq
      (.region [(8, 0, false)] [] [0, 1, 5, 8, 9, 10] false [
        (none, .mv 8 (.v 0)),
        (none, .len 9 false (.v 8)),
        (none, .mv 10 (.c (.int .i64 0)))])
      (.block 0
       (.loop
        (.seq
         (.region [(8, 0, false)] [] [0, 1, 5, 8, 9, 10, 11] false [
           (none, .bin 11 .lss (.v 10) (.v 9))])
         (.seq
          (.cond (.v 11)
           (.skip [0, 1, 5, 8, 9, 10])
           (.exit 0 [5]))
          (.seq
           (.block 1
            (.seq
             (.region [(12, 0, false), (8, 0, false)] [] [0, 1, 5, 7, 8, 9, 10] false [
               (none, .iadr 12 3 (.v 8) (.v 10)),
               (none, .load 13 true 3 (.v 12) none),
               (none, .new 7 (.agg [(.int .i64 0), (.int .i64 0), (.int .i64 0)])),
               (none, .store 3 (.v 7) (.v 13) .copy)])
             (.region [(8, 0, false)] [] [0, 1, 5, 8, 9, 10] false [
               (none, .mv 14 (.v 5)),
               (none, .load 15 true 3 (.v 7) none),
               (none, .mv 16 (.v 1)),
               (none, .call (some 17) 20 false [((.v 15), false), ((.v 16), false)]),
               (none, .bin 18 .add (.v 14) (.v 17)),
               (none, .asg 5 (.v 18) .copy)])))
           (.region [(8, 0, false)] [] [0, 1, 5, 8, 9, 10] false [
             (none, .bin 19 .add (.v 10) (.c (.int .i64 1))),
             (none, .mv 10 (.v 19))])))))))
     (.seq
      (.region [] [] [4] false [
        (none, .mv 20 (.v 5)),
        (none, .asg 4 (.v 20) .copy)])
      (.ret [4])))))⟩
def F58 : PFunc :=
 ⟨[false], [.tmp 2, .tmp 3, .tmp 4],
  (.seq
   (.region [] [] [0] false [
     (none, .asg 2 (.c (.int .i64 0)) .copy),
     (none, .asg 3 (.c (.int .i64 0)) .copy),
     (none, .asg 4 (.c (.int .i64 0)) .copy)])
   (.seq
    (.seq
     (.region [(9, 0, false)] [] [0, 11] false [
       (none, .mv 9 (.v 0)),
       (none, .call (some 10) 230 false [((.v 9), false)]),
       (none, .un 11 .not (.v 10))])
     (.cond (.v 11)
      (.seq
       (.region [] [] [2, 3, 4] false [
         (none, .asg 2 (.c (.int .i64 0)) .copy),
         (none, .asg 3 (.c (.int .i64 0)) .copy),
         (none, .asg 4 (.c (.int .i64 1)) .copy)])
       (.ret [2, 3, 4]))
      (.skip [0])))
    (.seq
     (.region [] [] [0, 5, 6] false [
       (none, .asg 5 (.c (.int .i64 0)) .copy),
       (none, .asg 6 (.c (.int .i64 0)) .copy)])
     (.seq
      (.seq
       (.region [] [] [0, 5, 6, 12] false [
         (none, .mv 12 (.c (.int .i64 0)))])
       (.block 0
        (.loop
         (.seq
          (.region [] [] [0, 5, 6, 12, 13] false [
            (none, .bin 13 .lss (.v 12) (.c (.int .i64 20000)))])
          (.seq
           (.cond (.v 13)
            (.skip [0, 5, 6, 12])
            (.exit 0 [5, 6]))
           (.seq
            (.block 1
             (.seq
              (.region [] [] [0, 5, 6, 7, 12] false [
                (none, .mv 14 (.v 12)),
                (none, .asg 7 (.v 14) .copy)])
              (.seq
               (.region [(15, 0, false)] [] [0, 5, 6, 7, 8, 12] false [
                 (none, .mv 15 (.v 0)),
                 (none, .mv 16 (.v 7)),
                 (none, .call (some 17) 289 false [((.v 15), false), ((.v 16), false)]),
                 (none, .asg 8 (.v 17) .copy)])
               (.seq
                (.region [] [] [0, 5, 6, 7, 8, 12, 20] false [
                  (none, .mv 18 (.v 8)),
                  (none, .mv 19 (.v 6)),
                  (none, .bin 20 .gtr (.v 18) (.v 19))])
                (.cond (.v 20)
                 (.region [] [] [0, 5, 6, 12] false [
                   (none, .mv 21 (.v 7)),
                   (none, .mv 22 (.v 8)),
                   (none, .asg 5 (.v 21) .copy),
                   (none, .asg 6 (.v 22) .copy)])
                 (.skip [0, 5, 6, 12]))))))
            (.region [] [] [0, 5, 6, 12] false [
              (none, .bin 23 .add (.v 12) (.c (.int .i64 1))),
              (none, .mv 12 (.v 23))])))))))
      (.seq
       (.seq
        (.region [] [] [5, 6, 25] false [
          (none, .mv 24 (.v 6)),
          (none, .bin 25 .eql (.v 24) (.c (.int .i64 0)))])
        (.cond (.v 25)
         (.seq
          (.region [] [] [2, 3, 4] false [
            (none, .asg 2 (.c (.int .i64 0)) .copy),
            (none, .asg 3 (.c (.int .i64 0)) .copy),
            (none, .asg 4 (.c (.int .i64 10)) .copy)])
          (.ret [2, 3, 4]))
         (.skip [5, 6])))
       (.seq
        (.region [] [] [2, 3, 4] false [
          (none, .mv 26 (.v 5)),
          (none, .mv 27 (.v 6)),
          (none, .asg 2 (.v 26) .copy),
          (none, .asg 3 (.v 27) .copy),
          (none, .asg 4 (.c (.int .i64 0)) .copy)])
        (.ret [2, 3, 4])))))))⟩
def F316 : PFunc :=
 ⟨[false, false, false], [.tmp 6],
  (.seq
   (.region [] [] [0, 1, 2] false [
     (none, .asg 6 (.c (.int .i64 0)) .copy)])
   (.seq
    (.block 0
     (.seq
      (.region [(8, 0, false)] [] [1, 2, 7] false [
        (none, .mv 8 (.v 0)),
        (none, .call (some 9) 230 false [((.v 8), false)]),
        (none, .un 10 .not (.v 9)),
        (none, .asg 7 (.v 10) .copy)])
      (.cond (.v 7)
       (.seq
        (.region [] [] [6] false [
          (none, .asg 6 (.c (.int .i64 1)) .copy)])
        (.ret [6]))
       (.seq
        (.region [] [] [11] false [
          (none, .mv 12 (.v 1)),
          (none, .call (some 13) 326 false [((.v 12), false), ((.c (.int .i64 0)), false), ((.c (.int .i64 20000)), false)]),
          (none, .un 14 .not (.v 13)),
          (none, .mv 15 (.v 14)),
          (some (15, false), .mv 16 (.v 2)),
          (some (15, false), .mv 17 (.v 1)),
          (some (15, false), .call (some 18) 326 false [((.v 16), false), ((.v 17), false), ((.c (.int .i64 20000)), false)]),
          (some (15, false), .un 19 .not (.v 18)),
          (none, .pick 20 (.v 15) (.c (.bool true)) (.v 19)),
          (none, .asg 11 (.v 20) .copy)])
        (.cond (.v 11)
         (.seq
          (.region [] [] [6] false [
            (none, .asg 6 (.c (.int .i64 2)) .copy)])
          (.ret [6]))
         (.skip []))))))
    (.seq
     (.region [] [] [6] false [
       (none, .asg 6 (.c (.int .i64 0)) .copy)])
     (.ret [6]))))⟩
def F72 : PFunc :=
 ⟨[false, false, false], [.tmp 6, .tmp 7],
  (.seq
   (.region [] [] [0, 1, 2] false [
     (none, .asg 6 (.c (.int .i64 0)) .copy),
     (none, .asg 7 (.c (.int .i64 0)) .copy)])
   (.seq
    (.seq
     (.region [(11, 0, false)] [] [0, 1, 2, 8] false [
       (none, .mv 11 (.v 0)),
       (none, .mv 12 (.v 1)),
       (none, .mv 13 (.v 2)),
       (none, .call (some 14) 316 false [((.v 11), false), ((.v 12), false), ((.v 13), false)]),
       (none, .asg 8 (.v 14) .copy)])
     (.seq
      (.region [] [] [0, 1, 2, 8, 16] false [
        (none, .mv 15 (.v 8)),
        (none, .bin 16 .neq (.v 15) (.c (.int .i64 0)))])
      (.cond (.v 16)
       (.seq
        (.region [] [] [6, 7] false [
          (none, .mv 17 (.v 8)),
          (none, .asg 6 (.c (.int .i64 0)) .copy),
          (none, .asg 7 (.v 17) .copy)])
        (.ret [6, 7]))
       (.skip [0, 1, 2]))))
    (.seq
     (.region [] [] [0, 1, 2, 9] false [
       (none, .asg 9 (.c (.int .i64 0)) .copy)])
     (.seq
      (.seq
       (.region [] [] [0, 2, 9, 10] false [
         (none, .mv 18 (.v 1)),
         (none, .asg 10 (.v 18) .copy)])
       (.block 0
        (.loop
         (.seq
          (.seq
           (.region [] [] [0, 2, 9, 10, 21] false [
             (none, .mv 19 (.v 10)),
             (none, .mv 20 (.v 2)),
             (none, .bin 21 .lss (.v 19) (.v 20))])
           (.cond (.v 21)
            (.skip [0, 2, 9, 10])
            (.exit 0 [9])))
          (.seq
           (.block 1
            (.seq
             (.region [(24, 0, false)] [] [0, 2, 9, 10, 27] false [
               (none, .mv 24 (.v 0)),
               (none, .mv 25 (.v 10)),
               (none, .call (some 26) 289 false [((.v 24), false), ((.v 25), false)]),
               (none, .bin 27 .eql (.v 26) (.c (.int .i64 0)))])
             (.cond (.v 27)
              (.region [] [] [0, 2, 9, 10] false [
                (none, .mv 28 (.v 9)),
                (none, .bin 29 .add (.v 28) (.c (.int .i64 1))),
                (none, .asg 9 (.v 29) .copy)])
              (.skip [0, 2, 9, 10]))))
           (.region [] [] [0, 2, 9, 10] false [
             (none, .mv 22 (.v 10)),
             (none, .bin 23 .add (.v 22) (.c (.int .i64 1))),
             (none, .asg 10 (.v 23) .copy)]))))))
      (.seq
       (.region [] [] [6, 7] false [
         (none, .mv 30 (.v 9)),
         (none, .asg 6 (.v 30) .copy),
         (none, .asg 7 (.c (.int .i64 0)) .copy)])
       (.ret [6, 7]))))))⟩
def F78 : PFunc :=
 ⟨[false, false, false], [.tmp 6, .tmp 7],
  (.seq
   (.region [] [] [0, 1, 2] false [
     (none, .asg 6 (.c (.sl true 3 [])) .copy),
     (none, .asg 7 (.c (.int .i64 0)) .copy)])
   (.seq
    (.seq
     (.region [] [] [0, 1, 2, 22] false [
       (none, .mv 10 (.v 0)),
       (none, .call (some 11) 326 false [((.v 10), false), ((.c (.int .i64 1)), false), ((.c (.int .i64 12)), false)]),
       (none, .un 12 .not (.v 11)),
       (none, .mv 13 (.v 12)),
       (some (13, false), .mv 14 (.v 1)),
       (some (13, false), .call (some 15) 326 false [((.v 14), false), ((.c (.int .i64 1)), false), ((.c (.int .i64 500)), false)]),
       (some (13, false), .un 16 .not (.v 15)),
       (none, .pick 17 (.v 13) (.c (.bool true)) (.v 16)),
       (none, .mv 18 (.v 17)),
       (some (18, false), .mv 19 (.v 2)),
       (some (18, false), .call (some 20) 326 false [((.v 19), false), ((.c (.int .i64 0)), false), ((.c (.int .i64 500)), false)]),
       (some (18, false), .un 21 .not (.v 20)),
       (none, .pick 22 (.v 18) (.c (.bool true)) (.v 21))])
     (.cond (.v 22)
      (.seq
       (.region [] [] [6, 7] false [
         (none, .asg 6 (.c (.sl true 3 [])) .copy),
         (none, .asg 7 (.c (.int .i64 2)) .copy)])
       (.ret [6, 7]))
      (.skip [0, 1, 2])))
    (.seq
     (.region [] [] [0, 1, 2, 8] false [
       (none, .mksl 23 3 (.agg [(.int .i64 0), (.int .i64 0), (.int .i64 0)]) 0 []),
       (none, .asg 8 (.v 23) .move)])
     (.seq
      (.seq
       (.region [] [] [1, 2, 8, 24, 25] false [
         (none, .mv 24 (.v 0)),
         (none, .mv 25 (.c (.int .i64 0)))])
       (.block 0
        (.loop
         (.seq
          (.region [] [] [1, 2, 8, 24, 25, 26] false [
            (none, .bin 26 .lss (.v 25) (.v 24))])
          (.seq
           (.cond (.v 26)
            (.skip [1, 2, 8, 24, 25])
            (.exit 0 [8]))
           (.seq
            (.block 1
             (.seq
              (.region [] [] [1, 2, 8, 9, 24, 25] false [
                (none, .mv 27 (.v 25)),
                (none, .asg 9 (.v 27) .copy)])
              (.region [(28, 8, false)] [] [1, 2, 8, 24, 25] false [
                (none, .mv 28 (.v 8)),
                (none, .mv 29 (.v 9)),
                (none, .mv 30 (.v 1)),
                (none, .bin 31 .mul (.v 29) (.v 30)),
                (none, .mv 32 (.v 9)),
                (none, .bin 33 .add (.v 32) (.c (.int .i64 1))),
                (none, .mv 34 (.v 1)),
                (none, .bin 35 .mul (.v 33) (.v 34)),
                (none, .mv 36 (.v 2)),
                (none, .bin 37 .add (.v 35) (.v 36)),
                (none, .mv 38 (.v 2)),
                (none, .build 39 [(.int .i64 0), (.int .i64 0), (.int .i64 0)] [(0, 1, (.v 31), .copy), (1, 1, (.v 37), .copy), (2, 1, (.v 38), .copy)]),
                (none, .mksl 40 3 (.agg [(.int .i64 0), (.int .i64 0), (.int .i64 0)]) 1 [(0, (.v 39), .copy)]),
                (none, .app 41 3 (.v 28) (.v 40) .move),
                (none, .asg 8 (.v 41) .move)])))
            (.region [] [] [1, 2, 8, 24, 25] false [
              (none, .bin 42 .add (.v 25) (.c (.int .i64 1))),
              (none, .mv 25 (.v 42))])))))))
      (.seq
       (.region [(43, 8, false)] [] [6, 7] false [
         (none, .mv 43 (.v 8)),
         (none, .asg 6 (.v 43) .move),
         (none, .asg 7 (.c (.int .i64 0)) .copy)])
       (.ret [6, 7]))))))⟩
def F87 : PFunc :=
 ⟨[false], [.tmp 2, .tmp 3],
  (.seq
   (.region [] [] [0] false [
     (none, .asg 2 (.c (.int .i64 0)) .copy),
     (none, .asg 3 (.c (.int .i64 0)) .copy)])
   (.seq
    (.seq
     (.region [(10, 0, false)] [] [0, 12] false [
       (none, .mv 10 (.v 0)),
       (none, .call (some 11) 230 false [((.v 10), false)]),
       (none, .un 12 .not (.v 11))])
     (.cond (.v 12)
      (.seq
       (.region [] [] [2, 3] false [
         (none, .asg 2 (.c (.int .i64 0)) .copy),
         (none, .asg 3 (.c (.int .i64 1)) .copy)])
       (.ret [2, 3]))
      (.skip [0])))
    (.seq
     (.region [] [] [0, 4] false [
       (none, .asg 4 (.c (.int .i64 0)) .copy)])
     (.seq
      (.seq
       (.region [(13, 0, false)] [] [0, 4, 13, 14, 15] false [
         (none, .mv 13 (.v 0)),
         (none, .len 14 false (.v 13)),
         (none, .mv 15 (.c (.int .i64 0)))])
       (.block 0
        (.loop
         (.seq
          (.region [(13, 0, false)] [] [0, 4, 13, 14, 15, 16] false [
            (none, .bin 16 .lss (.v 15) (.v 14))])
          (.seq
           (.cond (.v 16)
            (.skip [0, 4, 13, 14, 15])
            (.exit 0 [4]))
           (.seq
            (.block 1
             (.seq
              (.region [(17, 0, false), (13, 0, false)] [] [0, 4, 6, 13, 14, 15] false [
                (none, .iadr 17 3 (.v 13) (.v 15)),
                (none, .load 18 true 3 (.v 17) none),
                (none, .new 6 (.agg [(.int .i64 0), (.int .i64 0), (.int .i64 0)])),
                (none, .store 3 (.v 6) (.v 18) .copy)])
              (.seq
               (.region [(13, 0, false)] [] [0, 4, 6, 7, 13, 14, 15] false [
                 (none, .asg 7 (.c (.int .i64 0)) .copy)])
               (.seq
                (.seq
                 (.region [(19, 0, false), (13, 0, false)] [] [0, 4, 6, 7, 13, 14, 15, 19, 20, 21] false [
                   (none, .mv 19 (.v 0)),
                   (none, .len 20 false (.v 19)),
                   (none, .mv 21 (.c (.int .i64 0)))])
                 (.block 2
                  (.loop
                   (.seq
                    (.region [(13, 0, false), (19, 0, false)] [] [0, 4, 6, 7, 13, 14, 15, 19, 20, 21, 22] false [
                      (none, .bin 22 .lss (.v 21) (.v 20))])
                    (.seq
                     (.cond (.v 22)
                      (.skip [0, 4, 6, 7, 13, 14, 15, 19, 20, 21])
                      (.exit 2 [0, 4, 7, 13, 14, 15]))
                     (.seq
                      (.block 3
                       (.seq
                        (.region [(23, 0, false), (13, 0, false), (19, 0, false)] [] [0, 4, 6, 7, 9, 13, 14, 15, 19, 20, 21] false [
                          (none, .iadr 23 3 (.v 19) (.v 21)),
                          (none, .load 24 true 3 (.v 23) none),
                          (none, .new 9 (.agg [(.int .i64 0), (.int .i64 0), (.int .i64 0)])),
                          (none, .store 3 (.v 9) (.v 24) .copy)])
                        (.seq
                         (.region [(26, 6, false), (13, 0, false), (19, 0, false)] [] [0, 4, 6, 7, 13, 14, 15, 19, 20, 21, 28] false [
                           (none, .load 25 true 3 (.v 9) none),
                           (none, .fadr 26 0 1 (.v 6)),
                           (none, .load 27 false 1 (.v 26) none),
                           (none, .call (some 28) 19 false [((.v 25), false), ((.v 27), false)])])
                         (.cond (.v 28)
                          (.region [(13, 0, false), (19, 0, false)] [] [0, 4, 6, 7, 13, 14, 15, 19, 20, 21] false [
                            (none, .mv 29 (.v 7)),
                            (none, .bin 30 .add (.v 29) (.c (.int .i64 1))),
                            (none, .asg 7 (.v 30) .copy)])
                          (.skip [0, 4, 6, 7, 13, 14, 15, 19, 20, 21])))))
                      (.region [(13, 0, false), (19, 0, false)] [] [0, 4, 6, 7, 13, 14, 15, 19, 20, 21] false [
                        (none, .bin 31 .add (.v 21) (.c (.int .i64 1))),
                        (none, .mv 21 (.v 31))])))))))
                (.region [(13, 0, false)] [] [0, 4, 13, 14, 15] false [
                  (none, .mv 32 (.v 4)),
                  (none, .mv 33 (.v 7)),
                  (none, .mm 34 true (.v 32) [(.v 33)]),
                  (none, .asg 4 (.v 34) .copy)])))))
            (.region [(13, 0, false)] [] [0, 4, 13, 14, 15] false [
              (none, .bin 35 .add (.v 15) (.c (.int .i64 1))),
              (none, .mv 15 (.v 35))])))))))
      (.seq
       (.region [] [] [2, 3] false [
         (none, .mv 36 (.v 4)),
         (none, .asg 2 (.v 36) .copy),
         (none, .asg 3 (.c (.int .i64 0)) .copy)])
       (.ret [2, 3]))))))⟩
def F384 : PFunc :=
 ⟨[false, false, false], [.tmp 6],
  (.seq
   (.region [] [] [0, 1, 2] false [
     (none, .asg 6 (.c (.int .i64 0)) .copy)])
   (.seq
    (.seq
     (.region [(8, 0, false)] [] [0, 1, 2, 14] false [
       (none, .mv 7 (.v 1)),
       (none, .mv 8 (.v 0)),
       (none, .len 9 false (.v 8)),
       (none, .bin 10 .geq (.v 7) (.v 9)),
       (none, .mv 11 (.v 10)),
       (some (11, false), .mv 12 (.v 2)),
       (some (11, false), .bin 13 .lss (.v 12) (.c (.int .i64 1))),
       (none, .pick 14 (.v 11) (.c (.bool true)) (.v 13))])
     (.cond (.v 14)
      (.seq
       (.region [] [] [6] false [
         (none, .asg 6 (.c (.int .i64 0)) .copy)])
       (.ret [6]))
      (.skip [0, 1, 2])))
    (.seq
     (.region [(17, 0, false), (15, 0, false)] [] [6] false [
       (none, .mv 15 (.v 0)),
       (none, .mv 16 (.v 1)),
       (none, .iadr 17 1 (.v 15) (.v 16)),
       (none, .load 18 false 1 (.v 17) none),
       (none, .conv 19 .i64 (.v 18)),
       (none, .mv 20 (.v 2)),
       (none, .bin 21 .rem (.v 19) (.v 20)),
       (none, .asg 6 (.v 21) .copy)])
     (.ret [6]))))⟩
def F386 : PFunc :=
 ⟨[false, false], [.tmp 4],
  (.seq
   (.region [] [] [0, 1] false [
     (none, .asg 4 (.c (.bool false)) .copy)])
   (.seq
    (.region [(9, 1, false), (5, 0, false)] [] [4] false [
      (none, .mv 5 (.v 0)),
      (none, .len 6 false (.v 5)),
      (none, .bin 7 .gtr (.v 6) (.c (.int .i64 3000))),
      (none, .mv 8 (.v 7)),
      (some (8, false), .mv 9 (.v 1)),
      (some (8, false), .len 10 false (.v 9)),
      (some (8, false), .bin 11 .gtr (.v 10) (.c (.int .i64 3000))),
      (none, .pick 12 (.v 8) (.c (.bool true)) (.v 11)),
      (none, .asg 4 (.v 12) .copy)])
    (.ret [4])))⟩
def F603 : PFunc :=
 ⟨[false], [.tmp 2],
  (.seq
   (.region [] [] [0] false [
     (none, .asg 2 (.c .nilp) .copy)])
   (.seq
    (.region [(3, 0, false)] [] [2] false [
      (none, .mv 3 (.v 0)),
      (none, .build 4 [(.sl false 1 []), (.int .i64 0), (.int .u64 0)] [(0, 1, (.v 3), .move)]),
      (none, .box 5 (.v 4) .move),
      (none, .asg 2 (.v 5) .move)])
    (.ret [2])))⟩
def F5 : PFunc :=
 ⟨[true], [.tmp 2],
  (.seq
   (.region [] [] [0] false [
     (none, .asg 2 (.c (.int .i64 0)) .copy)])
   (.seq
    (.region [] [] [0, 3] false [
      (none, .asg 3 (.c (.int .i64 0)) .copy)])
    (.seq
     (.seq
      (.region [(11, 0, true), (10, 0, false), (9, 0, false), (8, 0, false), (6, 0, false), (5, 0, false), (4, 0, false)] [] [0, 3, 13] true [
        (none, .mvr 4 0),
        (none, .nchk 5 (.v 4)),
        (none, .fadr 6 1 1 (.v 5)),
        (none, .load 7 false 1 (.v 6) none),
        (none, .mvr 8 0),
        (none, .nchk 9 (.v 8)),
        (none, .fadr 10 0 1 (.v 9)),
        (none, .load 11 false 1 (.v 10) none),
        (none, .len 12 false (.v 11)),
        (none, .bin 13 .lss (.v 7) (.v 12))])
      (.cond (.v 13)
       (.region [(22, 0, true), (20, 0, false), (19, 0, false), (18, 0, false), (17, 0, true), (16, 0, false), (15, 0, false), (14, 0, false)] [] [0, 3] true [
         (none, .mvr 14 0),
         (none, .nchk 15 (.v 14)),
         (none, .fadr 16 0 1 (.v 15)),
         (none, .load 17 false 1 (.v 16) none),
         (none, .mvr 18 0),
         (none, .nchk 19 (.v 18)),
         (none, .fadr 20 1 1 (.v 19)),
         (none, .load 21 false 1 (.v 20) none),
         (none, .iadr 22 1 (.v 17) (.v 21)),
         (none, .load 23 false 1 (.v 22) none),
         (none, .conv 24 .i64 (.v 23)),
         (none, .asg 3 (.v 24) .copy)])
       (.skip [0, 3])))
     (.seq
      (.region [(31, 0, false), (30, 0, false), (27, 0, false), (26, 0, false), (25, 0, false)] [] [0, 3] false [
        (none, .mv 25 (.v 0)),
        (none, .nchk 26 (.v 25)),
        (none, .fadr 27 1 1 (.v 26)),
        (none, .load 28 false 1 (.v 27) none),
        (none, .bin 29 .add (.v 28) (.c (.int .i64 1))),
        (none, .nchk 30 (.v 25)),
        (none, .fadr 31 1 1 (.v 30)),
        (none, .store 1 (.v 31) (.v 29) .copy)])
      (.seq
       (.region [(43, 0, false), (42, 0, false), (35, 0, false), (34, 0, false), (33, 0, false), (32, 0, false)] [] [0, 3] false [
         (none, .mv 32 (.v 0)),
         (none, .mv 33 (.v 0)),
         (none, .nchk 34 (.v 33)),
         (none, .fadr 35 2 1 (.v 34)),
         (none, .load 36 false 1 (.v 35) none),
         (none, .bin 37 .mul (.v 36) (.c (.int .u64 6364136223846793005))),
         (none, .mv 38 (.v 3)),
         (none, .conv 39 .u64 (.v 38)),
         (none, .bin 40 .add (.v 37) (.v 39)),
         (none, .bin 41 .add (.v 40) (.c (.int .u64 1442695040888963407))),
         (none, .nchk 42 (.v 32)),
         (none, .fadr 43 2 1 (.v 42)),
         (none, .store 1 (.v 43) (.v 41) .copy)])
       (.seq
        (.seq
         (.region [(51, 0, true), (50, 0, false), (49, 0, false), (48, 0, false), (46, 0, false), (45, 0, false), (44, 0, false)] [] [0, 3, 53] true [
           (none, .mvr 44 0),
           (none, .nchk 45 (.v 44)),
           (none, .fadr 46 1 1 (.v 45)),
           (none, .load 47 false 1 (.v 46) none),
           (none, .mvr 48 0),
           (none, .nchk 49 (.v 48)),
           (none, .fadr 50 0 1 (.v 49)),
           (none, .load 51 false 1 (.v 50) none),
           (none, .len 52 false (.v 51)),
           (none, .bin 53 .leq (.v 47) (.v 52))])
         (.cond (.v 53)
          (.seq
           (.region [] [] [0, 2] false [
             (none, .mv 54 (.v 3)),
             (none, .asg 2 (.v 54) .copy)])
           (.ret [0, 2]))
          (.skip [0])))
        (.seq
         (.region [(57, 0, false), (56, 0, false), (55, 0, false)] [] [0, 2] false [
           (none, .mv 55 (.v 0)),
           (none, .nchk 56 (.v 55)),
           (none, .fadr 57 2 1 (.v 56)),
           (none, .load 58 false 1 (.v 57) none),
           (none, .bin 59 .shr (.v 58) (.c (.int .u64 40))),
           (none, .bin 60 .and (.v 59) (.c (.int .u64 255))),
           (none, .conv 61 .i64 (.v 60)),
           (none, .asg 2 (.v 61) .copy)])
         (.ret [0, 2]))))))))⟩
def F7 : PFunc :=
 ⟨[true, false], [.tmp 4],
  (.seq
   (.region [] [] [0, 1] false [
     (none, .asg 4 (.c (.int .i64 0)) .copy)])
   (.seq
    (.seq
     (.region [] [] [0, 1, 7] false [
       (none, .mv 6 (.v 1)),
       (none, .bin 7 .leq (.v 6) (.c (.int .i64 1)))])
     (.cond (.v 7)
      (.seq
       (.region [] [] [0, 4] false [
         (none, .asg 4 (.c (.int .i64 0)) .copy)])
       (.ret [0, 4]))
      (.skip [0, 1])))
    (.seq
     (.region [(8, 0, false)] [] [0, 1, 5] false [
       (none, .mv 8 (.v 0)),
       (none, .call (some 9) 5 true [((.v 8), true)]),
       (none, .asg 5 (.v 9) .copy)])
     (.seq
      (.seq
       (.region [] [] [0, 1, 5, 11] false [
         (none, .mv 10 (.v 1)),
         (none, .bin 11 .gtr (.v 10) (.c (.int .i64 200)))])
       (.cond (.v 11)
        (.region [(14, 0, false)] [] [0, 1, 5] false [
          (none, .mv 12 (.v 5)),
          (none, .bin 13 .mul (.v 12) (.c (.int .i64 256))),
          (none, .mv 14 (.v 0)),
          (none, .call (some 15) 5 true [((.v 14), true)]),
          (none, .bin 16 .add (.v 13) (.v 15)),
          (none, .asg 5 (.v 16) .copy)])
        (.skip [0, 1, 5])))
      (.seq
       (.region [] [] [0, 4] false [
         (none, .mv 17 (.v 5)),
         (none, .mv 18 (.v 1)),
         (none, .bin 19 .rem (.v 17) (.v 18)),
         (none, .asg 4 (.v 19) .copy)])
       (.ret [0, 4]))))))⟩
def F606 : PFunc :=
 ⟨[false, false], [.tmp 4],
  (.seq
   (.region [] [] [0, 1] false [
     (none, .asg 4 (.c (.int .i64 0)) .copy)])
   (.seq
    (.seq
     (.region [] [] [0, 1, 7] false [
       (none, .mv 5 (.v 0)),
       (none, .mv 6 (.v 1)),
       (none, .bin 7 .gtr (.v 5) (.v 6))])
     (.cond (.v 7)
      (.seq
       (.region [] [] [4] false [
         (none, .mv 8 (.v 0)),
         (none, .asg 4 (.v 8) .copy)])
       (.ret [4]))
      (.skip [1])))
    (.seq
     (.region [] [] [4] false [
       (none, .mv 9 (.v 1)),
       (none, .asg 4 (.v 9) .copy)])
     (.ret [4]))))⟩
def F717 : PFunc :=
 ⟨[true], [.tmp 2],
  (.seq
   (.region [] [] [0] false [
     (none, .asg 2 (.c (.sl true 3 [])) .copy)])
   (.seq
    (.region [] [] [0, 3] false [
      (none, .mksl 7 3 (.agg [(.int .i64 0), (.int .i64 0), (.int .i64 0)]) 0 []),
      (none, .asg 3 (.v 7) .move)])
    (.seq
     (.region [(8, 0, false)] [] [0, 3, 4] false [
       (none, .mv 8 (.v 0)),
       (none, .call (some 9) 7 true [((.v 8), true), ((.c (.int .i64 6)), false)]),
       (none, .asg 4 (.v 9) .copy)])
     (.seq
      (.seq
       (.region [(10, 0, false)] [] [0, 3, 4, 5] false [
         (none, .mv 10 (.v 0)),
         (none, .call (some 11) 7 true [((.v 10), true), ((.c (.int .i64 6)), false)]),
         (none, .asg 5 (.v 11) .copy)])
       (.block 0
        (.loop
         (.seq
          (.seq
           (.region [] [] [0, 3, 4, 5, 13] false [
             (none, .mv 12 (.v 5)),
             (none, .bin 13 .gtr (.v 12) (.c (.int .i64 0)))])
           (.cond (.v 13)
            (.skip [0, 3, 4, 5])
            (.exit 0 [0, 3])))
          (.seq
           (.block 1
            (.seq
             (.region [] [] [0, 3, 4, 5, 6] false [
               (none, .mv 16 (.v 4)),
               (none, .build 17 [(.int .i64 0), (.int .i64 0), (.int .i64 0)] [(0, 1, (.v 16), .copy)]),
               (none, .new 6 (.agg [(.int .i64 0), (.int .i64 0), (.int .i64 0)])),
               (none, .store 3 (.v 6) (.v 17) .copy)])
             (.seq
              (.region [(23, 6, false), (20, 0, false)] [] [0, 3, 4, 5, 6] false [
                (none, .mv 18 (.v 4)),
                (none, .bin 19 .add (.v 18) (.c (.int .i64 1))),
                (none, .mv 20 (.v 0)),
                (none, .call (some 21) 7 true [((.v 20), true), ((.c (.int .i64 20)), false)]),
                (none, .bin 22 .add (.v 19) (.v 21)),
                (none, .fadr 23 1 1 (.v 6)),
                (none, .store 1 (.v 23) (.v 22) .copy)])
              (.seq
               (.region [(26, 6, false), (24, 0, false)] [] [0, 3, 4, 5, 6] false [
                 (none, .mv 24 (.v 0)),
                 (none, .call (some 25) 7 true [((.v 24), true), ((.c (.int .i64 7)), false)]),
                 (none, .fadr 26 2 1 (.v 6)),
                 (none, .store 1 (.v 26) (.v 25) .copy)])
               (.seq
                (.region [(27, 3, false)] [] [0, 3, 4, 5] false [
                  (none, .mv 27 (.v 3)),
                  (none, .load 28 true 3 (.v 6) none),
                  (none, .mksl 29 3 (.agg [(.int .i64 0), (.int .i64 0), (.int .i64 0)]) 1 [(0, (.v 28), .copy)]),
                  (none, .app 30 3 (.v 27) (.v 29) .move),
                  (none, .asg 3 (.v 30) .move)])
                (.region [(32, 0, false)] [] [0, 3, 4, 5] false [
                  (none, .mv 31 (.v 4)),
                  (none, .mv 32 (.v 0)),
                  (none, .call (some 33) 7 true [((.v 32), true), ((.c (.int .i64 18)), false)]),
                  (none, .bin 34 .add (.v 31) (.v 33)),
                  (none, .bin 35 .sub (.v 34) (.c (.int .i64 3))),
                  (none, .call (some 36) 606 false [((.c (.int .i64 0)), false), ((.v 35), false)]),
                  (none, .asg 4 (.v 36) .copy)]))))))
           (.region [] [] [0, 3, 4, 5] false [
             (none, .mv 14 (.v 5)),
             (none, .bin 15 .sub (.v 14) (.c (.int .i64 1))),
             (none, .asg 5 (.v 15) .copy)]))))))
      (.seq
       (.region [(37, 3, false)] [] [0, 2] false [
         (none, .mv 37 (.v 3)),
         (none, .asg 2 (.v 37) .move)])
       (.ret [0, 2]))))))⟩
def F434 : PFunc :=
 ⟨[false], [.tmp 2],
  (.seq
   (.region [] [] [0] false [
     (none, .asg 2 (.c (.sl true 3 [])) .copy)])
   (.seq
    (.region [(3, 0, false)] [] [2] false [
      (none, .mv 3 (.v 0)),
      (none, .call (some 4) 603 true [((.v 3), false)]),
      (none, .call (some 5) 717 true [((.v 4), true)]),
      (none, .asg 2 (.v 5) .move)])
    (.ret [2])))⟩
def F605 : PFunc :=
 ⟨[false, false, false], [.tmp 6],
  (.seq
   (.region [] [] [0, 1, 2] false [
     (none, .asg 6 (.c (.bool false)) .copy)])
   (.seq
    (.region [] [] [6] false [
      (none, .mv 7 (.v 0)),
      (none, .mv 8 (.v 1)),
      (none, .bin 9 .geq (.v 7) (.v 8)),
      (none, .mv 10 (.v 9)),
      (some (10, true), .mv 11 (.v 0)),
      (some (10, true), .mv 12 (.v 2)),
      (some (10, true), .bin 13 .leq (.v 11) (.v 12)),
      (none, .pick 14 (.v 10) (.v 13) (.c (.bool false))),
      (none, .asg 6 (.v 14) .copy)])
    (.ret [6])))⟩
def F607 : PFunc :=
 ⟨[false, false], [.tmp 4],
  (.seq
   (.region [] [] [0, 1] false [
     (none, .asg 4 (.c (.int .i64 0)) .copy)])
   (.seq
    (.seq
     (.region [] [] [0, 1, 7] false [
       (none, .mv 5 (.v 0)),
       (none, .mv 6 (.v 1)),
       (none, .bin 7 .lss (.v 5) (.v 6))])
     (.cond (.v 7)
      (.seq
       (.region [] [] [4] false [
         (none, .mv 8 (.v 0)),
         (none, .asg 4 (.v 8) .copy)])
       (.ret [4]))
      (.skip [1])))
    (.seq
     (.region [] [] [4] false [
       (none, .mv 9 (.v 1)),
       (none, .asg 4 (.v 9) .copy)])
     (.ret [4]))))⟩
def F718 : PFunc :=
 ⟨[false, false], [.tmp 4],
  (.seq
   (.region [] [] [1, 2] false [
     (none, .box 2 (.v 0) .copy),
     (none, .asg 4 (.c (.int .i64 0)) .copy)])
   (.seq
    (.seq
     (.region [(8, 2, false), (6, 2, false)] [] [1, 2, 12] false [
       (none, .mv 5 (.v 1)),
       (none, .fadr 6 0 1 (.v 2)),
       (none, .load 7 false 1 (.v 6) none),
       (none, .fadr 8 1 1 (.v 2)),
       (none, .load 9 false 1 (.v 8) none),
       (none, .bin 10 .sub (.v 9) (.c (.int .i64 1))),
       (none, .call (some 11) 605 false [((.v 5), false), ((.v 7), false), ((.v 10), false)]),
       (none, .un 12 .not (.v 11))])
     (.cond (.v 12)
      (.seq
       (.region [] [] [4] false [
         (none, .asg 4 (.c (.int .i64 0)) .copy)])
       (.ret [4]))
      (.skip [1, 2])))
    (.seq
     (.seq
      (.region [(13, 2, false)] [] [1, 2, 15] false [
        (none, .fadr 13 2 1 (.v 2)),
        (none, .load 14 false 1 (.v 13) none),
        (none, .bin 15 .eql (.v 14) (.c (.int .i64 0)))])
      (.cond (.v 15)
       (.seq
        (.region [] [] [4] false [
          (none, .asg 4 (.c (.int .i64 100)) .copy)])
        (.ret [4]))
       (.skip [1, 2])))
     (.seq
      (.region [(29, 2, false), (24, 2, false), (21, 2, false), (17, 2, false)] [] [4] true [
        (none, .mv 16 (.v 1)),
        (none, .fadr 17 0 1 (.v 2)),
        (none, .load 18 false 1 (.v 17) none),
        (none, .bin 19 .sub (.v 16) (.v 18)),
        (none, .bin 20 .mul (.c (.int .i64 100)) (.v 19)),
        (none, .fadr 21 2 1 (.v 2)),
        (none, .load 22 false 1 (.v 21) none),
        (none, .bin 23 .quo (.v 20) (.v 22)),
        (none, .fadr 24 1 1 (.v 2)),
        (none, .load 25 false 1 (.v 24) none),
        (none, .mv 26 (.v 1)),
        (none, .bin 27 .sub (.v 25) (.v 26)),
        (none, .bin 28 .mul (.c (.int .i64 100)) (.v 27)),
        (none, .fadr 29 2 1 (.v 2)),
        (none, .load 30 false 1 (.v 29) none),
        (none, .bin 31 .quo (.v 28) (.v 30)),
        (none, .call (some 32) 607 false [((.v 23), false), ((.v 31), false)]),
        (none, .call (some 33) 607 false [((.c (.int .i64 100)), false), ((.v 32), false)]),
        (none, .asg 4 (.v 33) .copy)])
      (.ret [4])))))⟩
def F719 : PFunc :=
 ⟨[false, false], [.tmp 4],
  (.seq
   (.region [] [] [0, 1] false [
     (none, .asg 4 (.c (.int .i64 0)) .copy)])
   (.seq
    (.region [] [] [0, 1, 5] false [
      (none, .asg 5 (.c (.int .i64 0)) .copy)])
    (.seq
     (.seq
      (.region [] [] [0, 1, 5, 6] false [
        (none, .asg 6 (.c (.int .i64 0)) .copy)])
      (.block 0
       (.loop
        (.seq
         (.seq
          (.region [(8, 0, false)] [] [0, 1, 5, 6, 10] false [
            (none, .mv 7 (.v 6)),
            (none, .mv 8 (.v 0)),
            (none, .len 9 false (.v 8)),
            (none, .bin 10 .lss (.v 7) (.v 9))])
          (.cond (.v 10)
           (.skip [0, 1, 5, 6])
           (.exit 0 [5])))
         (.seq
          (.block 1
           (.region [(16, 0, false), (14, 0, false)] [] [0, 1, 5, 6] false [
             (none, .mv 13 (.v 5)),
             (none, .mv 14 (.v 0)),
             (none, .mv 15 (.v 6)),
             (none, .iadr 16 3 (.v 14) (.v 15)),
             (none, .load 17 true 3 (.v 16) none),
             (none, .mv 18 (.v 1)),
             (none, .call (some 19) 718 false [((.v 17), false), ((.v 18), false)]),
             (none, .bin 20 .add (.v 13) (.v 19)),
             (none, .asg 5 (.v 20) .copy)]))
          (.region [] [] [0, 1, 5, 6] false [
            (none, .mv 11 (.v 6)),
            (none, .bin 12 .add (.v 11) (.c (.int .i64 1))),
            (none, .asg 6 (.v 12) .copy)]))))))
     (.seq
      (.region [] [] [4] false [
        (none, .mv 21 (.v 5)),
        (none, .asg 4 (.v 21) .copy)])
      (.ret [4])))))⟩
def F721 : PFunc :=
 ⟨[false], [.tmp 2],
  (.seq
   (.region [] [] [1] false [
     (none, .box 1 (.v 0) .copy),
     (none, .asg 2 (.c (.bool false)) .copy)])
   (.seq
    (.region [(15, 1, false), (9, 1, false), (7, 1, false), (3, 1, false)] [] [2] false [
      (none, .fadr 3 0 1 (.v 1)),
      (none, .load 4 false 1 (.v 3) none),
      (none, .call (some 5) 605 false [((.v 4), false), ((.c (.int .i64 0)), false), ((.c (.int .i64 10000)), false)]),
      (none, .mv 6 (.v 5)),
      (some (6, true), .fadr 7 1 1 (.v 1)),
      (some (6, true), .load 8 false 1 (.v 7) none),
      (some (6, true), .fadr 9 0 1 (.v 1)),
      (some (6, true), .load 10 false 1 (.v 9) none),
      (some (6, true), .bin 11 .add (.v 10) (.c (.int .i64 1))),
      (some (6, true), .call (some 12) 605 false [((.v 8), false), ((.v 11), false), ((.c (.int .i64 20000)), false)]),
      (none, .pick 13 (.v 6) (.v 12) (.c (.bool false))),
      (none, .mv 14 (.v 13)),
      (some (14, true), .fadr 15 2 1 (.v 1)),
      (some (14, true), .load 16 false 1 (.v 15) none),
      (some (14, true), .call (some 17) 605 false [((.v 16), false), ((.c (.int .i64 0)), false), ((.c (.int .i64 500)), false)]),
      (none, .pick 18 (.v 14) (.v 17) (.c (.bool false))),
      (none, .asg 2 (.v 18) .copy)])
    (.ret [2])))⟩
def F720 : PFunc :=
 ⟨[false], [.tmp 2],
  (.seq
   (.region [] [] [0] false [
     (none, .asg 2 (.c (.bool false)) .copy)])
   (.seq
    (.seq
     (.region [] [] [0, 3] false [
       (none, .asg 3 (.c (.int .i64 0)) .copy)])
     (.block 0
      (.loop
       (.seq
        (.seq
         (.region [(5, 0, false)] [] [0, 3, 7] false [
           (none, .mv 4 (.v 3)),
           (none, .mv 5 (.v 0)),
           (none, .len 6 false (.v 5)),
           (none, .bin 7 .lss (.v 4) (.v 6))])
         (.cond (.v 7)
          (.skip [0, 3])
          (.exit 0 [0])))
        (.seq
         (.block 1
          (.seq
           (.region [(12, 0, false), (10, 0, false)] [] [0, 3, 15] false [
             (none, .mv 10 (.v 0)),
             (none, .mv 11 (.v 3)),
             (none, .iadr 12 3 (.v 10) (.v 11)),
             (none, .load 13 true 3 (.v 12) none),
             (none, .call (some 14) 721 false [((.v 13), false)]),
             (none, .un 15 .not (.v 14))])
           (.cond (.v 15)
            (.seq
             (.region [] [] [2] false [
               (none, .asg 2 (.c (.bool false)) .copy)])
             (.ret [2]))
            (.skip [0, 3]))))
         (.region [] [] [0, 3] false [
           (none, .mv 8 (.v 3)),
           (none, .bin 9 .add (.v 8) (.c (.int .i64 1))),
           (none, .asg 3 (.v 9) .copy)]))))))
    (.seq
     (.region [(16, 0, false)] [] [2] false [
       (none, .mv 16 (.v 0)),
       (none, .len 17 false (.v 16)),
       (none, .bin 18 .leq (.v 17) (.c (.int .i64 12))),
       (none, .asg 2 (.v 18) .copy)])
     (.ret [2]))))⟩
def F722 : PFunc :=
 ⟨[false], [.tmp 2],
  (.seq
   (.region [] [] [0] false [
     (none, .asg 2 (.c (.bool false)) .copy)])
   (.seq
    (.region [] [] [2] false [
      (none, .mv 3 (.v 0)),
      (none, .call (some 4) 605 false [((.v 3), false), ((.c (.int .i64 0)), false), ((.c (.int .i64 20000)), false)]),
      (none, .asg 2 (.v 4) .copy)])
    (.ret [2])))⟩
def F540 : PFunc :=
 ⟨[false, false], [.tmp 4, .tmp 5],
  (.seq
   (.region [] [] [0, 1] false [
     (none, .asg 4 (.c (.int .i64 0)) .copy),
     (none, .asg 5 (.c (.int .i64 0)) .copy)])
   (.seq
    (.seq
     (.region [(6, 0, false)] [] [0, 1, 8] false [
       (none, .mv 6 (.v 0)),
       (none, .call (some 7) 720 false [((.v 6), false)]),
       (none, .un 8 .not (.v 7))])
     (.cond (.v 8)
      (.seq
       (.region [] [] [4, 5] false [
         (none, .asg 4 (.c (.int .i64 0)) .copy),
         (none, .asg 5 (.c (.int .i64 1)) .copy)])
       (.ret [4, 5]))
      (.skip [0, 1])))
    (.seq
     (.seq
      (.region [] [] [0, 1, 11] false [
        (none, .mv 9 (.v 1)),
        (none, .call (some 10) 722 false [((.v 9), false)]),
        (none, .un 11 .not (.v 10))])
      (.cond (.v 11)
       (.seq
        (.region [] [] [4, 5] false [
          (none, .asg 4 (.c (.int .i64 0)) .copy),
          (none, .asg 5 (.c (.int .i64 2)) .copy)])
        (.ret [4, 5]))
       (.skip [0, 1])))
     (.seq
      (.region [(12, 0, false)] [] [4, 5] false [
        (none, .mv 12 (.v 0)),
        (none, .mv 13 (.v 1)),
        (none, .call (some 14) 719 false [((.v 12), false), ((.v 13), false)]),
        (none, .asg 4 (.v 14) .copy),
        (none, .asg 5 (.c (.int .i64 0)) .copy)])
      (.ret [4, 5])))))⟩
def F596 : PFunc :=
 ⟨[false], [.tmp 2],
  (.seq
   (.region [] [] [0] false [
     (none, .asg 2 (.c (.bool false)) .copy)])
   (.seq
    (.region [(3, 0, false)] [] [2] false [
      (none, .mv 3 (.v 0)),
      (none, .call (some 4) 720 false [((.v 3), false)]),
      (none, .asg 2 (.v 4) .copy)])
    (.ret [2])))⟩
def F359 : PFunc :=
 ⟨[false, false], [.tmp 4],
  (.seq
   (.region [] [] [0, 1] false [
     (none, .asg 4 (.c (.bool false)) .copy)])
   (.seq
    (.seq
     (.region [(30, 1, false), (29, 0, false)] [] [0, 1, 31] false [
       (none, .mv 29 (.v 0)),
       (none, .mv 30 (.v 1)),
       (none, .call (some 31) 386 false [((.v 29), false), ((.v 30), false)])])
     (.cond (.v 31)
      (.seq
       (.region [] [] [4] false [
         (none, .asg 4 (.c (.bool true)) .copy)])
       (.ret [4]))
      (.skip [0, 1])))
    (.seq
     (.region [(32, 0, false)] [] [1, 5] false [
       (none, .mv 32 (.v 0)),
       (none, .call (some 33) 434 false [((.v 32), false)]),
       (none, .asg 5 (.v 33) .move)])
     (.seq
      (.region [(35, 5, false)] [] [1, 5, 6, 7] false [
        (none, .mv 35 (.v 5)),
        (none, .call (some 36) 87 false [((.v 35), false)]),
        (none, .asg 34 (.v 36) .copy),
        (none, .extp 37 (.v 34) 0),
        (none, .extp 38 (.v 34) 1),
        (none, .asg 6 (.v 37) .copy),
        (none, .asg 7 (.v 38) .copy)])
      (.seq
       (.region [(40, 5, false)] [] [1, 5, 6, 7, 8, 9] false [
         (none, .mv 40 (.v 5)),
         (none, .call (some 41) 42 false [((.v 40), false)]),
         (none, .asg 39 (.v 41) .move),
         (none, .ext 42 (.v 39) 0),
         (none, .extp 43 (.v 39) 1),
         (none, .asg 8 (.v 42) .move),
         (none, .asg 9 (.v 43) .copy)])
       (.seq
        (.region [(45, 5, false)] [] [1, 5, 6, 7, 8, 9, 10, 11, 12] false [
          (none, .mv 45 (.v 5)),
          (none, .call (some 46) 58 false [((.v 45), false)]),
          (none, .asg 44 (.v 46) .copy),
          (none, .extp 47 (.v 44) 0),
          (none, .extp 48 (.v 44) 1),
          (none, .extp 49 (.v 44) 2),
          (none, .asg 10 (.v 47) .copy),
          (none, .asg 11 (.v 48) .copy),
          (none, .asg 12 (.v 49) .copy)])
        (.seq
         (.seq
          (.region [(70, 5, false), (63, 5, false), (61, 8, false)] [] [1, 5, 6, 8, 10, 11, 12, 74] false [
            (none, .mv 50 (.v 7)),
            (none, .bin 51 .neq (.v 50) (.c (.int .i64 0))),
            (none, .mv 52 (.v 51)),
            (some (52, false), .mv 53 (.v 6)),
            (some (52, false), .bin 54 .lss (.v 53) (.c (.int .i64 0))),
            (none, .pick 55 (.v 52) (.c (.bool true)) (.v 54)),
            (none, .mv 56 (.v 55)),
            (some (56, false), .mv 57 (.v 9)),
            (some (56, false), .bin 58 .neq (.v 57) (.c (.int .i64 0))),
            (none, .pick 59 (.v 56) (.c (.bool true)) (.v 58)),
            (none, .mv 60 (.v 59)),
            (some (60, false), .mv 61 (.v 8)),
            (some (60, false), .len 62 false (.v 61)),
            (some (60, false), .mv 63 (.v 5)),
            (some (60, false), .len 64 false (.v 63)),
            (some (60, false), .bin 65 .neq (.v 62) (.v 64)),
            (none, .pick 66 (.v 60) (.c (.bool true)) (.v 65)),
            (none, .mv 67 (.v 66)),
            (some (67, false), .mv 68 (.v 6)),
            (some (67, false), .bin 69 .gtr (.v 68) (.c (.int .i64 0))),
            (some (67, false), .mv 70 (.v 5)),
            (some (67, false), .len 71 false (.v 70)),
            (some (67, false), .bin 72 .gtr (.v 71) (.c (.int .i64 0))),
            (some (67, false), .eqb 73 true (.v 69) (.v 72)),
            (none, .pick 74 (.v 67) (.c (.bool true)) (.v 73))])
          (.cond (.v 74)
           (.seq
            (.region [] [] [4] false [
              (none, .asg 4 (.c (.bool false)) .copy)])
            (.ret [4]))
           (.skip [1, 5, 6, 8, 10, 11, 12])))
         (.seq
          (.region [] [] [1, 5, 6, 8, 10, 11, 12, 13] false [
            (none, .asg 13 (.c (.int .i64 0)) .copy)])
          (.seq
           (.seq
            (.region [] [] [1, 5, 6, 8, 10, 11, 12, 13, 14] false [
              (none, .asg 14 (.c (.int .i64 0)) .copy)])
            (.block 0
             (.loop
              (.seq
               (.seq
                (.region [(76, 5, false)] [] [1, 5, 6, 8, 10, 11, 12, 13, 14, 78] false [
                  (none, .mv 75 (.v 14)),
                  (none, .mv 76 (.v 5)),
                  (none, .len 77 false (.v 76)),
                  (none, .bin 78 .lss (.v 75) (.v 77))])
                (.cond (.v 78)
                 (.skip [1, 5, 6, 8, 10, 11, 12, 13, 14])
                 (.exit 0 [1, 5, 6, 10, 11, 12, 13])))
               (.seq
                (.block 1
                 (.seq
                  (.seq
                   (.region [(89, 8, false), (87, 8, false), (83, 8, false), (81, 8, false)] [] [1, 5, 6, 8, 10, 11, 12, 13, 14, 93] false [
                     (none, .mv 81 (.v 8)),
                     (none, .mv 82 (.v 14)),
                     (none, .iadr 83 1 (.v 81) (.v 82)),
                     (none, .load 84 false 1 (.v 83) none),
                     (none, .bin 85 .lss (.v 84) (.c (.int .i64 0))),
                     (none, .mv 86 (.v 85)),
                     (some (86, false), .mv 87 (.v 8)),
                     (some (86, false), .mv 88 (.v 14)),
                     (some (86, false), .iadr 89 1 (.v 87) (.v 88)),
                     (some (86, false), .load 90 false 1 (.v 89) none),
                     (some (86, false), .mv 91 (.v 6)),
                     (some (86, false), .bin 92 .geq (.v 90) (.v 91)),
                     (none, .pick 93 (.v 86) (.c (.bool true)) (.v 92))])
                   (.cond (.v 93)
                    (.seq
                     (.region [] [] [4] false [
                       (none, .asg 4 (.c (.bool false)) .copy)])
                     (.ret [4]))
                    (.skip [1, 5, 6, 8, 10, 11, 12, 13, 14])))
                  (.seq
                   (.region [(97, 8, false), (95, 8, false)] [] [1, 5, 6, 8, 10, 11, 12, 13, 14] false [
                     (none, .mv 94 (.v 13)),
                     (none, .mv 95 (.v 8)),
                     (none, .mv 96 (.v 14)),
                     (none, .iadr 97 1 (.v 95) (.v 96)),
                     (none, .load 98 false 1 (.v 97) none),
                     (none, .bin 99 .add (.v 98) (.c (.int .i64 1))),
                     (none, .mm 100 true (.v 94) [(.v 99)]),
                     (none, .asg 13 (.v 100) .copy)])
                   (.seq
                    (.region [] [] [1, 5, 6, 8, 10, 11, 12, 13, 14, 15] false [
                      (none, .asg 15 (.c (.int .i64 0)) .copy)])
                    (.block 2
                     (.loop
                      (.seq
                       (.seq
                        (.region [] [] [1, 5, 6, 8, 10, 11, 12, 13, 14, 15, 103] false [
                          (none, .mv 101 (.v 15)),
                          (none, .mv 102 (.v 14)),
                          (none, .bin 103 .lss (.v 101) (.v 102))])
                        (.cond (.v 103)
                         (.skip [1, 5, 6, 8, 10, 11, 12, 13, 14, 15])
                         (.exit 2 [1, 5, 6, 8, 10, 11, 12, 13, 14])))
                       (.seq
                        (.block 3
                         (.seq
                          (.region [(137, 5, false), (136, 5, false), (134, 5, false), (132, 5, false), (131, 5, false), (129, 5, false), (124, 5, false), (123, 5, false), (121, 5, false), (119, 5, false), (118, 5, false), (116, 5, false), (112, 8, false), (110, 8, false), (108, 8, false), (106, 8, false)] [] [1, 5, 6, 8, 10, 11, 12, 13, 14, 15, 140] true [
                            (none, .mvr 106 8),
                            (none, .mv 107 (.v 14)),
                            (none, .iadr 108 1 (.v 106) (.v 107)),
                            (none, .load 109 false 1 (.v 108) none),
                            (none, .mvr 110 8),
                            (none, .mv 111 (.v 15)),
                            (none, .iadr 112 1 (.v 110) (.v 111)),
                            (none, .load 113 false 1 (.v 112) none),
                            (none, .bin 114 .eql (.v 109) (.v 113)),
                            (none, .mv 115 (.v 114)),
                            (some (115, true), .mvr 116 5),
                            (some (115, true), .mv 117 (.v 14)),
                            (some (115, true), .iadr 118 3 (.v 116) (.v 117)),
                            (some (115, true), .fadr 119 0 1 (.v 118)),
                            (some (115, true), .load 120 false 1 (.v 119) none),
                            (some (115, true), .mvr 121 5),
                            (some (115, true), .mv 122 (.v 15)),
                            (some (115, true), .iadr 123 3 (.v 121) (.v 122)),
                            (some (115, true), .fadr 124 1 1 (.v 123)),
                            (some (115, true), .load 125 false 1 (.v 124) none),
                            (some (115, true), .bin 126 .lss (.v 120) (.v 125)),
                            (none, .pick 127 (.v 115) (.v 126) (.c (.bool false))),
                            (none, .mv 128 (.v 127)),
                            (some (128, true), .mvr 129 5),
                            (some (128, true), .mv 130 (.v 15)),
                            (some (128, true), .iadr 131 3 (.v 129) (.v 130)),
                            (some (128, true), .fadr 132 0 1 (.v 131)),
                            (some (128, true), .load 133 false 1 (.v 132) none),
                            (some (128, true), .mvr 134 5),
                            (some (128, true), .mv 135 (.v 14)),
                            (some (128, true), .iadr 136 3 (.v 134) (.v 135)),
                            (some (128, true), .fadr 137 1 1 (.v 136)),
                            (some (128, true), .load 138 false 1 (.v 137) none),
                            (some (128, true), .bin 139 .lss (.v 133) (.v 138)),
                            (none, .pick 140 (.v 128) (.v 139) (.c (.bool false)))])
                          (.cond (.v 140)
                           (.seq
                            (.region [] [] [4] false [
                              (none, .asg 4 (.c (.bool false)) .copy)])
                            (.ret [4]))
                           (.skip [1, 5, 6, 8, 10, 11, 12, 13, 14, 15]))))
                        (.region [] [] [1, 5, 6, 8, 10, 11, 12, 13, 14, 15] false [
                          (none, .mv 104 (.v 15)),
                          (none, .bin 105 .add (.v 104) (.c (.int .i64 1))),
                          (none, .asg 15 (.v 105) .copy)])))))))))
                (.region [] [] [1, 5, 6, 8, 10, 11, 12, 13, 14] false [
                  (none, .mv 79 (.v 14)),
                  (none, .bin 80 .add (.v 79) (.c (.int .i64 1))),
                  (none, .asg 14 (.v 80) .copy)]))))))
           (.seq
            (.seq
             (.region [] [] [1, 5, 10, 11, 12, 143] false [
               (none, .mv 141 (.v 13)),
               (none, .mv 142 (.v 6)),
               (none, .bin 143 .neq (.v 141) (.v 142))])
             (.cond (.v 143)
              (.seq
               (.region [] [] [4] false [
                 (none, .asg 4 (.c (.bool false)) .copy)])
               (.ret [4]))
              (.skip [1, 5, 10, 11, 12])))
            (.seq
             (.seq
              (.region [] [] [1, 5, 10, 11, 12, 145] false [
                (none, .mv 144 (.v 12)),
                (none, .bin 145 .eql (.v 144) (.c (.int .i64 0)))])
              (.cond (.v 145)
               (.seq
                (.region [(147, 5, false)] [] [1, 5, 11, 16, 17] false [
                  (none, .mv 147 (.v 5)),
                  (none, .mv 148 (.v 10)),
                  (none, .call (some 149) 540 false [((.v 147), false), ((.v 148), false)]),
                  (none, .asg 146 (.v 149) .copy),
                  (none, .extp 150 (.v 146) 0),
                  (none, .extp 151 (.v 146) 1),
                  (none, .asg 16 (.v 150) .copy),
                  (none, .asg 17 (.v 151) .copy)])
                (.seq
                 (.region [(154, 1, false), (153, 5, false)] [] [1, 11, 16, 17, 18, 19] false [
                   (none, .mv 153 (.v 5)),
                   (none, .mv 154 (.v 1)),
                   (none, .call (some 155) 384 false [((.v 154), false), ((.c (.int .i64 0)), false), ((.c (.int .i64 90)), false)]),
                   (none, .call (some 156) 540 false [((.v 153), false), ((.v 155), false)]),
                   (none, .asg 152 (.v 156) .copy),
                   (none, .extp 157 (.v 152) 0),
                   (none, .extp 158 (.v 152) 1),
                   (none, .asg 18 (.v 157) .copy),
                   (none, .asg 19 (.v 158) .copy)])
                 (.seq
                  (.region [] [] [1, 178] false [
                    (none, .mv 159 (.v 17)),
                    (none, .bin 160 .neq (.v 159) (.c (.int .i64 0))),
                    (none, .mv 161 (.v 160)),
                    (some (161, false), .mv 162 (.v 16)),
                    (some (161, false), .mv 163 (.v 11)),
                    (some (161, false), .bin 164 .neq (.v 162) (.v 163)),
                    (none, .pick 165 (.v 161) (.c (.bool true)) (.v 164)),
                    (none, .mv 166 (.v 165)),
                    (some (166, false), .mv 167 (.v 11)),
                    (some (166, false), .bin 168 .lss (.v 167) (.c (.int .i64 1))),
                    (none, .pick 169 (.v 166) (.c (.bool true)) (.v 168)),
                    (none, .mv 170 (.v 169)),
                    (some (170, false), .mv 171 (.v 19)),
                    (some (170, false), .bin 172 .neq (.v 171) (.c (.int .i64 0))),
                    (none, .pick 173 (.v 170) (.c (.bool true)) (.v 172)),
                    (none, .mv 174 (.v 173)),
                    (some (174, false), .mv 175 (.v 18)),
                    (some (174, false), .mv 176 (.v 11)),
                    (some (174, false), .bin 177 .gtr (.v 175) (.v 176)),
                    (none, .pick 178 (.v 174) (.c (.bool true)) (.v 177))])
                  (.cond (.v 178)
                   (.seq
                    (.region [] [] [4] false [
                      (none, .asg 4 (.c (.bool false)) .copy)])
                    (.ret [4]))
                   (.skip [1])))))
               (.seq
                (.region [] [] [1, 180] false [
                  (none, .mv 179 (.v 12)),
                  (none, .bin 180 .neq (.v 179) (.c (.int .i64 10)))])
                (.cond (.v 180)
                 (.seq
                  (.region [] [] [4] false [
                    (none, .asg 4 (.c (.bool false)) .copy)])
                  (.ret [4]))
                 (.skip [1])))))
             (.seq
              (.region [(181, 1, false)] [] [1, 20] false [
                (none, .mv 181 (.v 1)),
                (none, .call (some 182) 384 false [((.v 181), false), ((.c (.int .i64 1)), false), ((.c (.int .i64 6)), false)]),
                (none, .bin 183 .add (.c (.int .i64 2)) (.v 182)),
                (none, .asg 20 (.v 183) .copy)])
              (.seq
               (.region [(184, 1, false)] [] [1, 20, 21] false [
                 (none, .mv 184 (.v 1)),
                 (none, .call (some 185) 384 false [((.v 184), false), ((.c (.int .i64 2)), false), ((.c (.int .i64 10)), false)]),
                 (none, .asg 21 (.v 185) .copy)])
               (.seq
                (.region [(188, 1, false)] [] [20, 21, 22] false [
                  (none, .mv 186 (.v 21)),
                  (none, .bin 187 .add (.v 186) (.c (.int .i64 1))),
                  (none, .mv 188 (.v 1)),
                  (none, .call (some 189) 384 false [((.v 188), false), ((.c (.int .i64 3)), false), ((.c (.int .i64 20)), false)]),
                  (none, .bin 190 .add (.v 187) (.v 189)),
                  (none, .asg 22 (.v 190) .copy)])
                (.seq
                 (.region [] [] [20, 21, 22, 23, 24] false [
                   (none, .mv 192 (.v 20)),
                   (none, .mv 193 (.v 22)),
                   (none, .mv 194 (.v 21)),
                   (none, .call (some 195) 78 false [((.v 192), false), ((.v 193), false), ((.v 194), false)]),
                   (none, .asg 191 (.v 195) .move),
                   (none, .ext 196 (.v 191) 0),
                   (none, .extp 197 (.v 191) 1),
                   (none, .asg 23 (.v 196) .move),
                   (none, .asg 24 (.v 197) .copy)])
                 (.seq
                  (.region [(199, 23, false)] [] [20, 21, 22, 23, 24, 25, 26] false [
                    (none, .mv 199 (.v 23)),
                    (none, .call (some 200) 87 false [((.v 199), false)]),
                    (none, .asg 198 (.v 200) .copy),
                    (none, .extp 201 (.v 198) 0),
                    (none, .extp 202 (.v 198) 1),
                    (none, .asg 25 (.v 201) .copy),
                    (none, .asg 26 (.v 202) .copy)])
                  (.seq
                   (.region [(204, 23, false)] [] [20, 21, 23, 24, 25, 26, 27, 28] false [
                     (none, .mv 204 (.v 23)),
                     (none, .mv 205 (.v 20)),
                     (none, .mv 206 (.v 22)),
                     (none, .bin 207 .mul (.v 205) (.v 206)),
                     (none, .call (some 208) 72 false [((.v 204), false), ((.c (.int .i64 1)), false), ((.v 207), false)]),
                     (none, .asg 203 (.v 208) .copy),
                     (none, .extp 209 (.v 203) 0),
                     (none, .extp 210 (.v 203) 1),
                     (none, .asg 27 (.v 209) .copy),
                     (none, .asg 28 (.v 210) .copy)])
                   (.seq
                    (.region [(220, 23, false), (214, 23, false)] [] [4] false [
                      (none, .mv 211 (.v 24)),
                      (none, .bin 212 .eql (.v 211) (.c (.int .i64 0))),
                      (none, .mv 213 (.v 212)),
                      (some (213, true), .mv 214 (.v 23)),
                      (some (213, true), .len 215 false (.v 214)),
                      (some (213, true), .mv 216 (.v 20)),
                      (some (213, true), .bin 217 .eql (.v 215) (.v 216)),
                      (none, .pick 218 (.v 213) (.v 217) (.c (.bool false))),
                      (none, .mv 219 (.v 218)),
                      (some (219, true), .mv 220 (.v 23)),
                      (some (219, true), .call (some 221) 596 false [((.v 220), false)]),
                      (none, .pick 222 (.v 219) (.v 221) (.c (.bool false))),
                      (none, .mv 223 (.v 222)),
                      (some (223, true), .mv 224 (.v 26)),
                      (some (223, true), .bin 225 .eql (.v 224) (.c (.int .i64 0))),
                      (none, .pick 226 (.v 223) (.v 225) (.c (.bool false))),
                      (none, .mv 227 (.v 226)),
                      (some (227, true), .mv 228 (.v 25)),
                      (some (227, true), .bin 229 .eql (.v 228) (.c (.int .i64 1))),
                      (some (227, true), .mv 230 (.v 21)),
                      (some (227, true), .bin 231 .eql (.v 230) (.c (.int .i64 0))),
                      (some (227, true), .eqb 232 false (.v 229) (.v 231)),
                      (none, .pick 233 (.v 227) (.v 232) (.c (.bool false))),
                      (none, .mv 234 (.v 233)),
                      (some (234, true), .mv 235 (.v 25)),
                      (some (234, true), .bin 236 .leq (.v 235) (.c (.int .i64 2))),
                      (none, .pick 237 (.v 234) (.v 236) (.c (.bool false))),
                      (none, .mv 238 (.v 237)),
                      (some (238, true), .mv 239 (.v 28)),
                      (some (238, true), .bin 240 .eql (.v 239) (.c (.int .i64 0))),
                      (none, .pick 241 (.v 238) (.v 240) (.c (.bool false))),
                      (none, .mv 242 (.v 241)),
                      (some (242, true), .mv 243 (.v 21)),
                      (some (242, true), .bin 244 .gtr (.v 243) (.c (.int .i64 0))),
                      (some (242, true), .mv 245 (.v 244)),
                      (some (245, false), .mv 246 (.v 27)),
                      (some (245, false), .bin 247 .eql (.v 246) (.c (.int .i64 0))),
                      (some (242, true), .pick 248 (.v 245) (.c (.bool true)) (.v 247)),
                      (none, .pick 249 (.v 242) (.v 248) (.c (.bool false))),
                      (none, .asg 4 (.v 249) .copy)])
                    (.ret [4])))))))))))))))))))⟩
def tabl : List (Nat × PFunc) := [(43, F43), (44, F44), (326, F326), (231, F231), (828, F828), (806, F806), (230, F230), (818, F818), (843, F843), (866, F866), (834, F834), (42, F42), (19, F19), (20, F20), (289, F289), (58, F58), (316, F316), (72, F72), (78, F78), (87, F87), (384, F384), (386, F386), (603, F603), (5, F5), (7, F7), (606, F606), (717, F717), (434, F434), (605, F605), (607, F607), (718, F718), (719, F719), (721, F721), (720, F720), (722, F722), (540, F540), (596, F596), (359, F359)]
def T : Nat → Option PFunc := tabOf tabl
end Go.Vs.G
