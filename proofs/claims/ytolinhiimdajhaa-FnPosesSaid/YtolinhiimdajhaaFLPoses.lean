/- The functions that the law reaches, in the small language, printed by program. No conditions. -/
import Derived.Test.YtolinhiimdajhaaDLPoses
import Derived.Test.YtolinhiimdajhaaV4
set_option maxRecDepth 100000
open Go Go.Vs
namespace Go.Vs.G
def F326 : PFunc :=
 ⟨[false, false, false], [.tmp 6],
  (.seq
   (.region [] [] [0, 1, 2] false [
     (none, .asg 6 (.c (.bool false)) .copy)])
   (.seq
    (.region [] [] [6] false [
      (none, .mv 7 (.v 0)),
      (none, .mv 8 (.v 1)),
      (none, .bin 9 .geq (.v 7) (.v 8)),
      (none, .mv 10 (.v 9)),
      (some (10, true), .mv 11 (.v 0)),
      (some (10, true), .mv 12 (.v 2)),
      (some (10, true), .bin 13 .leq (.v 11) (.v 12)),
      (none, .pick 14 (.v 10) (.v 13) (.c (.bool false))),
      (none, .asg 6 (.v 14) .copy)])
    (.ret [6])))⟩
def F226 : PFunc :=
 ⟨[false], [.tmp 2],
  (.seq
   (.region [] [] [1] false [
     (none, .box 1 (.v 0) .copy),
     (none, .asg 2 (.c (.bool false)) .copy)])
   (.seq
    (.region [(8, 1, false), (3, 1, false)] [] [2] false [
      (none, .fadr 3 0 1 (.v 1)),
      (none, .load 4 false 1 (.v 3) none),
      (none, .call (some 5) 326 false [((.v 4), false), ((.c (.int .i64 0)), false), ((.c (.int .i64 1000)), false)]),
      (none, .un 6 .not (.v 5)),
      (none, .mv 7 (.v 6)),
      (some (7, false), .fadr 8 1 1 (.v 1)),
      (some (7, false), .load 9 false 1 (.v 8) none),
      (some (7, false), .call (some 10) 326 false [((.v 9), false), ((.c (.int .i64 0)), false), ((.c (.int .i64 1000)), false)]),
      (some (7, false), .un 11 .not (.v 10)),
      (none, .pick 12 (.v 7) (.c (.bool true)) (.v 11)),
      (none, .asg 2 (.v 12) .copy)])
    (.ret [2])))⟩
def F826 : PFunc :=
 ⟨[false, false], [.tmp 4],
  (.seq
   (.region [] [] [0, 1] false [
     (none, .asg 4 (.c (.int .i64 0)) .copy)])
   (.seq
    (.seq
     (.region [(6, 0, false)] [] [0, 1, 7, 8] false [
       (none, .mv 6 (.v 0)),
       (none, .len 7 false (.v 6)),
       (none, .mv 8 (.c (.int .i64 0)))])
     (.block 0
      (.loop
       (.seq
        (.region [] [] [0, 1, 7, 8, 9] false [
          (none, .bin 9 .lss (.v 8) (.v 7))])
        (.seq
         (.cond (.v 9)
          (.skip [0, 1, 7, 8])
          (.exit 0 []))
         (.seq
          (.block 1
           (.seq
            (.region [] [] [0, 1, 5, 7, 8] false [
              (none, .mv 10 (.v 8)),
              (none, .asg 5 (.v 10) .copy)])
            (.seq
             (.region [(14, 0, false), (12, 0, false), (11, 1, false)] [] [0, 1, 5, 7, 8, 16] false [
               (none, .mv 11 (.v 1)),
               (none, .mv 12 (.v 0)),
               (none, .mv 13 (.v 5)),
               (none, .iadr 14 2 (.v 12) (.v 13)),
               (none, .load 15 true 2 (.v 14) none),
               (none, .callv (some 16) (.v 11) [(.v 15)])])
             (.cond (.v 16)
              (.seq
               (.region [] [] [4] false [
                 (none, .mv 17 (.v 5)),
                 (none, .asg 4 (.v 17) .copy)])
               (.ret [4]))
              (.skip [0, 1, 7, 8])))))
          (.region [] [] [0, 1, 7, 8] false [
            (none, .bin 18 .add (.v 8) (.c (.int .i64 1))),
            (none, .mv 8 (.v 18))])))))))
    (.seq
     (.region [] [] [4] false [
       (none, .asg 4 (.c (.int .i64 (-1))) .copy)])
     (.ret [4]))))⟩
def F804 : PFunc :=
 ⟨[false, false], [.tmp 4],
  (.seq
   (.region [] [] [0, 1] false [
     (none, .asg 4 (.c (.bool false)) .copy)])
   (.seq
    (.region [(6, 1, false), (5, 0, false)] [] [4] false [
      (none, .mv 5 (.v 0)),
      (none, .mv 6 (.v 1)),
      (none, .call (some 7) 826 false [((.v 5), false), ((.v 6), false)]),
      (none, .bin 8 .geq (.v 7) (.c (.int .i64 0))),
      (none, .asg 4 (.v 8) .copy)])
    (.ret [4])))⟩
def F225 : PFunc :=
 ⟨[false], [.tmp 2],
  (.seq
   (.region [] [] [0] false [
     (none, .asg 2 (.c (.bool false)) .copy)])
   (.seq
    (.region [(12, 0, false), (7, 0, false), (3, 0, false)] [] [2] false [
      (none, .mv 3 (.v 0)),
      (none, .len 4 false (.v 3)),
      (none, .bin 5 .geq (.v 4) (.c (.int .i64 1))),
      (none, .mv 6 (.v 5)),
      (some (6, true), .mv 7 (.v 0)),
      (some (6, true), .len 8 false (.v 7)),
      (some (6, true), .bin 9 .leq (.v 8) (.c (.int .i64 8))),
      (none, .pick 10 (.v 6) (.v 9) (.c (.bool false))),
      (none, .mv 11 (.v 10)),
      (some (11, true), .mv 12 (.v 0)),
      (some (11, true), .call (some 13) 804 false [((.v 12), false), ((.c (.fn 226 [])), false)]),
      (some (11, true), .un 14 .not (.v 13)),
      (none, .pick 15 (.v 11) (.v 14) (.c (.bool false))),
      (none, .asg 2 (.v 15) .copy)])
    (.ret [2])))⟩
def F108 : PFunc :=
 ⟨[false, false], [.tmp 4, .tmp 5, .tmp 6],
  (.seq
   (.region [] [] [0, 1] false [
     (none, .asg 4 (.c (.int .i64 0)) .copy),
     (none, .asg 5 (.c (.int .i64 0)) .copy),
     (none, .asg 6 (.c (.int .i64 0)) .copy)])
   (.seq
    (.block 0
     (.seq
      (.region [(18, 1, false), (14, 0, false)] [] [0, 1, 13] false [
        (none, .mv 14 (.v 0)),
        (none, .call (some 15) 225 false [((.v 14), false)]),
        (none, .un 16 .not (.v 15)),
        (none, .mv 17 (.v 16)),
        (some (17, false), .mv 18 (.v 1)),
        (some (17, false), .call (some 19) 225 false [((.v 18), false)]),
        (some (17, false), .un 20 .not (.v 19)),
        (none, .pick 21 (.v 17) (.c (.bool true)) (.v 20)),
        (none, .asg 13 (.v 21) .copy)])
      (.cond (.v 13)
       (.seq
        (.region [] [] [4, 5, 6] false [
          (none, .asg 4 (.c (.int .i64 0)) .copy),
          (none, .asg 5 (.c (.int .i64 0)) .copy),
          (none, .asg 6 (.c (.int .i64 1)) .copy)])
        (.ret [4, 5, 6]))
       (.seq
        (.region [(25, 1, false), (23, 0, false)] [] [0, 1, 22] false [
          (none, .mv 23 (.v 0)),
          (none, .len 24 false (.v 23)),
          (none, .mv 25 (.v 1)),
          (none, .len 26 false (.v 25)),
          (none, .bin 27 .neq (.v 24) (.v 26)),
          (none, .asg 22 (.v 27) .copy)])
        (.cond (.v 22)
         (.seq
          (.region [] [] [4, 5, 6] false [
            (none, .asg 4 (.c (.int .i64 0)) .copy),
            (none, .asg 5 (.c (.int .i64 0)) .copy),
            (none, .asg 6 (.c (.int .i64 8)) .copy)])
          (.ret [4, 5, 6]))
         (.skip [0, 1]))))))
    (.seq
     (.region [] [] [0, 1, 7, 8] false [
       (none, .asg 7 (.c (.int .i64 0)) .copy),
       (none, .asg 8 (.c (.int .i64 (-1))) .copy)])
     (.seq
      (.seq
       (.region [(28, 0, false)] [] [0, 1, 7, 8, 29, 30] false [
         (none, .mv 28 (.v 0)),
         (none, .len 29 false (.v 28)),
         (none, .mv 30 (.c (.int .i64 0)))])
       (.block 1
        (.loop
         (.seq
          (.region [] [] [0, 1, 7, 8, 29, 30, 31] false [
            (none, .bin 31 .lss (.v 30) (.v 29))])
          (.seq
           (.cond (.v 31)
            (.skip [0, 1, 7, 8, 29, 30])
            (.exit 1 [7, 8]))
           (.seq
            (.block 2
             (.seq
              (.region [] [] [0, 1, 7, 8, 9, 29, 30] false [
                (none, .mv 32 (.v 30)),
                (none, .asg 9 (.v 32) .copy)])
              (.seq
               (.region [(52, 1, false), (51, 1, false), (49, 1, false), (47, 0, false), (46, 0, false), (44, 0, false), (41, 1, false), (40, 1, false), (38, 1, false), (36, 0, false), (35, 0, false), (33, 0, false)] [] [0, 1, 7, 8, 9, 10, 11, 29, 30] true [
                 (none, .mv 33 (.v 0)),
                 (none, .mv 34 (.v 9)),
                 (none, .iadr 35 2 (.v 33) (.v 34)),
                 (none, .fadr 36 0 1 (.v 35)),
                 (none, .load 37 false 1 (.v 36) none),
                 (none, .mv 38 (.v 1)),
                 (none, .mv 39 (.v 9)),
                 (none, .iadr 40 2 (.v 38) (.v 39)),
                 (none, .fadr 41 0 1 (.v 40)),
                 (none, .load 42 false 1 (.v 41) none),
                 (none, .bin 43 .sub (.v 37) (.v 42)),
                 (none, .mv 44 (.v 0)),
                 (none, .mv 45 (.v 9)),
                 (none, .iadr 46 2 (.v 44) (.v 45)),
                 (none, .fadr 47 1 1 (.v 46)),
                 (none, .load 48 false 1 (.v 47) none),
                 (none, .mv 49 (.v 1)),
                 (none, .mv 50 (.v 9)),
                 (none, .iadr 51 2 (.v 49) (.v 50)),
                 (none, .fadr 52 1 1 (.v 51)),
                 (none, .load 53 false 1 (.v 52) none),
                 (none, .bin 54 .sub (.v 48) (.v 53)),
                 (none, .asg 10 (.v 43) .copy),
                 (none, .asg 11 (.v 54) .copy)])
               (.seq
                (.region [] [] [0, 1, 7, 8, 9, 12, 29, 30] false [
                  (none, .mv 55 (.v 10)),
                  (none, .mv 56 (.v 10)),
                  (none, .bin 57 .mul (.v 55) (.v 56)),
                  (none, .mv 58 (.v 11)),
                  (none, .mv 59 (.v 11)),
                  (none, .bin 60 .mul (.v 58) (.v 59)),
                  (none, .bin 61 .add (.v 57) (.v 60)),
                  (none, .asg 12 (.v 61) .copy)])
                (.seq
                 (.region [] [] [0, 1, 7, 8, 9, 12, 29, 30, 64] false [
                   (none, .mv 62 (.v 12)),
                   (none, .mv 63 (.v 8)),
                   (none, .bin 64 .gtr (.v 62) (.v 63))])
                 (.cond (.v 64)
                  (.region [] [] [0, 1, 7, 8, 29, 30] false [
                    (none, .mv 65 (.v 9)),
                    (none, .mv 66 (.v 12)),
                    (none, .asg 7 (.v 65) .copy),
                    (none, .asg 8 (.v 66) .copy)])
                  (.skip [0, 1, 7, 8, 29, 30])))))))
            (.region [] [] [0, 1, 7, 8, 29, 30] false [
              (none, .bin 67 .add (.v 30) (.c (.int .i64 1))),
              (none, .mv 30 (.v 67))])))))))
      (.seq
       (.region [] [] [4, 5, 6] false [
         (none, .mv 68 (.v 7)),
         (none, .mv 69 (.v 8)),
         (none, .asg 4 (.v 68) .copy),
         (none, .asg 5 (.v 69) .copy),
         (none, .asg 6 (.c (.int .i64 0)) .copy)])
       (.ret [4, 5, 6]))))))⟩
def F143 : PFunc :=
 ⟨[false, false], [.tmp 4, .tmp 5],
  (.seq
   (.region [] [] [0, 1] false [
     (none, .asg 4 (.c (.sl true 2 [])) .copy),
     (none, .asg 5 (.c (.int .i64 0)) .copy)])
   (.seq
    (.block 0
     (.seq
      (.region [(10, 0, false)] [] [0, 1, 9] false [
        (none, .mv 10 (.v 0)),
        (none, .call (some 11) 225 false [((.v 10), false)]),
        (none, .un 12 .not (.v 11)),
        (none, .asg 9 (.v 12) .copy)])
      (.cond (.v 9)
       (.seq
        (.region [] [] [4, 5] false [
          (none, .asg 4 (.c (.sl true 2 [])) .copy),
          (none, .asg 5 (.c (.int .i64 1)) .copy)])
        (.ret [4, 5]))
       (.seq
        (.region [] [] [0, 1, 13] false [
          (none, .mv 14 (.v 1)),
          (none, .call (some 15) 326 false [((.v 14), false), ((.c (.int .i64 0)), false), ((.c (.int .i64 1000)), false)]),
          (none, .un 16 .not (.v 15)),
          (none, .asg 13 (.v 16) .copy)])
        (.cond (.v 13)
         (.seq
          (.region [] [] [4, 5] false [
            (none, .asg 4 (.c (.sl true 2 [])) .copy),
            (none, .asg 5 (.c (.int .i64 2)) .copy)])
          (.ret [4, 5]))
         (.skip [0, 1]))))))
    (.seq
     (.region [] [] [0, 1, 6] false [
       (none, .mksl 17 2 (.agg [(.int .i64 0), (.int .i64 0)]) 0 []),
       (none, .asg 6 (.v 17) .move)])
     (.seq
      (.seq
       (.region [(18, 0, false)] [] [0, 1, 6, 18, 19, 20] false [
         (none, .mv 18 (.v 0)),
         (none, .len 19 false (.v 18)),
         (none, .mv 20 (.c (.int .i64 0)))])
       (.block 1
        (.loop
         (.seq
          (.region [(18, 0, false)] [] [0, 1, 6, 18, 19, 20, 21] false [
            (none, .bin 21 .lss (.v 20) (.v 19))])
          (.seq
           (.cond (.v 21)
            (.skip [0, 1, 6, 18, 19, 20])
            (.exit 1 [6]))
           (.seq
            (.block 2
             (.seq
              (.region [(22, 0, false), (18, 0, false)] [] [0, 1, 6, 8, 18, 19, 20] false [
                (none, .iadr 22 2 (.v 18) (.v 20)),
                (none, .load 23 true 2 (.v 22) none),
                (none, .new 8 (.agg [(.int .i64 0), (.int .i64 0)])),
                (none, .store 2 (.v 8) (.v 23) .copy)])
              (.seq
               (.seq
                (.region [(24, 8, false), (18, 0, false)] [] [0, 1, 6, 8, 18, 19, 20, 27] false [
                  (none, .fadr 24 0 1 (.v 8)),
                  (none, .load 25 false 1 (.v 24) none),
                  (none, .mv 26 (.v 1)),
                  (none, .bin 27 .gtr (.v 25) (.v 26))])
                (.cond (.v 27)
                 (.seq
                  (.region [] [] [4, 5] false [
                    (none, .asg 4 (.c (.sl true 2 [])) .copy),
                    (none, .asg 5 (.c (.int .i64 6)) .copy)])
                  (.ret [4, 5]))
                 (.skip [0, 1, 6, 8, 18, 19, 20])))
               (.region [(33, 8, false), (30, 8, false), (28, 6, false), (18, 0, false)] [] [0, 1, 6, 18, 19, 20] false [
                 (none, .mv 28 (.v 6)),
                 (none, .mv 29 (.v 1)),
                 (none, .fadr 30 0 1 (.v 8)),
                 (none, .load 31 false 1 (.v 30) none),
                 (none, .bin 32 .sub (.v 29) (.v 31)),
                 (none, .fadr 33 1 1 (.v 8)),
                 (none, .load 34 false 1 (.v 33) none),
                 (none, .build 35 [(.int .i64 0), (.int .i64 0)] [(0, 1, (.v 32), .copy), (1, 1, (.v 34), .copy)]),
                 (none, .mksl 36 2 (.agg [(.int .i64 0), (.int .i64 0)]) 1 [(0, (.v 35), .copy)]),
                 (none, .app 37 2 (.v 28) (.v 36) .move),
                 (none, .asg 6 (.v 37) .move)]))))
            (.region [(18, 0, false)] [] [0, 1, 6, 18, 19, 20] false [
              (none, .bin 38 .add (.v 20) (.c (.int .i64 1))),
              (none, .mv 20 (.v 38))])))))))
      (.seq
       (.region [(39, 6, false)] [] [4, 5] false [
         (none, .mv 39 (.v 6)),
         (none, .asg 4 (.v 39) .move),
         (none, .asg 5 (.c (.int .i64 0)) .copy)])
       (.ret [4, 5]))))))⟩
def F216 : PFunc :=
 ⟨[false], [.tmp 2],
  (.seq
   (.region [] [] [0] false [
     (none, .asg 2 (.c (.bool false)) .copy)])
   (.seq
    (.seq
     (.region [(9, 0, false), (5, 0, false)] [] [0, 12] false [
       (none, .mv 5 (.v 0)),
       (none, .len 6 false (.v 5)),
       (none, .bin 7 .lss (.v 6) (.c (.int .i64 1))),
       (none, .mv 8 (.v 7)),
       (some (8, false), .mv 9 (.v 0)),
       (some (8, false), .len 10 false (.v 9)),
       (some (8, false), .bin 11 .gtr (.v 10) (.c (.int .i64 10))),
       (none, .pick 12 (.v 8) (.c (.bool true)) (.v 11))])
     (.cond (.v 12)
      (.seq
       (.region [] [] [2] false [
         (none, .asg 2 (.c (.bool false)) .copy)])
       (.ret [2]))
      (.skip [0])))
    (.seq
     (.seq
      (.region [(13, 0, false)] [] [0, 13, 14, 15] false [
        (none, .mv 13 (.v 0)),
        (none, .len 14 false (.v 13)),
        (none, .mv 15 (.c (.int .i64 0)))])
      (.block 0
       (.loop
        (.seq
         (.region [(13, 0, false)] [] [0, 13, 14, 15, 16] false [
           (none, .bin 16 .lss (.v 15) (.v 14))])
         (.seq
          (.cond (.v 16)
           (.skip [0, 13, 14, 15])
           (.exit 0 []))
          (.seq
           (.block 1
            (.seq
             (.region [(18, 0, false), (13, 0, false)] [] [0, 3, 4, 13, 14, 15] false [
               (none, .mv 17 (.v 15)),
               (none, .iadr 18 2 (.v 13) (.v 15)),
               (none, .load 19 true 2 (.v 18) (some .freeze)),
               (none, .new 4 (.agg [(.int .i64 0), (.sl false 2 [])])),
               (none, .asg 3 (.v 17) .copy),
               (none, .store 2 (.v 4) (.v 19) .move)])
             (.seq
              (.region [(51, 4, false), (49, 0, false), (48, 0, false), (45, 0, false), (37, 0, true), (36, 0, false), (35, 0, false), (34, 0, false), (32, 4, true), (31, 4, false), (26, 4, true), (25, 4, false), (20, 4, false), (13, 0, false)] [] [0, 13, 14, 15, 55] true [
                (none, .fadr 20 0 1 (.v 4)),
                (none, .load 21 false 1 (.v 20) none),
                (none, .call (some 22) 326 false [((.v 21), false), ((.c (.int .i64 0)), false), ((.c (.int .i64 10000)), false)]),
                (none, .un 23 .not (.v 22)),
                (none, .mv 24 (.v 23)),
                (some (24, false), .fadr 25 1 1 (.v 4)),
                (some (24, false), .load 26 false 1 (.v 25) none),
                (some (24, false), .call (some 27) 225 false [((.v 26), false)]),
                (some (24, false), .un 28 .not (.v 27)),
                (none, .pick 29 (.v 24) (.c (.bool true)) (.v 28)),
                (none, .mv 30 (.v 29)),
                (some (30, false), .fadr 31 1 1 (.v 4)),
                (some (30, false), .load 32 false 1 (.v 31) none),
                (some (30, false), .len 33 false (.v 32)),
                (some (30, false), .mv 34 (.v 0)),
                (some (30, false), .iadr 35 2 (.v 34) (.c (.int .i64 0))),
                (some (30, false), .fadr 36 1 1 (.v 35)),
                (some (30, false), .load 37 false 1 (.v 36) none),
                (some (30, false), .len 38 false (.v 37)),
                (some (30, false), .bin 39 .neq (.v 33) (.v 38)),
                (none, .pick 40 (.v 30) (.c (.bool true)) (.v 39)),
                (none, .mv 41 (.v 40)),
                (some (41, false), .mv 42 (.v 3)),
                (some (41, false), .bin 43 .gtr (.v 42) (.c (.int .i64 0))),
                (some (41, false), .mv 44 (.v 43)),
                (some (44, true), .mv 45 (.v 0)),
                (some (44, true), .mv 46 (.v 3)),
                (some (44, true), .bin 47 .sub (.v 46) (.c (.int .i64 1))),
                (some (44, true), .iadr 48 2 (.v 45) (.v 47)),
                (some (44, true), .fadr 49 0 1 (.v 48)),
                (some (44, true), .load 50 false 1 (.v 49) none),
                (some (44, true), .fadr 51 0 1 (.v 4)),
                (some (44, true), .load 52 false 1 (.v 51) none),
                (some (44, true), .bin 53 .geq (.v 50) (.v 52)),
                (some (41, false), .pick 54 (.v 44) (.v 53) (.c (.bool false))),
                (none, .pick 55 (.v 41) (.c (.bool true)) (.v 54))])
              (.cond (.v 55)
               (.seq
                (.region [] [] [2] false [
                  (none, .asg 2 (.c (.bool false)) .copy)])
                (.ret [2]))
               (.skip [0, 13, 14, 15])))))
           (.region [(13, 0, false)] [] [0, 13, 14, 15] false [
             (none, .bin 56 .add (.v 15) (.c (.int .i64 1))),
             (none, .mv 15 (.v 56))])))))))
     (.seq
      (.region [] [] [2] false [
        (none, .asg 2 (.c (.bool true)) .copy)])
      (.ret [2])))))⟩
def F301 : PFunc :=
 ⟨[false, false], [.tmp 4],
  (.seq
   (.region [] [] [0, 1] false [
     (none, .asg 4 (.c (.int .i64 0)) .copy)])
   (.seq
    (.region [] [] [0, 1] false [
      (none, .mv 6 (.v 0)),
      (none, .bin 7 .mul (.c (.int .i64 2)) (.v 6)),
      (none, .mv 8 (.v 1)),
      (none, .bin 9 .add (.v 7) (.v 8)),
      (none, .mv 10 (.v 1)),
      (none, .bin 11 .mul (.c (.int .i64 2)) (.v 10)),
      (none, .asg 0 (.v 9) .copy),
      (none, .asg 1 (.v 11) .copy)])
    (.seq
     (.region [] [] [0, 1, 5] false [
       (none, .mv 12 (.v 0)),
       (none, .mv 13 (.v 1)),
       (none, .bin 14 .quo (.v 12) (.v 13)),
       (none, .asg 5 (.v 14) .copy)])
     (.seq
      (.seq
       (.region [] [] [5, 18] false [
         (none, .mv 15 (.v 0)),
         (none, .mv 16 (.v 1)),
         (none, .bin 17 .rem (.v 15) (.v 16)),
         (none, .bin 18 .lss (.v 17) (.c (.int .i64 0)))])
       (.cond (.v 18)
        (.region [] [] [5] false [
          (none, .mv 19 (.v 5)),
          (none, .bin 20 .sub (.v 19) (.c (.int .i64 1))),
          (none, .asg 5 (.v 20) .copy)])
        (.skip [5])))
      (.seq
       (.region [] [] [4] false [
         (none, .mv 21 (.v 5)),
         (none, .asg 4 (.v 21) .copy)])
       (.ret [4]))))))⟩
def F251 : PFunc :=
 ⟨[false, false, false, false], [.tmp 8],
  (.seq
   (.region [] [] [0, 1, 2, 3] false [
     (none, .asg 8 (.c (.sl true 2 [])) .copy)])
   (.seq
    (.region [] [] [0, 1, 2, 3, 9] false [
      (none, .mksl 13 2 (.agg [(.int .i64 0), (.int .i64 0)]) 0 []),
      (none, .asg 9 (.v 13) .move)])
    (.seq
     (.seq
      (.region [(14, 0, false)] [] [0, 1, 2, 3, 9, 15, 16] false [
        (none, .mv 14 (.v 0)),
        (none, .len 15 false (.v 14)),
        (none, .mv 16 (.c (.int .i64 0)))])
      (.block 0
       (.loop
        (.seq
         (.region [] [] [0, 1, 2, 3, 9, 15, 16, 17] false [
           (none, .bin 17 .lss (.v 16) (.v 15))])
         (.seq
          (.cond (.v 17)
           (.skip [0, 1, 2, 3, 9, 15, 16])
           (.exit 0 [9]))
          (.seq
           (.block 1
            (.seq
             (.region [] [] [0, 1, 2, 3, 9, 10, 15, 16] false [
               (none, .mv 18 (.v 16)),
               (none, .asg 10 (.v 18) .copy)])
             (.seq
              (.region [(31, 1, false), (30, 1, false), (28, 1, false), (22, 0, false), (21, 0, false), (19, 0, false)] [] [0, 1, 2, 3, 9, 10, 11, 15, 16] true [
                (none, .mv 19 (.v 0)),
                (none, .mv 20 (.v 10)),
                (none, .iadr 21 2 (.v 19) (.v 20)),
                (none, .fadr 22 0 1 (.v 21)),
                (none, .load 23 false 1 (.v 22) none),
                (none, .mv 24 (.v 3)),
                (none, .mv 25 (.v 2)),
                (none, .bin 26 .sub (.v 24) (.v 25)),
                (none, .bin 27 .mul (.v 23) (.v 26)),
                (none, .mv 28 (.v 1)),
                (none, .mv 29 (.v 10)),
                (none, .iadr 30 2 (.v 28) (.v 29)),
                (none, .fadr 31 0 1 (.v 30)),
                (none, .load 32 false 1 (.v 31) none),
                (none, .mv 33 (.v 2)),
                (none, .bin 34 .mul (.v 32) (.v 33)),
                (none, .bin 35 .add (.v 27) (.v 34)),
                (none, .mv 36 (.v 3)),
                (none, .call (some 37) 301 false [((.v 35), false), ((.v 36), false)]),
                (none, .asg 11 (.v 37) .copy)])
              (.seq
               (.region [(50, 1, false), (49, 1, false), (47, 1, false), (41, 0, false), (40, 0, false), (38, 0, false)] [] [0, 1, 2, 3, 9, 11, 12, 15, 16] true [
                 (none, .mv 38 (.v 0)),
                 (none, .mv 39 (.v 10)),
                 (none, .iadr 40 2 (.v 38) (.v 39)),
                 (none, .fadr 41 1 1 (.v 40)),
                 (none, .load 42 false 1 (.v 41) none),
                 (none, .mv 43 (.v 3)),
                 (none, .mv 44 (.v 2)),
                 (none, .bin 45 .sub (.v 43) (.v 44)),
                 (none, .bin 46 .mul (.v 42) (.v 45)),
                 (none, .mv 47 (.v 1)),
                 (none, .mv 48 (.v 10)),
                 (none, .iadr 49 2 (.v 47) (.v 48)),
                 (none, .fadr 50 1 1 (.v 49)),
                 (none, .load 51 false 1 (.v 50) none),
                 (none, .mv 52 (.v 2)),
                 (none, .bin 53 .mul (.v 51) (.v 52)),
                 (none, .bin 54 .add (.v 46) (.v 53)),
                 (none, .mv 55 (.v 3)),
                 (none, .call (some 56) 301 false [((.v 54), false), ((.v 55), false)]),
                 (none, .asg 12 (.v 56) .copy)])
               (.region [(57, 9, false)] [] [0, 1, 2, 3, 9, 15, 16] false [
                 (none, .mv 57 (.v 9)),
                 (none, .mv 58 (.v 11)),
                 (none, .mv 59 (.v 12)),
                 (none, .build 60 [(.int .i64 0), (.int .i64 0)] [(0, 1, (.v 58), .copy), (1, 1, (.v 59), .copy)]),
                 (none, .mksl 61 2 (.agg [(.int .i64 0), (.int .i64 0)]) 1 [(0, (.v 60), .copy)]),
                 (none, .app 62 2 (.v 57) (.v 61) .move),
                 (none, .asg 9 (.v 62) .move)])))))
           (.region [] [] [0, 1, 2, 3, 9, 15, 16] false [
             (none, .bin 63 .add (.v 16) (.c (.int .i64 1))),
             (none, .mv 16 (.v 63))])))))))
     (.seq
      (.region [(64, 9, false)] [] [8] false [
        (none, .mv 64 (.v 9)),
        (none, .asg 8 (.v 64) .move)])
      (.ret [8])))))⟩
def F297 : PFunc :=
 ⟨[false, false], [.tmp 4],
  (.seq
   (.region [] [] [0, 1] false [
     (none, .asg 4 (.c (.sl true 2 [])) .copy)])
   (.seq
    (.seq
     (.region [] [] [0, 1, 5] false [
       (none, .asg 5 (.c (.int .i64 1)) .copy)])
     (.block 0
      (.loop
       (.seq
        (.seq
         (.region [(7, 0, false)] [] [0, 1, 5, 9] false [
           (none, .mv 6 (.v 5)),
           (none, .mv 7 (.v 0)),
           (none, .len 8 false (.v 7)),
           (none, .bin 9 .lss (.v 6) (.v 8))])
         (.cond (.v 9)
          (.skip [0, 1, 5])
          (.exit 0 [0])))
        (.seq
         (.block 1
          (.seq
           (.region [(16, 0, false), (15, 0, false), (13, 0, false)] [] [0, 1, 5, 18] false [
             (none, .mv 12 (.v 1)),
             (none, .mv 13 (.v 0)),
             (none, .mv 14 (.v 5)),
             (none, .iadr 15 2 (.v 13) (.v 14)),
             (none, .fadr 16 0 1 (.v 15)),
             (none, .load 17 false 1 (.v 16) none),
             (none, .bin 18 .lss (.v 12) (.v 17))])
           (.cond (.v 18)
            (.seq
             (.region [(47, 0, false), (46, 0, false), (43, 0, false), (41, 0, false), (40, 0, false), (38, 0, false), (35, 0, false), (34, 0, false), (31, 0, false), (29, 0, true), (28, 0, false), (27, 0, false), (25, 0, false), (24, 0, true), (23, 0, false), (22, 0, false), (19, 0, false)] [] [4] true [
               (none, .mv 19 (.v 0)),
               (none, .mv 20 (.v 5)),
               (none, .bin 21 .sub (.v 20) (.c (.int .i64 1))),
               (none, .iadr 22 2 (.v 19) (.v 21)),
               (none, .fadr 23 1 1 (.v 22)),
               (none, .load 24 false 1 (.v 23) none),
               (none, .mv 25 (.v 0)),
               (none, .mv 26 (.v 5)),
               (none, .iadr 27 2 (.v 25) (.v 26)),
               (none, .fadr 28 1 1 (.v 27)),
               (none, .load 29 false 1 (.v 28) none),
               (none, .mv 30 (.v 1)),
               (none, .mv 31 (.v 0)),
               (none, .mv 32 (.v 5)),
               (none, .bin 33 .sub (.v 32) (.c (.int .i64 1))),
               (none, .iadr 34 2 (.v 31) (.v 33)),
               (none, .fadr 35 0 1 (.v 34)),
               (none, .load 36 false 1 (.v 35) none),
               (none, .bin 37 .sub (.v 30) (.v 36)),
               (none, .mv 38 (.v 0)),
               (none, .mv 39 (.v 5)),
               (none, .iadr 40 2 (.v 38) (.v 39)),
               (none, .fadr 41 0 1 (.v 40)),
               (none, .load 42 false 1 (.v 41) none),
               (none, .mv 43 (.v 0)),
               (none, .mv 44 (.v 5)),
               (none, .bin 45 .sub (.v 44) (.c (.int .i64 1))),
               (none, .iadr 46 2 (.v 43) (.v 45)),
               (none, .fadr 47 0 1 (.v 46)),
               (none, .load 48 false 1 (.v 47) none),
               (none, .bin 49 .sub (.v 42) (.v 48)),
               (none, .call (some 50) 251 false [((.v 24), false), ((.v 29), false), ((.v 37), false), ((.v 49), false)]),
               (none, .asg 4 (.v 50) .move)])
             (.ret [4]))
            (.skip [0, 1, 5]))))
         (.region [] [] [0, 1, 5] false [
           (none, .mv 10 (.v 5)),
           (none, .bin 11 .add (.v 10) (.c (.int .i64 1))),
           (none, .asg 5 (.v 11) .copy)]))))))
    (.seq
     (.region [(57, 0, true), (56, 0, false), (55, 0, false), (52, 0, false), (51, 0, false)] [] [4] false [
       (none, .mv 51 (.v 0)),
       (none, .mv 52 (.v 0)),
       (none, .len 53 false (.v 52)),
       (none, .bin 54 .sub (.v 53) (.c (.int .i64 1))),
       (none, .iadr 55 2 (.v 51) (.v 54)),
       (none, .fadr 56 1 1 (.v 55)),
       (none, .load 57 false 1 (.v 56) none),
       (none, .call (some 58) 787 false [((.v 57), false)]),
       (none, .asg 4 (.v 58) .move)])
     (.ret [4]))))⟩
def F163 : PFunc :=
 ⟨[false, false], [.tmp 4, .tmp 5],
  (.seq
   (.region [] [] [0, 1] false [
     (none, .asg 4 (.c (.sl true 2 [])) .copy),
     (none, .asg 5 (.c (.int .i64 0)) .copy)])
   (.seq
    (.block 0
     (.seq
      (.region [(7, 0, false)] [] [0, 1, 6] false [
        (none, .mv 7 (.v 0)),
        (none, .call (some 8) 216 false [((.v 7), false)]),
        (none, .un 9 .not (.v 8)),
        (none, .asg 6 (.v 9) .copy)])
      (.cond (.v 6)
       (.seq
        (.region [] [] [4, 5] false [
          (none, .asg 4 (.c (.sl true 2 [])) .copy),
          (none, .asg 5 (.c (.int .i64 1)) .copy)])
        (.ret [4, 5]))
       (.seq
        (.region [(21, 0, false), (20, 0, false), (17, 0, false), (16, 0, false), (14, 0, false), (13, 0, false), (12, 0, false)] [] [0, 1, 10] true [
          (none, .mv 11 (.v 1)),
          (none, .mv 12 (.v 0)),
          (none, .iadr 13 2 (.v 12) (.c (.int .i64 0))),
          (none, .fadr 14 0 1 (.v 13)),
          (none, .load 15 false 1 (.v 14) none),
          (none, .mv 16 (.v 0)),
          (none, .mv 17 (.v 0)),
          (none, .len 18 false (.v 17)),
          (none, .bin 19 .sub (.v 18) (.c (.int .i64 1))),
          (none, .iadr 20 2 (.v 16) (.v 19)),
          (none, .fadr 21 0 1 (.v 20)),
          (none, .load 22 false 1 (.v 21) none),
          (none, .call (some 23) 326 false [((.v 11), false), ((.v 15), false), ((.v 22), false)]),
          (none, .un 24 .not (.v 23)),
          (none, .asg 10 (.v 24) .copy)])
        (.cond (.v 10)
         (.seq
          (.region [] [] [4, 5] false [
            (none, .asg 4 (.c (.sl true 2 [])) .copy),
            (none, .asg 5 (.c (.int .i64 2)) .copy)])
          (.ret [4, 5]))
         (.skip [0, 1]))))))
    (.seq
     (.region [(25, 0, false)] [] [4, 5] false [
       (none, .mv 25 (.v 0)),
       (none, .mv 26 (.v 1)),
       (none, .call (some 27) 297 false [((.v 25), false), ((.v 26), false)]),
       (none, .asg 4 (.v 27) .move),
       (none, .asg 5 (.c (.int .i64 0)) .copy)])
     (.ret [4, 5]))))⟩
def F164 : PFunc :=
 ⟨[false, false, false, false], [.tmp 8, .tmp 9],
  (.seq
   (.region [] [] [0, 1, 2, 3] false [
     (none, .asg 8 (.c (.sl true 2 [])) .copy),
     (none, .asg 9 (.c (.int .i64 0)) .copy)])
   (.seq
    (.block 0
     (.seq
      (.region [(15, 1, false), (11, 0, false)] [] [0, 1, 2, 3, 10] false [
        (none, .mv 11 (.v 0)),
        (none, .call (some 12) 225 false [((.v 11), false)]),
        (none, .un 13 .not (.v 12)),
        (none, .mv 14 (.v 13)),
        (some (14, false), .mv 15 (.v 1)),
        (some (14, false), .call (some 16) 225 false [((.v 15), false)]),
        (some (14, false), .un 17 .not (.v 16)),
        (none, .pick 18 (.v 14) (.c (.bool true)) (.v 17)),
        (none, .asg 10 (.v 18) .copy)])
      (.cond (.v 10)
       (.seq
        (.region [] [] [8, 9] false [
          (none, .asg 8 (.c (.sl true 2 [])) .copy),
          (none, .asg 9 (.c (.int .i64 1)) .copy)])
        (.ret [8, 9]))
       (.seq
        (.region [] [] [0, 1, 2, 3, 19] false [
          (none, .mv 20 (.v 3)),
          (none, .call (some 21) 326 false [((.v 20), false), ((.c (.int .i64 1)), false), ((.c (.int .i64 10000)), false)]),
          (none, .un 22 .not (.v 21)),
          (none, .mv 23 (.v 22)),
          (some (23, false), .mv 24 (.v 2)),
          (some (23, false), .mv 25 (.v 3)),
          (some (23, false), .call (some 26) 326 false [((.v 24), false), ((.c (.int .i64 0)), false), ((.v 25), false)]),
          (some (23, false), .un 27 .not (.v 26)),
          (none, .pick 28 (.v 23) (.c (.bool true)) (.v 27)),
          (none, .asg 19 (.v 28) .copy)])
        (.cond (.v 19)
         (.seq
          (.region [] [] [8, 9] false [
            (none, .asg 8 (.c (.sl true 2 [])) .copy),
            (none, .asg 9 (.c (.int .i64 2)) .copy)])
          (.ret [8, 9]))
         (.seq
          (.region [(32, 1, false), (30, 0, false)] [] [0, 1, 2, 3, 29] false [
            (none, .mv 30 (.v 0)),
            (none, .len 31 false (.v 30)),
            (none, .mv 32 (.v 1)),
            (none, .len 33 false (.v 32)),
            (none, .bin 34 .neq (.v 31) (.v 33)),
            (none, .asg 29 (.v 34) .copy)])
          (.cond (.v 29)
           (.seq
            (.region [] [] [8, 9] false [
              (none, .asg 8 (.c (.sl true 2 [])) .copy),
              (none, .asg 9 (.c (.int .i64 8)) .copy)])
            (.ret [8, 9]))
           (.skip [0, 1, 2, 3]))))))))
    (.seq
     (.region [(36, 1, false), (35, 0, false)] [] [8, 9] false [
       (none, .mv 35 (.v 0)),
       (none, .mv 36 (.v 1)),
       (none, .mv 37 (.v 2)),
       (none, .mv 38 (.v 3)),
       (none, .call (some 39) 251 false [((.v 35), false), ((.v 36), false), ((.v 37), false), ((.v 38), false)]),
       (none, .asg 8 (.v 39) .move),
       (none, .asg 9 (.c (.int .i64 0)) .copy)])
     (.ret [8, 9]))))⟩
def F813 : PFunc :=
 ⟨[false, false], [.tmp 4],
  (.seq
   (.region [] [] [0, 1] false [
     (none, .asg 4 (.c (.bool false)) .copy)])
   (.seq
    (.seq
     (.region [(8, 1, false), (6, 0, false)] [] [0, 1, 10] false [
       (none, .mv 6 (.v 0)),
       (none, .len 7 false (.v 6)),
       (none, .mv 8 (.v 1)),
       (none, .len 9 false (.v 8)),
       (none, .bin 10 .neq (.v 7) (.v 9))])
     (.cond (.v 10)
      (.seq
       (.region [] [] [4] false [
         (none, .asg 4 (.c (.bool false)) .copy)])
       (.ret [4]))
      (.skip [0, 1])))
    (.seq
     (.seq
      (.region [(11, 0, false)] [] [0, 1, 12, 13] false [
        (none, .mv 11 (.v 0)),
        (none, .len 12 false (.v 11)),
        (none, .mv 13 (.c (.int .i64 0)))])
      (.block 0
       (.loop
        (.seq
         (.region [] [] [0, 1, 12, 13, 14] false [
           (none, .bin 14 .lss (.v 13) (.v 12))])
         (.seq
          (.cond (.v 14)
           (.skip [0, 1, 12, 13])
           (.exit 0 []))
          (.seq
           (.block 1
            (.seq
             (.region [] [] [0, 1, 5, 12, 13] false [
               (none, .mv 15 (.v 13)),
               (none, .asg 5 (.v 15) .copy)])
             (.seq
              (.region [(22, 1, false), (20, 1, false), (18, 0, false), (16, 0, false)] [] [0, 1, 12, 13, 24] true [
                (none, .mv 16 (.v 0)),
                (none, .mv 17 (.v 5)),
                (none, .iadr 18 2 (.v 16) (.v 17)),
                (none, .load 19 true 2 (.v 18) none),
                (none, .mv 20 (.v 1)),
                (none, .mv 21 (.v 5)),
                (none, .iadr 22 2 (.v 20) (.v 21)),
                (none, .load 23 true 2 (.v 22) none),
                (none, .eqv 24 true [.i, .i] (.v 19) (.v 23))])
              (.cond (.v 24)
               (.seq
                (.region [] [] [4] false [
                  (none, .asg 4 (.c (.bool false)) .copy)])
                (.ret [4]))
               (.skip [0, 1, 12, 13])))))
           (.region [] [] [0, 1, 12, 13] false [
             (none, .bin 25 .add (.v 13) (.c (.int .i64 1))),
             (none, .mv 13 (.v 25))])))))))
     (.seq
      (.region [] [] [4] false [
        (none, .asg 4 (.c (.bool true)) .copy)])
      (.ret [4])))))⟩
def F172 : PFunc :=
 ⟨[false, false], [.tmp 4],
  (.seq
   (.region [] [] [0, 1] false [
     (none, .asg 4 (.c (.bool false)) .copy)])
   (.seq
    (.region [(6, 1, false), (5, 0, false)] [] [4] false [
      (none, .mv 5 (.v 0)),
      (none, .mv 6 (.v 1)),
      (none, .call (some 7) 813 false [((.v 5), false), ((.v 6), false)]),
      (none, .asg 4 (.v 7) .copy)])
    (.ret [4])))⟩
def F398 : PFunc :=
 ⟨[false], [.tmp 2],
  (.seq
   (.region [] [] [0] false [
     (none, .asg 2 (.c (.bool false)) .copy)])
   (.seq
    (.region [(3, 0, false)] [] [2] false [
      (none, .mv 3 (.v 0)),
      (none, .len 4 false (.v 3)),
      (none, .bin 5 .gtr (.v 4) (.c (.int .i64 4096))),
      (none, .asg 2 (.v 5) .copy)])
    (.ret [2])))⟩
def F603 : PFunc :=
 ⟨[false], [.tmp 2],
  (.seq
   (.region [] [] [0] false [
     (none, .asg 2 (.c .nilp) .copy)])
   (.seq
    (.region [(3, 0, false)] [] [2] false [
      (none, .mv 3 (.v 0)),
      (none, .build 4 [(.sl false 1 []), (.int .i64 0), (.int .u64 0)] [(0, 1, (.v 3), .move)]),
      (none, .box 5 (.v 4) .move),
      (none, .asg 2 (.v 5) .move)])
    (.ret [2])))⟩
def F5 : PFunc :=
 ⟨[true], [.tmp 2],
  (.seq
   (.region [] [] [0] false [
     (none, .asg 2 (.c (.int .i64 0)) .copy)])
   (.seq
    (.region [] [] [0, 3] false [
      (none, .asg 3 (.c (.int .i64 0)) .copy)])
    (.seq
     (.seq
      (.region [(11, 0, true), (10, 0, false), (9, 0, false), (8, 0, false), (6, 0, false), (5, 0, false), (4, 0, false)] [] [0, 3, 13] true [
        (none, .mvr 4 0),
        (none, .nchk 5 (.v 4)),
        (none, .fadr 6 1 1 (.v 5)),
        (none, .load 7 false 1 (.v 6) none),
        (none, .mvr 8 0),
        (none, .nchk 9 (.v 8)),
        (none, .fadr 10 0 1 (.v 9)),
        (none, .load 11 false 1 (.v 10) none),
        (none, .len 12 false (.v 11)),
        (none, .bin 13 .lss (.v 7) (.v 12))])
      (.cond (.v 13)
       (.region [(22, 0, true), (20, 0, false), (19, 0, false), (18, 0, false), (17, 0, true), (16, 0, false), (15, 0, false), (14, 0, false)] [] [0, 3] true [
         (none, .mvr 14 0),
         (none, .nchk 15 (.v 14)),
         (none, .fadr 16 0 1 (.v 15)),
         (none, .load 17 false 1 (.v 16) none),
         (none, .mvr 18 0),
         (none, .nchk 19 (.v 18)),
         (none, .fadr 20 1 1 (.v 19)),
         (none, .load 21 false 1 (.v 20) none),
         (none, .iadr 22 1 (.v 17) (.v 21)),
         (none, .load 23 false 1 (.v 22) none),
         (none, .conv 24 .i64 (.v 23)),
         (none, .asg 3 (.v 24) .copy)])
       (.skip [0, 3])))
     (.seq
      (.region [(31, 0, false), (30, 0, false), (27, 0, false), (26, 0, false), (25, 0, false)] [] [0, 3] false [
        (none, .mv 25 (.v 0)),
        (none, .nchk 26 (.v 25)),
        (none, .fadr 27 1 1 (.v 26)),
        (none, .load 28 false 1 (.v 27) none),
        (none, .bin 29 .add (.v 28) (.c (.int .i64 1))),
        (none, .nchk 30 (.v 25)),
        (none, .fadr 31 1 1 (.v 30)),
        (none, .store 1 (.v 31) (.v 29) .copy)])
      (.seq
       (.region [(43, 0, false), (42, 0, false), (35, 0, false), (34, 0, false), (33, 0, false), (32, 0, false)] [] [0, 3] false [
         (none, .mv 32 (.v 0)),
         (none, .mv 33 (.v 0)),
         (none, .nchk 34 (.v 33)),
         (none, .fadr 35 2 1 (.v 34)),
         (none, .load 36 false 1 (.v 35) none),
         (none, .bin 37 .mul (.v 36) (.c (.int .u64 6364136223846793005))),
         (none, .mv 38 (.v 3)),
         (none, .conv 39 .u64 (.v 38)),
         (none, .bin 40 .add (.v 37) (.v 39)),
         (none, .bin 41 .add (.v 40) (.c (.int .u64 1442695040888963407))),
         (none, .nchk 42 (.v 32)),
         (none, .fadr 43 2 1 (.v 42)),
         (none, .store 1 (.v 43) (.v 41) .copy)])
       (.seq
        (.seq
         (.region [(51, 0, true), (50, 0, false), (49, 0, false), (48, 0, false), (46, 0, false), (45, 0, false), (44, 0, false)] [] [0, 3, 53] true [
           (none, .mvr 44 0),
           (none, .nchk 45 (.v 44)),
           (none, .fadr 46 1 1 (.v 45)),
           (none, .load 47 false 1 (.v 46) none),
           (none, .mvr 48 0),
           (none, .nchk 49 (.v 48)),
           (none, .fadr 50 0 1 (.v 49)),
           (none, .load 51 false 1 (.v 50) none),
           (none, .len 52 false (.v 51)),
           (none, .bin 53 .leq (.v 47) (.v 52))])
         (.cond (.v 53)
          (.seq
           (.region [] [] [0, 2] false [
             (none, .mv 54 (.v 3)),
             (none, .asg 2 (.v 54) .copy)])
           (.ret [0, 2]))
          (.skip [0])))
        (.seq
         (.region [(57, 0, false), (56, 0, false), (55, 0, false)] [] [0, 2] false [
           (none, .mv 55 (.v 0)),
           (none, .nchk 56 (.v 55)),
           (none, .fadr 57 2 1 (.v 56)),
           (none, .load 58 false 1 (.v 57) none),
           (none, .bin 59 .shr (.v 58) (.c (.int .u64 40))),
           (none, .bin 60 .and (.v 59) (.c (.int .u64 255))),
           (none, .conv 61 .i64 (.v 60)),
           (none, .asg 2 (.v 61) .copy)])
         (.ret [0, 2]))))))))⟩
def F7 : PFunc :=
 ⟨[true, false], [.tmp 4],
  (.seq
   (.region [] [] [0, 1] false [
     (none, .asg 4 (.c (.int .i64 0)) .copy)])
   (.seq
    (.seq
     (.region [] [] [0, 1, 7] false [
       (none, .mv 6 (.v 1)),
       (none, .bin 7 .leq (.v 6) (.c (.int .i64 1)))])
     (.cond (.v 7)
      (.seq
       (.region [] [] [0, 4] false [
         (none, .asg 4 (.c (.int .i64 0)) .copy)])
       (.ret [0, 4]))
      (.skip [0, 1])))
    (.seq
     (.region [(8, 0, false)] [] [0, 1, 5] false [
       (none, .mv 8 (.v 0)),
       (none, .call (some 9) 5 true [((.v 8), true)]),
       (none, .asg 5 (.v 9) .copy)])
     (.seq
      (.seq
       (.region [] [] [0, 1, 5, 11] false [
         (none, .mv 10 (.v 1)),
         (none, .bin 11 .gtr (.v 10) (.c (.int .i64 200)))])
       (.cond (.v 11)
        (.region [(14, 0, false)] [] [0, 1, 5] false [
          (none, .mv 12 (.v 5)),
          (none, .bin 13 .mul (.v 12) (.c (.int .i64 256))),
          (none, .mv 14 (.v 0)),
          (none, .call (some 15) 5 true [((.v 14), true)]),
          (none, .bin 16 .add (.v 13) (.v 15)),
          (none, .asg 5 (.v 16) .copy)])
        (.skip [0, 1, 5])))
      (.seq
       (.region [] [] [0, 4] false [
         (none, .mv 17 (.v 5)),
         (none, .mv 18 (.v 1)),
         (none, .bin 19 .rem (.v 17) (.v 18)),
         (none, .asg 4 (.v 19) .copy)])
       (.ret [0, 4]))))))⟩
def F6 : PFunc :=
 ⟨[true, false], [.tmp 4],
  (.seq
   (.region [] [] [0, 1] false [
     (none, .asg 4 (.c (.bool false)) .copy)])
   (.seq
    (.region [(5, 0, false)] [] [0, 4] false [
      (none, .mv 5 (.v 0)),
      (none, .mv 6 (.v 1)),
      (none, .call (some 7) 7 true [((.v 5), true), ((.v 6), false)]),
      (none, .bin 8 .eql (.v 7) (.c (.int .i64 0))),
      (none, .asg 4 (.v 8) .copy)])
    (.ret [0, 4])))⟩
def F4 : PFunc :=
 ⟨[true, false], [.tmp 4],
  (.seq
   (.region [] [] [0, 1] false [
     (none, .asg 4 (.c (.int .i64 0)) .copy)])
   (.seq
    (.region [(10, 1, false), (7, 1, false), (6, 0, false), (5, 1, false)] [] [0, 4] false [
      (none, .mv 5 (.v 1)),
      (none, .mv 6 (.v 0)),
      (none, .mv 7 (.v 1)),
      (none, .len 8 false (.v 7)),
      (none, .call (some 9) 7 true [((.v 6), true), ((.v 8), false)]),
      (none, .iadr 10 1 (.v 5) (.v 9)),
      (none, .load 11 false 1 (.v 10) none),
      (none, .asg 4 (.v 11) .copy)])
    (.ret [0, 4])))⟩
def F629 : PFunc :=
 ⟨[true, false], [.tmp 4],
  (.seq
   (.region [] [] [0, 1] false [
     (none, .asg 4 (.c (.sl true 2 [])) .copy)])
   (.seq
    (.region [] [] [0, 1, 5] false [
      (none, .mksl 8 2 (.agg [(.int .i64 0), (.int .i64 0)]) 0 []),
      (none, .asg 5 (.v 8) .move)])
    (.seq
     (.seq
      (.region [] [] [0, 5, 6] false [
        (none, .mv 9 (.v 1)),
        (none, .asg 6 (.v 9) .copy)])
      (.block 0
       (.loop
        (.seq
         (.seq
          (.region [] [] [0, 5, 6, 11] false [
            (none, .mv 10 (.v 6)),
            (none, .bin 11 .gtr (.v 10) (.c (.int .i64 0)))])
          (.cond (.v 11)
           (.skip [0, 5, 6])
           (.exit 0 [0, 5])))
         (.seq
          (.block 1
           (.seq
            (.region [(14, 0, false)] [] [0, 5, 6, 7] false [
              (none, .mv 14 (.v 0)),
              (none, .call (some 15) 7 true [((.v 14), true), ((.c (.int .i64 60)), false)]),
              (none, .build 16 [(.int .i64 0), (.int .i64 0)] [(0, 1, (.v 15), .copy)]),
              (none, .new 7 (.agg [(.int .i64 0), (.int .i64 0)])),
              (none, .store 2 (.v 7) (.v 16) .copy)])
            (.seq
             (.region [(19, 7, false), (17, 0, false)] [] [0, 5, 6, 7] false [
               (none, .mv 17 (.v 0)),
               (none, .call (some 18) 7 true [((.v 17), true), ((.c (.int .i64 60)), false)]),
               (none, .fadr 19 1 1 (.v 7)),
               (none, .store 1 (.v 19) (.v 18) .copy)])
             (.region [(20, 5, false)] [] [0, 5, 6] false [
               (none, .mv 20 (.v 5)),
               (none, .load 21 true 2 (.v 7) none),
               (none, .mksl 22 2 (.agg [(.int .i64 0), (.int .i64 0)]) 1 [(0, (.v 21), .copy)]),
               (none, .app 23 2 (.v 20) (.v 22) .move),
               (none, .asg 5 (.v 23) .move)]))))
          (.region [] [] [0, 5, 6] false [
            (none, .mv 12 (.v 6)),
            (none, .bin 13 .sub (.v 12) (.c (.int .i64 1))),
            (none, .asg 6 (.v 13) .copy)]))))))
     (.seq
      (.region [(24, 5, false)] [] [0, 4] false [
        (none, .mv 24 (.v 5)),
        (none, .asg 4 (.v 24) .move)])
      (.ret [0, 4])))))⟩
def F625 : PFunc :=
 ⟨[true], [.tmp 2],
  (.seq
   (.region [] [] [0] false [
     (none, .asg 2 (.c (.sl true 2 [])) .copy)])
   (.seq
    (.region [(5, 0, false)] [] [0, 3] false [
      (none, .mv 5 (.v 0)),
      (none, .call (some 6) 7 true [((.v 5), true), ((.c (.int .i64 4)), false)]),
      (none, .bin 7 .add (.c (.int .i64 1)) (.v 6)),
      (none, .asg 3 (.v 7) .copy)])
    (.seq
     (.seq
      (.region [(8, 0, false)] [] [0, 3, 9] false [
        (none, .mv 8 (.v 0)),
        (none, .call (some 9) 6 true [((.v 8), true), ((.c (.int .i64 16)), false)])])
      (.cond (.v 9)
       (.region [(10, 0, false)] [] [0, 3] false [
         (none, .mv 10 (.v 0)),
         (none, .mksl 11 1 (.int .i64 0) 4 [(0, (.c (.int .i64 0)), .copy), (1, (.c (.int .i64 1)), .copy), (2, (.c (.int .i64 8)), .copy), (3, (.c (.int .i64 9)), .copy)]),
         (none, .call (some 12) 4 true [((.v 10), true), ((.v 11), false)]),
         (none, .asg 3 (.v 12) .copy)])
       (.skip [0, 3])))
     (.seq
      (.region [(13, 0, false)] [] [0, 3, 4] false [
        (none, .mv 13 (.v 0)),
        (none, .mv 14 (.v 3)),
        (none, .call (some 15) 629 true [((.v 13), true), ((.v 14), false)]),
        (none, .asg 4 (.v 15) .move)])
      (.seq
       (.seq
        (.region [(19, 0, false)] [] [0, 4, 21] false [
          (none, .mv 16 (.v 3)),
          (none, .bin 17 .gtr (.v 16) (.c (.int .i64 0))),
          (none, .mv 18 (.v 17)),
          (some (18, true), .mv 19 (.v 0)),
          (some (18, true), .call (some 20) 6 true [((.v 19), true), ((.c (.int .i64 12)), false)]),
          (none, .pick 21 (.v 18) (.v 20) (.c (.bool false)))])
        (.cond (.v 21)
         (.region [(27, 4, false), (26, 4, false), (23, 0, false), (22, 4, false)] [] [0, 4] false [
           (none, .mv 22 (.v 4)),
           (none, .mv 23 (.v 0)),
           (none, .mksl 24 1 (.int .i64 0) 5 [(0, (.c (.int .i64 (-1))), .copy), (1, (.c (.int .i64 0)), .copy), (2, (.c (.int .i64 1000)), .copy), (3, (.c (.int .i64 1001)), .copy), (4, (.c (.int .i64 (-9223372036854775808))), .copy)]),
           (none, .call (some 25) 4 true [((.v 23), true), ((.v 24), false)]),
           (none, .iadr 26 2 (.v 22) (.c (.int .i64 0))),
           (none, .fadr 27 0 1 (.v 26)),
           (none, .store 1 (.v 27) (.v 25) .copy)])
         (.skip [0, 4])))
       (.seq
        (.region [(28, 4, false)] [] [0, 2] false [
          (none, .mv 28 (.v 4)),
          (none, .asg 2 (.v 28) .move)])
        (.ret [0, 2])))))))⟩
def F631 : PFunc :=
 ⟨[true], [.tmp 2, .tmp 3],
  (.seq
   (.region [] [] [0] false [
     (none, .asg 2 (.c (.sl true 2 [])) .copy),
     (none, .asg 3 (.c (.sl true 2 [])) .copy)])
   (.seq
    (.region [(5, 0, false)] [] [0, 4] false [
      (none, .mv 5 (.v 0)),
      (none, .call (some 6) 625 true [((.v 5), true)]),
      (none, .asg 4 (.v 6) .move)])
    (.seq
     (.seq
      (.region [(7, 0, false)] [] [0, 4, 8] false [
        (none, .mv 7 (.v 0)),
        (none, .call (some 8) 6 true [((.v 7), true), ((.c (.int .i64 6)), false)])])
      (.cond (.v 8)
       (.seq
        (.region [(10, 0, false), (9, 4, false)] [] [0, 2, 3] false [
          (none, .mv 9 (.v 4)),
          (none, .mv 10 (.v 0)),
          (none, .call (some 11) 625 true [((.v 10), true)]),
          (none, .asg 2 (.v 9) .move),
          (none, .asg 3 (.v 11) .move)])
        (.ret [0, 2, 3]))
       (.skip [0, 4])))
     (.seq
      (.region [(14, 4, false), (13, 0, false), (12, 4, false)] [] [0, 2, 3] false [
        (none, .mv 12 (.v 4)),
        (none, .mv 13 (.v 0)),
        (none, .mv 14 (.v 4)),
        (none, .len 15 false (.v 14)),
        (none, .call (some 16) 629 true [((.v 13), true), ((.v 15), false)]),
        (none, .asg 2 (.v 12) .move),
        (none, .asg 3 (.v 16) .move)])
      (.ret [0, 2, 3])))))⟩
def F475 : PFunc :=
 ⟨[false], [.tmp 2, .tmp 3],
  (.seq
   (.region [] [] [0] false [
     (none, .asg 2 (.c (.sl true 2 [])) .copy),
     (none, .asg 3 (.c (.sl true 2 [])) .copy)])
   (.seq
    (.region [(7, 0, false)] [] [4, 5] false [
      (none, .mv 7 (.v 0)),
      (none, .call (some 8) 603 true [((.v 7), false)]),
      (none, .call (some 9) 631 true [((.v 8), true)]),
      (none, .asg 6 (.v 9) .move),
      (none, .ext 10 (.v 6) 0),
      (none, .ext 11 (.v 6) 1),
      (none, .asg 4 (.v 10) .move),
      (none, .asg 5 (.v 11) .move)])
    (.seq
     (.region [(13, 5, false), (12, 4, false)] [] [2, 3] false [
       (none, .mv 12 (.v 4)),
       (none, .mv 13 (.v 5)),
       (none, .asg 2 (.v 12) .move),
       (none, .asg 3 (.v 13) .move)])
     (.ret [2, 3]))))⟩
def F484 : PFunc :=
 ⟨[false], [.tmp 2, .tmp 3],
  (.seq
   (.region [] [] [0] false [
     (none, .asg 2 (.c (.sl true 2 [])) .copy),
     (none, .asg 3 (.c (.int .i64 0)) .copy)])
   (.seq
    (.region [(6, 0, false)] [] [4] false [
      (none, .mv 6 (.v 0)),
      (none, .call (some 7) 603 true [((.v 6), false)]),
      (none, .asg 4 (.v 7) .move)])
    (.seq
     (.region [(8, 4, false)] [] [4, 5] false [
       (none, .mv 8 (.v 4)),
       (none, .call (some 9) 625 true [((.v 8), true)]),
       (none, .asg 5 (.v 9) .move)])
     (.seq
      (.seq
       (.region [(10, 4, false)] [] [4, 5, 11] false [
         (none, .mv 10 (.v 4)),
         (none, .call (some 11) 6 true [((.v 10), true), ((.c (.int .i64 8)), false)])])
       (.cond (.v 11)
        (.seq
         (.region [(13, 4, false), (12, 5, false)] [] [2, 3] false [
           (none, .mv 12 (.v 5)),
           (none, .mv 13 (.v 4)),
           (none, .mksl 14 1 (.int .i64 0) 4 [(0, (.c (.int .i64 (-1))), .copy), (1, (.c (.int .i64 0)), .copy), (2, (.c (.int .i64 1000)), .copy), (3, (.c (.int .i64 1001)), .copy)]),
           (none, .call (some 15) 4 true [((.v 13), true), ((.v 14), false)]),
           (none, .asg 2 (.v 12) .move),
           (none, .asg 3 (.v 15) .copy)])
         (.ret [2, 3]))
        (.skip [4, 5])))
      (.seq
       (.region [(17, 4, false), (16, 5, false)] [] [2, 3] false [
         (none, .mv 16 (.v 5)),
         (none, .mv 17 (.v 4)),
         (none, .call (some 18) 7 true [((.v 17), true), ((.c (.int .i64 60)), false)]),
         (none, .bin 19 .add (.c (.int .i64 40)) (.v 18)),
         (none, .asg 2 (.v 16) .move),
         (none, .asg 3 (.v 19) .copy)])
       (.ret [2, 3]))))))⟩
def F627 : PFunc :=
 ⟨[true], [.tmp 2],
  (.seq
   (.region [] [] [0] false [
     (none, .asg 2 (.c (.sl true 2 [])) .copy)])
   (.seq
    (.region [(10, 0, false)] [] [0, 3] false [
      (none, .mv 10 (.v 0)),
      (none, .call (some 11) 7 true [((.v 10), true), ((.c (.int .i64 3)), false)]),
      (none, .bin 12 .add (.c (.int .i64 1)) (.v 11)),
      (none, .asg 3 (.v 12) .copy)])
    (.seq
     (.region [] [] [0, 3, 4] false [
       (none, .mksl 13 2 (.agg [(.int .i64 0), (.sl false 2 [])]) 0 []),
       (none, .asg 4 (.v 13) .move)])
     (.seq
      (.region [(14, 0, false)] [] [0, 3, 4, 5] false [
        (none, .mv 14 (.v 0)),
        (none, .call (some 15) 7 true [((.v 14), true), ((.c (.int .i64 30)), false)]),
        (none, .asg 5 (.v 15) .copy)])
      (.seq
       (.region [(16, 0, false)] [] [0, 3, 4, 5, 6] false [
         (none, .mv 16 (.v 0)),
         (none, .call (some 17) 7 true [((.v 16), true), ((.c (.int .i64 5)), false)]),
         (none, .bin 18 .add (.c (.int .i64 1)) (.v 17)),
         (none, .asg 6 (.v 18) .copy)])
       (.seq
        (.seq
         (.region [(19, 0, false)] [] [0, 3, 4, 5, 6, 20] false [
           (none, .mv 19 (.v 0)),
           (none, .call (some 20) 6 true [((.v 19), true), ((.c (.int .i64 16)), false)])])
         (.cond (.v 20)
          (.region [(21, 0, false)] [] [0, 3, 4, 5, 6] false [
            (none, .mv 21 (.v 0)),
            (none, .mksl 22 1 (.int .i64 0) 3 [(0, (.c (.int .i64 0)), .copy), (1, (.c (.int .i64 10)), .copy), (2, (.c (.int .i64 11)), .copy)]),
            (none, .call (some 23) 4 true [((.v 21), true), ((.v 22), false)]),
            (none, .asg 6 (.v 23) .copy)])
          (.skip [0, 3, 4, 5, 6])))
        (.seq
         (.seq
          (.region [] [] [0, 3, 4, 5, 6, 7] false [
            (none, .mv 24 (.v 6)),
            (none, .asg 7 (.v 24) .copy)])
          (.block 0
           (.loop
            (.seq
             (.seq
              (.region [] [] [0, 3, 4, 5, 6, 7, 26] false [
                (none, .mv 25 (.v 7)),
                (none, .bin 26 .gtr (.v 25) (.c (.int .i64 0)))])
              (.cond (.v 26)
               (.skip [0, 3, 4, 5, 6, 7])
               (.exit 0 [0, 4, 6])))
             (.seq
              (.block 1
               (.seq
                (.region [(30, 0, false)] [] [0, 3, 4, 5, 6, 7, 8] false [
                  (none, .mv 29 (.v 5)),
                  (none, .mv 30 (.v 0)),
                  (none, .mv 31 (.v 3)),
                  (none, .call (some 32) 629 true [((.v 30), true), ((.v 31), false)]),
                  (none, .build 33 [(.int .i64 0), (.sl true 2 [])] [(0, 1, (.v 29), .copy), (1, 1, (.v 32), .move)]),
                  (none, .new 8 (.agg [(.int .i64 0), (.sl true 2 [])])),
                  (none, .store 2 (.v 8) (.v 33) .move)])
                (.seq
                 (.seq
                  (.region [(38, 0, false), (34, 4, false)] [] [0, 3, 4, 5, 6, 7, 8, 40] false [
                    (none, .mv 34 (.v 4)),
                    (none, .len 35 false (.v 34)),
                    (none, .bin 36 .gtr (.v 35) (.c (.int .i64 0))),
                    (none, .mv 37 (.v 36)),
                    (some (37, true), .mv 38 (.v 0)),
                    (some (37, true), .call (some 39) 6 true [((.v 38), true), ((.c (.int .i64 3)), false)]),
                    (none, .pick 40 (.v 37) (.v 39) (.c (.bool false)))])
                  (.cond (.v 40)
                   (.region [(50, 8, false), (48, 4, true), (47, 4, false), (46, 4, false), (43, 4, false), (42, 4, false)] [] [0, 3, 4, 5, 6, 7, 8] false [
                     (none, .mksl 41 2 (.agg [(.int .i64 0), (.int .i64 0)]) 0 []),
                     (none, .mv 42 (.v 4)),
                     (none, .mv 43 (.v 4)),
                     (none, .len 44 false (.v 43)),
                     (none, .bin 45 .sub (.v 44) (.c (.int .i64 1))),
                     (none, .iadr 46 2 (.v 42) (.v 45)),
                     (none, .fadr 47 1 1 (.v 46)),
                     (none, .load 48 false 1 (.v 47) none),
                     (none, .app 49 2 (.v 41) (.v 48) .freeze),
                     (none, .fadr 50 1 1 (.v 8)),
                     (none, .store 1 (.v 50) (.v 49) .move)])
                   (.skip [0, 3, 4, 5, 6, 7, 8])))
                 (.seq
                  (.region [(51, 4, false)] [] [0, 3, 4, 5, 6, 7] false [
                    (none, .mv 51 (.v 4)),
                    (none, .load 52 true 2 (.v 8) (some .move)),
                    (none, .mksl 53 2 (.agg [(.int .i64 0), (.sl false 2 [])]) 1 [(0, (.v 52), .freeze)]),
                    (none, .app 54 2 (.v 51) (.v 53) .move),
                    (none, .asg 4 (.v 54) .move)])
                  (.region [(56, 0, false)] [] [0, 3, 4, 5, 6, 7] false [
                    (none, .mv 55 (.v 5)),
                    (none, .mv 56 (.v 0)),
                    (none, .call (some 57) 7 true [((.v 56), true), ((.c (.int .i64 12)), false)]),
                    (none, .bin 58 .add (.c (.int .i64 1)) (.v 57)),
                    (none, .bin 59 .add (.v 55) (.v 58)),
                    (none, .asg 5 (.v 59) .copy)])))))
              (.region [] [] [0, 3, 4, 5, 6, 7] false [
                (none, .mv 27 (.v 7)),
                (none, .bin 28 .sub (.v 27) (.c (.int .i64 1))),
                (none, .asg 7 (.v 28) .copy)]))))))
         (.seq
          (.seq
           (.region [] [] [0, 4, 6, 61] false [
             (none, .mv 60 (.v 6)),
             (none, .bin 61 .gtr (.v 60) (.c (.int .i64 0)))])
           (.cond (.v 61)
            (.seq
             (.region [(9, 4, false), (66, 4, false), (63, 0, false), (62, 4, false)] [] [0, 4, 9] false [
               (none, .mv 62 (.v 4)),
               (none, .mv 63 (.v 0)),
               (none, .mv 64 (.v 6)),
               (none, .call (some 65) 7 true [((.v 63), true), ((.v 64), false)]),
               (none, .iadr 66 2 (.v 62) (.v 65)),
               (none, .mv 9 (.v 66))])
             (.seq
              (.region [(67, 0, false), (9, 4, false)] [] [0, 4, 9, 68] false [
                (none, .mv 67 (.v 0)),
                (none, .call (some 68) 7 true [((.v 67), true), ((.c (.int .i64 20)), false)])])
              (.block 2
               (.seq
                (.region [(9, 4, false)] [] [0, 4, 9, 68, 69] false [
                  (none, .bin 70 .eql (.v 68) (.c (.int .i64 0))),
                  (none, .asg 69 (.v 70) .copy)])
                (.cond (.v 69)
                 (.region [(76, 4, false), (75, 4, false), (72, 0, false), (71, 4, false), (9, 4, false)] [] [0, 4] false [
                   (none, .mv 71 (.v 9)),
                   (none, .mv 72 (.v 0)),
                   (none, .mksl 73 1 (.int .i64 0) 4 [(0, (.c (.int .i64 (-1))), .copy), (1, (.c (.int .i64 0)), .copy), (2, (.c (.int .i64 10000)), .copy), (3, (.c (.int .i64 10001)), .copy)]),
                   (none, .call (some 74) 4 true [((.v 72), true), ((.v 73), false)]),
                   (none, .nchk 75 (.v 71)),
                   (none, .fadr 76 0 1 (.v 75)),
                   (none, .store 1 (.v 76) (.v 74) .copy)])
                 (.seq
                  (.region [(9, 4, false)] [] [0, 4, 9, 77] false [
                    (none, .bin 78 .eql (.v 68) (.c (.int .i64 1))),
                    (none, .asg 77 (.v 78) .copy)])
                  (.cond (.v 77)
                   (.region [(83, 4, false), (82, 4, false), (80, 0, false), (79, 4, false), (9, 4, false)] [] [0, 4] false [
                     (none, .mv 79 (.v 9)),
                     (none, .mv 80 (.v 0)),
                     (none, .call (some 81) 625 true [((.v 80), true)]),
                     (none, .nchk 82 (.v 79)),
                     (none, .fadr 83 1 1 (.v 82)),
                     (none, .store 1 (.v 83) (.v 81) .freeze)])
                   (.skip [0, 4]))))))))
            (.skip [0, 4])))
          (.seq
           (.region [(84, 4, false)] [] [0, 2] false [
             (none, .mv 84 (.v 4)),
             (none, .asg 2 (.v 84) .move)])
           (.ret [0, 2]))))))))))⟩
def F488 : PFunc :=
 ⟨[false], [.tmp 2, .tmp 3],
  (.seq
   (.region [] [] [0] false [
     (none, .asg 2 (.c (.sl true 2 [])) .copy),
     (none, .asg 3 (.c (.int .i64 0)) .copy)])
   (.seq
    (.region [(6, 0, false)] [] [4] false [
      (none, .mv 6 (.v 0)),
      (none, .call (some 7) 603 true [((.v 6), false)]),
      (none, .asg 4 (.v 7) .move)])
    (.seq
     (.region [(8, 4, false)] [] [4, 5] false [
       (none, .mv 8 (.v 4)),
       (none, .call (some 9) 627 true [((.v 8), true)]),
       (none, .asg 5 (.v 9) .move)])
     (.seq
      (.region [(13, 4, false), (11, 4, false), (10, 5, false)] [] [2, 3] false [
        (none, .mv 10 (.v 5)),
        (none, .mv 11 (.v 4)),
        (none, .call (some 12) 7 true [((.v 11), true), ((.c (.int .i64 70)), false)]),
        (none, .mv 13 (.v 4)),
        (none, .call (some 14) 7 true [((.v 13), true), ((.c (.int .i64 16)), false)]),
        (none, .bin 15 .quo (.v 14) (.c (.int .i64 15))),
        (none, .bin 16 .sub (.v 12) (.v 15)),
        (none, .asg 2 (.v 10) .move),
        (none, .asg 3 (.v 16) .copy)])
      (.ret [2, 3])))))⟩
def F606 : PFunc :=
 ⟨[false, false], [.tmp 4],
  (.seq
   (.region [] [] [0, 1] false [
     (none, .asg 4 (.c (.int .i64 0)) .copy)])
   (.seq
    (.seq
     (.region [] [] [0, 1, 7] false [
       (none, .mv 5 (.v 0)),
       (none, .mv 6 (.v 1)),
       (none, .bin 7 .gtr (.v 5) (.v 6))])
     (.cond (.v 7)
      (.seq
       (.region [] [] [4] false [
         (none, .mv 8 (.v 0)),
         (none, .asg 4 (.v 8) .copy)])
       (.ret [4]))
      (.skip [1])))
    (.seq
     (.region [] [] [4] false [
       (none, .mv 9 (.v 1)),
       (none, .asg 4 (.v 9) .copy)])
     (.ret [4]))))⟩
def F489 : PFunc :=
 ⟨[false], [.tmp 2, .tmp 3, .tmp 4, .tmp 5],
  (.seq
   (.region [] [] [0] false [
     (none, .asg 2 (.c (.sl true 2 [])) .copy),
     (none, .asg 3 (.c (.sl true 2 [])) .copy),
     (none, .asg 4 (.c (.int .i64 0)) .copy),
     (none, .asg 5 (.c (.int .i64 0)) .copy)])
   (.seq
    (.region [(10, 0, false)] [] [6] false [
      (none, .mv 10 (.v 0)),
      (none, .call (some 11) 603 true [((.v 10), false)]),
      (none, .asg 6 (.v 11) .move)])
    (.seq
     (.region [(13, 6, false)] [] [6, 7, 8] false [
       (none, .mv 13 (.v 6)),
       (none, .call (some 14) 631 true [((.v 13), true)]),
       (none, .asg 12 (.v 14) .move),
       (none, .ext 15 (.v 12) 0),
       (none, .ext 16 (.v 12) 1),
       (none, .asg 7 (.v 15) .move),
       (none, .asg 8 (.v 16) .move)])
     (.seq
      (.region [(17, 6, false)] [] [6, 7, 8, 9] false [
        (none, .mv 17 (.v 6)),
        (none, .call (some 18) 7 true [((.v 17), true), ((.c (.int .i64 12)), false)]),
        (none, .bin 19 .add (.c (.int .i64 1)) (.v 18)),
        (none, .asg 9 (.v 19) .copy)])
      (.seq
       (.seq
        (.region [(20, 6, false)] [] [6, 7, 8, 9, 21] false [
          (none, .mv 20 (.v 6)),
          (none, .call (some 21) 6 true [((.v 20), true), ((.c (.int .i64 10)), false)])])
        (.cond (.v 21)
         (.region [(22, 6, false)] [] [6, 7, 8, 9] false [
           (none, .mv 22 (.v 6)),
           (none, .mksl 23 1 (.int .i64 0) 5 [(0, (.c (.int .i64 (-1))), .copy), (1, (.c (.int .i64 0)), .copy), (2, (.c (.int .i64 1)), .copy), (3, (.c (.int .i64 10000)), .copy), (4, (.c (.int .i64 10001)), .copy)]),
           (none, .call (some 24) 4 true [((.v 22), true), ((.v 23), false)]),
           (none, .asg 9 (.v 24) .copy)])
         (.skip [6, 7, 8, 9])))
       (.seq
        (.seq
         (.region [(25, 6, false)] [] [6, 7, 8, 9, 26] false [
           (none, .mv 25 (.v 6)),
           (none, .call (some 26) 6 true [((.v 25), true), ((.c (.int .i64 10)), false)])])
         (.cond (.v 26)
          (.seq
           (.region [(29, 6, false), (28, 8, false), (27, 7, false)] [] [2, 3, 4, 5] false [
             (none, .mv 27 (.v 7)),
             (none, .mv 28 (.v 8)),
             (none, .mv 29 (.v 6)),
             (none, .mv 30 (.v 9)),
             (none, .mv 31 (.v 9)),
             (none, .bin 32 .add (.v 31) (.c (.int .i64 1))),
             (none, .mksl 33 1 (.int .i64 0) 4 [(0, (.c (.int .i64 (-1))), .copy), (1, (.c (.int .i64 0)), .copy), (2, (.v 30), .copy), (3, (.v 32), .copy)]),
             (none, .call (some 34) 4 true [((.v 29), true), ((.v 33), false)]),
             (none, .mv 35 (.v 9)),
             (none, .asg 2 (.v 27) .move),
             (none, .asg 3 (.v 28) .move),
             (none, .asg 4 (.v 34) .copy),
             (none, .asg 5 (.v 35) .copy)])
           (.ret [2, 3, 4, 5]))
          (.skip [6, 7, 8, 9])))
        (.seq
         (.region [(38, 6, false), (37, 8, false), (36, 7, false)] [] [2, 3, 4, 5] false [
           (none, .mv 36 (.v 7)),
           (none, .mv 37 (.v 8)),
           (none, .mv 38 (.v 6)),
           (none, .mv 39 (.v 9)),
           (none, .call (some 40) 606 false [((.c (.int .i64 1)), false), ((.v 39), false)]),
           (none, .bin 41 .add (.v 40) (.c (.int .i64 1))),
           (none, .call (some 42) 7 true [((.v 38), true), ((.v 41), false)]),
           (none, .mv 43 (.v 9)),
           (none, .asg 2 (.v 36) .move),
           (none, .asg 3 (.v 37) .move),
           (none, .asg 4 (.v 42) .copy),
           (none, .asg 5 (.v 43) .copy)])
         (.ret [2, 3, 4, 5]))))))))⟩
def F491 : PFunc :=
 ⟨[false], [.tmp 2, .tmp 3],
  (.seq
   (.region [] [] [0] false [
     (none, .asg 2 (.c (.sl true 2 [])) .copy),
     (none, .asg 3 (.c (.sl true 2 [])) .copy)])
   (.seq
    (.region [(7, 0, false)] [] [4] false [
      (none, .mv 7 (.v 0)),
      (none, .call (some 8) 603 true [((.v 7), false)]),
      (none, .asg 4 (.v 8) .move)])
    (.seq
     (.region [(9, 4, false)] [] [4, 5] false [
       (none, .mv 9 (.v 4)),
       (none, .call (some 10) 625 true [((.v 9), true)]),
       (none, .asg 5 (.v 10) .move)])
     (.seq
      (.region [(12, 5, false)] [] [4, 5, 6] false [
        (none, .mksl 11 2 (.agg [(.int .i64 0), (.int .i64 0)]) 0 []),
        (none, .mv 12 (.v 5)),
        (none, .app 13 2 (.v 11) (.v 12) .freeze),
        (none, .asg 6 (.v 13) .move)])
      (.seq
       (.seq
        (.region [(18, 4, false), (14, 6, false)] [] [4, 5, 6, 20] false [
          (none, .mv 14 (.v 6)),
          (none, .len 15 false (.v 14)),
          (none, .bin 16 .gtr (.v 15) (.c (.int .i64 0))),
          (none, .mv 17 (.v 16)),
          (some (17, true), .mv 18 (.v 4)),
          (some (17, true), .call (some 19) 6 true [((.v 18), true), ((.c (.int .i64 2)), false)]),
          (none, .pick 20 (.v 17) (.v 19) (.c (.bool false)))])
        (.cond (.v 20)
         (.region [(29, 6, false), (28, 6, false), (25, 4, false), (23, 6, false), (22, 6, false), (21, 6, false)] [] [4, 5, 6] true [
           (none, .mvr 21 6),
           (none, .iadr 22 2 (.v 21) (.c (.int .i64 0))),
           (none, .fadr 23 1 1 (.v 22)),
           (none, .load 24 false 1 (.v 23) none),
           (none, .mvr 25 4),
           (none, .call (some 26) 7 true [((.v 25), true), ((.c (.int .i64 2)), false)]),
           (none, .bin 27 .add (.v 24) (.v 26)),
           (none, .iadr 28 2 (.v 21) (.c (.int .i64 0))),
           (none, .fadr 29 1 1 (.v 28)),
           (none, .store 1 (.v 29) (.v 27) .copy)])
         (.skip [4, 5, 6])))
       (.seq
        (.seq
         (.region [(30, 4, false)] [] [5, 6, 31] false [
           (none, .mv 30 (.v 4)),
           (none, .call (some 31) 6 true [((.v 30), true), ((.c (.int .i64 5)), false)])])
         (.cond (.v 31)
          (.region [(32, 6, false)] [] [5, 6] false [
            (none, .mv 32 (.v 6)),
            (none, .build 33 [(.int .i64 0), (.int .i64 0)] []),
            (none, .mksl 34 2 (.agg [(.int .i64 0), (.int .i64 0)]) 1 [(0, (.v 33), .copy)]),
            (none, .app 35 2 (.v 32) (.v 34) .move),
            (none, .asg 6 (.v 35) .move)])
          (.skip [5, 6])))
        (.seq
         (.region [(37, 6, false), (36, 5, false)] [] [2, 3] false [
           (none, .mv 36 (.v 5)),
           (none, .mv 37 (.v 6)),
           (none, .asg 2 (.v 36) .move),
           (none, .asg 3 (.v 37) .move)])
         (.ret [2, 3]))))))))⟩
def F605 : PFunc :=
 ⟨[false, false, false], [.tmp 6],
  (.seq
   (.region [] [] [0, 1, 2] false [
     (none, .asg 6 (.c (.bool false)) .copy)])
   (.seq
    (.region [] [] [6] false [
      (none, .mv 7 (.v 0)),
      (none, .mv 8 (.v 1)),
      (none, .bin 9 .geq (.v 7) (.v 8)),
      (none, .mv 10 (.v 9)),
      (some (10, true), .mv 11 (.v 0)),
      (some (10, true), .mv 12 (.v 2)),
      (some (10, true), .bin 13 .leq (.v 11) (.v 12)),
      (none, .pick 14 (.v 10) (.v 13) (.c (.bool false))),
      (none, .asg 6 (.v 14) .copy)])
    (.ret [6])))⟩
def F630 : PFunc :=
 ⟨[false], [.tmp 2],
  (.seq
   (.region [] [] [0] false [
     (none, .asg 2 (.c (.bool false)) .copy)])
   (.seq
    (.seq
     (.region [] [] [0, 3] false [
       (none, .asg 3 (.c (.int .i64 0)) .copy)])
     (.block 0
      (.loop
       (.seq
        (.seq
         (.region [(5, 0, false)] [] [0, 3, 7] false [
           (none, .mv 4 (.v 3)),
           (none, .mv 5 (.v 0)),
           (none, .len 6 false (.v 5)),
           (none, .bin 7 .lss (.v 4) (.v 6))])
         (.cond (.v 7)
          (.skip [0, 3])
          (.exit 0 [0])))
        (.seq
         (.block 1
          (.seq
           (.region [(21, 0, false), (20, 0, false), (18, 0, false), (13, 0, false), (12, 0, false), (10, 0, false)] [] [0, 3, 25] false [
             (none, .mv 10 (.v 0)),
             (none, .mv 11 (.v 3)),
             (none, .iadr 12 2 (.v 10) (.v 11)),
             (none, .fadr 13 0 1 (.v 12)),
             (none, .load 14 false 1 (.v 13) none),
             (none, .call (some 15) 605 false [((.v 14), false), ((.c (.int .i64 0)), false), ((.c (.int .i64 1000)), false)]),
             (none, .un 16 .not (.v 15)),
             (none, .mv 17 (.v 16)),
             (some (17, false), .mv 18 (.v 0)),
             (some (17, false), .mv 19 (.v 3)),
             (some (17, false), .iadr 20 2 (.v 18) (.v 19)),
             (some (17, false), .fadr 21 1 1 (.v 20)),
             (some (17, false), .load 22 false 1 (.v 21) none),
             (some (17, false), .call (some 23) 605 false [((.v 22), false), ((.c (.int .i64 0)), false), ((.c (.int .i64 1000)), false)]),
             (some (17, false), .un 24 .not (.v 23)),
             (none, .pick 25 (.v 17) (.c (.bool true)) (.v 24))])
           (.cond (.v 25)
            (.seq
             (.region [] [] [2] false [
               (none, .asg 2 (.c (.bool false)) .copy)])
             (.ret [2]))
            (.skip [0, 3]))))
         (.region [] [] [0, 3] false [
           (none, .mv 8 (.v 3)),
           (none, .bin 9 .add (.v 8) (.c (.int .i64 1))),
           (none, .asg 3 (.v 9) .copy)]))))))
    (.seq
     (.region [(26, 0, false)] [] [2] false [
       (none, .mv 26 (.v 0)),
       (none, .len 27 false (.v 26)),
       (none, .call (some 28) 605 false [((.v 27), false), ((.c (.int .i64 1)), false), ((.c (.int .i64 8)), false)]),
       (none, .asg 2 (.v 28) .copy)])
     (.ret [2]))))⟩
def F632 : PFunc :=
 ⟨[false, false], [.tmp 4],
  (.seq
   (.region [] [] [0, 1] false [
     (none, .asg 4 (.c (.int .i64 0)) .copy)])
   (.seq
    (.seq
     (.region [(9, 1, false), (5, 0, false)] [] [12] false [
       (none, .mv 5 (.v 0)),
       (none, .call (some 6) 630 false [((.v 5), false)]),
       (none, .un 7 .not (.v 6)),
       (none, .mv 8 (.v 7)),
       (some (8, false), .mv 9 (.v 1)),
       (some (8, false), .call (some 10) 630 false [((.v 9), false)]),
       (some (8, false), .un 11 .not (.v 10)),
       (none, .pick 12 (.v 8) (.c (.bool true)) (.v 11))])
     (.cond (.v 12)
      (.seq
       (.region [] [] [4] false [
         (none, .asg 4 (.c (.int .i64 1)) .copy)])
       (.ret [4]))
      (.skip [])))
    (.seq
     (.region [] [] [4] false [
       (none, .asg 4 (.c (.int .i64 0)) .copy)])
     (.ret [4]))))⟩
def F529 : PFunc :=
 ⟨[false, false], [.tmp 4, .tmp 5, .tmp 6],
  (.seq
   (.region [] [] [0, 1] false [
     (none, .asg 4 (.c (.int .i64 0)) .copy),
     (none, .asg 5 (.c (.int .i64 0)) .copy),
     (none, .asg 6 (.c (.int .i64 0)) .copy)])
   (.seq
    (.region [(14, 1, false), (13, 0, false)] [] [0, 1, 7] false [
      (none, .mv 13 (.v 0)),
      (none, .mv 14 (.v 1)),
      (none, .call (some 15) 632 false [((.v 13), false), ((.v 14), false)]),
      (none, .asg 7 (.v 15) .copy)])
    (.seq
     (.seq
      (.region [(21, 1, false), (19, 0, false)] [] [0, 1, 7, 24] false [
        (none, .mv 16 (.v 7)),
        (none, .bin 17 .eql (.v 16) (.c (.int .i64 0))),
        (none, .mv 18 (.v 17)),
        (some (18, true), .mv 19 (.v 0)),
        (some (18, true), .len 20 false (.v 19)),
        (some (18, true), .mv 21 (.v 1)),
        (some (18, true), .len 22 false (.v 21)),
        (some (18, true), .bin 23 .neq (.v 20) (.v 22)),
        (none, .pick 24 (.v 18) (.v 23) (.c (.bool false)))])
      (.cond (.v 24)
       (.region [] [] [0, 1, 7] false [
         (none, .asg 7 (.c (.int .i64 8)) .copy)])
       (.skip [0, 1, 7])))
     (.seq
      (.seq
       (.region [] [] [0, 1, 7, 26] false [
         (none, .mv 25 (.v 7)),
         (none, .bin 26 .neq (.v 25) (.c (.int .i64 0)))])
       (.cond (.v 26)
        (.seq
         (.region [] [] [4, 5, 6] false [
           (none, .mv 27 (.v 7)),
           (none, .asg 4 (.c (.int .i64 0)) .copy),
           (none, .asg 5 (.c (.int .i64 0)) .copy),
           (none, .asg 6 (.v 27) .copy)])
         (.ret [4, 5, 6]))
        (.skip [0, 1])))
      (.seq
       (.region [] [] [0, 1, 8] false [
         (none, .asg 8 (.c (.int .i64 0)) .copy)])
       (.seq
        (.region [] [] [0, 1, 8, 9] false [
          (none, .asg 9 (.c (.int .i64 (-1))) .copy)])
        (.seq
         (.seq
          (.region [] [] [0, 1, 8, 9, 10] false [
            (none, .asg 10 (.c (.int .i64 0)) .copy)])
          (.block 0
           (.loop
            (.seq
             (.seq
              (.region [(29, 0, false)] [] [0, 1, 8, 9, 10, 31] false [
                (none, .mv 28 (.v 10)),
                (none, .mv 29 (.v 0)),
                (none, .len 30 false (.v 29)),
                (none, .bin 31 .lss (.v 28) (.v 30))])
              (.cond (.v 31)
               (.skip [0, 1, 8, 9, 10])
               (.exit 0 [8, 9])))
             (.seq
              (.block 1
               (.seq
                (.region [(42, 1, false), (41, 1, false), (39, 1, false), (37, 0, false), (36, 0, false), (34, 0, false)] [] [0, 1, 8, 9, 10, 11] true [
                  (none, .mv 34 (.v 0)),
                  (none, .mv 35 (.v 10)),
                  (none, .iadr 36 2 (.v 34) (.v 35)),
                  (none, .fadr 37 0 1 (.v 36)),
                  (none, .load 38 false 1 (.v 37) none),
                  (none, .mv 39 (.v 1)),
                  (none, .mv 40 (.v 10)),
                  (none, .iadr 41 2 (.v 39) (.v 40)),
                  (none, .fadr 42 0 1 (.v 41)),
                  (none, .load 43 false 1 (.v 42) none),
                  (none, .bin 44 .sub (.v 38) (.v 43)),
                  (none, .asg 11 (.v 44) .copy)])
                (.seq
                 (.region [(53, 1, false), (52, 1, false), (50, 1, false), (48, 0, false), (47, 0, false), (45, 0, false)] [] [0, 1, 8, 9, 10, 11, 12] true [
                   (none, .mv 45 (.v 0)),
                   (none, .mv 46 (.v 10)),
                   (none, .iadr 47 2 (.v 45) (.v 46)),
                   (none, .fadr 48 1 1 (.v 47)),
                   (none, .load 49 false 1 (.v 48) none),
                   (none, .mv 50 (.v 1)),
                   (none, .mv 51 (.v 10)),
                   (none, .iadr 52 2 (.v 50) (.v 51)),
                   (none, .fadr 53 1 1 (.v 52)),
                   (none, .load 54 false 1 (.v 53) none),
                   (none, .bin 55 .sub (.v 49) (.v 54)),
                   (none, .asg 12 (.v 55) .copy)])
                 (.seq
                  (.region [] [] [0, 1, 8, 9, 10, 11, 12, 64] false [
                    (none, .mv 56 (.v 11)),
                    (none, .mv 57 (.v 11)),
                    (none, .bin 58 .mul (.v 56) (.v 57)),
                    (none, .mv 59 (.v 12)),
                    (none, .mv 60 (.v 12)),
                    (none, .bin 61 .mul (.v 59) (.v 60)),
                    (none, .bin 62 .add (.v 58) (.v 61)),
                    (none, .mv 63 (.v 9)),
                    (none, .bin 64 .gtr (.v 62) (.v 63))])
                  (.cond (.v 64)
                   (.seq
                    (.region [] [] [0, 1, 8, 10, 11, 12] false [
                      (none, .mv 65 (.v 10)),
                      (none, .asg 8 (.v 65) .copy)])
                    (.region [] [] [0, 1, 8, 9, 10] false [
                      (none, .mv 66 (.v 11)),
                      (none, .mv 67 (.v 11)),
                      (none, .bin 68 .mul (.v 66) (.v 67)),
                      (none, .mv 69 (.v 12)),
                      (none, .mv 70 (.v 12)),
                      (none, .bin 71 .mul (.v 69) (.v 70)),
                      (none, .bin 72 .add (.v 68) (.v 71)),
                      (none, .asg 9 (.v 72) .copy)]))
                   (.skip [0, 1, 8, 9, 10]))))))
              (.region [] [] [0, 1, 8, 9, 10] false [
                (none, .mv 32 (.v 10)),
                (none, .bin 33 .add (.v 32) (.c (.int .i64 1))),
                (none, .asg 10 (.v 33) .copy)]))))))
         (.seq
          (.region [] [] [4, 5, 6] false [
            (none, .mv 73 (.v 8)),
            (none, .mv 74 (.v 9)),
            (none, .asg 4 (.v 73) .copy),
            (none, .asg 5 (.v 74) .copy),
            (none, .asg 6 (.c (.int .i64 0)) .copy)])
          (.ret [4, 5, 6])))))))))⟩
def F546 : PFunc :=
 ⟨[false, false], [.tmp 4, .tmp 5],
  (.seq
   (.region [] [] [0, 1] false [
     (none, .asg 4 (.c (.sl true 2 [])) .copy),
     (none, .asg 5 (.c (.int .i64 0)) .copy)])
   (.seq
    (.seq
     (.region [(8, 0, false)] [] [0, 1, 10] false [
       (none, .mv 8 (.v 0)),
       (none, .call (some 9) 630 false [((.v 8), false)]),
       (none, .un 10 .not (.v 9))])
     (.cond (.v 10)
      (.seq
       (.region [] [] [4, 5] false [
         (none, .asg 4 (.c (.sl true 2 [])) .copy),
         (none, .asg 5 (.c (.int .i64 1)) .copy)])
       (.ret [4, 5]))
      (.skip [0, 1])))
    (.seq
     (.seq
      (.region [] [] [0, 1, 13] false [
        (none, .mv 11 (.v 1)),
        (none, .call (some 12) 605 false [((.v 11), false), ((.c (.int .i64 0)), false), ((.c (.int .i64 1000)), false)]),
        (none, .un 13 .not (.v 12))])
      (.cond (.v 13)
       (.seq
        (.region [] [] [4, 5] false [
          (none, .asg 4 (.c (.sl true 2 [])) .copy),
          (none, .asg 5 (.c (.int .i64 2)) .copy)])
        (.ret [4, 5]))
       (.skip [0, 1])))
     (.seq
      (.region [] [] [0, 1, 6] false [
        (none, .mksl 14 2 (.agg [(.int .i64 0), (.int .i64 0)]) 0 []),
        (none, .asg 6 (.v 14) .move)])
      (.seq
       (.seq
        (.region [] [] [0, 1, 6, 7] false [
          (none, .asg 7 (.c (.int .i64 0)) .copy)])
        (.block 0
         (.loop
          (.seq
           (.seq
            (.region [(16, 0, false)] [] [0, 1, 6, 7, 18] false [
              (none, .mv 15 (.v 7)),
              (none, .mv 16 (.v 0)),
              (none, .len 17 false (.v 16)),
              (none, .bin 18 .lss (.v 15) (.v 17))])
            (.cond (.v 18)
             (.skip [0, 1, 6, 7])
             (.exit 0 [6])))
           (.seq
            (.block 1
             (.seq
              (.seq
               (.region [(24, 0, false), (23, 0, false), (21, 0, false)] [] [0, 1, 6, 7, 27] false [
                 (none, .mv 21 (.v 0)),
                 (none, .mv 22 (.v 7)),
                 (none, .iadr 23 2 (.v 21) (.v 22)),
                 (none, .fadr 24 0 1 (.v 23)),
                 (none, .load 25 false 1 (.v 24) none),
                 (none, .mv 26 (.v 1)),
                 (none, .bin 27 .gtr (.v 25) (.v 26))])
               (.cond (.v 27)
                (.seq
                 (.region [] [] [4, 5] false [
                   (none, .asg 4 (.c (.sl true 2 [])) .copy),
                   (none, .asg 5 (.c (.int .i64 6)) .copy)])
                 (.ret [4, 5]))
                (.skip [0, 1, 6, 7])))
              (.region [(39, 0, false), (38, 0, false), (36, 0, false), (33, 0, false), (32, 0, false), (30, 0, false), (28, 6, false)] [] [0, 1, 6, 7] true [
                (none, .mvr 28 6),
                (none, .mv 29 (.v 1)),
                (none, .mv 30 (.v 0)),
                (none, .mv 31 (.v 7)),
                (none, .iadr 32 2 (.v 30) (.v 31)),
                (none, .fadr 33 0 1 (.v 32)),
                (none, .load 34 false 1 (.v 33) none),
                (none, .bin 35 .sub (.v 29) (.v 34)),
                (none, .mv 36 (.v 0)),
                (none, .mv 37 (.v 7)),
                (none, .iadr 38 2 (.v 36) (.v 37)),
                (none, .fadr 39 1 1 (.v 38)),
                (none, .load 40 false 1 (.v 39) none),
                (none, .build 41 [(.int .i64 0), (.int .i64 0)] [(0, 1, (.v 35), .copy), (1, 1, (.v 40), .copy)]),
                (none, .mksl 42 2 (.agg [(.int .i64 0), (.int .i64 0)]) 1 [(0, (.v 41), .copy)]),
                (none, .app 43 2 (.v 28) (.v 42) .move),
                (none, .asg 6 (.v 43) .move)])))
            (.region [] [] [0, 1, 6, 7] false [
              (none, .mv 19 (.v 7)),
              (none, .bin 20 .add (.v 19) (.c (.int .i64 1))),
              (none, .asg 7 (.v 20) .copy)]))))))
       (.seq
        (.region [(44, 6, false)] [] [4, 5] false [
          (none, .mv 44 (.v 6)),
          (none, .asg 4 (.v 44) .move),
          (none, .asg 5 (.c (.int .i64 0)) .copy)])
        (.ret [4, 5])))))))⟩
def F602 : PFunc :=
 ⟨[false, false], [.tmp 4],
  (.seq
   (.region [] [] [0, 1] false [
     (none, .asg 4 (.c (.int .i64 0)) .copy)])
   (.seq
    (.region [] [] [0, 1, 5] false [
      (none, .mv 6 (.v 0)),
      (none, .mv 7 (.v 1)),
      (none, .bin 8 .quo (.v 6) (.v 7)),
      (none, .asg 5 (.v 8) .copy)])
    (.seq
     (.seq
      (.region [] [] [5, 12] false [
        (none, .mv 9 (.v 0)),
        (none, .mv 10 (.v 1)),
        (none, .bin 11 .rem (.v 9) (.v 10)),
        (none, .bin 12 .lss (.v 11) (.c (.int .i64 0)))])
      (.cond (.v 12)
       (.region [] [] [5] false [
         (none, .mv 13 (.v 5)),
         (none, .bin 14 .sub (.v 13) (.c (.int .i64 1))),
         (none, .asg 5 (.v 14) .copy)])
       (.skip [5])))
     (.seq
      (.region [] [] [4] false [
        (none, .mv 15 (.v 5)),
        (none, .asg 4 (.v 15) .copy)])
      (.ret [4])))))⟩
def F610 : PFunc :=
 ⟨[false, false], [.tmp 4],
  (.seq
   (.region [] [] [0, 1] false [
     (none, .asg 4 (.c (.int .i64 0)) .copy)])
   (.seq
    (.region [] [] [4] false [
      (none, .mv 5 (.v 0)),
      (none, .bin 6 .mul (.c (.int .i64 2)) (.v 5)),
      (none, .mv 7 (.v 1)),
      (none, .bin 8 .add (.v 6) (.v 7)),
      (none, .mv 9 (.v 1)),
      (none, .bin 10 .mul (.c (.int .i64 2)) (.v 9)),
      (none, .call (some 11) 602 false [((.v 8), false), ((.v 10), false)]),
      (none, .asg 4 (.v 11) .copy)])
    (.ret [4])))⟩
def F626 : PFunc :=
 ⟨[false, false, false, false], [.tmp 8],
  (.seq
   (.region [] [] [0, 1, 2, 3] false [
     (none, .asg 8 (.c (.sl true 2 [])) .copy)])
   (.seq
    (.region [] [] [0, 1, 2, 3, 9] false [
      (none, .mksl 13 2 (.agg [(.int .i64 0), (.int .i64 0)]) 0 []),
      (none, .asg 9 (.v 13) .move)])
    (.seq
     (.seq
      (.region [] [] [0, 1, 2, 3, 9, 10] false [
        (none, .asg 10 (.c (.int .i64 0)) .copy)])
      (.block 0
       (.loop
        (.seq
         (.seq
          (.region [(15, 0, false)] [] [0, 1, 2, 3, 9, 10, 17] false [
            (none, .mv 14 (.v 10)),
            (none, .mv 15 (.v 0)),
            (none, .len 16 false (.v 15)),
            (none, .bin 17 .lss (.v 14) (.v 16))])
          (.cond (.v 17)
           (.skip [0, 1, 2, 3, 9, 10])
           (.exit 0 [9])))
         (.seq
          (.block 1
           (.seq
            (.region [(32, 1, false), (31, 1, false), (29, 1, false), (23, 0, false), (22, 0, false), (20, 0, false)] [] [0, 1, 2, 3, 9, 10, 11] true [
              (none, .mv 20 (.v 0)),
              (none, .mv 21 (.v 10)),
              (none, .iadr 22 2 (.v 20) (.v 21)),
              (none, .fadr 23 0 1 (.v 22)),
              (none, .load 24 false 1 (.v 23) none),
              (none, .mv 25 (.v 3)),
              (none, .mv 26 (.v 2)),
              (none, .bin 27 .sub (.v 25) (.v 26)),
              (none, .bin 28 .mul (.v 24) (.v 27)),
              (none, .mv 29 (.v 1)),
              (none, .mv 30 (.v 10)),
              (none, .iadr 31 2 (.v 29) (.v 30)),
              (none, .fadr 32 0 1 (.v 31)),
              (none, .load 33 false 1 (.v 32) none),
              (none, .mv 34 (.v 2)),
              (none, .bin 35 .mul (.v 33) (.v 34)),
              (none, .bin 36 .add (.v 28) (.v 35)),
              (none, .mv 37 (.v 3)),
              (none, .call (some 38) 610 false [((.v 36), false), ((.v 37), false)]),
              (none, .asg 11 (.v 38) .copy)])
            (.seq
             (.region [(51, 1, false), (50, 1, false), (48, 1, false), (42, 0, false), (41, 0, false), (39, 0, false)] [] [0, 1, 2, 3, 9, 10, 11, 12] true [
               (none, .mv 39 (.v 0)),
               (none, .mv 40 (.v 10)),
               (none, .iadr 41 2 (.v 39) (.v 40)),
               (none, .fadr 42 1 1 (.v 41)),
               (none, .load 43 false 1 (.v 42) none),
               (none, .mv 44 (.v 3)),
               (none, .mv 45 (.v 2)),
               (none, .bin 46 .sub (.v 44) (.v 45)),
               (none, .bin 47 .mul (.v 43) (.v 46)),
               (none, .mv 48 (.v 1)),
               (none, .mv 49 (.v 10)),
               (none, .iadr 50 2 (.v 48) (.v 49)),
               (none, .fadr 51 1 1 (.v 50)),
               (none, .load 52 false 1 (.v 51) none),
               (none, .mv 53 (.v 2)),
               (none, .bin 54 .mul (.v 52) (.v 53)),
               (none, .bin 55 .add (.v 47) (.v 54)),
               (none, .mv 56 (.v 3)),
               (none, .call (some 57) 610 false [((.v 55), false), ((.v 56), false)]),
               (none, .asg 12 (.v 57) .copy)])
             (.region [(58, 9, false)] [] [0, 1, 2, 3, 9, 10] false [
               (none, .mv 58 (.v 9)),
               (none, .mv 59 (.v 11)),
               (none, .mv 60 (.v 12)),
               (none, .build 61 [(.int .i64 0), (.int .i64 0)] [(0, 1, (.v 59), .copy), (1, 1, (.v 60), .copy)]),
               (none, .mksl 62 2 (.agg [(.int .i64 0), (.int .i64 0)]) 1 [(0, (.v 61), .copy)]),
               (none, .app 63 2 (.v 58) (.v 62) .move),
               (none, .asg 9 (.v 63) .move)]))))
          (.region [] [] [0, 1, 2, 3, 9, 10] false [
            (none, .mv 18 (.v 10)),
            (none, .bin 19 .add (.v 18) (.c (.int .i64 1))),
            (none, .asg 10 (.v 19) .copy)]))))))
     (.seq
      (.region [(64, 9, false)] [] [8] false [
        (none, .mv 64 (.v 9)),
        (none, .asg 8 (.v 64) .move)])
      (.ret [8])))))⟩
def F624 : PFunc :=
 ⟨[false, false], [.tmp 4],
  (.seq
   (.region [] [] [0, 1] false [
     (none, .asg 4 (.c (.sl true 2 [])) .copy)])
   (.seq
    (.seq
     (.region [] [] [0, 1, 5] false [
       (none, .asg 5 (.c (.int .i64 1)) .copy)])
     (.block 0
      (.loop
       (.seq
        (.seq
         (.region [(9, 0, false)] [] [0, 1, 5, 11] false [
           (none, .mv 8 (.v 5)),
           (none, .mv 9 (.v 0)),
           (none, .len 10 false (.v 9)),
           (none, .bin 11 .lss (.v 8) (.v 10))])
         (.cond (.v 11)
          (.skip [0, 1, 5])
          (.exit 0 [0])))
        (.seq
         (.block 1
          (.seq
           (.region [(17, 0, false), (14, 0, false)] [] [0, 1, 5, 6] false [
             (none, .mv 14 (.v 0)),
             (none, .mv 15 (.v 5)),
             (none, .bin 16 .sub (.v 15) (.c (.int .i64 1))),
             (none, .iadr 17 2 (.v 14) (.v 16)),
             (none, .asg 6 (.v 17) .freeze)])
           (.seq
            (.region [(20, 0, false), (18, 0, false)] [] [0, 1, 5, 6, 7] false [
              (none, .mv 18 (.v 0)),
              (none, .mv 19 (.v 5)),
              (none, .iadr 20 2 (.v 18) (.v 19)),
              (none, .asg 7 (.v 20) .freeze)])
            (.seq
             (.region [(24, 7, false), (23, 7, false), (22, 7, false)] [] [0, 1, 5, 6, 7, 26] false [
               (none, .mv 21 (.v 1)),
               (none, .mv 22 (.v 7)),
               (none, .nchk 23 (.v 22)),
               (none, .fadr 24 0 1 (.v 23)),
               (none, .load 25 false 1 (.v 24) none),
               (none, .bin 26 .leq (.v 21) (.v 25))])
             (.cond (.v 26)
              (.seq
               (.region [(47, 6, false), (46, 6, false), (45, 6, false), (43, 7, false), (42, 7, false), (41, 7, false), (38, 6, false), (37, 6, false), (36, 6, false), (34, 7, true), (33, 7, false), (32, 7, false), (31, 7, false), (30, 6, true), (29, 6, false), (28, 6, false), (27, 6, false)] [] [4] true [
                 (none, .mv 27 (.v 6)),
                 (none, .nchk 28 (.v 27)),
                 (none, .fadr 29 1 1 (.v 28)),
                 (none, .load 30 false 1 (.v 29) none),
                 (none, .mv 31 (.v 7)),
                 (none, .nchk 32 (.v 31)),
                 (none, .fadr 33 1 1 (.v 32)),
                 (none, .load 34 false 1 (.v 33) none),
                 (none, .mv 35 (.v 1)),
                 (none, .mv 36 (.v 6)),
                 (none, .nchk 37 (.v 36)),
                 (none, .fadr 38 0 1 (.v 37)),
                 (none, .load 39 false 1 (.v 38) none),
                 (none, .bin 40 .sub (.v 35) (.v 39)),
                 (none, .mv 41 (.v 7)),
                 (none, .nchk 42 (.v 41)),
                 (none, .fadr 43 0 1 (.v 42)),
                 (none, .load 44 false 1 (.v 43) none),
                 (none, .mv 45 (.v 6)),
                 (none, .nchk 46 (.v 45)),
                 (none, .fadr 47 0 1 (.v 46)),
                 (none, .load 48 false 1 (.v 47) none),
                 (none, .bin 49 .sub (.v 44) (.v 48)),
                 (none, .call (some 50) 626 false [((.v 30), false), ((.v 34), false), ((.v 40), false), ((.v 49), false)]),
                 (none, .asg 4 (.v 50) .move)])
               (.ret [4]))
              (.skip [0, 1, 5]))))))
         (.region [] [] [0, 1, 5] false [
           (none, .mv 12 (.v 5)),
           (none, .bin 13 .add (.v 12) (.c (.int .i64 1))),
           (none, .asg 5 (.v 13) .copy)]))))))
    (.seq
     (.region [(55, 0, true), (54, 0, false), (53, 0, false), (52, 0, false)] [] [4] false [
       (none, .mksl 51 2 (.agg [(.int .i64 0), (.int .i64 0)]) 0 []),
       (none, .mv 52 (.v 0)),
       (none, .iadr 53 2 (.v 52) (.c (.int .i64 0))),
       (none, .fadr 54 1 1 (.v 53)),
       (none, .load 55 false 1 (.v 54) none),
       (none, .app 56 2 (.v 51) (.v 55) .move),
       (none, .asg 4 (.v 56) .move)])
     (.ret [4]))))⟩
def F628 : PFunc :=
 ⟨[false], [.tmp 2],
  (.seq
   (.region [] [] [0] false [
     (none, .asg 2 (.c (.bool false)) .copy)])
   (.seq
    (.seq
     (.region [] [] [0, 3] false [
       (none, .asg 3 (.c (.int .i64 0)) .copy)])
     (.block 0
      (.loop
       (.seq
        (.seq
         (.region [(6, 0, false)] [] [0, 3, 8] false [
           (none, .mv 5 (.v 3)),
           (none, .mv 6 (.v 0)),
           (none, .len 7 false (.v 6)),
           (none, .bin 8 .lss (.v 5) (.v 7))])
         (.cond (.v 8)
          (.skip [0, 3])
          (.exit 0 [0])))
        (.seq
         (.block 1
          (.seq
           (.region [(13, 0, false), (11, 0, false)] [] [0, 3, 4] false [
             (none, .mv 11 (.v 0)),
             (none, .mv 12 (.v 3)),
             (none, .iadr 13 2 (.v 11) (.v 12)),
             (none, .asg 4 (.v 13) .freeze)])
           (.seq
            (.region [(53, 4, false), (52, 4, false), (51, 4, false), (49, 0, false), (48, 0, false), (45, 0, false), (37, 0, true), (36, 0, false), (35, 0, false), (34, 0, false), (32, 4, true), (31, 4, false), (30, 4, false), (29, 4, false), (24, 4, true), (23, 4, false), (22, 4, false), (21, 4, false), (16, 4, false), (15, 4, false), (14, 4, false)] [] [0, 3, 57] true [
              (none, .mv 14 (.v 4)),
              (none, .nchk 15 (.v 14)),
              (none, .fadr 16 0 1 (.v 15)),
              (none, .load 17 false 1 (.v 16) none),
              (none, .call (some 18) 605 false [((.v 17), false), ((.c (.int .i64 0)), false), ((.c (.int .i64 10000)), false)]),
              (none, .un 19 .not (.v 18)),
              (none, .mv 20 (.v 19)),
              (some (20, false), .mv 21 (.v 4)),
              (some (20, false), .nchk 22 (.v 21)),
              (some (20, false), .fadr 23 1 1 (.v 22)),
              (some (20, false), .load 24 false 1 (.v 23) none),
              (some (20, false), .call (some 25) 630 false [((.v 24), false)]),
              (some (20, false), .un 26 .not (.v 25)),
              (none, .pick 27 (.v 20) (.c (.bool true)) (.v 26)),
              (none, .mv 28 (.v 27)),
              (some (28, false), .mv 29 (.v 4)),
              (some (28, false), .nchk 30 (.v 29)),
              (some (28, false), .fadr 31 1 1 (.v 30)),
              (some (28, false), .load 32 false 1 (.v 31) none),
              (some (28, false), .len 33 false (.v 32)),
              (some (28, false), .mv 34 (.v 0)),
              (some (28, false), .iadr 35 2 (.v 34) (.c (.int .i64 0))),
              (some (28, false), .fadr 36 1 1 (.v 35)),
              (some (28, false), .load 37 false 1 (.v 36) none),
              (some (28, false), .len 38 false (.v 37)),
              (some (28, false), .bin 39 .neq (.v 33) (.v 38)),
              (none, .pick 40 (.v 28) (.c (.bool true)) (.v 39)),
              (none, .mv 41 (.v 40)),
              (some (41, false), .mv 42 (.v 3)),
              (some (41, false), .bin 43 .gtr (.v 42) (.c (.int .i64 0))),
              (some (41, false), .mv 44 (.v 43)),
              (some (44, true), .mv 45 (.v 0)),
              (some (44, true), .mv 46 (.v 3)),
              (some (44, true), .bin 47 .sub (.v 46) (.c (.int .i64 1))),
              (some (44, true), .iadr 48 2 (.v 45) (.v 47)),
              (some (44, true), .fadr 49 0 1 (.v 48)),
              (some (44, true), .load 50 false 1 (.v 49) none),
              (some (44, true), .mv 51 (.v 4)),
              (some (44, true), .nchk 52 (.v 51)),
              (some (44, true), .fadr 53 0 1 (.v 52)),
              (some (44, true), .load 54 false 1 (.v 53) none),
              (some (44, true), .bin 55 .geq (.v 50) (.v 54)),
              (some (41, false), .pick 56 (.v 44) (.v 55) (.c (.bool false))),
              (none, .pick 57 (.v 41) (.c (.bool true)) (.v 56))])
            (.cond (.v 57)
             (.seq
              (.region [] [] [2] false [
                (none, .asg 2 (.c (.bool false)) .copy)])
              (.ret [2]))
             (.skip [0, 3])))))
         (.region [] [] [0, 3] false [
           (none, .mv 9 (.v 3)),
           (none, .bin 10 .add (.v 9) (.c (.int .i64 1))),
           (none, .asg 3 (.v 10) .copy)]))))))
    (.seq
     (.region [(58, 0, false)] [] [2] false [
       (none, .mv 58 (.v 0)),
       (none, .len 59 false (.v 58)),
       (none, .call (some 60) 605 false [((.v 59), false), ((.c (.int .i64 1)), false), ((.c (.int .i64 10)), false)]),
       (none, .asg 2 (.v 60) .copy)])
     (.ret [2]))))⟩
def F554 : PFunc :=
 ⟨[false, false], [.tmp 4, .tmp 5],
  (.seq
   (.region [] [] [0, 1] false [
     (none, .asg 4 (.c (.sl true 2 [])) .copy),
     (none, .asg 5 (.c (.int .i64 0)) .copy)])
   (.seq
    (.seq
     (.region [(6, 0, false)] [] [0, 1, 8] false [
       (none, .mv 6 (.v 0)),
       (none, .call (some 7) 628 false [((.v 6), false)]),
       (none, .un 8 .not (.v 7))])
     (.cond (.v 8)
      (.seq
       (.region [] [] [4, 5] false [
         (none, .asg 4 (.c (.sl true 2 [])) .copy),
         (none, .asg 5 (.c (.int .i64 1)) .copy)])
       (.ret [4, 5]))
      (.skip [0, 1])))
    (.seq
     (.seq
      (.region [(19, 0, false), (18, 0, false), (15, 0, false), (14, 0, false), (12, 0, false), (11, 0, false), (10, 0, false)] [] [0, 1, 22] true [
        (none, .mv 9 (.v 1)),
        (none, .mv 10 (.v 0)),
        (none, .iadr 11 2 (.v 10) (.c (.int .i64 0))),
        (none, .fadr 12 0 1 (.v 11)),
        (none, .load 13 false 1 (.v 12) none),
        (none, .mv 14 (.v 0)),
        (none, .mv 15 (.v 0)),
        (none, .len 16 false (.v 15)),
        (none, .bin 17 .sub (.v 16) (.c (.int .i64 1))),
        (none, .iadr 18 2 (.v 14) (.v 17)),
        (none, .fadr 19 0 1 (.v 18)),
        (none, .load 20 false 1 (.v 19) none),
        (none, .call (some 21) 605 false [((.v 9), false), ((.v 13), false), ((.v 20), false)]),
        (none, .un 22 .not (.v 21))])
      (.cond (.v 22)
       (.seq
        (.region [] [] [4, 5] false [
          (none, .asg 4 (.c (.sl true 2 [])) .copy),
          (none, .asg 5 (.c (.int .i64 2)) .copy)])
        (.ret [4, 5]))
       (.skip [0, 1])))
     (.seq
      (.region [(23, 0, false)] [] [4, 5] false [
        (none, .mv 23 (.v 0)),
        (none, .mv 24 (.v 1)),
        (none, .call (some 25) 624 false [((.v 23), false), ((.v 24), false)]),
        (none, .asg 4 (.v 25) .move),
        (none, .asg 5 (.c (.int .i64 0)) .copy)])
      (.ret [4, 5])))))⟩
def F555 : PFunc :=
 ⟨[false, false, false, false], [.tmp 8, .tmp 9],
  (.seq
   (.region [] [] [0, 1, 2, 3] false [
     (none, .asg 8 (.c (.sl true 2 [])) .copy),
     (none, .asg 9 (.c (.int .i64 0)) .copy)])
   (.seq
    (.region [(12, 1, false), (11, 0, false)] [] [0, 1, 2, 3, 10] false [
      (none, .mv 11 (.v 0)),
      (none, .mv 12 (.v 1)),
      (none, .call (some 13) 632 false [((.v 11), false), ((.v 12), false)]),
      (none, .asg 10 (.v 13) .copy)])
    (.seq
     (.seq
      (.region [] [] [0, 1, 2, 3, 10, 26] false [
        (none, .mv 14 (.v 10)),
        (none, .bin 15 .eql (.v 14) (.c (.int .i64 0))),
        (none, .mv 16 (.v 15)),
        (some (16, true), .mv 17 (.v 3)),
        (some (16, true), .call (some 18) 605 false [((.v 17), false), ((.c (.int .i64 1)), false), ((.c (.int .i64 10000)), false)]),
        (some (16, true), .un 19 .not (.v 18)),
        (some (16, true), .mv 20 (.v 19)),
        (some (20, false), .mv 21 (.v 2)),
        (some (20, false), .mv 22 (.v 3)),
        (some (20, false), .call (some 23) 605 false [((.v 21), false), ((.c (.int .i64 0)), false), ((.v 22), false)]),
        (some (20, false), .un 24 .not (.v 23)),
        (some (16, true), .pick 25 (.v 20) (.c (.bool true)) (.v 24)),
        (none, .pick 26 (.v 16) (.v 25) (.c (.bool false)))])
      (.cond (.v 26)
       (.region [] [] [0, 1, 2, 3, 10] false [
         (none, .asg 10 (.c (.int .i64 2)) .copy)])
       (.skip [0, 1, 2, 3, 10])))
     (.seq
      (.seq
       (.region [(32, 1, false), (30, 0, false)] [] [0, 1, 2, 3, 10, 35] false [
         (none, .mv 27 (.v 10)),
         (none, .bin 28 .eql (.v 27) (.c (.int .i64 0))),
         (none, .mv 29 (.v 28)),
         (some (29, true), .mv 30 (.v 0)),
         (some (29, true), .len 31 false (.v 30)),
         (some (29, true), .mv 32 (.v 1)),
         (some (29, true), .len 33 false (.v 32)),
         (some (29, true), .bin 34 .neq (.v 31) (.v 33)),
         (none, .pick 35 (.v 29) (.v 34) (.c (.bool false)))])
       (.cond (.v 35)
        (.region [] [] [0, 1, 2, 3, 10] false [
          (none, .asg 10 (.c (.int .i64 8)) .copy)])
        (.skip [0, 1, 2, 3, 10])))
      (.seq
       (.seq
        (.region [] [] [0, 1, 2, 3, 10, 37] false [
          (none, .mv 36 (.v 10)),
          (none, .bin 37 .neq (.v 36) (.c (.int .i64 0)))])
        (.cond (.v 37)
         (.seq
          (.region [] [] [8, 9] false [
            (none, .mv 38 (.v 10)),
            (none, .asg 8 (.c (.sl true 2 [])) .copy),
            (none, .asg 9 (.v 38) .copy)])
          (.ret [8, 9]))
         (.skip [0, 1, 2, 3])))
       (.seq
        (.region [(40, 1, false), (39, 0, false)] [] [8, 9] false [
          (none, .mv 39 (.v 0)),
          (none, .mv 40 (.v 1)),
          (none, .mv 41 (.v 2)),
          (none, .mv 42 (.v 3)),
          (none, .call (some 43) 626 false [((.v 39), false), ((.v 40), false), ((.v 41), false), ((.v 42), false)]),
          (none, .asg 8 (.v 43) .move),
          (none, .asg 9 (.c (.int .i64 0)) .copy)])
        (.ret [8, 9])))))))⟩
def F561 : PFunc :=
 ⟨[false, false], [.tmp 4],
  (.seq
   (.region [] [] [0, 1] false [
     (none, .asg 4 (.c (.bool false)) .copy)])
   (.seq
    (.seq
     (.region [(8, 1, false), (6, 0, false)] [] [0, 1, 10] false [
       (none, .mv 6 (.v 0)),
       (none, .len 7 false (.v 6)),
       (none, .mv 8 (.v 1)),
       (none, .len 9 false (.v 8)),
       (none, .bin 10 .neq (.v 7) (.v 9))])
     (.cond (.v 10)
      (.seq
       (.region [] [] [4] false [
         (none, .asg 4 (.c (.bool false)) .copy)])
       (.ret [4]))
      (.skip [0, 1])))
    (.seq
     (.seq
      (.region [] [] [0, 1, 5] false [
        (none, .asg 5 (.c (.int .i64 0)) .copy)])
      (.block 0
       (.loop
        (.seq
         (.seq
          (.region [(12, 0, false)] [] [0, 1, 5, 14] false [
            (none, .mv 11 (.v 5)),
            (none, .mv 12 (.v 0)),
            (none, .len 13 false (.v 12)),
            (none, .bin 14 .lss (.v 11) (.v 13))])
          (.cond (.v 14)
           (.skip [0, 1, 5])
           (.exit 0 [])))
         (.seq
          (.block 1
           (.seq
            (.region [(23, 1, false), (21, 1, false), (19, 0, false), (17, 0, false)] [] [0, 1, 5, 25] true [
              (none, .mv 17 (.v 0)),
              (none, .mv 18 (.v 5)),
              (none, .iadr 19 2 (.v 17) (.v 18)),
              (none, .load 20 true 2 (.v 19) none),
              (none, .mv 21 (.v 1)),
              (none, .mv 22 (.v 5)),
              (none, .iadr 23 2 (.v 21) (.v 22)),
              (none, .load 24 true 2 (.v 23) none),
              (none, .eqv 25 true [.i, .i] (.v 20) (.v 24))])
            (.cond (.v 25)
             (.seq
              (.region [] [] [4] false [
                (none, .asg 4 (.c (.bool false)) .copy)])
              (.ret [4]))
             (.skip [0, 1, 5]))))
          (.region [] [] [0, 1, 5] false [
            (none, .mv 15 (.v 5)),
            (none, .bin 16 .add (.v 15) (.c (.int .i64 1))),
            (none, .asg 5 (.v 16) .copy)]))))))
     (.seq
      (.region [] [] [4] false [
        (none, .asg 4 (.c (.bool true)) .copy)])
      (.ret [4])))))⟩
def F592 : PFunc :=
 ⟨[false], [.tmp 2],
  (.seq
   (.region [] [] [0] false [
     (none, .asg 2 (.c (.bool false)) .copy)])
   (.seq
    (.region [(3, 0, false)] [] [2] false [
      (none, .mv 3 (.v 0)),
      (none, .call (some 4) 628 false [((.v 3), false)]),
      (none, .asg 2 (.v 4) .copy)])
    (.ret [2])))⟩
def F595 : PFunc :=
 ⟨[false], [.tmp 2],
  (.seq
   (.region [] [] [0] false [
     (none, .asg 2 (.c (.bool false)) .copy)])
   (.seq
    (.region [(3, 0, false)] [] [2] false [
      (none, .mv 3 (.v 0)),
      (none, .call (some 4) 630 false [((.v 3), false)]),
      (none, .asg 2 (.v 4) .copy)])
    (.ret [2])))⟩
def F369 : PFunc :=
 ⟨[false], [.tmp 2],
  (.seq
   (.region [] [] [0] false [
     (none, .asg 2 (.c (.bool false)) .copy)])
   (.seq
    (.seq
     (.region [(40, 0, false)] [] [0, 41] false [
       (none, .mv 40 (.v 0)),
       (none, .call (some 41) 398 false [((.v 40), false)])])
     (.cond (.v 41)
      (.seq
       (.region [] [] [2] false [
         (none, .asg 2 (.c (.bool true)) .copy)])
       (.ret [2]))
      (.skip [0])))
    (.seq
     (.region [(43, 0, false)] [] [0, 3, 4, 5, 6] false [
       (none, .mv 43 (.v 0)),
       (none, .call (some 44) 489 false [((.v 43), false)]),
       (none, .asg 42 (.v 44) .move),
       (none, .ext 45 (.v 42) 0),
       (none, .ext 46 (.v 42) 1),
       (none, .extp 47 (.v 42) 2),
       (none, .extp 48 (.v 42) 3),
       (none, .asg 3 (.v 45) .move),
       (none, .asg 4 (.v 46) .move),
       (none, .asg 5 (.v 47) .copy),
       (none, .asg 6 (.v 48) .copy)])
     (.seq
      (.region [(51, 4, false), (50, 3, false)] [] [0, 3, 4, 5, 6, 7, 8] false [
        (none, .mv 50 (.v 3)),
        (none, .mv 51 (.v 4)),
        (none, .mv 52 (.v 5)),
        (none, .mv 53 (.v 6)),
        (none, .call (some 54) 164 false [((.v 50), false), ((.v 51), false), ((.v 52), false), ((.v 53), false)]),
        (none, .asg 49 (.v 54) .move),
        (none, .ext 55 (.v 49) 0),
        (none, .extp 56 (.v 49) 1),
        (none, .asg 7 (.v 55) .move),
        (none, .asg 8 (.v 56) .copy)])
      (.seq
       (.region [(59, 4, false), (58, 3, false)] [] [0, 3, 4, 7, 8, 9, 10] false [
         (none, .mv 58 (.v 3)),
         (none, .mv 59 (.v 4)),
         (none, .mv 60 (.v 5)),
         (none, .mv 61 (.v 6)),
         (none, .call (some 62) 555 false [((.v 58), false), ((.v 59), false), ((.v 60), false), ((.v 61), false)]),
         (none, .asg 57 (.v 62) .move),
         (none, .ext 63 (.v 57) 0),
         (none, .extp 64 (.v 57) 1),
         (none, .asg 9 (.v 63) .move),
         (none, .asg 10 (.v 64) .copy)])
       (.seq
        (.region [(66, 0, false)] [] [0, 3, 4, 7, 8, 9, 10, 11, 12] false [
          (none, .mv 66 (.v 0)),
          (none, .call (some 67) 488 true [((.v 66), false)]),
          (none, .asg 65 (.v 67) .move),
          (none, .ext 68 (.v 65) 0),
          (none, .extp 69 (.v 65) 1),
          (none, .asg 11 (.v 68) .move),
          (none, .asg 12 (.v 69) .copy)])
        (.seq
         (.region [(71, 11, false)] [] [0, 3, 4, 7, 8, 9, 10, 11, 12, 13, 14] false [
           (none, .mv 71 (.v 11)),
           (none, .mv 72 (.v 12)),
           (none, .call (some 73) 163 false [((.v 71), false), ((.v 72), false)]),
           (none, .asg 70 (.v 73) .move),
           (none, .ext 74 (.v 70) 0),
           (none, .extp 75 (.v 70) 1),
           (none, .asg 13 (.v 74) .move),
           (none, .asg 14 (.v 75) .copy)])
         (.seq
          (.region [(77, 11, false)] [] [0, 3, 4, 7, 8, 9, 10, 11, 13, 14, 15, 16] false [
            (none, .mv 77 (.v 11)),
            (none, .mv 78 (.v 12)),
            (none, .call (some 79) 554 false [((.v 77), false), ((.v 78), false)]),
            (none, .asg 76 (.v 79) .move),
            (none, .ext 80 (.v 76) 0),
            (none, .extp 81 (.v 76) 1),
            (none, .asg 15 (.v 80) .move),
            (none, .asg 16 (.v 81) .copy)])
          (.seq
           (.region [(83, 0, false)] [] [0, 3, 4, 7, 8, 9, 10, 11, 13, 14, 15, 16, 17, 18] false [
             (none, .mv 83 (.v 0)),
             (none, .call (some 84) 484 false [((.v 83), false)]),
             (none, .asg 82 (.v 84) .move),
             (none, .ext 85 (.v 82) 0),
             (none, .extp 86 (.v 82) 1),
             (none, .asg 17 (.v 85) .move),
             (none, .asg 18 (.v 86) .copy)])
           (.seq
            (.region [(88, 17, false)] [] [0, 3, 4, 7, 8, 9, 10, 11, 13, 14, 15, 16, 17, 18, 19, 20] false [
              (none, .mv 88 (.v 17)),
              (none, .mv 89 (.v 18)),
              (none, .call (some 90) 143 false [((.v 88), false), ((.v 89), false)]),
              (none, .asg 87 (.v 90) .move),
              (none, .ext 91 (.v 87) 0),
              (none, .extp 92 (.v 87) 1),
              (none, .asg 19 (.v 91) .move),
              (none, .asg 20 (.v 92) .copy)])
            (.seq
             (.region [(94, 17, false)] [] [0, 3, 4, 7, 8, 9, 10, 11, 13, 14, 15, 16, 17, 18, 19, 20, 21, 22] false [
               (none, .mv 94 (.v 17)),
               (none, .mv 95 (.v 18)),
               (none, .call (some 96) 546 false [((.v 94), false), ((.v 95), false)]),
               (none, .asg 93 (.v 96) .move),
               (none, .ext 97 (.v 93) 0),
               (none, .extp 98 (.v 93) 1),
               (none, .asg 21 (.v 97) .move),
               (none, .asg 22 (.v 98) .copy)])
             (.seq
              (.region [(100, 0, false)] [] [0, 3, 4, 7, 8, 9, 10, 11, 13, 14, 15, 16, 17, 18, 19, 20, 21, 22, 23, 24] false [
                (none, .mv 100 (.v 0)),
                (none, .call (some 101) 475 false [((.v 100), false)]),
                (none, .asg 99 (.v 101) .move),
                (none, .ext 102 (.v 99) 0),
                (none, .ext 103 (.v 99) 1),
                (none, .asg 23 (.v 102) .move),
                (none, .asg 24 (.v 103) .move)])
              (.seq
               (.region [(106, 24, false), (105, 23, false)] [] [0, 3, 4, 7, 8, 9, 10, 11, 13, 14, 15, 16, 17, 18, 19, 20, 21, 22, 23, 24, 25, 26, 27] false [
                 (none, .mv 105 (.v 23)),
                 (none, .mv 106 (.v 24)),
                 (none, .call (some 107) 108 false [((.v 105), false), ((.v 106), false)]),
                 (none, .asg 104 (.v 107) .copy),
                 (none, .extp 108 (.v 104) 0),
                 (none, .extp 109 (.v 104) 1),
                 (none, .extp 110 (.v 104) 2),
                 (none, .asg 25 (.v 108) .copy),
                 (none, .asg 26 (.v 109) .copy),
                 (none, .asg 27 (.v 110) .copy)])
               (.seq
                (.region [(113, 24, false), (112, 23, false)] [] [0, 3, 4, 7, 8, 9, 10, 11, 13, 14, 15, 16, 17, 18, 19, 20, 21, 22, 25, 26, 27, 28, 29, 30] false [
                  (none, .mv 112 (.v 23)),
                  (none, .mv 113 (.v 24)),
                  (none, .call (some 114) 529 false [((.v 112), false), ((.v 113), false)]),
                  (none, .asg 111 (.v 114) .copy),
                  (none, .extp 115 (.v 111) 0),
                  (none, .extp 116 (.v 111) 1),
                  (none, .extp 117 (.v 111) 2),
                  (none, .asg 28 (.v 115) .copy),
                  (none, .asg 29 (.v 116) .copy),
                  (none, .asg 30 (.v 117) .copy)])
                (.seq
                 (.region [(119, 0, false)] [] [3, 4, 7, 8, 9, 10, 11, 13, 14, 15, 16, 17, 18, 19, 20, 21, 22, 25, 26, 27, 28, 29, 30, 31, 32] false [
                   (none, .mv 119 (.v 0)),
                   (none, .call (some 120) 491 true [((.v 119), false)]),
                   (none, .asg 118 (.v 120) .move),
                   (none, .extp 121 (.v 118) 0),
                   (none, .ext 122 (.v 118) 1),
                   (none, .asg 31 (.v 121) .move),
                   (none, .asg 32 (.v 122) .move)])
                 (.seq
                  (.seq
                   (.region [(188, 11, false), (186, 11, false), (181, 17, false), (179, 17, false), (174, 32, false), (173, 31, false), (171, 32, false), (170, 31, false), (150, 21, false), (149, 19, false), (139, 15, false), (138, 13, false), (128, 9, false), (127, 7, false)] [] [3, 4, 8, 9, 11, 14, 17, 18, 19, 20, 191] false [
                     (none, .mv 123 (.v 8)),
                     (none, .mv 124 (.v 10)),
                     (none, .bin 125 .neq (.v 123) (.v 124)),
                     (none, .mv 126 (.v 125)),
                     (some (126, false), .mv 127 (.v 7)),
                     (some (126, false), .mv 128 (.v 9)),
                     (some (126, false), .call (some 129) 561 false [((.v 127), false), ((.v 128), false)]),
                     (some (126, false), .un 130 .not (.v 129)),
                     (none, .pick 131 (.v 126) (.c (.bool true)) (.v 130)),
                     (none, .mv 132 (.v 131)),
                     (some (132, false), .mv 133 (.v 14)),
                     (some (132, false), .mv 134 (.v 16)),
                     (some (132, false), .bin 135 .neq (.v 133) (.v 134)),
                     (none, .pick 136 (.v 132) (.c (.bool true)) (.v 135)),
                     (none, .mv 137 (.v 136)),
                     (some (137, false), .mv 138 (.v 13)),
                     (some (137, false), .mv 139 (.v 15)),
                     (some (137, false), .call (some 140) 561 false [((.v 138), false), ((.v 139), false)]),
                     (some (137, false), .un 141 .not (.v 140)),
                     (none, .pick 142 (.v 137) (.c (.bool true)) (.v 141)),
                     (none, .mv 143 (.v 142)),
                     (some (143, false), .mv 144 (.v 20)),
                     (some (143, false), .mv 145 (.v 22)),
                     (some (143, false), .bin 146 .neq (.v 144) (.v 145)),
                     (none, .pick 147 (.v 143) (.c (.bool true)) (.v 146)),
                     (none, .mv 148 (.v 147)),
                     (some (148, false), .mv 149 (.v 19)),
                     (some (148, false), .mv 150 (.v 21)),
                     (some (148, false), .call (some 151) 561 false [((.v 149), false), ((.v 150), false)]),
                     (some (148, false), .un 152 .not (.v 151)),
                     (none, .pick 153 (.v 148) (.c (.bool true)) (.v 152)),
                     (none, .mv 154 (.v 153)),
                     (some (154, false), .mv 155 (.v 27)),
                     (some (154, false), .mv 156 (.v 30)),
                     (some (154, false), .bin 157 .neq (.v 155) (.v 156)),
                     (none, .pick 158 (.v 154) (.c (.bool true)) (.v 157)),
                     (none, .mv 159 (.v 158)),
                     (some (159, false), .mv 160 (.v 25)),
                     (some (159, false), .mv 161 (.v 28)),
                     (some (159, false), .bin 162 .neq (.v 160) (.v 161)),
                     (none, .pick 163 (.v 159) (.c (.bool true)) (.v 162)),
                     (none, .mv 164 (.v 163)),
                     (some (164, false), .mv 165 (.v 26)),
                     (some (164, false), .mv 166 (.v 29)),
                     (some (164, false), .bin 167 .neq (.v 165) (.v 166)),
                     (none, .pick 168 (.v 164) (.c (.bool true)) (.v 167)),
                     (none, .mv 169 (.v 168)),
                     (some (169, false), .mv 170 (.v 31)),
                     (some (169, false), .mv 171 (.v 32)),
                     (some (169, false), .call (some 172) 172 false [((.v 170), false), ((.v 171), false)]),
                     (some (169, false), .mv 173 (.v 31)),
                     (some (169, false), .mv 174 (.v 32)),
                     (some (169, false), .call (some 175) 561 false [((.v 173), false), ((.v 174), false)]),
                     (some (169, false), .eqb 176 true (.v 172) (.v 175)),
                     (none, .pick 177 (.v 169) (.c (.bool true)) (.v 176)),
                     (none, .mv 178 (.v 177)),
                     (some (178, false), .mv 179 (.v 17)),
                     (some (178, false), .call (some 180) 225 false [((.v 179), false)]),
                     (some (178, false), .mv 181 (.v 17)),
                     (some (178, false), .call (some 182) 595 false [((.v 181), false)]),
                     (some (178, false), .eqb 183 true (.v 180) (.v 182)),
                     (none, .pick 184 (.v 178) (.c (.bool true)) (.v 183)),
                     (none, .mv 185 (.v 184)),
                     (some (185, false), .mv 186 (.v 11)),
                     (some (185, false), .call (some 187) 216 false [((.v 186), false)]),
                     (some (185, false), .mv 188 (.v 11)),
                     (some (185, false), .call (some 189) 592 false [((.v 188), false)]),
                     (some (185, false), .eqb 190 true (.v 187) (.v 189)),
                     (none, .pick 191 (.v 185) (.c (.bool true)) (.v 190))])
                   (.cond (.v 191)
                    (.seq
                     (.region [] [] [2] false [
                       (none, .asg 2 (.c (.bool false)) .copy)])
                     (.ret [2]))
                    (.skip [3, 4, 8, 9, 11, 14, 17, 18, 19, 20])))
                  (.seq
                   (.seq
                    (.region [] [] [3, 4, 8, 9, 11, 14, 17, 18, 19, 193] false [
                      (none, .mv 192 (.v 20)),
                      (none, .bin 193 .eql (.v 192) (.c (.int .i64 0)))])
                    (.cond (.v 193)
                     (.seq
                      (.region [(195, 19, false)] [] [3, 4, 8, 9, 11, 14, 17, 33, 34] false [
                        (none, .mv 195 (.v 19)),
                        (none, .mv 196 (.v 18)),
                        (none, .call (some 197) 143 false [((.v 195), false), ((.v 196), false)]),
                        (none, .asg 194 (.v 197) .move),
                        (none, .ext 198 (.v 194) 0),
                        (none, .extp 199 (.v 194) 1),
                        (none, .asg 33 (.v 198) .move),
                        (none, .asg 34 (.v 199) .copy)])
                      (.seq
                       (.region [(204, 17, false), (203, 33, false)] [] [3, 4, 8, 9, 11, 14, 207] false [
                         (none, .mv 200 (.v 34)),
                         (none, .bin 201 .neq (.v 200) (.c (.int .i64 0))),
                         (none, .mv 202 (.v 201)),
                         (some (202, false), .mv 203 (.v 33)),
                         (some (202, false), .mv 204 (.v 17)),
                         (some (202, false), .call (some 205) 561 false [((.v 203), false), ((.v 204), false)]),
                         (some (202, false), .un 206 .not (.v 205)),
                         (none, .pick 207 (.v 202) (.c (.bool true)) (.v 206))])
                       (.cond (.v 207)
                        (.seq
                         (.region [] [] [2] false [
                           (none, .asg 2 (.c (.bool false)) .copy)])
                         (.ret [2]))
                        (.skip [3, 4, 8, 9, 11, 14]))))
                     (.skip [3, 4, 8, 9, 11, 14])))
                   (.seq
                    (.seq
                     (.region [] [] [3, 4, 8, 9, 11, 209] false [
                       (none, .mv 208 (.v 14)),
                       (none, .bin 209 .eql (.v 208) (.c (.int .i64 0)))])
                     (.cond (.v 209)
                      (.seq
                       (.region [] [] [3, 4, 8, 9, 11, 35] false [
                         (none, .asg 35 (.c (.int .i64 0)) .copy)])
                       (.block 0
                        (.loop
                         (.seq
                          (.seq
                           (.region [(211, 11, false)] [] [3, 4, 8, 9, 11, 35, 213] false [
                             (none, .mv 210 (.v 35)),
                             (none, .mv 211 (.v 11)),
                             (none, .len 212 false (.v 211)),
                             (none, .bin 213 .lss (.v 210) (.v 212))])
                           (.cond (.v 213)
                            (.skip [3, 4, 8, 9, 11, 35])
                            (.exit 0 [3, 4, 8, 9])))
                          (.seq
                           (.block 1
                            (.seq
                             (.region [(221, 11, false), (220, 11, false), (218, 11, false), (217, 11, false)] [] [3, 4, 8, 9, 11, 35, 36, 37] false [
                               (none, .mv 217 (.v 11)),
                               (none, .mv 218 (.v 11)),
                               (none, .mv 219 (.v 35)),
                               (none, .iadr 220 2 (.v 218) (.v 219)),
                               (none, .fadr 221 0 1 (.v 220)),
                               (none, .load 222 false 1 (.v 221) none),
                               (none, .call (some 223) 163 false [((.v 217), false), ((.v 222), false)]),
                               (none, .asg 216 (.v 223) .move),
                               (none, .ext 224 (.v 216) 0),
                               (none, .extp 225 (.v 216) 1),
                               (none, .asg 36 (.v 224) .move),
                               (none, .asg 37 (.v 225) .copy)])
                             (.seq
                              (.region [(234, 11, true), (233, 11, false), (232, 11, false), (230, 11, false), (229, 36, false)] [] [3, 4, 8, 9, 11, 35, 237] false [
                                (none, .mv 226 (.v 37)),
                                (none, .bin 227 .neq (.v 226) (.c (.int .i64 0))),
                                (none, .mv 228 (.v 227)),
                                (some (228, false), .mv 229 (.v 36)),
                                (some (228, false), .mv 230 (.v 11)),
                                (some (228, false), .mv 231 (.v 35)),
                                (some (228, false), .iadr 232 2 (.v 230) (.v 231)),
                                (some (228, false), .fadr 233 1 1 (.v 232)),
                                (some (228, false), .load 234 false 1 (.v 233) none),
                                (some (228, false), .call (some 235) 561 false [((.v 229), false), ((.v 234), false)]),
                                (some (228, false), .un 236 .not (.v 235)),
                                (none, .pick 237 (.v 228) (.c (.bool true)) (.v 236))])
                              (.cond (.v 237)
                               (.seq
                                (.region [] [] [2] false [
                                  (none, .asg 2 (.c (.bool false)) .copy)])
                                (.ret [2]))
                               (.skip [3, 4, 8, 9, 11, 35])))))
                           (.region [] [] [3, 4, 8, 9, 11, 35] false [
                             (none, .mv 214 (.v 35)),
                             (none, .bin 215 .add (.v 214) (.c (.int .i64 1))),
                             (none, .asg 35 (.v 215) .copy)]))))))
                      (.skip [3, 4, 8, 9])))
                    (.seq
                     (.seq
                      (.region [] [] [3, 4, 9, 239] false [
                        (none, .mv 238 (.v 8)),
                        (none, .bin 239 .neq (.v 238) (.c (.int .i64 0)))])
                      (.cond (.v 239)
                       (.seq
                        (.region [] [] [2] false [
                          (none, .asg 2 (.c (.bool true)) .copy)])
                        (.ret [2]))
                       (.skip [3, 4, 9])))
                     (.seq
                      (.seq
                       (.region [] [] [3, 4, 9, 38] false [
                         (none, .asg 38 (.c (.int .i64 0)) .copy)])
                       (.block 2
                        (.loop
                         (.seq
                          (.seq
                           (.region [(241, 9, false)] [] [3, 4, 9, 38, 243] false [
                             (none, .mv 240 (.v 38)),
                             (none, .mv 241 (.v 9)),
                             (none, .len 242 false (.v 241)),
                             (none, .bin 243 .lss (.v 240) (.v 242))])
                           (.cond (.v 243)
                            (.skip [3, 4, 9, 38])
                            (.exit 2 [])))
                          (.seq
                           (.block 3
                            (.seq
                             (.region [(248, 9, false), (246, 9, false)] [] [3, 4, 9, 38, 39] false [
                               (none, .mv 246 (.v 9)),
                               (none, .mv 247 (.v 38)),
                               (none, .iadr 248 2 (.v 246) (.v 247)),
                               (none, .load 249 true 2 (.v 248) none),
                               (none, .new 39 (.agg [(.int .i64 0), (.int .i64 0)])),
                               (none, .store 2 (.v 39) (.v 249) .copy)])
                             (.seq
                              (.region [(307, 4, false), (306, 4, false), (304, 4, false), (302, 3, false), (301, 3, false), (299, 3, false), (297, 39, false), (291, 4, false), (290, 4, false), (288, 4, false), (286, 3, false), (285, 3, false), (283, 3, false), (281, 39, false), (275, 4, false), (274, 4, false), (272, 4, false), (270, 3, false), (269, 3, false), (267, 3, false), (265, 39, false), (260, 4, false), (259, 4, false), (257, 4, false), (255, 3, false), (254, 3, false), (252, 3, false), (250, 39, false)] [] [3, 4, 9, 38, 311] true [
                                (none, .fadr 250 0 1 (.v 39)),
                                (none, .load 251 false 1 (.v 250) none),
                                (none, .mvr 252 3),
                                (none, .mv 253 (.v 38)),
                                (none, .iadr 254 2 (.v 252) (.v 253)),
                                (none, .fadr 255 0 1 (.v 254)),
                                (none, .load 256 false 1 (.v 255) none),
                                (none, .mvr 257 4),
                                (none, .mv 258 (.v 38)),
                                (none, .iadr 259 2 (.v 257) (.v 258)),
                                (none, .fadr 260 0 1 (.v 259)),
                                (none, .load 261 false 1 (.v 260) none),
                                (none, .mm 262 false (.v 256) [(.v 261)]),
                                (none, .bin 263 .lss (.v 251) (.v 262)),
                                (none, .mv 264 (.v 263)),
                                (some (264, false), .fadr 265 0 1 (.v 39)),
                                (some (264, false), .load 266 false 1 (.v 265) none),
                                (some (264, false), .mvr 267 3),
                                (some (264, false), .mv 268 (.v 38)),
                                (some (264, false), .iadr 269 2 (.v 267) (.v 268)),
                                (some (264, false), .fadr 270 0 1 (.v 269)),
                                (some (264, false), .load 271 false 1 (.v 270) none),
                                (some (264, false), .mvr 272 4),
                                (some (264, false), .mv 273 (.v 38)),
                                (some (264, false), .iadr 274 2 (.v 272) (.v 273)),
                                (some (264, false), .fadr 275 0 1 (.v 274)),
                                (some (264, false), .load 276 false 1 (.v 275) none),
                                (some (264, false), .mm 277 true (.v 271) [(.v 276)]),
                                (some (264, false), .bin 278 .gtr (.v 266) (.v 277)),
                                (none, .pick 279 (.v 264) (.c (.bool true)) (.v 278)),
                                (none, .mv 280 (.v 279)),
                                (some (280, false), .fadr 281 1 1 (.v 39)),
                                (some (280, false), .load 282 false 1 (.v 281) none),
                                (some (280, false), .mvr 283 3),
                                (some (280, false), .mv 284 (.v 38)),
                                (some (280, false), .iadr 285 2 (.v 283) (.v 284)),
                                (some (280, false), .fadr 286 1 1 (.v 285)),
                                (some (280, false), .load 287 false 1 (.v 286) none),
                                (some (280, false), .mvr 288 4),
                                (some (280, false), .mv 289 (.v 38)),
                                (some (280, false), .iadr 290 2 (.v 288) (.v 289)),
                                (some (280, false), .fadr 291 1 1 (.v 290)),
                                (some (280, false), .load 292 false 1 (.v 291) none),
                                (some (280, false), .mm 293 false (.v 287) [(.v 292)]),
                                (some (280, false), .bin 294 .lss (.v 282) (.v 293)),
                                (none, .pick 295 (.v 280) (.c (.bool true)) (.v 294)),
                                (none, .mv 296 (.v 295)),
                                (some (296, false), .fadr 297 1 1 (.v 39)),
                                (some (296, false), .load 298 false 1 (.v 297) none),
                                (some (296, false), .mvr 299 3),
                                (some (296, false), .mv 300 (.v 38)),
                                (some (296, false), .iadr 301 2 (.v 299) (.v 300)),
                                (some (296, false), .fadr 302 1 1 (.v 301)),
                                (some (296, false), .load 303 false 1 (.v 302) none),
                                (some (296, false), .mvr 304 4),
                                (some (296, false), .mv 305 (.v 38)),
                                (some (296, false), .iadr 306 2 (.v 304) (.v 305)),
                                (some (296, false), .fadr 307 1 1 (.v 306)),
                                (some (296, false), .load 308 false 1 (.v 307) none),
                                (some (296, false), .mm 309 true (.v 303) [(.v 308)]),
                                (some (296, false), .bin 310 .gtr (.v 298) (.v 309)),
                                (none, .pick 311 (.v 296) (.c (.bool true)) (.v 310))])
                              (.cond (.v 311)
                               (.seq
                                (.region [] [] [2] false [
                                  (none, .asg 2 (.c (.bool false)) .copy)])
                                (.ret [2]))
                               (.skip [3, 4, 9, 38])))))
                           (.region [] [] [3, 4, 9, 38] false [
                             (none, .mv 244 (.v 38)),
                             (none, .bin 245 .add (.v 244) (.c (.int .i64 1))),
                             (none, .asg 38 (.v 245) .copy)]))))))
                      (.seq
                       (.region [] [] [2] false [
                         (none, .asg 2 (.c (.bool true)) .copy)])
                       (.ret [2]))))))))))))))))))))))⟩
def tabl : List (Nat × PFunc) := [(326, F326), (226, F226), (826, F826), (804, F804), (225, F225), (108, F108), (143, F143), (216, F216), (301, F301), (251, F251), (297, F297), (163, F163), (164, F164), (813, F813), (172, F172), (398, F398), (603, F603), (5, F5), (7, F7), (6, F6), (4, F4), (629, F629), (625, F625), (631, F631), (475, F475), (484, F484), (627, F627), (488, F488), (606, F606), (489, F489), (491, F491), (605, F605), (630, F630), (632, F632), (529, F529), (546, F546), (602, F602), (610, F610), (626, F626), (624, F624), (628, F628), (554, F554), (555, F555), (561, F561), (592, F592), (595, F595), (369, F369)]
def T : Nat → Option PFunc := tabOf tabl
end Go.Vs.G
