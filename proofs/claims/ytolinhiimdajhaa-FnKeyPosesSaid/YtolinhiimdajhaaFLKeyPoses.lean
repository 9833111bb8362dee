/- The functions that the law reaches, in the small language, printed by program. No conditions. -/
import Derived.Test.YtolinhiimdajhaaDLKeyPoses
import Derived.Test.YtolinhiimdajhaaV4
set_option maxRecDepth 100000
open Go Go.Vs
namespace Go.Vs.G
def F326 : PFunc :=
 ⟨[false, false, false], [.tmp 6],
  (.seq
   (.region [] [] [0, 1, 2] false [
     (none, .asg 6 (.c (.bool false)) .copy)])
   (.seq
    (.region [] [] [6] false [
      (none, .mv 7 (.v 0)),
      (none, .mv 8 (.v 1)),
      (none, .bin 9 .geq (.v 7) (.v 8)),
      (none, .mv 10 (.v 9)),
      (some (10, true), .mv 11 (.v 0)),
      (some (10, true), .mv 12 (.v 2)),
      (some (10, true), .bin 13 .leq (.v 11) (.v 12)),
      (none, .pick 14 (.v 10) (.v 13) (.c (.bool false))),
      (none, .asg 6 (.v 14) .copy)])
    (.ret [6])))⟩
def F226 : PFunc :=
 ⟨[false], [.tmp 2],
  (.seq
   (.region [] [] [1] false [
     (none, .box 1 (.v 0) .copy),
     (none, .asg 2 (.c (.bool false)) .copy)])
   (.seq
    (.region [(8, 1, false), (3, 1, false)] [] [2] false [
      (none, .fadr 3 0 1 (.v 1)),
      (none, .load 4 false 1 (.v 3) none),
      (none, .call (some 5) 326 false [((.v 4), false), ((.c (.int .i64 0)), false), ((.c (.int .i64 1000)), false)]),
      (none, .un 6 .not (.v 5)),
      (none, .mv 7 (.v 6)),
      (some (7, false), .fadr 8 1 1 (.v 1)),
      (some (7, false), .load 9 false 1 (.v 8) none),
      (some (7, false), .call (some 10) 326 false [((.v 9), false), ((.c (.int .i64 0)), false), ((.c (.int .i64 1000)), false)]),
      (some (7, false), .un 11 .not (.v 10)),
      (none, .pick 12 (.v 7) (.c (.bool true)) (.v 11)),
      (none, .asg 2 (.v 12) .copy)])
    (.ret [2])))⟩
def F826 : PFunc :=
 ⟨[false, false], [.tmp 4],
  (.seq
   (.region [] [] [0, 1] false [
     (none, .asg 4 (.c (.int .i64 0)) .copy)])
   (.seq
    (.seq
     (.region [(6, 0, false)] [] [0, 1, 7, 8] false [
       (none, .mv 6 (.v 0)),
       (none, .len 7 false (.v 6)),
       (none, .mv 8 (.c (.int .i64 0)))])
     (.block 0
      (.loop
       (.seq
        (.region [] [] [0, 1, 7, 8, 9] false [
          (none, .bin 9 .lss (.v 8) (.v 7))])
        (.seq
         (.cond (.v 9)
          (.skip [0, 1, 7, 8])
          (.exit 0 []))
         (.seq
          (.block 1
           (.seq
            (.region [] [] [0, 1, 5, 7, 8] false [
              (none, .mv 10 (.v 8)),
              (none, .asg 5 (.v 10) .copy)])
            (.seq
             (.region [(14, 0, false), (12, 0, false), (11, 1, false)] [] [0, 1, 5, 7, 8, 16] false [
               (none, .mv 11 (.v 1)),
               (none, .mv 12 (.v 0)),
               (none, .mv 13 (.v 5)),
               (none, .iadr 14 2 (.v 12) (.v 13)),
               (none, .load 15 true 2 (.v 14) none),
               (none, .callv (some 16) (.v 11) [(.v 15)])])
             (.cond (.v 16)
              (.seq
               (.region [] [] [4] false [
                 (none, .mv 17 (.v 5)),
                 (none, .asg 4 (.v 17) .copy)])
               (.ret [4]))
              (.skip [0, 1, 7, 8])))))
          (.region [] [] [0, 1, 7, 8] false [
            (none, .bin 18 .add (.v 8) (.c (.int .i64 1))),
            (none, .mv 8 (.v 18))])))))))
    (.seq
     (.region [] [] [4] false [
       (none, .asg 4 (.c (.int .i64 (-1))) .copy)])
     (.ret [4]))))⟩
def F804 : PFunc :=
 ⟨[false, false], [.tmp 4],
  (.seq
   (.region [] [] [0, 1] false [
     (none, .asg 4 (.c (.bool false)) .copy)])
   (.seq
    (.region [(6, 1, false), (5, 0, false)] [] [4] false [
      (none, .mv 5 (.v 0)),
      (none, .mv 6 (.v 1)),
      (none, .call (some 7) 826 false [((.v 5), false), ((.v 6), false)]),
      (none, .bin 8 .geq (.v 7) (.c (.int .i64 0))),
      (none, .asg 4 (.v 8) .copy)])
    (.ret [4])))⟩
def F225 : PFunc :=
 ⟨[false], [.tmp 2],
  (.seq
   (.region [] [] [0] false [
     (none, .asg 2 (.c (.bool false)) .copy)])
   (.seq
    (.region [(12, 0, false), (7, 0, false), (3, 0, false)] [] [2] false [
      (none, .mv 3 (.v 0)),
      (none, .len 4 false (.v 3)),
      (none, .bin 5 .geq (.v 4) (.c (.int .i64 1))),
      (none, .mv 6 (.v 5)),
      (some (6, true), .mv 7 (.v 0)),
      (some (6, true), .len 8 false (.v 7)),
      (some (6, true), .bin 9 .leq (.v 8) (.c (.int .i64 8))),
      (none, .pick 10 (.v 6) (.v 9) (.c (.bool false))),
      (none, .mv 11 (.v 10)),
      (some (11, true), .mv 12 (.v 0)),
      (some (11, true), .call (some 13) 804 false [((.v 12), false), ((.c (.fn 226 [])), false)]),
      (some (11, true), .un 14 .not (.v 13)),
      (none, .pick 15 (.v 11) (.v 14) (.c (.bool false))),
      (none, .asg 2 (.v 15) .copy)])
    (.ret [2])))⟩
def F216 : PFunc :=
 ⟨[false], [.tmp 2],
  (.seq
   (.region [] [] [0] false [
     (none, .asg 2 (.c (.bool false)) .copy)])
   (.seq
    (.seq
     (.region [(9, 0, false), (5, 0, false)] [] [0, 12] false [
       (none, .mv 5 (.v 0)),
       (none, .len 6 false (.v 5)),
       (none, .bin 7 .lss (.v 6) (.c (.int .i64 1))),
       (none, .mv 8 (.v 7)),
       (some (8, false), .mv 9 (.v 0)),
       (some (8, false), .len 10 false (.v 9)),
       (some (8, false), .bin 11 .gtr (.v 10) (.c (.int .i64 10))),
       (none, .pick 12 (.v 8) (.c (.bool true)) (.v 11))])
     (.cond (.v 12)
      (.seq
       (.region [] [] [2] false [
         (none, .asg 2 (.c (.bool false)) .copy)])
       (.ret [2]))
      (.skip [0])))
    (.seq
     (.seq
      (.region [(13, 0, false)] [] [0, 13, 14, 15] false [
        (none, .mv 13 (.v 0)),
        (none, .len 14 false (.v 13)),
        (none, .mv 15 (.c (.int .i64 0)))])
      (.block 0
       (.loop
        (.seq
         (.region [(13, 0, false)] [] [0, 13, 14, 15, 16] false [
           (none, .bin 16 .lss (.v 15) (.v 14))])
         (.seq
          (.cond (.v 16)
           (.skip [0, 13, 14, 15])
           (.exit 0 []))
          (.seq
           (.block 1
            (.seq
             (.region [(18, 0, false), (13, 0, false)] [] [0, 3, 4, 13, 14, 15] false [
               (none, .mv 17 (.v 15)),
               (none, .iadr 18 2 (.v 13) (.v 15)),
               (none, .load 19 true 2 (.v 18) (some .freeze)),
               (none, .new 4 (.agg [(.int .i64 0), (.sl false 2 [])])),
               (none, .asg 3 (.v 17) .copy),
               (none, .store 2 (.v 4) (.v 19) .move)])
             (.seq
              (.region [(51, 4, false), (49, 0, false), (48, 0, false), (45, 0, false), (37, 0, true), (36, 0, false), (35, 0, false), (34, 0, false), (32, 4, true), (31, 4, false), (26, 4, true), (25, 4, false), (20, 4, false), (13, 0, false)] [] [0, 13, 14, 15, 55] true [
                (none, .fadr 20 0 1 (.v 4)),
                (none, .load 21 false 1 (.v 20) none),
                (none, .call (some 22) 326 false [((.v 21), false), ((.c (.int .i64 0)), false), ((.c (.int .i64 10000)), false)]),
                (none, .un 23 .not (.v 22)),
                (none, .mv 24 (.v 23)),
                (some (24, false), .fadr 25 1 1 (.v 4)),
                (some (24, false), .load 26 false 1 (.v 25) none),
                (some (24, false), .call (some 27) 225 false [((.v 26), false)]),
                (some (24, false), .un 28 .not (.v 27)),
                (none, .pick 29 (.v 24) (.c (.bool true)) (.v 28)),
                (none, .mv 30 (.v 29)),
                (some (30, false), .fadr 31 1 1 (.v 4)),
                (some (30, false), .load 32 false 1 (.v 31) none),
                (some (30, false), .len 33 false (.v 32)),
                (some (30, false), .mv 34 (.v 0)),
                (some (30, false), .iadr 35 2 (.v 34) (.c (.int .i64 0))),
                (some (30, false), .fadr 36 1 1 (.v 35)),
                (some (30, false), .load 37 false 1 (.v 36) none),
                (some (30, false), .len 38 false (.v 37)),
                (some (30, false), .bin 39 .neq (.v 33) (.v 38)),
                (none, .pick 40 (.v 30) (.c (.bool true)) (.v 39)),
                (none, .mv 41 (.v 40)),
                (some (41, false), .mv 42 (.v 3)),
                (some (41, false), .bin 43 .gtr (.v 42) (.c (.int .i64 0))),
                (some (41, false), .mv 44 (.v 43)),
                (some (44, true), .mv 45 (.v 0)),
                (some (44, true), .mv 46 (.v 3)),
                (some (44, true), .bin 47 .sub (.v 46) (.c (.int .i64 1))),
                (some (44, true), .iadr 48 2 (.v 45) (.v 47)),
                (some (44, true), .fadr 49 0 1 (.v 48)),
                (some (44, true), .load 50 false 1 (.v 49) none),
                (some (44, true), .fadr 51 0 1 (.v 4)),
                (some (44, true), .load 52 false 1 (.v 51) none),
                (some (44, true), .bin 53 .geq (.v 50) (.v 52)),
                (some (41, false), .pick 54 (.v 44) (.v 53) (.c (.bool false))),
                (none, .pick 55 (.v 41) (.c (.bool true)) (.v 54))])
              (.cond (.v 55)
               (.seq
                (.region [] [] [2] false [
                  (none, .asg 2 (.c (.bool false)) .copy)])
                (.ret [2]))
               (.skip [0, 13, 14, 15])))))
           (.region [(13, 0, false)] [] [0, 13, 14, 15] false [
             (none, .bin 56 .add (.v 15) (.c (.int .i64 1))),
             (none, .mv 15 (.v 56))])))))))
     (.seq
      (.region [] [] [2] false [
        (none, .asg 2 (.c (.bool true)) .copy)])
      (.ret [2])))))⟩
def F301 : PFunc :=
 ⟨[false, false], [.tmp 4],
  (.seq
   (.region [] [] [0, 1] false [
     (none, .asg 4 (.c (.int .i64 0)) .copy)])
   (.seq
    (.region [] [] [0, 1] false [
      (none, .mv 6 (.v 0)),
      (none, .bin 7 .mul (.c (.int .i64 2)) (.v 6)),
      (none, .mv 8 (.v 1)),
      (none, .bin 9 .add (.v 7) (.v 8)),
      (none, .mv 10 (.v 1)),
      (none, .bin 11 .mul (.c (.int .i64 2)) (.v 10)),
      (none, .asg 0 (.v 9) .copy),
      (none, .asg 1 (.v 11) .copy)])
    (.seq
     (.region [] [] [0, 1, 5] false [
       (none, .mv 12 (.v 0)),
       (none, .mv 13 (.v 1)),
       (none, .bin 14 .quo (.v 12) (.v 13)),
       (none, .asg 5 (.v 14) .copy)])
     (.seq
      (.seq
       (.region [] [] [5, 18] false [
         (none, .mv 15 (.v 0)),
         (none, .mv 16 (.v 1)),
         (none, .bin 17 .rem (.v 15) (.v 16)),
         (none, .bin 18 .lss (.v 17) (.c (.int .i64 0)))])
       (.cond (.v 18)
        (.region [] [] [5] false [
          (none, .mv 19 (.v 5)),
          (none, .bin 20 .sub (.v 19) (.c (.int .i64 1))),
          (none, .asg 5 (.v 20) .copy)])
        (.skip [5])))
      (.seq
       (.region [] [] [4] false [
         (none, .mv 21 (.v 5)),
         (none, .asg 4 (.v 21) .copy)])
       (.ret [4]))))))⟩
def F251 : PFunc :=
 ⟨[false, false, false, false], [.tmp 8],
  (.seq
   (.region [] [] [0, 1, 2, 3] false [
     (none, .asg 8 (.c (.sl true 2 [])) .copy)])
   (.seq
    (.region [] [] [0, 1, 2, 3, 9] false [
      (none, .mksl 13 2 (.agg [(.int .i64 0), (.int .i64 0)]) 0 []),
      (none, .asg 9 (.v 13) .move)])
    (.seq
     (.seq
      (.region [(14, 0, false)] [] [0, 1, 2, 3, 9, 15, 16] false [
        (none, .mv 14 (.v 0)),
        (none, .len 15 false (.v 14)),
        (none, .mv 16 (.c (.int .i64 0)))])
      (.block 0
       (.loop
        (.seq
         (.region [] [] [0, 1, 2, 3, 9, 15, 16, 17] false [
           (none, .bin 17 .lss (.v 16) (.v 15))])
         (.seq
          (.cond (.v 17)
           (.skip [0, 1, 2, 3, 9, 15, 16])
           (.exit 0 [9]))
          (.seq
           (.block 1
            (.seq
             (.region [] [] [0, 1, 2, 3, 9, 10, 15, 16] false [
               (none, .mv 18 (.v 16)),
               (none, .asg 10 (.v 18) .copy)])
             (.seq
              (.region [(31, 1, false), (30, 1, false), (28, 1, false), (22, 0, false), (21, 0, false), (19, 0, false)] [] [0, 1, 2, 3, 9, 10, 11, 15, 16] true [
                (none, .mv 19 (.v 0)),
                (none, .mv 20 (.v 10)),
                (none, .iadr 21 2 (.v 19) (.v 20)),
                (none, .fadr 22 0 1 (.v 21)),
                (none, .load 23 false 1 (.v 22) none),
                (none, .mv 24 (.v 3)),
                (none, .mv 25 (.v 2)),
                (none, .bin 26 .sub (.v 24) (.v 25)),
                (none, .bin 27 .mul (.v 23) (.v 26)),
                (none, .mv 28 (.v 1)),
                (none, .mv 29 (.v 10)),
                (none, .iadr 30 2 (.v 28) (.v 29)),
                (none, .fadr 31 0 1 (.v 30)),
                (none, .load 32 false 1 (.v 31) none),
                (none, .mv 33 (.v 2)),
                (none, .bin 34 .mul (.v 32) (.v 33)),
                (none, .bin 35 .add (.v 27) (.v 34)),
                (none, .mv 36 (.v 3)),
                (none, .call (some 37) 301 false [((.v 35), false), ((.v 36), false)]),
                (none, .asg 11 (.v 37) .copy)])
              (.seq
               (.region [(50, 1, false), (49, 1, false), (47, 1, false), (41, 0, false), (40, 0, false), (38, 0, false)] [] [0, 1, 2, 3, 9, 11, 12, 15, 16] true [
                 (none, .mv 38 (.v 0)),
                 (none, .mv 39 (.v 10)),
                 (none, .iadr 40 2 (.v 38) (.v 39)),
                 (none, .fadr 41 1 1 (.v 40)),
                 (none, .load 42 false 1 (.v 41) none),
                 (none, .mv 43 (.v 3)),
                 (none, .mv 44 (.v 2)),
                 (none, .bin 45 .sub (.v 43) (.v 44)),
                 (none, .bin 46 .mul (.v 42) (.v 45)),
                 (none, .mv 47 (.v 1)),
                 (none, .mv 48 (.v 10)),
                 (none, .iadr 49 2 (.v 47) (.v 48)),
                 (none, .fadr 50 1 1 (.v 49)),
                 (none, .load 51 false 1 (.v 50) none),
                 (none, .mv 52 (.v 2)),
                 (none, .bin 53 .mul (.v 51) (.v 52)),
                 (none, .bin 54 .add (.v 46) (.v 53)),
                 (none, .mv 55 (.v 3)),
                 (none, .call (some 56) 301 false [((.v 54), false), ((.v 55), false)]),
                 (none, .asg 12 (.v 56) .copy)])
               (.region [(57, 9, false)] [] [0, 1, 2, 3, 9, 15, 16] false [
                 (none, .mv 57 (.v 9)),
                 (none, .mv 58 (.v 11)),
                 (none, .mv 59 (.v 12)),
                 (none, .build 60 [(.int .i64 0), (.int .i64 0)] [(0, 1, (.v 58), .copy), (1, 1, (.v 59), .copy)]),
                 (none, .mksl 61 2 (.agg [(.int .i64 0), (.int .i64 0)]) 1 [(0, (.v 60), .copy)]),
                 (none, .app 62 2 (.v 57) (.v 61) .move),
                 (none, .asg 9 (.v 62) .move)])))))
           (.region [] [] [0, 1, 2, 3, 9, 15, 16] false [
             (none, .bin 63 .add (.v 16) (.c (.int .i64 1))),
             (none, .mv 16 (.v 63))])))))))
     (.seq
      (.region [(64, 9, false)] [] [8] false [
        (none, .mv 64 (.v 9)),
        (none, .asg 8 (.v 64) .move)])
      (.ret [8])))))⟩
def F297 : PFunc :=
 ⟨[false, false], [.tmp 4],
  (.seq
   (.region [] [] [0, 1] false [
     (none, .asg 4 (.c (.sl true 2 [])) .copy)])
   (.seq
    (.seq
     (.region [] [] [0, 1, 5] false [
       (none, .asg 5 (.c (.int .i64 1)) .copy)])
     (.block 0
      (.loop
       (.seq
        (.seq
         (.region [(7, 0, false)] [] [0, 1, 5, 9] false [
           (none, .mv 6 (.v 5)),
           (none, .mv 7 (.v 0)),
           (none, .len 8 false (.v 7)),
           (none, .bin 9 .lss (.v 6) (.v 8))])
         (.cond (.v 9)
          (.skip [0, 1, 5])
          (.exit 0 [0])))
        (.seq
         (.block 1
          (.seq
           (.region [(16, 0, false), (15, 0, false), (13, 0, false)] [] [0, 1, 5, 18] false [
             (none, .mv 12 (.v 1)),
             (none, .mv 13 (.v 0)),
             (none, .mv 14 (.v 5)),
             (none, .iadr 15 2 (.v 13) (.v 14)),
             (none, .fadr 16 0 1 (.v 15)),
             (none, .load 17 false 1 (.v 16) none),
             (none, .bin 18 .lss (.v 12) (.v 17))])
           (.cond (.v 18)
            (.seq
             (.region [(47, 0, false), (46, 0, false), (43, 0, false), (41, 0, false), (40, 0, false), (38, 0, false), (35, 0, false), (34, 0, false), (31, 0, false), (29, 0, true), (28, 0, false), (27, 0, false), (25, 0, false), (24, 0, true), (23, 0, false), (22, 0, false), (19, 0, false)] [] [4] true [
               (none, .mv 19 (.v 0)),
               (none, .mv 20 (.v 5)),
               (none, .bin 21 .sub (.v 20) (.c (.int .i64 1))),
               (none, .iadr 22 2 (.v 19) (.v 21)),
               (none, .fadr 23 1 1 (.v 22)),
               (none, .load 24 false 1 (.v 23) none),
               (none, .mv 25 (.v 0)),
               (none, .mv 26 (.v 5)),
               (none, .iadr 27 2 (.v 25) (.v 26)),
               (none, .fadr 28 1 1 (.v 27)),
               (none, .load 29 false 1 (.v 28) none),
               (none, .mv 30 (.v 1)),
               (none, .mv 31 (.v 0)),
               (none, .mv 32 (.v 5)),
               (none, .bin 33 .sub (.v 32) (.c (.int .i64 1))),
               (none, .iadr 34 2 (.v 31) (.v 33)),
               (none, .fadr 35 0 1 (.v 34)),
               (none, .load 36 false 1 (.v 35) none),
               (none, .bin 37 .sub (.v 30) (.v 36)),
               (none, .mv 38 (.v 0)),
               (none, .mv 39 (.v 5)),
               (none, .iadr 40 2 (.v 38) (.v 39)),
               (none, .fadr 41 0 1 (.v 40)),
               (none, .load 42 false 1 (.v 41) none),
               (none, .mv 43 (.v 0)),
               (none, .mv 44 (.v 5)),
               (none, .bin 45 .sub (.v 44) (.c (.int .i64 1))),
               (none, .iadr 46 2 (.v 43) (.v 45)),
               (none, .fadr 47 0 1 (.v 46)),
               (none, .load 48 false 1 (.v 47) none),
               (none, .bin 49 .sub (.v 42) (.v 48)),
               (none, .call (some 50) 251 false [((.v 24), false), ((.v 29), false), ((.v 37), false), ((.v 49), false)]),
               (none, .asg 4 (.v 50) .move)])
             (.ret [4]))
            (.skip [0, 1, 5]))))
         (.region [] [] [0, 1, 5] false [
           (none, .mv 10 (.v 5)),
           (none, .bin 11 .add (.v 10) (.c (.int .i64 1))),
           (none, .asg 5 (.v 11) .copy)]))))))
    (.seq
     (.region [(57, 0, true), (56, 0, false), (55, 0, false), (52, 0, false), (51, 0, false)] [] [4] false [
       (none, .mv 51 (.v 0)),
       (none, .mv 52 (.v 0)),
       (none, .len 53 false (.v 52)),
       (none, .bin 54 .sub (.v 53) (.c (.int .i64 1))),
       (none, .iadr 55 2 (.v 51) (.v 54)),
       (none, .fadr 56 1 1 (.v 55)),
       (none, .load 57 false 1 (.v 56) none),
       (none, .call (some 58) 787 false [((.v 57), false)]),
       (none, .asg 4 (.v 58) .move)])
     (.ret [4]))))⟩
def F41 : PFunc :=
 ⟨[false, false], [.tmp 4, .tmp 5],
  (.seq
   (.region [] [] [0, 1] false [
     (none, .asg 4 (.c (.sl true 1 [])) .copy),
     (none, .asg 5 (.c (.int .i64 0)) .copy)])
   (.seq
    (.block 0
     (.seq
      (.region [(11, 0, false)] [] [0, 1, 10] false [
        (none, .mv 11 (.v 0)),
        (none, .call (some 12) 216 false [((.v 11), false)]),
        (none, .un 13 .not (.v 12)),
        (none, .asg 10 (.v 13) .copy)])
      (.cond (.v 10)
       (.seq
        (.region [] [] [4, 5] false [
          (none, .asg 4 (.c (.sl true 1 [])) .copy),
          (none, .asg 5 (.c (.int .i64 1)) .copy)])
        (.ret [4, 5]))
       (.seq
        (.region [] [] [0, 1, 14] false [
          (none, .mv 15 (.v 1)),
          (none, .call (some 16) 326 false [((.v 15), false), ((.c (.int .i64 1)), false), ((.c (.int .i64 10000)), false)]),
          (none, .un 17 .not (.v 16)),
          (none, .asg 14 (.v 17) .copy)])
        (.cond (.v 14)
         (.seq
          (.region [] [] [4, 5] false [
            (none, .asg 4 (.c (.sl true 1 [])) .copy),
            (none, .asg 5 (.c (.int .i64 2)) .copy)])
          (.ret [4, 5]))
         (.skip [0, 1]))))))
    (.seq
     (.region [(27, 0, false), (26, 0, false), (23, 0, false), (22, 0, false), (20, 0, false), (19, 0, false), (18, 0, false)] [] [0, 1, 6, 7] true [
       (none, .mv 18 (.v 0)),
       (none, .iadr 19 2 (.v 18) (.c (.int .i64 0))),
       (none, .fadr 20 0 1 (.v 19)),
       (none, .load 21 false 1 (.v 20) none),
       (none, .mv 22 (.v 0)),
       (none, .mv 23 (.v 0)),
       (none, .len 24 false (.v 23)),
       (none, .bin 25 .sub (.v 24) (.c (.int .i64 1))),
       (none, .iadr 26 2 (.v 22) (.v 25)),
       (none, .fadr 27 0 1 (.v 26)),
       (none, .load 28 false 1 (.v 27) none),
       (none, .asg 6 (.v 21) .copy),
       (none, .asg 7 (.v 28) .copy)])
     (.seq
      (.seq
       (.region [] [] [0, 1, 6, 7, 35] false [
         (none, .mv 29 (.v 7)),
         (none, .mv 30 (.v 6)),
         (none, .bin 31 .sub (.v 29) (.v 30)),
         (none, .mv 32 (.v 1)),
         (none, .bin 33 .quo (.v 31) (.v 32)),
         (none, .bin 34 .add (.v 33) (.c (.int .i64 1))),
         (none, .bin 35 .gtr (.v 34) (.c (.int .i64 100)))])
       (.cond (.v 35)
        (.seq
         (.region [] [] [4, 5] false [
           (none, .asg 4 (.c (.sl true 1 [])) .copy),
           (none, .asg 5 (.c (.int .i64 5)) .copy)])
         (.ret [4, 5]))
        (.skip [0, 1, 6, 7])))
      (.seq
       (.region [] [] [0, 1, 6, 7, 8] false [
         (none, .mksl 36 1 (.sl true 2 []) 0 []),
         (none, .asg 8 (.v 36) .move)])
       (.seq
        (.seq
         (.region [] [] [0, 1, 7, 8, 9] false [
           (none, .mv 37 (.v 6)),
           (none, .asg 9 (.v 37) .copy)])
         (.block 1
          (.loop
           (.seq
            (.seq
             (.region [] [] [0, 1, 7, 8, 9, 40] false [
               (none, .mv 38 (.v 9)),
               (none, .mv 39 (.v 7)),
               (none, .bin 40 .leq (.v 38) (.v 39))])
             (.cond (.v 40)
              (.skip [0, 1, 7, 8, 9])
              (.exit 1 [8])))
            (.seq
             (.block 2
              (.region [(45, 0, false), (44, 8, false)] [] [0, 1, 7, 8, 9] false [
                (none, .mv 44 (.v 8)),
                (none, .mv 45 (.v 0)),
                (none, .mv 46 (.v 9)),
                (none, .call (some 47) 297 false [((.v 45), false), ((.v 46), false)]),
                (none, .mksl 48 1 (.sl true 2 []) 1 [(0, (.v 47), .move)]),
                (none, .app 49 1 (.v 44) (.v 48) .move),
                (none, .asg 8 (.v 49) .move)]))
             (.region [] [] [0, 1, 7, 8, 9] false [
               (none, .mv 41 (.v 9)),
               (none, .mv 42 (.v 1)),
               (none, .bin 43 .add (.v 41) (.v 42)),
               (none, .asg 9 (.v 43) .copy)]))))))
        (.seq
         (.region [(50, 8, false)] [] [4, 5] false [
           (none, .mv 50 (.v 8)),
           (none, .asg 4 (.v 50) .move),
           (none, .asg 5 (.c (.int .i64 0)) .copy)])
         (.ret [4, 5]))))))))⟩
def F813 : PFunc :=
 ⟨[false, false], [.tmp 4],
  (.seq
   (.region [] [] [0, 1] false [
     (none, .asg 4 (.c (.bool false)) .copy)])
   (.seq
    (.seq
     (.region [(8, 1, false), (6, 0, false)] [] [0, 1, 10] false [
       (none, .mv 6 (.v 0)),
       (none, .len 7 false (.v 6)),
       (none, .mv 8 (.v 1)),
       (none, .len 9 false (.v 8)),
       (none, .bin 10 .neq (.v 7) (.v 9))])
     (.cond (.v 10)
      (.seq
       (.region [] [] [4] false [
         (none, .asg 4 (.c (.bool false)) .copy)])
       (.ret [4]))
      (.skip [0, 1])))
    (.seq
     (.seq
      (.region [(11, 0, false)] [] [0, 1, 12, 13] false [
        (none, .mv 11 (.v 0)),
        (none, .len 12 false (.v 11)),
        (none, .mv 13 (.c (.int .i64 0)))])
      (.block 0
       (.loop
        (.seq
         (.region [] [] [0, 1, 12, 13, 14] false [
           (none, .bin 14 .lss (.v 13) (.v 12))])
         (.seq
          (.cond (.v 14)
           (.skip [0, 1, 12, 13])
           (.exit 0 []))
          (.seq
           (.block 1
            (.seq
             (.region [] [] [0, 1, 5, 12, 13] false [
               (none, .mv 15 (.v 13)),
               (none, .asg 5 (.v 15) .copy)])
             (.seq
              (.region [(22, 1, false), (20, 1, false), (18, 0, false), (16, 0, false)] [] [0, 1, 12, 13, 24] true [
                (none, .mv 16 (.v 0)),
                (none, .mv 17 (.v 5)),
                (none, .iadr 18 2 (.v 16) (.v 17)),
                (none, .load 19 true 2 (.v 18) none),
                (none, .mv 20 (.v 1)),
                (none, .mv 21 (.v 5)),
                (none, .iadr 22 2 (.v 20) (.v 21)),
                (none, .load 23 true 2 (.v 22) none),
                (none, .eqv 24 true [.i, .i] (.v 19) (.v 23))])
              (.cond (.v 24)
               (.seq
                (.region [] [] [4] false [
                  (none, .asg 4 (.c (.bool false)) .copy)])
                (.ret [4]))
               (.skip [0, 1, 12, 13])))))
           (.region [] [] [0, 1, 12, 13] false [
             (none, .bin 25 .add (.v 13) (.c (.int .i64 1))),
             (none, .mv 13 (.v 25))])))))))
     (.seq
      (.region [] [] [4] false [
        (none, .asg 4 (.c (.bool true)) .copy)])
      (.ret [4])))))⟩
def F154 : PFunc :=
 ⟨[false], [.tmp 2, .tmp 3],
  (.seq
   (.region [] [] [0] false [
     (none, .asg 2 (.c (.sl true 1 [])) .copy),
     (none, .asg 3 (.c (.int .i64 0)) .copy)])
   (.seq
    (.seq
     (.region [(8, 0, false)] [] [0, 10] false [
       (none, .mv 8 (.v 0)),
       (none, .call (some 9) 216 false [((.v 8), false)]),
       (none, .un 10 .not (.v 9))])
     (.cond (.v 10)
      (.seq
       (.region [] [] [2, 3] false [
         (none, .asg 2 (.c (.sl true 1 [])) .copy),
         (none, .asg 3 (.c (.int .i64 1)) .copy)])
       (.ret [2, 3]))
      (.skip [0])))
    (.seq
     (.region [] [] [0, 4] false [
       (none, .mksl 11 1 (.int .i64 0) 0 []),
       (none, .asg 4 (.v 11) .move)])
     (.seq
      (.seq
       (.region [] [] [0, 4, 5] false [
         (none, .asg 5 (.c (.int .i64 1)) .copy)])
       (.block 0
        (.loop
         (.seq
          (.seq
           (.region [(14, 0, false)] [] [0, 4, 5, 16] false [
             (none, .mv 12 (.v 5)),
             (none, .bin 13 .add (.v 12) (.c (.int .i64 1))),
             (none, .mv 14 (.v 0)),
             (none, .len 15 false (.v 14)),
             (none, .bin 16 .lss (.v 13) (.v 15))])
           (.cond (.v 16)
            (.skip [0, 4, 5])
            (.exit 0 [4])))
          (.seq
           (.block 1
            (.seq
             (.region [(27, 0, false), (24, 0, false), (22, 0, false), (19, 0, false)] [] [0, 4, 5, 6, 7] true [
               (none, .mv 19 (.v 0)),
               (none, .mv 20 (.v 5)),
               (none, .bin 21 .sub (.v 20) (.c (.int .i64 1))),
               (none, .iadr 22 2 (.v 19) (.v 21)),
               (none, .load 23 true 2 (.v 22) none),
               (none, .mv 24 (.v 0)),
               (none, .mv 25 (.v 5)),
               (none, .bin 26 .add (.v 25) (.c (.int .i64 1))),
               (none, .iadr 27 2 (.v 24) (.v 26)),
               (none, .load 28 true 2 (.v 27) none),
               (none, .new 6 (.agg [(.int .i64 0), (.sl false 2 [])])),
               (none, .new 7 (.agg [(.int .i64 0), (.sl false 2 [])])),
               (none, .store 2 (.v 6) (.v 23) .copy),
               (none, .store 2 (.v 7) (.v 28) .copy)])
             (.seq
              (.region [(48, 6, false), (46, 7, false), (43, 6, false), (41, 0, false), (40, 0, false), (38, 0, false), (37, 7, true), (36, 7, false), (35, 6, true), (34, 6, false), (33, 0, true), (32, 0, false), (31, 0, false), (29, 0, false)] [] [0, 4, 5, 52] true [
                (none, .mv 29 (.v 0)),
                (none, .mv 30 (.v 5)),
                (none, .iadr 31 2 (.v 29) (.v 30)),
                (none, .fadr 32 1 1 (.v 31)),
                (none, .load 33 false 1 (.v 32) none),
                (none, .fadr 34 1 1 (.v 6)),
                (none, .load 35 false 1 (.v 34) none),
                (none, .fadr 36 1 1 (.v 7)),
                (none, .load 37 false 1 (.v 36) none),
                (none, .mv 38 (.v 0)),
                (none, .mv 39 (.v 5)),
                (none, .iadr 40 2 (.v 38) (.v 39)),
                (none, .fadr 41 0 1 (.v 40)),
                (none, .load 42 false 1 (.v 41) none),
                (none, .fadr 43 0 1 (.v 6)),
                (none, .load 44 false 1 (.v 43) none),
                (none, .bin 45 .sub (.v 42) (.v 44)),
                (none, .fadr 46 0 1 (.v 7)),
                (none, .load 47 false 1 (.v 46) none),
                (none, .fadr 48 0 1 (.v 6)),
                (none, .load 49 false 1 (.v 48) none),
                (none, .bin 50 .sub (.v 47) (.v 49)),
                (none, .call (some 51) 251 false [((.v 35), false), ((.v 37), false), ((.v 45), false), ((.v 50), false)]),
                (none, .call (some 52) 813 false [((.v 33), false), ((.v 51), false)])])
              (.cond (.v 52)
               (.region [(53, 4, false)] [] [0, 4, 5] false [
                 (none, .mv 53 (.v 4)),
                 (none, .mv 54 (.v 5)),
                 (none, .mksl 55 1 (.int .i64 0) 1 [(0, (.v 54), .copy)]),
                 (none, .app 56 1 (.v 53) (.v 55) .move),
                 (none, .asg 4 (.v 56) .move)])
               (.skip [0, 4, 5])))))
           (.region [] [] [0, 4, 5] false [
             (none, .mv 17 (.v 5)),
             (none, .bin 18 .add (.v 17) (.c (.int .i64 1))),
             (none, .asg 5 (.v 18) .copy)]))))))
      (.seq
       (.region [(57, 4, false)] [] [2, 3] false [
         (none, .mv 57 (.v 4)),
         (none, .asg 2 (.v 57) .move),
         (none, .asg 3 (.c (.int .i64 0)) .copy)])
       (.ret [2, 3]))))))⟩
def F163 : PFunc :=
 ⟨[false, false], [.tmp 4, .tmp 5],
  (.seq
   (.region [] [] [0, 1] false [
     (none, .asg 4 (.c (.sl true 2 [])) .copy),
     (none, .asg 5 (.c (.int .i64 0)) .copy)])
   (.seq
    (.block 0
     (.seq
      (.region [(7, 0, false)] [] [0, 1, 6] false [
        (none, .mv 7 (.v 0)),
        (none, .call (some 8) 216 false [((.v 7), false)]),
        (none, .un 9 .not (.v 8)),
        (none, .asg 6 (.v 9) .copy)])
      (.cond (.v 6)
       (.seq
        (.region [] [] [4, 5] false [
          (none, .asg 4 (.c (.sl true 2 [])) .copy),
          (none, .asg 5 (.c (.int .i64 1)) .copy)])
        (.ret [4, 5]))
       (.seq
        (.region [(21, 0, false), (20, 0, false), (17, 0, false), (16, 0, false), (14, 0, false), (13, 0, false), (12, 0, false)] [] [0, 1, 10] true [
          (none, .mv 11 (.v 1)),
          (none, .mv 12 (.v 0)),
          (none, .iadr 13 2 (.v 12) (.c (.int .i64 0))),
          (none, .fadr 14 0 1 (.v 13)),
          (none, .load 15 false 1 (.v 14) none),
          (none, .mv 16 (.v 0)),
          (none, .mv 17 (.v 0)),
          (none, .len 18 false (.v 17)),
          (none, .bin 19 .sub (.v 18) (.c (.int .i64 1))),
          (none, .iadr 20 2 (.v 16) (.v 19)),
          (none, .fadr 21 0 1 (.v 20)),
          (none, .load 22 false 1 (.v 21) none),
          (none, .call (some 23) 326 false [((.v 11), false), ((.v 15), false), ((.v 22), false)]),
          (none, .un 24 .not (.v 23)),
          (none, .asg 10 (.v 24) .copy)])
        (.cond (.v 10)
         (.seq
          (.region [] [] [4, 5] false [
            (none, .asg 4 (.c (.sl true 2 [])) .copy),
            (none, .asg 5 (.c (.int .i64 2)) .copy)])
          (.ret [4, 5]))
         (.skip [0, 1]))))))
    (.seq
     (.region [(25, 0, false)] [] [4, 5] false [
       (none, .mv 25 (.v 0)),
       (none, .mv 26 (.v 1)),
       (none, .call (some 27) 297 false [((.v 25), false), ((.v 26), false)]),
       (none, .asg 4 (.v 27) .move),
       (none, .asg 5 (.c (.int .i64 0)) .copy)])
     (.ret [4, 5]))))⟩
def F191 : PFunc :=
 ⟨[false, false], [.tmp 4, .tmp 5],
  (.seq
   (.region [] [] [0, 1] false [
     (none, .asg 4 (.c (.sl true 2 [])) .copy),
     (none, .asg 5 (.c (.int .i64 0)) .copy)])
   (.seq
    (.block 0
     (.seq
      (.region [(10, 0, false)] [] [0, 1, 9] false [
        (none, .mv 10 (.v 0)),
        (none, .call (some 11) 216 false [((.v 10), false)]),
        (none, .un 12 .not (.v 11)),
        (none, .asg 9 (.v 12) .copy)])
      (.cond (.v 9)
       (.seq
        (.region [] [] [4, 5] false [
          (none, .asg 4 (.c (.sl true 2 [])) .copy),
          (none, .asg 5 (.c (.int .i64 1)) .copy)])
        (.ret [4, 5]))
       (.seq
        (.region [] [] [0, 1, 13] false [
          (none, .mv 14 (.v 1)),
          (none, .call (some 15) 326 false [((.v 14), false), ((.c (.int .i64 1)), false), ((.c (.int .i64 100)), false)]),
          (none, .un 16 .not (.v 15)),
          (none, .asg 13 (.v 16) .copy)])
        (.cond (.v 13)
         (.seq
          (.region [] [] [4, 5] false [
            (none, .asg 4 (.c (.sl true 2 [])) .copy),
            (none, .asg 5 (.c (.int .i64 2)) .copy)])
          (.ret [4, 5]))
         (.skip [0, 1]))))))
    (.seq
     (.region [] [] [0, 1, 6] false [
       (none, .mksl 17 2 (.agg [(.int .i64 0), (.sl true 2 [])]) 0 []),
       (none, .asg 6 (.v 17) .move)])
     (.seq
      (.seq
       (.region [(18, 0, false)] [] [0, 1, 6, 18, 19, 20] false [
         (none, .mv 18 (.v 0)),
         (none, .len 19 false (.v 18)),
         (none, .mv 20 (.c (.int .i64 0)))])
       (.block 1
        (.loop
         (.seq
          (.region [(18, 0, false)] [] [0, 1, 6, 18, 19, 20, 21] false [
            (none, .bin 21 .lss (.v 20) (.v 19))])
          (.seq
           (.cond (.v 21)
            (.skip [0, 1, 6, 18, 19, 20])
            (.exit 1 [6]))
           (.seq
            (.block 2
             (.seq
              (.region [(22, 0, false), (18, 0, false)] [] [0, 1, 6, 8, 18, 19, 20] false [
                (none, .iadr 22 2 (.v 18) (.v 20)),
                (none, .load 23 true 2 (.v 22) (some .freeze)),
                (none, .new 8 (.agg [(.int .i64 0), (.sl false 2 [])])),
                (none, .store 2 (.v 8) (.v 23) .move)])
              (.region [(40, 8, true), (39, 8, false), (33, 0, false), (32, 0, false), (31, 0, false), (29, 8, false), (27, 0, false), (26, 0, false), (25, 0, false), (24, 6, false), (18, 0, false)] [] [0, 1, 6, 18, 19, 20] true [
                (none, .mvr 24 6),
                (none, .mv 25 (.v 0)),
                (none, .iadr 26 2 (.v 25) (.c (.int .i64 0))),
                (none, .fadr 27 0 1 (.v 26)),
                (none, .load 28 false 1 (.v 27) none),
                (none, .fadr 29 0 1 (.v 8)),
                (none, .load 30 false 1 (.v 29) none),
                (none, .mv 31 (.v 0)),
                (none, .iadr 32 2 (.v 31) (.c (.int .i64 0))),
                (none, .fadr 33 0 1 (.v 32)),
                (none, .load 34 false 1 (.v 33) none),
                (none, .bin 35 .sub (.v 30) (.v 34)),
                (none, .mv 36 (.v 1)),
                (none, .bin 37 .mul (.v 35) (.v 36)),
                (none, .bin 38 .add (.v 28) (.v 37)),
                (none, .fadr 39 1 1 (.v 8)),
                (none, .load 40 false 1 (.v 39) none),
                (none, .call (some 41) 787 false [((.v 40), false)]),
                (none, .build 42 [(.int .i64 0), (.sl true 2 [])] [(0, 1, (.v 38), .copy), (1, 1, (.v 41), .move)]),
                (none, .mksl 43 2 (.agg [(.int .i64 0), (.sl true 2 [])]) 1 [(0, (.v 42), .move)]),
                (none, .app 44 2 (.v 24) (.v 43) .move),
                (none, .asg 6 (.v 44) .move)])))
            (.region [(18, 0, false)] [] [0, 1, 6, 18, 19, 20] false [
              (none, .bin 45 .add (.v 20) (.c (.int .i64 1))),
              (none, .mv 20 (.v 45))])))))))
      (.seq
       (.seq
        (.region [(46, 6, false)] [] [6, 48] false [
          (none, .mv 46 (.v 6)),
          (none, .call (some 47) 216 false [((.v 46), false)]),
          (none, .un 48 .not (.v 47))])
        (.cond (.v 48)
         (.seq
          (.region [] [] [4, 5] false [
            (none, .asg 4 (.c (.sl true 2 [])) .copy),
            (none, .asg 5 (.c (.int .i64 5)) .copy)])
          (.ret [4, 5]))
         (.skip [6])))
       (.seq
        (.region [(49, 6, false)] [] [4, 5] false [
          (none, .mv 49 (.v 6)),
          (none, .asg 4 (.v 49) .move),
          (none, .asg 5 (.c (.int .i64 0)) .copy)])
        (.ret [4, 5])))))))⟩
def F398 : PFunc :=
 ⟨[false], [.tmp 2],
  (.seq
   (.region [] [] [0] false [
     (none, .asg 2 (.c (.bool false)) .copy)])
   (.seq
    (.region [(3, 0, false)] [] [2] false [
      (none, .mv 3 (.v 0)),
      (none, .len 4 false (.v 3)),
      (none, .bin 5 .gtr (.v 4) (.c (.int .i64 4096))),
      (none, .asg 2 (.v 5) .copy)])
    (.ret [2])))⟩
def F400 : PFunc :=
 ⟨[false, false], [.tmp 4],
  (.seq
   (.region [] [] [0, 1] false [
     (none, .asg 4 (.c (.bool false)) .copy)])
   (.seq
    (.seq
     (.region [(8, 1, false), (6, 0, false)] [] [0, 1, 10] false [
       (none, .mv 6 (.v 0)),
       (none, .len 7 false (.v 6)),
       (none, .mv 8 (.v 1)),
       (none, .len 9 false (.v 8)),
       (none, .bin 10 .neq (.v 7) (.v 9))])
     (.cond (.v 10)
      (.seq
       (.region [] [] [4] false [
         (none, .asg 4 (.c (.bool false)) .copy)])
       (.ret [4]))
      (.skip [0, 1])))
    (.seq
     (.seq
      (.region [] [] [0, 1, 5] false [
        (none, .asg 5 (.c (.int .i64 0)) .copy)])
      (.block 0
       (.loop
        (.seq
         (.seq
          (.region [(12, 0, false)] [] [0, 1, 5, 14] false [
            (none, .mv 11 (.v 5)),
            (none, .mv 12 (.v 0)),
            (none, .len 13 false (.v 12)),
            (none, .bin 14 .lss (.v 11) (.v 13))])
          (.cond (.v 14)
           (.skip [0, 1, 5])
           (.exit 0 [])))
         (.seq
          (.block 1
           (.seq
            (.region [(23, 1, false), (21, 1, false), (19, 0, false), (17, 0, false)] [] [0, 1, 5, 25] true [
              (none, .mv 17 (.v 0)),
              (none, .mv 18 (.v 5)),
              (none, .iadr 19 1 (.v 17) (.v 18)),
              (none, .load 20 false 1 (.v 19) none),
              (none, .mv 21 (.v 1)),
              (none, .mv 22 (.v 5)),
              (none, .iadr 23 1 (.v 21) (.v 22)),
              (none, .load 24 false 1 (.v 23) none),
              (none, .bin 25 .neq (.v 20) (.v 24))])
            (.cond (.v 25)
             (.seq
              (.region [] [] [4] false [
                (none, .asg 4 (.c (.bool false)) .copy)])
              (.ret [4]))
             (.skip [0, 1, 5]))))
          (.region [] [] [0, 1, 5] false [
            (none, .mv 15 (.v 5)),
            (none, .bin 16 .add (.v 15) (.c (.int .i64 1))),
            (none, .asg 5 (.v 16) .copy)]))))))
     (.seq
      (.region [] [] [4] false [
        (none, .asg 4 (.c (.bool true)) .copy)])
      (.ret [4])))))⟩
def F605 : PFunc :=
 ⟨[false, false, false], [.tmp 6],
  (.seq
   (.region [] [] [0, 1, 2] false [
     (none, .asg 6 (.c (.bool false)) .copy)])
   (.seq
    (.region [] [] [6] false [
      (none, .mv 7 (.v 0)),
      (none, .mv 8 (.v 1)),
      (none, .bin 9 .geq (.v 7) (.v 8)),
      (none, .mv 10 (.v 9)),
      (some (10, true), .mv 11 (.v 0)),
      (some (10, true), .mv 12 (.v 2)),
      (some (10, true), .bin 13 .leq (.v 11) (.v 12)),
      (none, .pick 14 (.v 10) (.v 13) (.c (.bool false))),
      (none, .asg 6 (.v 14) .copy)])
    (.ret [6])))⟩
def F602 : PFunc :=
 ⟨[false, false], [.tmp 4],
  (.seq
   (.region [] [] [0, 1] false [
     (none, .asg 4 (.c (.int .i64 0)) .copy)])
   (.seq
    (.region [] [] [0, 1, 5] false [
      (none, .mv 6 (.v 0)),
      (none, .mv 7 (.v 1)),
      (none, .bin 8 .quo (.v 6) (.v 7)),
      (none, .asg 5 (.v 8) .copy)])
    (.seq
     (.seq
      (.region [] [] [5, 12] false [
        (none, .mv 9 (.v 0)),
        (none, .mv 10 (.v 1)),
        (none, .bin 11 .rem (.v 9) (.v 10)),
        (none, .bin 12 .lss (.v 11) (.c (.int .i64 0)))])
      (.cond (.v 12)
       (.region [] [] [5] false [
         (none, .mv 13 (.v 5)),
         (none, .bin 14 .sub (.v 13) (.c (.int .i64 1))),
         (none, .asg 5 (.v 14) .copy)])
       (.skip [5])))
     (.seq
      (.region [] [] [4] false [
        (none, .mv 15 (.v 5)),
        (none, .asg 4 (.v 15) .copy)])
      (.ret [4])))))⟩
def F610 : PFunc :=
 ⟨[false, false], [.tmp 4],
  (.seq
   (.region [] [] [0, 1] false [
     (none, .asg 4 (.c (.int .i64 0)) .copy)])
   (.seq
    (.region [] [] [4] false [
      (none, .mv 5 (.v 0)),
      (none, .bin 6 .mul (.c (.int .i64 2)) (.v 5)),
      (none, .mv 7 (.v 1)),
      (none, .bin 8 .add (.v 6) (.v 7)),
      (none, .mv 9 (.v 1)),
      (none, .bin 10 .mul (.c (.int .i64 2)) (.v 9)),
      (none, .call (some 11) 602 false [((.v 8), false), ((.v 10), false)]),
      (none, .asg 4 (.v 11) .copy)])
    (.ret [4])))⟩
def F626 : PFunc :=
 ⟨[false, false, false, false], [.tmp 8],
  (.seq
   (.region [] [] [0, 1, 2, 3] false [
     (none, .asg 8 (.c (.sl true 2 [])) .copy)])
   (.seq
    (.region [] [] [0, 1, 2, 3, 9] false [
      (none, .mksl 13 2 (.agg [(.int .i64 0), (.int .i64 0)]) 0 []),
      (none, .asg 9 (.v 13) .move)])
    (.seq
     (.seq
      (.region [] [] [0, 1, 2, 3, 9, 10] false [
        (none, .asg 10 (.c (.int .i64 0)) .copy)])
      (.block 0
       (.loop
        (.seq
         (.seq
          (.region [(15, 0, false)] [] [0, 1, 2, 3, 9, 10, 17] false [
            (none, .mv 14 (.v 10)),
            (none, .mv 15 (.v 0)),
            (none, .len 16 false (.v 15)),
            (none, .bin 17 .lss (.v 14) (.v 16))])
          (.cond (.v 17)
           (.skip [0, 1, 2, 3, 9, 10])
           (.exit 0 [9])))
         (.seq
          (.block 1
           (.seq
            (.region [(32, 1, false), (31, 1, false), (29, 1, false), (23, 0, false), (22, 0, false), (20, 0, false)] [] [0, 1, 2, 3, 9, 10, 11] true [
              (none, .mv 20 (.v 0)),
              (none, .mv 21 (.v 10)),
              (none, .iadr 22 2 (.v 20) (.v 21)),
              (none, .fadr 23 0 1 (.v 22)),
              (none, .load 24 false 1 (.v 23) none),
              (none, .mv 25 (.v 3)),
              (none, .mv 26 (.v 2)),
              (none, .bin 27 .sub (.v 25) (.v 26)),
              (none, .bin 28 .mul (.v 24) (.v 27)),
              (none, .mv 29 (.v 1)),
              (none, .mv 30 (.v 10)),
              (none, .iadr 31 2 (.v 29) (.v 30)),
              (none, .fadr 32 0 1 (.v 31)),
              (none, .load 33 false 1 (.v 32) none),
              (none, .mv 34 (.v 2)),
              (none, .bin 35 .mul (.v 33) (.v 34)),
              (none, .bin 36 .add (.v 28) (.v 35)),
              (none, .mv 37 (.v 3)),
              (none, .call (some 38) 610 false [((.v 36), false), ((.v 37), false)]),
              (none, .asg 11 (.v 38) .copy)])
            (.seq
             (.region [(51, 1, false), (50, 1, false), (48, 1, false), (42, 0, false), (41, 0, false), (39, 0, false)] [] [0, 1, 2, 3, 9, 10, 11, 12] true [
               (none, .mv 39 (.v 0)),
               (none, .mv 40 (.v 10)),
               (none, .iadr 41 2 (.v 39) (.v 40)),
               (none, .fadr 42 1 1 (.v 41)),
               (none, .load 43 false 1 (.v 42) none),
               (none, .mv 44 (.v 3)),
               (none, .mv 45 (.v 2)),
               (none, .bin 46 .sub (.v 44) (.v 45)),
               (none, .bin 47 .mul (.v 43) (.v 46)),
               (none, .mv 48 (.v 1)),
               (none, .mv 49 (.v 10)),
               (none, .iadr 50 2 (.v 48) (.v 49)),
               (none, .fadr 51 1 1 (.v 50)),
               (none, .load 52 false 1 (.v 51) none),
               (none, .mv 53 (.v 2)),
               (none, .bin 54 .mul (.v 52) (.v 53)),
               (none, .bin 55 .add (.v 47) (.v 54)),
               (none, .mv 56 (.v 3)),
               (none, .call (some 57) 610 false [((.v 55), false), ((.v 56), false)]),
               (none, .asg 12 (.v 57) .copy)])
             (.region [(58, 9, false)] [] [0, 1, 2, 3, 9, 10] false [
               (none, .mv 58 (.v 9)),
               (none, .mv 59 (.v 11)),
               (none, .mv 60 (.v 12)),
               (none, .build 61 [(.int .i64 0), (.int .i64 0)] [(0, 1, (.v 59), .copy), (1, 1, (.v 60), .copy)]),
               (none, .mksl 62 2 (.agg [(.int .i64 0), (.int .i64 0)]) 1 [(0, (.v 61), .copy)]),
               (none, .app 63 2 (.v 58) (.v 62) .move),
               (none, .asg 9 (.v 63) .move)]))))
          (.region [] [] [0, 1, 2, 3, 9, 10] false [
            (none, .mv 18 (.v 10)),
            (none, .bin 19 .add (.v 18) (.c (.int .i64 1))),
            (none, .asg 10 (.v 19) .copy)]))))))
     (.seq
      (.region [(64, 9, false)] [] [8] false [
        (none, .mv 64 (.v 9)),
        (none, .asg 8 (.v 64) .move)])
      (.ret [8])))))⟩
def F624 : PFunc :=
 ⟨[false, false], [.tmp 4],
  (.seq
   (.region [] [] [0, 1] false [
     (none, .asg 4 (.c (.sl true 2 [])) .copy)])
   (.seq
    (.seq
     (.region [] [] [0, 1, 5] false [
       (none, .asg 5 (.c (.int .i64 1)) .copy)])
     (.block 0
      (.loop
       (.seq
        (.seq
         (.region [(9, 0, false)] [] [0, 1, 5, 11] false [
           (none, .mv 8 (.v 5)),
           (none, .mv 9 (.v 0)),
           (none, .len 10 false (.v 9)),
           (none, .bin 11 .lss (.v 8) (.v 10))])
         (.cond (.v 11)
          (.skip [0, 1, 5])
          (.exit 0 [0])))
        (.seq
         (.block 1
          (.seq
           (.region [(17, 0, false), (14, 0, false)] [] [0, 1, 5, 6] false [
             (none, .mv 14 (.v 0)),
             (none, .mv 15 (.v 5)),
             (none, .bin 16 .sub (.v 15) (.c (.int .i64 1))),
             (none, .iadr 17 2 (.v 14) (.v 16)),
             (none, .asg 6 (.v 17) .freeze)])
           (.seq
            (.region [(20, 0, false), (18, 0, false)] [] [0, 1, 5, 6, 7] false [
              (none, .mv 18 (.v 0)),
              (none, .mv 19 (.v 5)),
              (none, .iadr 20 2 (.v 18) (.v 19)),
              (none, .asg 7 (.v 20) .freeze)])
            (.seq
             (.region [(24, 7, false), (23, 7, false), (22, 7, false)] [] [0, 1, 5, 6, 7, 26] false [
               (none, .mv 21 (.v 1)),
               (none, .mv 22 (.v 7)),
               (none, .nchk 23 (.v 22)),
               (none, .fadr 24 0 1 (.v 23)),
               (none, .load 25 false 1 (.v 24) none),
               (none, .bin 26 .leq (.v 21) (.v 25))])
             (.cond (.v 26)
              (.seq
               (.region [(47, 6, false), (46, 6, false), (45, 6, false), (43, 7, false), (42, 7, false), (41, 7, false), (38, 6, false), (37, 6, false), (36, 6, false), (34, 7, true), (33, 7, false), (32, 7, false), (31, 7, false), (30, 6, true), (29, 6, false), (28, 6, false), (27, 6, false)] [] [4] true [
                 (none, .mv 27 (.v 6)),
                 (none, .nchk 28 (.v 27)),
                 (none, .fadr 29 1 1 (.v 28)),
                 (none, .load 30 false 1 (.v 29) none),
                 (none, .mv 31 (.v 7)),
                 (none, .nchk 32 (.v 31)),
                 (none, .fadr 33 1 1 (.v 32)),
                 (none, .load 34 false 1 (.v 33) none),
                 (none, .mv 35 (.v 1)),
                 (none, .mv 36 (.v 6)),
                 (none, .nchk 37 (.v 36)),
                 (none, .fadr 38 0 1 (.v 37)),
                 (none, .load 39 false 1 (.v 38) none),
                 (none, .bin 40 .sub (.v 35) (.v 39)),
                 (none, .mv 41 (.v 7)),
                 (none, .nchk 42 (.v 41)),
                 (none, .fadr 43 0 1 (.v 42)),
                 (none, .load 44 false 1 (.v 43) none),
                 (none, .mv 45 (.v 6)),
                 (none, .nchk 46 (.v 45)),
                 (none, .fadr 47 0 1 (.v 46)),
                 (none, .load 48 false 1 (.v 47) none),
                 (none, .bin 49 .sub (.v 44) (.v 48)),
                 (none, .call (some 50) 626 false [((.v 30), false), ((.v 34), false), ((.v 40), false), ((.v 49), false)]),
                 (none, .asg 4 (.v 50) .move)])
               (.ret [4]))
              (.skip [0, 1, 5]))))))
         (.region [] [] [0, 1, 5] false [
           (none, .mv 12 (.v 5)),
           (none, .bin 13 .add (.v 12) (.c (.int .i64 1))),
           (none, .asg 5 (.v 13) .copy)]))))))
    (.seq
     (.region [(55, 0, true), (54, 0, false), (53, 0, false), (52, 0, false)] [] [4] false [
       (none, .mksl 51 2 (.agg [(.int .i64 0), (.int .i64 0)]) 0 []),
       (none, .mv 52 (.v 0)),
       (none, .iadr 53 2 (.v 52) (.c (.int .i64 0))),
       (none, .fadr 54 1 1 (.v 53)),
       (none, .load 55 false 1 (.v 54) none),
       (none, .app 56 2 (.v 51) (.v 55) .move),
       (none, .asg 4 (.v 56) .move)])
     (.ret [4]))))⟩
def F630 : PFunc :=
 ⟨[false], [.tmp 2],
  (.seq
   (.region [] [] [0] false [
     (none, .asg 2 (.c (.bool false)) .copy)])
   (.seq
    (.seq
     (.region [] [] [0, 3] false [
       (none, .asg 3 (.c (.int .i64 0)) .copy)])
     (.block 0
      (.loop
       (.seq
        (.seq
         (.region [(5, 0, false)] [] [0, 3, 7] false [
           (none, .mv 4 (.v 3)),
           (none, .mv 5 (.v 0)),
           (none, .len 6 false (.v 5)),
           (none, .bin 7 .lss (.v 4) (.v 6))])
         (.cond (.v 7)
          (.skip [0, 3])
          (.exit 0 [0])))
        (.seq
         (.block 1
          (.seq
           (.region [(21, 0, false), (20, 0, false), (18, 0, false), (13, 0, false), (12, 0, false), (10, 0, false)] [] [0, 3, 25] false [
             (none, .mv 10 (.v 0)),
             (none, .mv 11 (.v 3)),
             (none, .iadr 12 2 (.v 10) (.v 11)),
             (none, .fadr 13 0 1 (.v 12)),
             (none, .load 14 false 1 (.v 13) none),
             (none, .call (some 15) 605 false [((.v 14), false), ((.c (.int .i64 0)), false), ((.c (.int .i64 1000)), false)]),
             (none, .un 16 .not (.v 15)),
             (none, .mv 17 (.v 16)),
             (some (17, false), .mv 18 (.v 0)),
             (some (17, false), .mv 19 (.v 3)),
             (some (17, false), .iadr 20 2 (.v 18) (.v 19)),
             (some (17, false), .fadr 21 1 1 (.v 20)),
             (some (17, false), .load 22 false 1 (.v 21) none),
             (some (17, false), .call (some 23) 605 false [((.v 22), false), ((.c (.int .i64 0)), false), ((.c (.int .i64 1000)), false)]),
             (some (17, false), .un 24 .not (.v 23)),
             (none, .pick 25 (.v 17) (.c (.bool true)) (.v 24))])
           (.cond (.v 25)
            (.seq
             (.region [] [] [2] false [
               (none, .asg 2 (.c (.bool false)) .copy)])
             (.ret [2]))
            (.skip [0, 3]))))
         (.region [] [] [0, 3] false [
           (none, .mv 8 (.v 3)),
           (none, .bin 9 .add (.v 8) (.c (.int .i64 1))),
           (none, .asg 3 (.v 9) .copy)]))))))
    (.seq
     (.region [(26, 0, false)] [] [2] false [
       (none, .mv 26 (.v 0)),
       (none, .len 27 false (.v 26)),
       (none, .call (some 28) 605 false [((.v 27), false), ((.c (.int .i64 1)), false), ((.c (.int .i64 8)), false)]),
       (none, .asg 2 (.v 28) .copy)])
     (.ret [2]))))⟩
def F628 : PFunc :=
 ⟨[false], [.tmp 2],
  (.seq
   (.region [] [] [0] false [
     (none, .asg 2 (.c (.bool false)) .copy)])
   (.seq
    (.seq
     (.region [] [] [0, 3] false [
       (none, .asg 3 (.c (.int .i64 0)) .copy)])
     (.block 0
      (.loop
       (.seq
        (.seq
         (.region [(6, 0, false)] [] [0, 3, 8] false [
           (none, .mv 5 (.v 3)),
           (none, .mv 6 (.v 0)),
           (none, .len 7 false (.v 6)),
           (none, .bin 8 .lss (.v 5) (.v 7))])
         (.cond (.v 8)
          (.skip [0, 3])
          (.exit 0 [0])))
        (.seq
         (.block 1
          (.seq
           (.region [(13, 0, false), (11, 0, false)] [] [0, 3, 4] false [
             (none, .mv 11 (.v 0)),
             (none, .mv 12 (.v 3)),
             (none, .iadr 13 2 (.v 11) (.v 12)),
             (none, .asg 4 (.v 13) .freeze)])
           (.seq
            (.region [(53, 4, false), (52, 4, false), (51, 4, false), (49, 0, false), (48, 0, false), (45, 0, false), (37, 0, true), (36, 0, false), (35, 0, false), (34, 0, false), (32, 4, true), (31, 4, false), (30, 4, false), (29, 4, false), (24, 4, true), (23, 4, false), (22, 4, false), (21, 4, false), (16, 4, false), (15, 4, false), (14, 4, false)] [] [0, 3, 57] true [
              (none, .mv 14 (.v 4)),
              (none, .nchk 15 (.v 14)),
              (none, .fadr 16 0 1 (.v 15)),
              (none, .load 17 false 1 (.v 16) none),
              (none, .call (some 18) 605 false [((.v 17), false), ((.c (.int .i64 0)), false), ((.c (.int .i64 10000)), false)]),
              (none, .un 19 .not (.v 18)),
              (none, .mv 20 (.v 19)),
              (some (20, false), .mv 21 (.v 4)),
              (some (20, false), .nchk 22 (.v 21)),
              (some (20, false), .fadr 23 1 1 (.v 22)),
              (some (20, false), .load 24 false 1 (.v 23) none),
              (some (20, false), .call (some 25) 630 false [((.v 24), false)]),
              (some (20, false), .un 26 .not (.v 25)),
              (none, .pick 27 (.v 20) (.c (.bool true)) (.v 26)),
              (none, .mv 28 (.v 27)),
              (some (28, false), .mv 29 (.v 4)),
              (some (28, false), .nchk 30 (.v 29)),
              (some (28, false), .fadr 31 1 1 (.v 30)),
              (some (28, false), .load 32 false 1 (.v 31) none),
              (some (28, false), .len 33 false (.v 32)),
              (some (28, false), .mv 34 (.v 0)),
              (some (28, false), .iadr 35 2 (.v 34) (.c (.int .i64 0))),
              (some (28, false), .fadr 36 1 1 (.v 35)),
              (some (28, false), .load 37 false 1 (.v 36) none),
              (some (28, false), .len 38 false (.v 37)),
              (some (28, false), .bin 39 .neq (.v 33) (.v 38)),
              (none, .pick 40 (.v 28) (.c (.bool true)) (.v 39)),
              (none, .mv 41 (.v 40)),
              (some (41, false), .mv 42 (.v 3)),
              (some (41, false), .bin 43 .gtr (.v 42) (.c (.int .i64 0))),
              (some (41, false), .mv 44 (.v 43)),
              (some (44, true), .mv 45 (.v 0)),
              (some (44, true), .mv 46 (.v 3)),
              (some (44, true), .bin 47 .sub (.v 46) (.c (.int .i64 1))),
              (some (44, true), .iadr 48 2 (.v 45) (.v 47)),
              (some (44, true), .fadr 49 0 1 (.v 48)),
              (some (44, true), .load 50 false 1 (.v 49) none),
              (some (44, true), .mv 51 (.v 4)),
              (some (44, true), .nchk 52 (.v 51)),
              (some (44, true), .fadr 53 0 1 (.v 52)),
              (some (44, true), .load 54 false 1 (.v 53) none),
              (some (44, true), .bin 55 .geq (.v 50) (.v 54)),
              (some (41, false), .pick 56 (.v 44) (.v 55) (.c (.bool false))),
              (none, .pick 57 (.v 41) (.c (.bool true)) (.v 56))])
            (.cond (.v 57)
             (.seq
              (.region [] [] [2] false [
                (none, .asg 2 (.c (.bool false)) .copy)])
              (.ret [2]))
             (.skip [0, 3])))))
         (.region [] [] [0, 3] false [
           (none, .mv 9 (.v 3)),
           (none, .bin 10 .add (.v 9) (.c (.int .i64 1))),
           (none, .asg 3 (.v 10) .copy)]))))))
    (.seq
     (.region [(58, 0, false)] [] [2] false [
       (none, .mv 58 (.v 0)),
       (none, .len 59 false (.v 58)),
       (none, .call (some 60) 605 false [((.v 59), false), ((.c (.int .i64 1)), false), ((.c (.int .i64 10)), false)]),
       (none, .asg 2 (.v 60) .copy)])
     (.ret [2]))))⟩
def F437 : PFunc :=
 ⟨[false, false], [.tmp 4, .tmp 5],
  (.seq
   (.region [] [] [0, 1] false [
     (none, .asg 4 (.c (.sl true 1 [])) .copy),
     (none, .asg 5 (.c (.int .i64 0)) .copy)])
   (.seq
    (.seq
     (.region [(10, 0, false)] [] [0, 1, 12] false [
       (none, .mv 10 (.v 0)),
       (none, .call (some 11) 628 false [((.v 10), false)]),
       (none, .un 12 .not (.v 11))])
     (.cond (.v 12)
      (.seq
       (.region [] [] [4, 5] false [
         (none, .asg 4 (.c (.sl true 1 [])) .copy),
         (none, .asg 5 (.c (.int .i64 1)) .copy)])
       (.ret [4, 5]))
      (.skip [0, 1])))
    (.seq
     (.seq
      (.region [] [] [0, 1, 15] false [
        (none, .mv 13 (.v 1)),
        (none, .call (some 14) 605 false [((.v 13), false), ((.c (.int .i64 1)), false), ((.c (.int .i64 10000)), false)]),
        (none, .un 15 .not (.v 14))])
      (.cond (.v 15)
       (.seq
        (.region [] [] [4, 5] false [
          (none, .asg 4 (.c (.sl true 1 [])) .copy),
          (none, .asg 5 (.c (.int .i64 2)) .copy)])
        (.ret [4, 5]))
       (.skip [0, 1])))
     (.seq
      (.region [(18, 0, false), (17, 0, false), (16, 0, false)] [] [0, 1, 6] false [
        (none, .mv 16 (.v 0)),
        (none, .iadr 17 2 (.v 16) (.c (.int .i64 0))),
        (none, .fadr 18 0 1 (.v 17)),
        (none, .load 19 false 1 (.v 18) none),
        (none, .asg 6 (.v 19) .copy)])
      (.seq
       (.region [(25, 0, false), (24, 0, false), (21, 0, false), (20, 0, false)] [] [0, 1, 6, 7] false [
         (none, .mv 20 (.v 0)),
         (none, .mv 21 (.v 0)),
         (none, .len 22 false (.v 21)),
         (none, .bin 23 .sub (.v 22) (.c (.int .i64 1))),
         (none, .iadr 24 2 (.v 20) (.v 23)),
         (none, .fadr 25 0 1 (.v 24)),
         (none, .load 26 false 1 (.v 25) none),
         (none, .asg 7 (.v 26) .copy)])
       (.seq
        (.seq
         (.region [] [] [0, 1, 6, 7, 32] false [
           (none, .mv 27 (.v 7)),
           (none, .mv 28 (.v 6)),
           (none, .bin 29 .sub (.v 27) (.v 28)),
           (none, .mv 30 (.v 1)),
           (none, .bin 31 .quo (.v 29) (.v 30)),
           (none, .bin 32 .geq (.v 31) (.c (.int .i64 100)))])
         (.cond (.v 32)
          (.seq
           (.region [] [] [4, 5] false [
             (none, .asg 4 (.c (.sl true 1 [])) .copy),
             (none, .asg 5 (.c (.int .i64 5)) .copy)])
           (.ret [4, 5]))
          (.skip [0, 1, 6, 7])))
        (.seq
         (.region [] [] [0, 1, 6, 7, 8] false [
           (none, .mksl 33 1 (.sl true 2 []) 0 []),
           (none, .asg 8 (.v 33) .move)])
         (.seq
          (.seq
           (.region [] [] [0, 1, 7, 8, 9] false [
             (none, .mv 34 (.v 6)),
             (none, .asg 9 (.v 34) .copy)])
           (.block 0
            (.loop
             (.seq
              (.seq
               (.region [] [] [0, 1, 7, 8, 9, 37] false [
                 (none, .mv 35 (.v 9)),
                 (none, .mv 36 (.v 7)),
                 (none, .bin 37 .leq (.v 35) (.v 36))])
               (.cond (.v 37)
                (.skip [0, 1, 7, 8, 9])
                (.exit 0 [8])))
              (.seq
               (.block 1
                (.region [(42, 0, false), (41, 8, false)] [] [0, 1, 7, 8, 9] false [
                  (none, .mv 41 (.v 8)),
                  (none, .mv 42 (.v 0)),
                  (none, .mv 43 (.v 9)),
                  (none, .call (some 44) 624 false [((.v 42), false), ((.v 43), false)]),
                  (none, .mksl 45 1 (.sl true 2 []) 1 [(0, (.v 44), .move)]),
                  (none, .app 46 1 (.v 41) (.v 45) .move),
                  (none, .asg 8 (.v 46) .move)]))
               (.region [] [] [0, 1, 7, 8, 9] false [
                 (none, .mv 38 (.v 9)),
                 (none, .mv 39 (.v 1)),
                 (none, .bin 40 .add (.v 38) (.v 39)),
                 (none, .asg 9 (.v 40) .copy)]))))))
          (.seq
           (.region [(47, 8, false)] [] [4, 5] false [
             (none, .mv 47 (.v 8)),
             (none, .asg 4 (.v 47) .move),
             (none, .asg 5 (.c (.int .i64 0)) .copy)])
           (.ret [4, 5]))))))))))⟩
def F5 : PFunc :=
 ⟨[true], [.tmp 2],
  (.seq
   (.region [] [] [0] false [
     (none, .asg 2 (.c (.int .i64 0)) .copy)])
   (.seq
    (.region [] [] [0, 3] false [
      (none, .asg 3 (.c (.int .i64 0)) .copy)])
    (.seq
     (.seq
      (.region [(11, 0, true), (10, 0, false), (9, 0, false), (8, 0, false), (6, 0, false), (5, 0, false), (4, 0, false)] [] [0, 3, 13] true [
        (none, .mvr 4 0),
        (none, .nchk 5 (.v 4)),
        (none, .fadr 6 1 1 (.v 5)),
        (none, .load 7 false 1 (.v 6) none),
        (none, .mvr 8 0),
        (none, .nchk 9 (.v 8)),
        (none, .fadr 10 0 1 (.v 9)),
        (none, .load 11 false 1 (.v 10) none),
        (none, .len 12 false (.v 11)),
        (none, .bin 13 .lss (.v 7) (.v 12))])
      (.cond (.v 13)
       (.region [(22, 0, true), (20, 0, false), (19, 0, false), (18, 0, false), (17, 0, true), (16, 0, false), (15, 0, false), (14, 0, false)] [] [0, 3] true [
         (none, .mvr 14 0),
         (none, .nchk 15 (.v 14)),
         (none, .fadr 16 0 1 (.v 15)),
         (none, .load 17 false 1 (.v 16) none),
         (none, .mvr 18 0),
         (none, .nchk 19 (.v 18)),
         (none, .fadr 20 1 1 (.v 19)),
         (none, .load 21 false 1 (.v 20) none),
         (none, .iadr 22 1 (.v 17) (.v 21)),
         (none, .load 23 false 1 (.v 22) none),
         (none, .conv 24 .i64 (.v 23)),
         (none, .asg 3 (.v 24) .copy)])
       (.skip [0, 3])))
     (.seq
      (.region [(31, 0, false), (30, 0, false), (27, 0, false), (26, 0, false), (25, 0, false)] [] [0, 3] false [
        (none, .mv 25 (.v 0)),
        (none, .nchk 26 (.v 25)),
        (none, .fadr 27 1 1 (.v 26)),
        (none, .load 28 false 1 (.v 27) none),
        (none, .bin 29 .add (.v 28) (.c (.int .i64 1))),
        (none, .nchk 30 (.v 25)),
        (none, .fadr 31 1 1 (.v 30)),
        (none, .store 1 (.v 31) (.v 29) .copy)])
      (.seq
       (.region [(43, 0, false), (42, 0, false), (35, 0, false), (34, 0, false), (33, 0, false), (32, 0, false)] [] [0, 3] false [
         (none, .mv 32 (.v 0)),
         (none, .mv 33 (.v 0)),
         (none, .nchk 34 (.v 33)),
         (none, .fadr 35 2 1 (.v 34)),
         (none, .load 36 false 1 (.v 35) none),
         (none, .bin 37 .mul (.v 36) (.c (.int .u64 6364136223846793005))),
         (none, .mv 38 (.v 3)),
         (none, .conv 39 .u64 (.v 38)),
         (none, .bin 40 .add (.v 37) (.v 39)),
         (none, .bin 41 .add (.v 40) (.c (.int .u64 1442695040888963407))),
         (none, .nchk 42 (.v 32)),
         (none, .fadr 43 2 1 (.v 42)),
         (none, .store 1 (.v 43) (.v 41) .copy)])
       (.seq
        (.seq
         (.region [(51, 0, true), (50, 0, false), (49, 0, false), (48, 0, false), (46, 0, false), (45, 0, false), (44, 0, false)] [] [0, 3, 53] true [
           (none, .mvr 44 0),
           (none, .nchk 45 (.v 44)),
           (none, .fadr 46 1 1 (.v 45)),
           (none, .load 47 false 1 (.v 46) none),
           (none, .mvr 48 0),
           (none, .nchk 49 (.v 48)),
           (none, .fadr 50 0 1 (.v 49)),
           (none, .load 51 false 1 (.v 50) none),
           (none, .len 52 false (.v 51)),
           (none, .bin 53 .leq (.v 47) (.v 52))])
         (.cond (.v 53)
          (.seq
           (.region [] [] [0, 2] false [
             (none, .mv 54 (.v 3)),
             (none, .asg 2 (.v 54) .copy)])
           (.ret [0, 2]))
          (.skip [0])))
        (.seq
         (.region [(57, 0, false), (56, 0, false), (55, 0, false)] [] [0, 2] false [
           (none, .mv 55 (.v 0)),
           (none, .nchk 56 (.v 55)),
           (none, .fadr 57 2 1 (.v 56)),
           (none, .load 58 false 1 (.v 57) none),
           (none, .bin 59 .shr (.v 58) (.c (.int .u64 40))),
           (none, .bin 60 .and (.v 59) (.c (.int .u64 255))),
           (none, .conv 61 .i64 (.v 60)),
           (none, .asg 2 (.v 61) .copy)])
         (.ret [0, 2]))))))))⟩
def F7 : PFunc :=
 ⟨[true, false], [.tmp 4],
  (.seq
   (.region [] [] [0, 1] false [
     (none, .asg 4 (.c (.int .i64 0)) .copy)])
   (.seq
    (.seq
     (.region [] [] [0, 1, 7] false [
       (none, .mv 6 (.v 1)),
       (none, .bin 7 .leq (.v 6) (.c (.int .i64 1)))])
     (.cond (.v 7)
      (.seq
       (.region [] [] [0, 4] false [
         (none, .asg 4 (.c (.int .i64 0)) .copy)])
       (.ret [0, 4]))
      (.skip [0, 1])))
    (.seq
     (.region [(8, 0, false)] [] [0, 1, 5] false [
       (none, .mv 8 (.v 0)),
       (none, .call (some 9) 5 true [((.v 8), true)]),
       (none, .asg 5 (.v 9) .copy)])
     (.seq
      (.seq
       (.region [] [] [0, 1, 5, 11] false [
         (none, .mv 10 (.v 1)),
         (none, .bin 11 .gtr (.v 10) (.c (.int .i64 200)))])
       (.cond (.v 11)
        (.region [(14, 0, false)] [] [0, 1, 5] false [
          (none, .mv 12 (.v 5)),
          (none, .bin 13 .mul (.v 12) (.c (.int .i64 256))),
          (none, .mv 14 (.v 0)),
          (none, .call (some 15) 5 true [((.v 14), true)]),
          (none, .bin 16 .add (.v 13) (.v 15)),
          (none, .asg 5 (.v 16) .copy)])
        (.skip [0, 1, 5])))
      (.seq
       (.region [] [] [0, 4] false [
         (none, .mv 17 (.v 5)),
         (none, .mv 18 (.v 1)),
         (none, .bin 19 .rem (.v 17) (.v 18)),
         (none, .asg 4 (.v 19) .copy)])
       (.ret [0, 4]))))))⟩
def F4 : PFunc :=
 ⟨[true, false], [.tmp 4],
  (.seq
   (.region [] [] [0, 1] false [
     (none, .asg 4 (.c (.int .i64 0)) .copy)])
   (.seq
    (.region [(10, 1, false), (7, 1, false), (6, 0, false), (5, 1, false)] [] [0, 4] false [
      (none, .mv 5 (.v 1)),
      (none, .mv 6 (.v 0)),
      (none, .mv 7 (.v 1)),
      (none, .len 8 false (.v 7)),
      (none, .call (some 9) 7 true [((.v 6), true), ((.v 8), false)]),
      (none, .iadr 10 1 (.v 5) (.v 9)),
      (none, .load 11 false 1 (.v 10) none),
      (none, .asg 4 (.v 11) .copy)])
    (.ret [0, 4])))⟩
def F6 : PFunc :=
 ⟨[true, false], [.tmp 4],
  (.seq
   (.region [] [] [0, 1] false [
     (none, .asg 4 (.c (.bool false)) .copy)])
   (.seq
    (.region [(5, 0, false)] [] [0, 4] false [
      (none, .mv 5 (.v 0)),
      (none, .mv 6 (.v 1)),
      (none, .call (some 7) 7 true [((.v 5), true), ((.v 6), false)]),
      (none, .bin 8 .eql (.v 7) (.c (.int .i64 0))),
      (none, .asg 4 (.v 8) .copy)])
    (.ret [0, 4])))⟩
def F603 : PFunc :=
 ⟨[false], [.tmp 2],
  (.seq
   (.region [] [] [0] false [
     (none, .asg 2 (.c .nilp) .copy)])
   (.seq
    (.region [(3, 0, false)] [] [2] false [
      (none, .mv 3 (.v 0)),
      (none, .build 4 [(.sl false 1 []), (.int .i64 0), (.int .u64 0)] [(0, 1, (.v 3), .move)]),
      (none, .box 5 (.v 4) .move),
      (none, .asg 2 (.v 5) .move)])
    (.ret [2])))⟩
def F629 : PFunc :=
 ⟨[true, false], [.tmp 4],
  (.seq
   (.region [] [] [0, 1] false [
     (none, .asg 4 (.c (.sl true 2 [])) .copy)])
   (.seq
    (.region [] [] [0, 1, 5] false [
      (none, .mksl 8 2 (.agg [(.int .i64 0), (.int .i64 0)]) 0 []),
      (none, .asg 5 (.v 8) .move)])
    (.seq
     (.seq
      (.region [] [] [0, 5, 6] false [
        (none, .mv 9 (.v 1)),
        (none, .asg 6 (.v 9) .copy)])
      (.block 0
       (.loop
        (.seq
         (.seq
          (.region [] [] [0, 5, 6, 11] false [
            (none, .mv 10 (.v 6)),
            (none, .bin 11 .gtr (.v 10) (.c (.int .i64 0)))])
          (.cond (.v 11)
           (.skip [0, 5, 6])
           (.exit 0 [0, 5])))
         (.seq
          (.block 1
           (.seq
            (.region [(14, 0, false)] [] [0, 5, 6, 7] false [
              (none, .mv 14 (.v 0)),
              (none, .call (some 15) 7 true [((.v 14), true), ((.c (.int .i64 60)), false)]),
              (none, .build 16 [(.int .i64 0), (.int .i64 0)] [(0, 1, (.v 15), .copy)]),
              (none, .new 7 (.agg [(.int .i64 0), (.int .i64 0)])),
              (none, .store 2 (.v 7) (.v 16) .copy)])
            (.seq
             (.region [(19, 7, false), (17, 0, false)] [] [0, 5, 6, 7] false [
               (none, .mv 17 (.v 0)),
               (none, .call (some 18) 7 true [((.v 17), true), ((.c (.int .i64 60)), false)]),
               (none, .fadr 19 1 1 (.v 7)),
               (none, .store 1 (.v 19) (.v 18) .copy)])
             (.region [(20, 5, false)] [] [0, 5, 6] false [
               (none, .mv 20 (.v 5)),
               (none, .load 21 true 2 (.v 7) none),
               (none, .mksl 22 2 (.agg [(.int .i64 0), (.int .i64 0)]) 1 [(0, (.v 21), .copy)]),
               (none, .app 23 2 (.v 20) (.v 22) .move),
               (none, .asg 5 (.v 23) .move)]))))
          (.region [] [] [0, 5, 6] false [
            (none, .mv 12 (.v 6)),
            (none, .bin 13 .sub (.v 12) (.c (.int .i64 1))),
            (none, .asg 6 (.v 13) .copy)]))))))
     (.seq
      (.region [(24, 5, false)] [] [0, 4] false [
        (none, .mv 24 (.v 5)),
        (none, .asg 4 (.v 24) .move)])
      (.ret [0, 4])))))⟩
def F625 : PFunc :=
 ⟨[true], [.tmp 2],
  (.seq
   (.region [] [] [0] false [
     (none, .asg 2 (.c (.sl true 2 [])) .copy)])
   (.seq
    (.region [(5, 0, false)] [] [0, 3] false [
      (none, .mv 5 (.v 0)),
      (none, .call (some 6) 7 true [((.v 5), true), ((.c (.int .i64 4)), false)]),
      (none, .bin 7 .add (.c (.int .i64 1)) (.v 6)),
      (none, .asg 3 (.v 7) .copy)])
    (.seq
     (.seq
      (.region [(8, 0, false)] [] [0, 3, 9] false [
        (none, .mv 8 (.v 0)),
        (none, .call (some 9) 6 true [((.v 8), true), ((.c (.int .i64 16)), false)])])
      (.cond (.v 9)
       (.region [(10, 0, false)] [] [0, 3] false [
         (none, .mv 10 (.v 0)),
         (none, .mksl 11 1 (.int .i64 0) 4 [(0, (.c (.int .i64 0)), .copy), (1, (.c (.int .i64 1)), .copy), (2, (.c (.int .i64 8)), .copy), (3, (.c (.int .i64 9)), .copy)]),
         (none, .call (some 12) 4 true [((.v 10), true), ((.v 11), false)]),
         (none, .asg 3 (.v 12) .copy)])
       (.skip [0, 3])))
     (.seq
      (.region [(13, 0, false)] [] [0, 3, 4] false [
        (none, .mv 13 (.v 0)),
        (none, .mv 14 (.v 3)),
        (none, .call (some 15) 629 true [((.v 13), true), ((.v 14), false)]),
        (none, .asg 4 (.v 15) .move)])
      (.seq
       (.seq
        (.region [(19, 0, false)] [] [0, 4, 21] false [
          (none, .mv 16 (.v 3)),
          (none, .bin 17 .gtr (.v 16) (.c (.int .i64 0))),
          (none, .mv 18 (.v 17)),
          (some (18, true), .mv 19 (.v 0)),
          (some (18, true), .call (some 20) 6 true [((.v 19), true), ((.c (.int .i64 12)), false)]),
          (none, .pick 21 (.v 18) (.v 20) (.c (.bool false)))])
        (.cond (.v 21)
         (.region [(27, 4, false), (26, 4, false), (23, 0, false), (22, 4, false)] [] [0, 4] false [
           (none, .mv 22 (.v 4)),
           (none, .mv 23 (.v 0)),
           (none, .mksl 24 1 (.int .i64 0) 5 [(0, (.c (.int .i64 (-1))), .copy), (1, (.c (.int .i64 0)), .copy), (2, (.c (.int .i64 1000)), .copy), (3, (.c (.int .i64 1001)), .copy), (4, (.c (.int .i64 (-9223372036854775808))), .copy)]),
           (none, .call (some 25) 4 true [((.v 23), true), ((.v 24), false)]),
           (none, .iadr 26 2 (.v 22) (.c (.int .i64 0))),
           (none, .fadr 27 0 1 (.v 26)),
           (none, .store 1 (.v 27) (.v 25) .copy)])
         (.skip [0, 4])))
       (.seq
        (.region [(28, 4, false)] [] [0, 2] false [
          (none, .mv 28 (.v 4)),
          (none, .asg 2 (.v 28) .move)])
        (.ret [0, 2])))))))⟩
def F627 : PFunc :=
 ⟨[true], [.tmp 2],
  (.seq
   (.region [] [] [0] false [
     (none, .asg 2 (.c (.sl true 2 [])) .copy)])
   (.seq
    (.region [(10, 0, false)] [] [0, 3] false [
      (none, .mv 10 (.v 0)),
      (none, .call (some 11) 7 true [((.v 10), true), ((.c (.int .i64 3)), false)]),
      (none, .bin 12 .add (.c (.int .i64 1)) (.v 11)),
      (none, .asg 3 (.v 12) .copy)])
    (.seq
     (.region [] [] [0, 3, 4] false [
       (none, .mksl 13 2 (.agg [(.int .i64 0), (.sl false 2 [])]) 0 []),
       (none, .asg 4 (.v 13) .move)])
     (.seq
      (.region [(14, 0, false)] [] [0, 3, 4, 5] false [
        (none, .mv 14 (.v 0)),
        (none, .call (some 15) 7 true [((.v 14), true), ((.c (.int .i64 30)), false)]),
        (none, .asg 5 (.v 15) .copy)])
      (.seq
       (.region [(16, 0, false)] [] [0, 3, 4, 5, 6] false [
         (none, .mv 16 (.v 0)),
         (none, .call (some 17) 7 true [((.v 16), true), ((.c (.int .i64 5)), false)]),
         (none, .bin 18 .add (.c (.int .i64 1)) (.v 17)),
         (none, .asg 6 (.v 18) .copy)])
       (.seq
        (.seq
         (.region [(19, 0, false)] [] [0, 3, 4, 5, 6, 20] false [
           (none, .mv 19 (.v 0)),
           (none, .call (some 20) 6 true [((.v 19), true), ((.c (.int .i64 16)), false)])])
         (.cond (.v 20)
          (.region [(21, 0, false)] [] [0, 3, 4, 5, 6] false [
            (none, .mv 21 (.v 0)),
            (none, .mksl 22 1 (.int .i64 0) 3 [(0, (.c (.int .i64 0)), .copy), (1, (.c (.int .i64 10)), .copy), (2, (.c (.int .i64 11)), .copy)]),
            (none, .call (some 23) 4 true [((.v 21), true), ((.v 22), false)]),
            (none, .asg 6 (.v 23) .copy)])
          (.skip [0, 3, 4, 5, 6])))
        (.seq
         (.seq
          (.region [] [] [0, 3, 4, 5, 6, 7] false [
            (none, .mv 24 (.v 6)),
            (none, .asg 7 (.v 24) .copy)])
          (.block 0
           (.loop
            (.seq
             (.seq
              (.region [] [] [0, 3, 4, 5, 6, 7, 26] false [
                (none, .mv 25 (.v 7)),
                (none, .bin 26 .gtr (.v 25) (.c (.int .i64 0)))])
              (.cond (.v 26)
               (.skip [0, 3, 4, 5, 6, 7])
               (.exit 0 [0, 4, 6])))
             (.seq
              (.block 1
               (.seq
                (.region [(30, 0, false)] [] [0, 3, 4, 5, 6, 7, 8] false [
                  (none, .mv 29 (.v 5)),
                  (none, .mv 30 (.v 0)),
                  (none, .mv 31 (.v 3)),
                  (none, .call (some 32) 629 true [((.v 30), true), ((.v 31), false)]),
                  (none, .build 33 [(.int .i64 0), (.sl true 2 [])] [(0, 1, (.v 29), .copy), (1, 1, (.v 32), .move)]),
                  (none, .new 8 (.agg [(.int .i64 0), (.sl true 2 [])])),
                  (none, .store 2 (.v 8) (.v 33) .move)])
                (.seq
                 (.seq
                  (.region [(38, 0, false), (34, 4, false)] [] [0, 3, 4, 5, 6, 7, 8, 40] false [
                    (none, .mv 34 (.v 4)),
                    (none, .len 35 false (.v 34)),
                    (none, .bin 36 .gtr (.v 35) (.c (.int .i64 0))),
                    (none, .mv 37 (.v 36)),
                    (some (37, true), .mv 38 (.v 0)),
                    (some (37, true), .call (some 39) 6 true [((.v 38), true), ((.c (.int .i64 3)), false)]),
                    (none, .pick 40 (.v 37) (.v 39) (.c (.bool false)))])
                  (.cond (.v 40)
                   (.region [(50, 8, false), (48, 4, true), (47, 4, false), (46, 4, false), (43, 4, false), (42, 4, false)] [] [0, 3, 4, 5, 6, 7, 8] false [
                     (none, .mksl 41 2 (.agg [(.int .i64 0), (.int .i64 0)]) 0 []),
                     (none, .mv 42 (.v 4)),
                     (none, .mv 43 (.v 4)),
                     (none, .len 44 false (.v 43)),
                     (none, .bin 45 .sub (.v 44) (.c (.int .i64 1))),
                     (none, .iadr 46 2 (.v 42) (.v 45)),
                     (none, .fadr 47 1 1 (.v 46)),
                     (none, .load 48 false 1 (.v 47) none),
                     (none, .app 49 2 (.v 41) (.v 48) .freeze),
                     (none, .fadr 50 1 1 (.v 8)),
                     (none, .store 1 (.v 50) (.v 49) .move)])
                   (.skip [0, 3, 4, 5, 6, 7, 8])))
                 (.seq
                  (.region [(51, 4, false)] [] [0, 3, 4, 5, 6, 7] false [
                    (none, .mv 51 (.v 4)),
                    (none, .load 52 true 2 (.v 8) (some .move)),
                    (none, .mksl 53 2 (.agg [(.int .i64 0), (.sl false 2 [])]) 1 [(0, (.v 52), .freeze)]),
                    (none, .app 54 2 (.v 51) (.v 53) .move),
                    (none, .asg 4 (.v 54) .move)])
                  (.region [(56, 0, false)] [] [0, 3, 4, 5, 6, 7] false [
                    (none, .mv 55 (.v 5)),
                    (none, .mv 56 (.v 0)),
                    (none, .call (some 57) 7 true [((.v 56), true), ((.c (.int .i64 12)), false)]),
                    (none, .bin 58 .add (.c (.int .i64 1)) (.v 57)),
                    (none, .bin 59 .add (.v 55) (.v 58)),
                    (none, .asg 5 (.v 59) .copy)])))))
              (.region [] [] [0, 3, 4, 5, 6, 7] false [
                (none, .mv 27 (.v 7)),
                (none, .bin 28 .sub (.v 27) (.c (.int .i64 1))),
                (none, .asg 7 (.v 28) .copy)]))))))
         (.seq
          (.seq
           (.region [] [] [0, 4, 6, 61] false [
             (none, .mv 60 (.v 6)),
             (none, .bin 61 .gtr (.v 60) (.c (.int .i64 0)))])
           (.cond (.v 61)
            (.seq
             (.region [(9, 4, false), (66, 4, false), (63, 0, false), (62, 4, false)] [] [0, 4, 9] false [
               (none, .mv 62 (.v 4)),
               (none, .mv 63 (.v 0)),
               (none, .mv 64 (.v 6)),
               (none, .call (some 65) 7 true [((.v 63), true), ((.v 64), false)]),
               (none, .iadr 66 2 (.v 62) (.v 65)),
               (none, .mv 9 (.v 66))])
             (.seq
              (.region [(67, 0, false), (9, 4, false)] [] [0, 4, 9, 68] false [
                (none, .mv 67 (.v 0)),
                (none, .call (some 68) 7 true [((.v 67), true), ((.c (.int .i64 20)), false)])])
              (.block 2
               (.seq
                (.region [(9, 4, false)] [] [0, 4, 9, 68, 69] false [
                  (none, .bin 70 .eql (.v 68) (.c (.int .i64 0))),
                  (none, .asg 69 (.v 70) .copy)])
                (.cond (.v 69)
                 (.region [(76, 4, false), (75, 4, false), (72, 0, false), (71, 4, false), (9, 4, false)] [] [0, 4] false [
                   (none, .mv 71 (.v 9)),
                   (none, .mv 72 (.v 0)),
                   (none, .mksl 73 1 (.int .i64 0) 4 [(0, (.c (.int .i64 (-1))), .copy), (1, (.c (.int .i64 0)), .copy), (2, (.c (.int .i64 10000)), .copy), (3, (.c (.int .i64 10001)), .copy)]),
                   (none, .call (some 74) 4 true [((.v 72), true), ((.v 73), false)]),
                   (none, .nchk 75 (.v 71)),
                   (none, .fadr 76 0 1 (.v 75)),
                   (none, .store 1 (.v 76) (.v 74) .copy)])
                 (.seq
                  (.region [(9, 4, false)] [] [0, 4, 9, 77] false [
                    (none, .bin 78 .eql (.v 68) (.c (.int .i64 1))),
                    (none, .asg 77 (.v 78) .copy)])
                  (.cond (.v 77)
                   (.region [(83, 4, false), (82, 4, false), (80, 0, false), (79, 4, false), (9, 4, false)] [] [0, 4] false [
                     (none, .mv 79 (.v 9)),
                     (none, .mv 80 (.v 0)),
                     (none, .call (some 81) 625 true [((.v 80), true)]),
                     (none, .nchk 82 (.v 79)),
                     (none, .fadr 83 1 1 (.v 82)),
                     (none, .store 1 (.v 83) (.v 81) .freeze)])
                   (.skip [0, 4]))))))))
            (.skip [0, 4])))
          (.seq
           (.region [(84, 4, false)] [] [0, 2] false [
             (none, .mv 84 (.v 4)),
             (none, .asg 2 (.v 84) .move)])
           (.ret [0, 2]))))))))))⟩
def F454 : PFunc :=
 ⟨[false], [.tmp 2, .tmp 3],
  (.seq
   (.region [] [] [0] false [
     (none, .asg 2 (.c (.sl true 2 [])) .copy),
     (none, .asg 3 (.c (.int .i64 0)) .copy)])
   (.seq
    (.region [(6, 0, false)] [] [4] false [
      (none, .mv 6 (.v 0)),
      (none, .call (some 7) 603 true [((.v 6), false)]),
      (none, .asg 4 (.v 7) .move)])
    (.seq
     (.region [(8, 4, false)] [] [4, 5] false [
       (none, .mv 8 (.v 4)),
       (none, .call (some 9) 627 true [((.v 8), true)]),
       (none, .asg 5 (.v 9) .move)])
     (.seq
      (.seq
       (.region [(13, 5, false), (10, 4, false)] [] [4, 5, 16] false [
         (none, .mv 10 (.v 4)),
         (none, .call (some 11) 6 true [((.v 10), true), ((.c (.int .i64 6)), false)]),
         (none, .mv 12 (.v 11)),
         (some (12, true), .mv 13 (.v 5)),
         (some (12, true), .len 14 false (.v 13)),
         (some (12, true), .bin 15 .gtr (.v 14) (.c (.int .i64 1))),
         (none, .pick 16 (.v 12) (.v 15) (.c (.bool false)))])
       (.cond (.v 16)
        (.seq
         (.region [(30, 5, false), (29, 5, false), (26, 4, false), (23, 5, false), (22, 5, false), (21, 5, false), (18, 5, false), (17, 5, false)] [] [5] true [
           (none, .mvr 17 5),
           (none, .mvr 18 5),
           (none, .len 19 false (.v 18)),
           (none, .bin 20 .sub (.v 19) (.c (.int .i64 1))),
           (none, .mvr 21 5),
           (none, .iadr 22 2 (.v 21) (.c (.int .i64 0))),
           (none, .fadr 23 0 1 (.v 22)),
           (none, .load 24 false 1 (.v 23) none),
           (none, .bin 25 .add (.v 24) (.c (.int .i64 99))),
           (none, .mvr 26 4),
           (none, .call (some 27) 7 true [((.v 26), true), ((.c (.int .i64 3)), false)]),
           (none, .bin 28 .add (.v 25) (.v 27)),
           (none, .iadr 29 2 (.v 17) (.v 20)),
           (none, .fadr 30 0 1 (.v 29)),
           (none, .store 1 (.v 30) (.v 28) .copy)])
         (.seq
          (.region [(31, 5, false)] [] [2, 3] false [
            (none, .mv 31 (.v 5)),
            (none, .asg 2 (.v 31) .move),
            (none, .asg 3 (.c (.int .i64 1)) .copy)])
          (.ret [2, 3])))
        (.skip [4, 5])))
      (.seq
       (.seq
        (.region [(32, 4, false)] [] [4, 5, 33] false [
          (none, .mv 32 (.v 4)),
          (none, .call (some 33) 6 true [((.v 32), true), ((.c (.int .i64 8)), false)])])
        (.cond (.v 33)
         (.seq
          (.region [(35, 4, false), (34, 5, false)] [] [2, 3] false [
            (none, .mv 34 (.v 5)),
            (none, .mv 35 (.v 4)),
            (none, .mksl 36 1 (.int .i64 0) 5 [(0, (.c (.int .i64 (-1))), .copy), (1, (.c (.int .i64 0)), .copy), (2, (.c (.int .i64 1)), .copy), (3, (.c (.int .i64 10000)), .copy), (4, (.c (.int .i64 10001)), .copy)]),
            (none, .call (some 37) 4 true [((.v 35), true), ((.v 36), false)]),
            (none, .asg 2 (.v 34) .move),
            (none, .asg 3 (.v 37) .copy)])
          (.ret [2, 3]))
         (.skip [4, 5])))
       (.seq
        (.region [(39, 4, false), (38, 5, false)] [] [2, 3] false [
          (none, .mv 38 (.v 5)),
          (none, .mv 39 (.v 4)),
          (none, .call (some 40) 7 true [((.v 39), true), ((.c (.int .i64 9)), false)]),
          (none, .bin 41 .add (.c (.int .i64 1)) (.v 40)),
          (none, .asg 2 (.v 38) .move),
          (none, .asg 3 (.v 41) .copy)])
        (.ret [2, 3])))))))⟩
def F485 : PFunc :=
 ⟨[false], [.tmp 2],
  (.seq
   (.region [] [] [0] false [
     (none, .asg 2 (.c (.sl true 2 [])) .copy)])
   (.seq
    (.region [(3, 0, false)] [] [2] false [
      (none, .mv 3 (.v 0)),
      (none, .call (some 4) 603 true [((.v 3), false)]),
      (none, .call (some 5) 627 true [((.v 4), true)]),
      (none, .asg 2 (.v 5) .move)])
    (.ret [2])))⟩
def F500 : PFunc :=
 ⟨[false], [.tmp 2, .tmp 3],
  (.seq
   (.region [] [] [0] false [
     (none, .asg 2 (.c (.sl true 2 [])) .copy),
     (none, .asg 3 (.c (.int .i64 0)) .copy)])
   (.seq
    (.region [(6, 0, false)] [] [4] false [
      (none, .mv 6 (.v 0)),
      (none, .call (some 7) 603 true [((.v 6), false)]),
      (none, .asg 4 (.v 7) .move)])
    (.seq
     (.region [(8, 4, false)] [] [4, 5] false [
       (none, .mv 8 (.v 4)),
       (none, .call (some 9) 627 true [((.v 8), true)]),
       (none, .asg 5 (.v 9) .move)])
     (.seq
      (.seq
       (.region [(10, 4, false)] [] [4, 5, 11] false [
         (none, .mv 10 (.v 4)),
         (none, .call (some 11) 6 true [((.v 10), true), ((.c (.int .i64 8)), false)])])
       (.cond (.v 11)
        (.seq
         (.region [(13, 4, false), (12, 5, false)] [] [2, 3] false [
           (none, .mv 12 (.v 5)),
           (none, .mv 13 (.v 4)),
           (none, .mksl 14 1 (.int .i64 0) 5 [(0, (.c (.int .i64 (-1))), .copy), (1, (.c (.int .i64 0)), .copy), (2, (.c (.int .i64 1)), .copy), (3, (.c (.int .i64 100)), .copy), (4, (.c (.int .i64 101)), .copy)]),
           (none, .call (some 15) 4 true [((.v 13), true), ((.v 14), false)]),
           (none, .asg 2 (.v 12) .move),
           (none, .asg 3 (.v 15) .copy)])
         (.ret [2, 3]))
        (.skip [4, 5])))
      (.seq
       (.region [(17, 4, false), (16, 5, false)] [] [2, 3] false [
         (none, .mv 16 (.v 5)),
         (none, .mv 17 (.v 4)),
         (none, .call (some 18) 7 true [((.v 17), true), ((.c (.int .i64 9)), false)]),
         (none, .bin 19 .add (.c (.int .i64 1)) (.v 18)),
         (none, .asg 2 (.v 16) .move),
         (none, .asg 3 (.v 19) .copy)])
       (.ret [2, 3]))))))⟩
def F561 : PFunc :=
 ⟨[false, false], [.tmp 4],
  (.seq
   (.region [] [] [0, 1] false [
     (none, .asg 4 (.c (.bool false)) .copy)])
   (.seq
    (.seq
     (.region [(8, 1, false), (6, 0, false)] [] [0, 1, 10] false [
       (none, .mv 6 (.v 0)),
       (none, .len 7 false (.v 6)),
       (none, .mv 8 (.v 1)),
       (none, .len 9 false (.v 8)),
       (none, .bin 10 .neq (.v 7) (.v 9))])
     (.cond (.v 10)
      (.seq
       (.region [] [] [4] false [
         (none, .asg 4 (.c (.bool false)) .copy)])
       (.ret [4]))
      (.skip [0, 1])))
    (.seq
     (.seq
      (.region [] [] [0, 1, 5] false [
        (none, .asg 5 (.c (.int .i64 0)) .copy)])
      (.block 0
       (.loop
        (.seq
         (.seq
          (.region [(12, 0, false)] [] [0, 1, 5, 14] false [
            (none, .mv 11 (.v 5)),
            (none, .mv 12 (.v 0)),
            (none, .len 13 false (.v 12)),
            (none, .bin 14 .lss (.v 11) (.v 13))])
          (.cond (.v 14)
           (.skip [0, 1, 5])
           (.exit 0 [])))
         (.seq
          (.block 1
           (.seq
            (.region [(23, 1, false), (21, 1, false), (19, 0, false), (17, 0, false)] [] [0, 1, 5, 25] true [
              (none, .mv 17 (.v 0)),
              (none, .mv 18 (.v 5)),
              (none, .iadr 19 2 (.v 17) (.v 18)),
              (none, .load 20 true 2 (.v 19) none),
              (none, .mv 21 (.v 1)),
              (none, .mv 22 (.v 5)),
              (none, .iadr 23 2 (.v 21) (.v 22)),
              (none, .load 24 true 2 (.v 23) none),
              (none, .eqv 25 true [.i, .i] (.v 20) (.v 24))])
            (.cond (.v 25)
             (.seq
              (.region [] [] [4] false [
                (none, .asg 4 (.c (.bool false)) .copy)])
              (.ret [4]))
             (.skip [0, 1, 5]))))
          (.region [] [] [0, 1, 5] false [
            (none, .mv 15 (.v 5)),
            (none, .bin 16 .add (.v 15) (.c (.int .i64 1))),
            (none, .asg 5 (.v 16) .copy)]))))))
     (.seq
      (.region [] [] [4] false [
        (none, .asg 4 (.c (.bool true)) .copy)])
      (.ret [4])))))⟩
def F550 : PFunc :=
 ⟨[false], [.tmp 2, .tmp 3],
  (.seq
   (.region [] [] [0] false [
     (none, .asg 2 (.c (.sl true 1 [])) .copy),
     (none, .asg 3 (.c (.int .i64 0)) .copy)])
   (.seq
    (.seq
     (.region [(8, 0, false)] [] [0, 10] false [
       (none, .mv 8 (.v 0)),
       (none, .call (some 9) 628 false [((.v 8), false)]),
       (none, .un 10 .not (.v 9))])
     (.cond (.v 10)
      (.seq
       (.region [] [] [2, 3] false [
         (none, .asg 2 (.c (.sl true 1 [])) .copy),
         (none, .asg 3 (.c (.int .i64 1)) .copy)])
       (.ret [2, 3]))
      (.skip [0])))
    (.seq
     (.region [] [] [0, 4] false [
       (none, .mksl 11 1 (.int .i64 0) 0 []),
       (none, .asg 4 (.v 11) .move)])
     (.seq
      (.seq
       (.region [] [] [0, 4, 5] false [
         (none, .asg 5 (.c (.int .i64 1)) .copy)])
       (.block 0
        (.loop
         (.seq
          (.seq
           (.region [(14, 0, false)] [] [0, 4, 5, 16] false [
             (none, .mv 12 (.v 5)),
             (none, .bin 13 .add (.v 12) (.c (.int .i64 1))),
             (none, .mv 14 (.v 0)),
             (none, .len 15 false (.v 14)),
             (none, .bin 16 .lss (.v 13) (.v 15))])
           (.cond (.v 16)
            (.skip [0, 4, 5])
            (.exit 0 [4])))
          (.seq
           (.block 1
            (.seq
             (.region [(22, 0, false), (19, 0, false)] [] [0, 4, 5, 6] false [
               (none, .mv 19 (.v 0)),
               (none, .mv 20 (.v 5)),
               (none, .bin 21 .sub (.v 20) (.c (.int .i64 1))),
               (none, .iadr 22 2 (.v 19) (.v 21)),
               (none, .asg 6 (.v 22) .freeze)])
             (.seq
              (.region [(26, 0, false), (23, 0, false)] [] [0, 4, 5, 6, 7] false [
                (none, .mv 23 (.v 0)),
                (none, .mv 24 (.v 5)),
                (none, .bin 25 .add (.v 24) (.c (.int .i64 1))),
                (none, .iadr 26 2 (.v 23) (.v 25)),
                (none, .asg 7 (.v 26) .freeze)])
              (.seq
               (.region [(56, 6, false), (55, 6, false), (54, 6, false), (52, 7, false), (51, 7, false), (50, 7, false), (47, 6, false), (46, 6, false), (45, 6, false), (43, 0, false), (42, 0, false), (40, 0, false), (39, 7, true), (38, 7, false), (37, 7, false), (36, 7, false), (35, 6, true), (34, 6, false), (33, 6, false), (32, 6, false), (31, 0, true), (30, 0, false), (29, 0, false), (27, 0, false)] [] [0, 4, 5, 60] true [
                 (none, .mv 27 (.v 0)),
                 (none, .mv 28 (.v 5)),
                 (none, .iadr 29 2 (.v 27) (.v 28)),
                 (none, .fadr 30 1 1 (.v 29)),
                 (none, .load 31 false 1 (.v 30) none),
                 (none, .mv 32 (.v 6)),
                 (none, .nchk 33 (.v 32)),
                 (none, .fadr 34 1 1 (.v 33)),
                 (none, .load 35 false 1 (.v 34) none),
                 (none, .mv 36 (.v 7)),
                 (none, .nchk 37 (.v 36)),
                 (none, .fadr 38 1 1 (.v 37)),
                 (none, .load 39 false 1 (.v 38) none),
                 (none, .mv 40 (.v 0)),
                 (none, .mv 41 (.v 5)),
                 (none, .iadr 42 2 (.v 40) (.v 41)),
                 (none, .fadr 43 0 1 (.v 42)),
                 (none, .load 44 false 1 (.v 43) none),
                 (none, .mv 45 (.v 6)),
                 (none, .nchk 46 (.v 45)),
                 (none, .fadr 47 0 1 (.v 46)),
                 (none, .load 48 false 1 (.v 47) none),
                 (none, .bin 49 .sub (.v 44) (.v 48)),
                 (none, .mv 50 (.v 7)),
                 (none, .nchk 51 (.v 50)),
                 (none, .fadr 52 0 1 (.v 51)),
                 (none, .load 53 false 1 (.v 52) none),
                 (none, .mv 54 (.v 6)),
                 (none, .nchk 55 (.v 54)),
                 (none, .fadr 56 0 1 (.v 55)),
                 (none, .load 57 false 1 (.v 56) none),
                 (none, .bin 58 .sub (.v 53) (.v 57)),
                 (none, .call (some 59) 626 false [((.v 35), false), ((.v 39), false), ((.v 49), false), ((.v 58), false)]),
                 (none, .call (some 60) 561 false [((.v 31), false), ((.v 59), false)])])
               (.cond (.v 60)
                (.region [(61, 4, false)] [] [0, 4, 5] false [
                  (none, .mv 61 (.v 4)),
                  (none, .mv 62 (.v 5)),
                  (none, .mksl 63 1 (.int .i64 0) 1 [(0, (.v 62), .copy)]),
                  (none, .app 64 1 (.v 61) (.v 63) .move),
                  (none, .asg 4 (.v 64) .move)])
                (.skip [0, 4, 5]))))))
           (.region [] [] [0, 4, 5] false [
             (none, .mv 17 (.v 5)),
             (none, .bin 18 .add (.v 17) (.c (.int .i64 1))),
             (none, .asg 5 (.v 18) .copy)]))))))
      (.seq
       (.region [(65, 4, false)] [] [2, 3] false [
         (none, .mv 65 (.v 4)),
         (none, .asg 2 (.v 65) .move),
         (none, .asg 3 (.c (.int .i64 0)) .copy)])
       (.ret [2, 3]))))))⟩
def F576 : PFunc :=
 ⟨[false, false], [.tmp 4, .tmp 5],
  (.seq
   (.region [] [] [0, 1] false [
     (none, .asg 4 (.c (.sl true 2 [])) .copy),
     (none, .asg 5 (.c (.int .i64 0)) .copy)])
   (.seq
    (.seq
     (.region [(9, 0, false)] [] [0, 1, 11] false [
       (none, .mv 9 (.v 0)),
       (none, .call (some 10) 628 false [((.v 9), false)]),
       (none, .un 11 .not (.v 10))])
     (.cond (.v 11)
      (.seq
       (.region [] [] [4, 5] false [
         (none, .asg 4 (.c (.sl true 2 [])) .copy),
         (none, .asg 5 (.c (.int .i64 1)) .copy)])
       (.ret [4, 5]))
      (.skip [0, 1])))
    (.seq
     (.seq
      (.region [] [] [0, 1, 14] false [
        (none, .mv 12 (.v 1)),
        (none, .call (some 13) 605 false [((.v 12), false), ((.c (.int .i64 1)), false), ((.c (.int .i64 100)), false)]),
        (none, .un 14 .not (.v 13))])
      (.cond (.v 14)
       (.seq
        (.region [] [] [4, 5] false [
          (none, .asg 4 (.c (.sl true 2 [])) .copy),
          (none, .asg 5 (.c (.int .i64 2)) .copy)])
        (.ret [4, 5]))
       (.skip [0, 1])))
     (.seq
      (.region [] [] [0, 1, 6] false [
        (none, .mksl 15 2 (.agg [(.int .i64 0), (.sl true 2 [])]) 0 []),
        (none, .asg 6 (.v 15) .move)])
      (.seq
       (.seq
        (.region [] [] [0, 1, 6, 7] false [
          (none, .asg 7 (.c (.int .i64 0)) .copy)])
        (.block 0
         (.loop
          (.seq
           (.seq
            (.region [(17, 0, false)] [] [0, 1, 6, 7, 19] false [
              (none, .mv 16 (.v 7)),
              (none, .mv 17 (.v 0)),
              (none, .len 18 false (.v 17)),
              (none, .bin 19 .lss (.v 16) (.v 18))])
            (.cond (.v 19)
             (.skip [0, 1, 6, 7])
             (.exit 0 [6])))
           (.seq
            (.block 1
             (.seq
              (.region [(34, 0, false), (33, 0, false), (32, 0, false), (30, 0, false), (29, 0, false), (27, 0, false), (24, 0, false), (23, 0, false), (22, 0, false)] [] [0, 1, 6, 7, 8] true [
                (none, .mv 22 (.v 0)),
                (none, .iadr 23 2 (.v 22) (.c (.int .i64 0))),
                (none, .fadr 24 0 1 (.v 23)),
                (none, .load 25 false 1 (.v 24) none),
                (none, .mv 26 (.v 1)),
                (none, .mv 27 (.v 0)),
                (none, .mv 28 (.v 7)),
                (none, .iadr 29 2 (.v 27) (.v 28)),
                (none, .fadr 30 0 1 (.v 29)),
                (none, .load 31 false 1 (.v 30) none),
                (none, .mv 32 (.v 0)),
                (none, .iadr 33 2 (.v 32) (.c (.int .i64 0))),
                (none, .fadr 34 0 1 (.v 33)),
                (none, .load 35 false 1 (.v 34) none),
                (none, .bin 36 .sub (.v 31) (.v 35)),
                (none, .bin 37 .mul (.v 26) (.v 36)),
                (none, .bin 38 .add (.v 25) (.v 37)),
                (none, .asg 8 (.v 38) .copy)])
              (.region [(46, 0, true), (45, 0, false), (44, 0, false), (42, 0, false), (39, 6, false)] [] [0, 1, 6, 7] false [
                (none, .mv 39 (.v 6)),
                (none, .mv 40 (.v 8)),
                (none, .mksl 41 2 (.agg [(.int .i64 0), (.int .i64 0)]) 0 []),
                (none, .mv 42 (.v 0)),
                (none, .mv 43 (.v 7)),
                (none, .iadr 44 2 (.v 42) (.v 43)),
                (none, .fadr 45 1 1 (.v 44)),
                (none, .load 46 false 1 (.v 45) none),
                (none, .app 47 2 (.v 41) (.v 46) .freeze),
                (none, .build 48 [(.int .i64 0), (.sl true 2 [])] [(0, 1, (.v 40), .copy), (1, 1, (.v 47), .move)]),
                (none, .mksl 49 2 (.agg [(.int .i64 0), (.sl true 2 [])]) 1 [(0, (.v 48), .move)]),
                (none, .app 50 2 (.v 39) (.v 49) .move),
                (none, .asg 6 (.v 50) .move)])))
            (.region [] [] [0, 1, 6, 7] false [
              (none, .mv 20 (.v 7)),
              (none, .bin 21 .add (.v 20) (.c (.int .i64 1))),
              (none, .asg 7 (.v 21) .copy)]))))))
       (.seq
        (.seq
         (.region [(51, 6, false)] [] [6, 53] false [
           (none, .mv 51 (.v 6)),
           (none, .call (some 52) 628 false [((.v 51), false)]),
           (none, .un 53 .not (.v 52))])
         (.cond (.v 53)
          (.seq
           (.region [] [] [4, 5] false [
             (none, .asg 4 (.c (.sl true 2 [])) .copy),
             (none, .asg 5 (.c (.int .i64 5)) .copy)])
           (.ret [4, 5]))
          (.skip [6])))
        (.seq
         (.region [(54, 6, false)] [] [4, 5] false [
           (none, .mv 54 (.v 6)),
           (none, .asg 4 (.v 54) .move),
           (none, .asg 5 (.c (.int .i64 0)) .copy)])
         (.ret [4, 5]))))))))⟩
def F356 : PFunc :=
 ⟨[false], [.tmp 2],
  (.seq
   (.region [] [] [0] false [
     (none, .asg 2 (.c (.bool false)) .copy)])
   (.seq
    (.seq
     (.region [(25, 0, false)] [] [0, 26] false [
       (none, .mv 25 (.v 0)),
       (none, .call (some 26) 398 false [((.v 25), false)])])
     (.cond (.v 26)
      (.seq
       (.region [] [] [2] false [
         (none, .asg 2 (.c (.bool true)) .copy)])
       (.ret [2]))
      (.skip [0])))
    (.seq
     (.region [(28, 0, false)] [] [0, 3, 4] false [
       (none, .mv 28 (.v 0)),
       (none, .call (some 29) 454 true [((.v 28), false)]),
       (none, .asg 27 (.v 29) .move),
       (none, .ext 30 (.v 27) 0),
       (none, .extp 31 (.v 27) 1),
       (none, .asg 3 (.v 30) .move),
       (none, .asg 4 (.v 31) .copy)])
     (.seq
      (.region [(33, 3, false)] [] [0, 3, 4, 5, 6] false [
        (none, .mv 33 (.v 3)),
        (none, .mv 34 (.v 4)),
        (none, .call (some 35) 41 false [((.v 33), false), ((.v 34), false)]),
        (none, .asg 32 (.v 35) .move),
        (none, .ext 36 (.v 32) 0),
        (none, .extp 37 (.v 32) 1),
        (none, .asg 5 (.v 36) .move),
        (none, .asg 6 (.v 37) .copy)])
      (.seq
       (.region [(39, 3, false)] [] [0, 3, 4, 5, 6, 7, 8] false [
         (none, .mv 39 (.v 3)),
         (none, .mv 40 (.v 4)),
         (none, .call (some 41) 437 false [((.v 39), false), ((.v 40), false)]),
         (none, .asg 38 (.v 41) .move),
         (none, .ext 42 (.v 38) 0),
         (none, .extp 43 (.v 38) 1),
         (none, .asg 7 (.v 42) .move),
         (none, .asg 8 (.v 43) .copy)])
       (.seq
        (.region [(45, 0, false)] [] [0, 3, 4, 5, 6, 7, 8, 9, 10] false [
          (none, .mv 45 (.v 0)),
          (none, .call (some 46) 500 true [((.v 45), false)]),
          (none, .asg 44 (.v 46) .move),
          (none, .ext 47 (.v 44) 0),
          (none, .extp 48 (.v 44) 1),
          (none, .asg 9 (.v 47) .move),
          (none, .asg 10 (.v 48) .copy)])
        (.seq
         (.region [(50, 9, false)] [] [0, 3, 4, 5, 6, 7, 8, 9, 10, 11, 12] false [
           (none, .mv 50 (.v 9)),
           (none, .mv 51 (.v 10)),
           (none, .call (some 52) 191 false [((.v 50), false), ((.v 51), false)]),
           (none, .asg 49 (.v 52) .move),
           (none, .ext 53 (.v 49) 0),
           (none, .extp 54 (.v 49) 1),
           (none, .asg 11 (.v 53) .move),
           (none, .asg 12 (.v 54) .copy)])
         (.seq
          (.region [(56, 9, false)] [] [0, 3, 4, 5, 6, 7, 8, 9, 11, 12, 13, 14] false [
            (none, .mv 56 (.v 9)),
            (none, .mv 57 (.v 10)),
            (none, .call (some 58) 576 false [((.v 56), false), ((.v 57), false)]),
            (none, .asg 55 (.v 58) .move),
            (none, .ext 59 (.v 55) 0),
            (none, .extp 60 (.v 55) 1),
            (none, .asg 13 (.v 59) .move),
            (none, .asg 14 (.v 60) .copy)])
          (.seq
           (.region [(61, 0, false)] [] [3, 4, 5, 6, 7, 8, 9, 11, 12, 13, 14, 15] false [
             (none, .mv 61 (.v 0)),
             (none, .call (some 62) 485 true [((.v 61), false)]),
             (none, .asg 15 (.v 62) .move)])
           (.seq
            (.region [(64, 15, false)] [] [3, 4, 5, 6, 7, 8, 9, 11, 12, 13, 14, 15, 16, 17] false [
              (none, .mv 64 (.v 15)),
              (none, .call (some 65) 154 false [((.v 64), false)]),
              (none, .asg 63 (.v 65) .move),
              (none, .ext 66 (.v 63) 0),
              (none, .extp 67 (.v 63) 1),
              (none, .asg 16 (.v 66) .move),
              (none, .asg 17 (.v 67) .copy)])
            (.seq
             (.region [(69, 15, false)] [] [3, 4, 5, 6, 7, 8, 9, 11, 12, 13, 14, 15, 16, 17, 18, 19] false [
               (none, .mv 69 (.v 15)),
               (none, .call (some 70) 550 false [((.v 69), false)]),
               (none, .asg 68 (.v 70) .move),
               (none, .ext 71 (.v 68) 0),
               (none, .extp 72 (.v 68) 1),
               (none, .asg 18 (.v 71) .move),
               (none, .asg 19 (.v 72) .copy)])
             (.seq
              (.seq
               (.region [(102, 18, false), (101, 16, false), (91, 13, false), (89, 11, false), (79, 7, false), (77, 5, false)] [] [3, 4, 5, 6, 7, 9, 11, 13, 15, 18, 105] false [
                 (none, .mv 73 (.v 6)),
                 (none, .mv 74 (.v 8)),
                 (none, .bin 75 .neq (.v 73) (.v 74)),
                 (none, .mv 76 (.v 75)),
                 (some (76, false), .mv 77 (.v 5)),
                 (some (76, false), .len 78 false (.v 77)),
                 (some (76, false), .mv 79 (.v 7)),
                 (some (76, false), .len 80 false (.v 79)),
                 (some (76, false), .bin 81 .neq (.v 78) (.v 80)),
                 (none, .pick 82 (.v 76) (.c (.bool true)) (.v 81)),
                 (none, .mv 83 (.v 82)),
                 (some (83, false), .mv 84 (.v 12)),
                 (some (83, false), .mv 85 (.v 14)),
                 (some (83, false), .bin 86 .neq (.v 84) (.v 85)),
                 (none, .pick 87 (.v 83) (.c (.bool true)) (.v 86)),
                 (none, .mv 88 (.v 87)),
                 (some (88, false), .mv 89 (.v 11)),
                 (some (88, false), .len 90 false (.v 89)),
                 (some (88, false), .mv 91 (.v 13)),
                 (some (88, false), .len 92 false (.v 91)),
                 (some (88, false), .bin 93 .neq (.v 90) (.v 92)),
                 (none, .pick 94 (.v 88) (.c (.bool true)) (.v 93)),
                 (none, .mv 95 (.v 94)),
                 (some (95, false), .mv 96 (.v 17)),
                 (some (95, false), .mv 97 (.v 19)),
                 (some (95, false), .bin 98 .neq (.v 96) (.v 97)),
                 (none, .pick 99 (.v 95) (.c (.bool true)) (.v 98)),
                 (none, .mv 100 (.v 99)),
                 (some (100, false), .mv 101 (.v 16)),
                 (some (100, false), .mv 102 (.v 18)),
                 (some (100, false), .call (some 103) 400 false [((.v 101), false), ((.v 102), false)]),
                 (some (100, false), .un 104 .not (.v 103)),
                 (none, .pick 105 (.v 100) (.c (.bool true)) (.v 104))])
               (.cond (.v 105)
                (.seq
                 (.region [] [] [2] false [
                   (none, .asg 2 (.c (.bool false)) .copy)])
                 (.ret [2]))
                (.skip [3, 4, 5, 6, 7, 9, 11, 13, 15, 18])))
              (.seq
               (.seq
                (.region [] [] [3, 4, 5, 6, 7, 9, 11, 13, 15, 18, 20] false [
                  (none, .asg 20 (.c (.int .i64 0)) .copy)])
                (.block 0
                 (.loop
                  (.seq
                   (.seq
                    (.region [(107, 13, false)] [] [3, 4, 5, 6, 7, 9, 11, 13, 15, 18, 20, 109] false [
                      (none, .mv 106 (.v 20)),
                      (none, .mv 107 (.v 13)),
                      (none, .len 108 false (.v 107)),
                      (none, .bin 109 .lss (.v 106) (.v 108))])
                    (.cond (.v 109)
                     (.skip [3, 4, 5, 6, 7, 9, 11, 13, 15, 18, 20])
                     (.exit 0 [3, 4, 5, 6, 7, 15, 18])))
                   (.seq
                    (.block 1
                     (.seq
                      (.region [(147, 9, true), (146, 9, false), (145, 9, false), (143, 9, false), (142, 13, true), (141, 13, false), (140, 13, false), (138, 13, false), (133, 13, true), (132, 13, false), (131, 13, false), (129, 13, false), (128, 11, true), (127, 11, false), (126, 11, false), (124, 11, false), (120, 13, false), (119, 13, false), (117, 13, false), (115, 11, false), (114, 11, false), (112, 11, false)] [] [3, 4, 5, 6, 7, 9, 11, 13, 15, 18, 20, 150] true [
                        (none, .mvr 112 11),
                        (none, .mv 113 (.v 20)),
                        (none, .iadr 114 2 (.v 112) (.v 113)),
                        (none, .fadr 115 0 1 (.v 114)),
                        (none, .load 116 false 1 (.v 115) none),
                        (none, .mvr 117 13),
                        (none, .mv 118 (.v 20)),
                        (none, .iadr 119 2 (.v 117) (.v 118)),
                        (none, .fadr 120 0 1 (.v 119)),
                        (none, .load 121 false 1 (.v 120) none),
                        (none, .bin 122 .neq (.v 116) (.v 121)),
                        (none, .mv 123 (.v 122)),
                        (some (123, false), .mvr 124 11),
                        (some (123, false), .mv 125 (.v 20)),
                        (some (123, false), .iadr 126 2 (.v 124) (.v 125)),
                        (some (123, false), .fadr 127 1 1 (.v 126)),
                        (some (123, false), .load 128 false 1 (.v 127) none),
                        (some (123, false), .mvr 129 13),
                        (some (123, false), .mv 130 (.v 20)),
                        (some (123, false), .iadr 131 2 (.v 129) (.v 130)),
                        (some (123, false), .fadr 132 1 1 (.v 131)),
                        (some (123, false), .load 133 false 1 (.v 132) none),
                        (some (123, false), .call (some 134) 561 false [((.v 128), false), ((.v 133), false)]),
                        (some (123, false), .un 135 .not (.v 134)),
                        (none, .pick 136 (.v 123) (.c (.bool true)) (.v 135)),
                        (none, .mv 137 (.v 136)),
                        (some (137, false), .mvr 138 13),
                        (some (137, false), .mv 139 (.v 20)),
                        (some (137, false), .iadr 140 2 (.v 138) (.v 139)),
                        (some (137, false), .fadr 141 1 1 (.v 140)),
                        (some (137, false), .load 142 false 1 (.v 141) none),
                        (some (137, false), .mvr 143 9),
                        (some (137, false), .mv 144 (.v 20)),
                        (some (137, false), .iadr 145 2 (.v 143) (.v 144)),
                        (some (137, false), .fadr 146 1 1 (.v 145)),
                        (some (137, false), .load 147 false 1 (.v 146) none),
                        (some (137, false), .call (some 148) 561 false [((.v 142), false), ((.v 147), false)]),
                        (some (137, false), .un 149 .not (.v 148)),
                        (none, .pick 150 (.v 137) (.c (.bool true)) (.v 149))])
                      (.cond (.v 150)
                       (.seq
                        (.region [] [] [2] false [
                          (none, .asg 2 (.c (.bool false)) .copy)])
                        (.ret [2]))
                       (.skip [3, 4, 5, 6, 7, 9, 11, 13, 15, 18, 20]))))
                    (.region [] [] [3, 4, 5, 6, 7, 9, 11, 13, 15, 18, 20] false [
                      (none, .mv 110 (.v 20)),
                      (none, .bin 111 .add (.v 110) (.c (.int .i64 1))),
                      (none, .asg 20 (.v 111) .copy)]))))))
               (.seq
                (.seq
                 (.region [] [] [3, 4, 5, 6, 7, 15, 18, 21] false [
                   (none, .asg 21 (.c (.int .i64 0)) .copy)])
                 (.block 2
                  (.loop
                   (.seq
                    (.seq
                     (.region [(152, 18, false)] [] [3, 4, 5, 6, 7, 15, 18, 21, 154] false [
                       (none, .mv 151 (.v 21)),
                       (none, .mv 152 (.v 18)),
                       (none, .len 153 false (.v 152)),
                       (none, .bin 154 .lss (.v 151) (.v 153))])
                     (.cond (.v 154)
                      (.skip [3, 4, 5, 6, 7, 15, 18, 21])
                      (.exit 2 [3, 4, 5, 6, 7])))
                    (.seq
                     (.block 3
                      (.seq
                       (.region [(168, 15, false), (165, 18, false), (163, 18, false), (159, 18, false), (157, 18, false)] [] [3, 4, 5, 6, 7, 15, 18, 21, 171] false [
                         (none, .mv 157 (.v 18)),
                         (none, .mv 158 (.v 21)),
                         (none, .iadr 159 1 (.v 157) (.v 158)),
                         (none, .load 160 false 1 (.v 159) none),
                         (none, .bin 161 .lss (.v 160) (.c (.int .i64 1))),
                         (none, .mv 162 (.v 161)),
                         (some (162, false), .mv 163 (.v 18)),
                         (some (162, false), .mv 164 (.v 21)),
                         (some (162, false), .iadr 165 1 (.v 163) (.v 164)),
                         (some (162, false), .load 166 false 1 (.v 165) none),
                         (some (162, false), .bin 167 .add (.v 166) (.c (.int .i64 1))),
                         (some (162, false), .mv 168 (.v 15)),
                         (some (162, false), .len 169 false (.v 168)),
                         (some (162, false), .bin 170 .geq (.v 167) (.v 169)),
                         (none, .pick 171 (.v 162) (.c (.bool true)) (.v 170))])
                       (.cond (.v 171)
                        (.seq
                         (.region [] [] [2] false [
                           (none, .asg 2 (.c (.bool false)) .copy)])
                         (.ret [2]))
                        (.skip [3, 4, 5, 6, 7, 15, 18, 21]))))
                     (.region [] [] [3, 4, 5, 6, 7, 15, 18, 21] false [
                       (none, .mv 155 (.v 21)),
                       (none, .bin 156 .add (.v 155) (.c (.int .i64 1))),
                       (none, .asg 21 (.v 156) .copy)]))))))
                (.seq
                 (.seq
                  (.region [] [] [3, 4, 5, 7, 173] false [
                    (none, .mv 172 (.v 6)),
                    (none, .bin 173 .neq (.v 172) (.c (.int .i64 0)))])
                  (.cond (.v 173)
                   (.seq
                    (.region [] [] [2] false [
                      (none, .asg 2 (.c (.bool true)) .copy)])
                    (.ret [2]))
                   (.skip [3, 4, 5, 7])))
                 (.seq
                  (.seq
                   (.region [] [] [3, 4, 5, 7, 22] false [
                     (none, .asg 22 (.c (.int .i64 0)) .copy)])
                   (.block 4
                    (.loop
                     (.seq
                      (.seq
                       (.region [(175, 7, false)] [] [3, 4, 5, 7, 22, 177] false [
                         (none, .mv 174 (.v 22)),
                         (none, .mv 175 (.v 7)),
                         (none, .len 176 false (.v 175)),
                         (none, .bin 177 .lss (.v 174) (.v 176))])
                       (.cond (.v 177)
                        (.skip [3, 4, 5, 7, 22])
                        (.exit 4 [])))
                      (.seq
                       (.block 5
                        (.seq
                         (.region [(184, 3, false), (183, 3, false), (182, 3, false), (181, 3, false)] [] [3, 4, 5, 7, 22, 23, 24] false [
                           (none, .mv 181 (.v 3)),
                           (none, .mv 182 (.v 3)),
                           (none, .iadr 183 2 (.v 182) (.c (.int .i64 0))),
                           (none, .fadr 184 0 1 (.v 183)),
                           (none, .load 185 false 1 (.v 184) none),
                           (none, .mv 186 (.v 22)),
                           (none, .mv 187 (.v 4)),
                           (none, .bin 188 .mul (.v 186) (.v 187)),
                           (none, .bin 189 .add (.v 185) (.v 188)),
                           (none, .call (some 190) 163 false [((.v 181), false), ((.v 189), false)]),
                           (none, .asg 180 (.v 190) .move),
                           (none, .ext 191 (.v 180) 0),
                           (none, .extp 192 (.v 180) 1),
                           (none, .asg 23 (.v 191) .move),
                           (none, .asg 24 (.v 192) .copy)])
                         (.seq
                          (.region [(212, 7, true), (211, 7, false), (209, 7, false), (208, 23, false), (200, 7, true), (199, 7, false), (197, 7, false), (196, 5, true), (195, 5, false), (193, 5, false)] [] [3, 4, 5, 7, 22, 215] true [
                            (none, .mvr 193 5),
                            (none, .mv 194 (.v 22)),
                            (none, .iadr 195 1 (.v 193) (.v 194)),
                            (none, .load 196 false 1 (.v 195) none),
                            (none, .mvr 197 7),
                            (none, .mv 198 (.v 22)),
                            (none, .iadr 199 1 (.v 197) (.v 198)),
                            (none, .load 200 false 1 (.v 199) none),
                            (none, .call (some 201) 561 false [((.v 196), false), ((.v 200), false)]),
                            (none, .un 202 .not (.v 201)),
                            (none, .mv 203 (.v 202)),
                            (some (203, false), .mv 204 (.v 24)),
                            (some (203, false), .bin 205 .neq (.v 204) (.c (.int .i64 0))),
                            (none, .pick 206 (.v 203) (.c (.bool true)) (.v 205)),
                            (none, .mv 207 (.v 206)),
                            (some (207, false), .mvr 208 23),
                            (some (207, false), .mvr 209 7),
                            (some (207, false), .mv 210 (.v 22)),
                            (some (207, false), .iadr 211 1 (.v 209) (.v 210)),
                            (some (207, false), .load 212 false 1 (.v 211) none),
                            (some (207, false), .call (some 213) 561 false [((.v 208), false), ((.v 212), false)]),
                            (some (207, false), .un 214 .not (.v 213)),
                            (none, .pick 215 (.v 207) (.c (.bool true)) (.v 214))])
                          (.cond (.v 215)
                           (.seq
                            (.region [] [] [2] false [
                              (none, .asg 2 (.c (.bool false)) .copy)])
                            (.ret [2]))
                           (.skip [3, 4, 5, 7, 22])))))
                       (.region [] [] [3, 4, 5, 7, 22] false [
                         (none, .mv 178 (.v 22)),
                         (none, .bin 179 .add (.v 178) (.c (.int .i64 1))),
                         (none, .asg 22 (.v 179) .copy)]))))))
                  (.seq
                   (.region [] [] [2] false [
                     (none, .asg 2 (.c (.bool true)) .copy)])
                   (.ret [2]))))))))))))))))))⟩
def tabl : List (Nat × PFunc) := [(326, F326), (226, F226), (826, F826), (804, F804), (225, F225), (216, F216), (301, F301), (251, F251), (297, F297), (41, F41), (813, F813), (154, F154), (163, F163), (191, F191), (398, F398), (400, F400), (605, F605), (602, F602), (610, F610), (626, F626), (624, F624), (630, F630), (628, F628), (437, F437), (5, F5), (7, F7), (4, F4), (6, F6), (603, F603), (629, F629), (625, F625), (627, F627), (454, F454), (485, F485), (500, F500), (561, F561), (550, F550), (576, F576), (356, F356)]
def T : Nat → Option PFunc := tabOf tabl
end Go.Vs.G
