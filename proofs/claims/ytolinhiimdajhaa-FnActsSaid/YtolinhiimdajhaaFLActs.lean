/- The functions that the law reaches, in the small language, printed by program. No conditions. -/
import Derived.Test.YtolinhiimdajhaaDLActs
import Derived.Test.YtolinhiimdajhaaV4
set_option maxRecDepth 100000
open Go Go.Vs
namespace Go.Vs.G
def F156 : PFunc :=
 ⟨[false, false], [.tmp 3],
  (.seq
   (.region [] [] [1, 2] false [
     (none, .box 2 (.v 0) .copy),
     (none, .asg 3 (.c (.bool false)) .copy)])
   (.seq
    (.region [(9, 2, false), (4, 2, false)] [] [3] false [
      (none, .fadr 4 2 1 (.v 2)),
      (none, .load 5 false 1 (.v 4) none),
      (none, .load 6 false 1 (.v 1) none),
      (none, .bin 7 .eql (.v 5) (.v 6)),
      (none, .mv 8 (.v 7)),
      (some (8, true), .fadr 9 1 1 (.v 2)),
      (some (8, true), .load 10 false 1 (.v 9) none),
      (some (8, true), .bin 11 .eql (.v 10) (.c (.str [115, 104, 111, 119]))),
      (none, .pick 12 (.v 8) (.v 11) (.c (.bool false))),
      (none, .asg 3 (.v 12) .copy)])
    (.ret [3])))⟩
def F832 : PFunc :=
 ⟨[false, false], [.tmp 4],
  (.seq
   (.region [] [] [0, 1] false [
     (none, .asg 4 (.c (.int .i64 0)) .copy)])
   (.seq
    (.seq
     (.region [(6, 0, false)] [] [0, 1, 7, 8] false [
       (none, .mv 6 (.v 0)),
       (none, .len 7 false (.v 6)),
       (none, .mv 8 (.c (.int .i64 0)))])
     (.block 0
      (.loop
       (.seq
        (.region [] [] [0, 1, 7, 8, 9] false [
          (none, .bin 9 .lss (.v 8) (.v 7))])
        (.seq
         (.cond (.v 9)
          (.skip [0, 1, 7, 8])
          (.exit 0 []))
         (.seq
          (.block 1
           (.seq
            (.region [] [] [0, 1, 5, 7, 8] false [
              (none, .mv 10 (.v 8)),
              (none, .asg 5 (.v 10) .copy)])
            (.seq
             (.region [(14, 0, false), (12, 0, false)] [] [0, 1, 5, 7, 8, 16] false [
               (none, .mv 11 (.v 1)),
               (none, .mv 12 (.v 0)),
               (none, .mv 13 (.v 5)),
               (none, .iadr 14 1 (.v 12) (.v 13)),
               (none, .load 15 false 1 (.v 14) none),
               (none, .bin 16 .eql (.v 11) (.v 15))])
             (.cond (.v 16)
              (.seq
               (.region [] [] [4] false [
                 (none, .mv 17 (.v 5)),
                 (none, .asg 4 (.v 17) .copy)])
               (.ret [4]))
              (.skip [0, 1, 7, 8])))))
          (.region [] [] [0, 1, 7, 8] false [
            (none, .bin 18 .add (.v 8) (.c (.int .i64 1))),
            (none, .mv 8 (.v 18))])))))))
    (.seq
     (.region [] [] [4] false [
       (none, .asg 4 (.c (.int .i64 (-1))) .copy)])
     (.ret [4]))))⟩
def F809 : PFunc :=
 ⟨[false, false], [.tmp 4],
  (.seq
   (.region [] [] [0, 1] false [
     (none, .asg 4 (.c (.bool false)) .copy)])
   (.seq
    (.region [(5, 0, false)] [] [4] false [
      (none, .mv 5 (.v 0)),
      (none, .mv 6 (.v 1)),
      (none, .call (some 7) 832 false [((.v 5), false), ((.v 6), false)]),
      (none, .bin 8 .geq (.v 7) (.c (.int .i64 0))),
      (none, .asg 4 (.v 8) .copy)])
    (.ret [4])))⟩
def F3 : PFunc :=
 ⟨[false, false], [.tmp 4],
  (.seq
   (.region [] [] [0, 1] false [
     (none, .asg 4 (.c (.bool false)) .copy)])
   (.seq
    (.region [(8, 0, true), (7, 0, false), (6, 0, false), (5, 0, false)] [] [4] false [
      (none, .mv 5 (.v 0)),
      (none, .nchk 6 (.v 5)),
      (none, .fadr 7 0 1 (.v 6)),
      (none, .load 8 false 1 (.v 7) none),
      (none, .mv 9 (.v 1)),
      (none, .call (some 10) 809 false [((.v 8), false), ((.v 9), false)]),
      (none, .asg 4 (.v 10) .copy)])
    (.ret [4])))⟩
def F279 : PFunc :=
 ⟨[false, false], [.tmp 4],
  (.seq
   (.region [] [] [0, 1] false [
     (none, .asg 4 (.c (.bool false)) .copy)])
   (.seq
    (.seq
     (.region [(6, 0, false)] [] [0, 1, 5] false [
       (none, .mv 6 (.v 0)),
       (none, .len 7 false (.v 6)),
       (none, .bin 8 .sub (.v 7) (.c (.int .i64 1))),
       (none, .asg 5 (.v 8) .copy)])
     (.block 0
      (.loop
       (.seq
        (.seq
         (.region [] [] [0, 1, 5, 10] false [
           (none, .mv 9 (.v 5)),
           (none, .bin 10 .geq (.v 9) (.c (.int .i64 0)))])
         (.cond (.v 10)
          (.skip [0, 1, 5])
          (.exit 0 [])))
        (.seq
         (.block 1
          (.seq
           (.region [(24, 0, false), (23, 0, false), (21, 0, false), (16, 0, false), (15, 0, false), (13, 0, false)] [] [0, 1, 5, 27] false [
             (none, .mv 13 (.v 0)),
             (none, .mv 14 (.v 5)),
             (none, .iadr 15 4 (.v 13) (.v 14)),
             (none, .fadr 16 2 1 (.v 15)),
             (none, .load 17 false 1 (.v 16) none),
             (none, .mv 18 (.v 1)),
             (none, .bin 19 .eql (.v 17) (.v 18)),
             (none, .mv 20 (.v 19)),
             (some (20, true), .mv 21 (.v 0)),
             (some (20, true), .mv 22 (.v 5)),
             (some (20, true), .iadr 23 4 (.v 21) (.v 22)),
             (some (20, true), .fadr 24 1 1 (.v 23)),
             (some (20, true), .load 25 false 1 (.v 24) none),
             (some (20, true), .bin 26 .neq (.v 25) (.c (.str [116, 117, 114, 110]))),
             (none, .pick 27 (.v 20) (.v 26) (.c (.bool false)))])
           (.cond (.v 27)
            (.seq
             (.region [(31, 0, false), (30, 0, false), (28, 0, false)] [] [4] false [
               (none, .mv 28 (.v 0)),
               (none, .mv 29 (.v 5)),
               (none, .iadr 30 4 (.v 28) (.v 29)),
               (none, .fadr 31 1 1 (.v 30)),
               (none, .load 32 false 1 (.v 31) none),
               (none, .bin 33 .eql (.v 32) (.c (.str [115, 104, 111, 119]))),
               (none, .asg 4 (.v 33) .copy)])
             (.ret [4]))
            (.skip [0, 1, 5]))))
         (.region [] [] [0, 1, 5] false [
           (none, .mv 11 (.v 5)),
           (none, .bin 12 .sub (.v 11) (.c (.int .i64 1))),
           (none, .asg 5 (.v 12) .copy)]))))))
    (.seq
     (.region [] [] [4] false [
       (none, .asg 4 (.c (.bool false)) .copy)])
     (.ret [4]))))⟩
def F326 : PFunc :=
 ⟨[false, false, false], [.tmp 6],
  (.seq
   (.region [] [] [0, 1, 2] false [
     (none, .asg 6 (.c (.bool false)) .copy)])
   (.seq
    (.region [] [] [6] false [
      (none, .mv 7 (.v 0)),
      (none, .mv 8 (.v 1)),
      (none, .bin 9 .geq (.v 7) (.v 8)),
      (none, .mv 10 (.v 9)),
      (some (10, true), .mv 11 (.v 0)),
      (some (10, true), .mv 12 (.v 2)),
      (some (10, true), .bin 13 .leq (.v 11) (.v 12)),
      (none, .pick 14 (.v 10) (.v 13) (.c (.bool false))),
      (none, .asg 6 (.v 14) .copy)])
    (.ret [6])))⟩
def F1 : PFunc :=
 ⟨[true, false], [.tmp 4],
  (.seq
   (.region [] [] [0, 3] false [
     (none, .box 3 (.v 1) .copy),
     (none, .asg 4 (.c (.int .i64 0)) .copy)])
   (.seq
    (.region [(9, 0, true), (8, 0, false), (7, 0, false), (6, 0, false)] [] [0, 3, 5] false [
      (none, .mv 6 (.v 0)),
      (none, .nchk 7 (.v 6)),
      (none, .fadr 8 1 1 (.v 7)),
      (none, .load 9 false 1 (.v 8) none),
      (none, .len 10 false (.v 9)),
      (none, .asg 5 (.v 10) .copy)])
    (.seq
     (.block 0
      (.seq
       (.region [(21, 3, false), (16, 3, false), (12, 3, false)] [] [0, 3, 5, 11] false [
         (none, .fadr 12 1 1 (.v 3)),
         (none, .load 13 false 1 (.v 12) none),
         (none, .bin 14 .neq (.v 13) (.c (.str [115, 104, 111, 119]))),
         (none, .mv 15 (.v 14)),
         (some (15, true), .fadr 16 1 1 (.v 3)),
         (some (15, true), .load 17 false 1 (.v 16) none),
         (some (15, true), .bin 18 .neq (.v 17) (.c (.str [104, 105, 100, 101]))),
         (none, .pick 19 (.v 15) (.v 18) (.c (.bool false))),
         (none, .mv 20 (.v 19)),
         (some (20, true), .fadr 21 1 1 (.v 3)),
         (some (20, true), .load 22 false 1 (.v 21) none),
         (some (20, true), .bin 23 .neq (.v 22) (.c (.str [116, 117, 114, 110]))),
         (none, .pick 24 (.v 20) (.v 23) (.c (.bool false))),
         (none, .asg 11 (.v 24) .copy)])
       (.cond (.v 11)
        (.seq
         (.region [] [] [0, 4] false [
           (none, .asg 4 (.c (.int .i64 1)) .copy)])
         (.ret [0, 4]))
        (.seq
         (.region [(27, 3, false), (26, 0, false)] [] [0, 3, 5, 25] false [
           (none, .mv 26 (.v 0)),
           (none, .fadr 27 2 1 (.v 3)),
           (none, .load 28 false 1 (.v 27) none),
           (none, .call (some 29) 3 false [((.v 26), false), ((.v 28), false)]),
           (none, .un 30 .not (.v 29)),
           (none, .asg 25 (.v 30) .copy)])
         (.cond (.v 25)
          (.seq
           (.region [] [] [0, 4] false [
             (none, .asg 4 (.c (.int .i64 6)) .copy)])
           (.ret [0, 4]))
          (.seq
           (.region [(47, 3, false), (43, 3, false), (37, 3, false), (32, 3, false)] [] [0, 3, 5, 31] false [
             (none, .fadr 32 0 1 (.v 3)),
             (none, .load 33 false 1 (.v 32) none),
             (none, .call (some 34) 326 false [((.v 33), false), ((.c (.int .i64 0)), false), ((.c (.int .i64 10000)), false)]),
             (none, .un 35 .not (.v 34)),
             (none, .mv 36 (.v 35)),
             (some (36, false), .fadr 37 3 1 (.v 3)),
             (some (36, false), .load 38 false 1 (.v 37) none),
             (some (36, false), .call (some 39) 326 false [((.v 38), false), ((.c (.int .i64 0)), false), ((.c (.int .i64 1000)), false)]),
             (some (36, false), .un 40 .not (.v 39)),
             (none, .pick 41 (.v 36) (.c (.bool true)) (.v 40)),
             (none, .mv 42 (.v 41)),
             (some (42, false), .fadr 43 3 1 (.v 3)),
             (some (42, false), .load 44 false 1 (.v 43) none),
             (some (42, false), .bin 45 .neq (.v 44) (.c (.int .i64 0))),
             (some (42, false), .mv 46 (.v 45)),
             (some (46, true), .fadr 47 1 1 (.v 3)),
             (some (46, true), .load 48 false 1 (.v 47) none),
             (some (46, true), .bin 49 .neq (.v 48) (.c (.str [116, 117, 114, 110]))),
             (some (42, false), .pick 50 (.v 46) (.v 49) (.c (.bool false))),
             (none, .pick 51 (.v 42) (.c (.bool true)) (.v 50)),
             (none, .asg 31 (.v 51) .copy)])
           (.cond (.v 31)
            (.seq
             (.region [] [] [0, 4] false [
               (none, .asg 4 (.c (.int .i64 4)) .copy)])
             (.ret [0, 4]))
            (.seq
             (.region [(65, 3, false), (63, 0, true), (62, 0, true), (59, 0, true), (58, 0, false), (57, 0, false), (56, 0, false)] [] [0, 3, 5, 52] true [
               (none, .mv 53 (.v 5)),
               (none, .bin 54 .gtr (.v 53) (.c (.int .i64 0))),
               (none, .mv 55 (.v 54)),
               (some (55, true), .mvr 56 0),
               (some (55, true), .nchk 57 (.v 56)),
               (some (55, true), .fadr 58 1 1 (.v 57)),
               (some (55, true), .load 59 false 1 (.v 58) none),
               (some (55, true), .mv 60 (.v 5)),
               (some (55, true), .bin 61 .sub (.v 60) (.c (.int .i64 1))),
               (some (55, true), .iadr 62 4 (.v 59) (.v 61)),
               (some (55, true), .fadr 63 0 1 (.v 62)),
               (some (55, true), .load 64 false 1 (.v 63) none),
               (some (55, true), .fadr 65 0 1 (.v 3)),
               (some (55, true), .load 66 false 1 (.v 65) none),
               (some (55, true), .bin 67 .gtr (.v 64) (.v 66)),
               (none, .pick 68 (.v 55) (.v 67) (.c (.bool false))),
               (none, .asg 52 (.v 68) .copy)])
             (.cond (.v 52)
              (.seq
               (.region [] [] [0, 4] false [
                 (none, .asg 4 (.c (.int .i64 7)) .copy)])
               (.ret [0, 4]))
              (.seq
               (.region [(77, 3, false), (76, 0, true), (75, 0, false), (74, 0, false), (73, 0, false), (70, 3, false)] [] [0, 3, 5, 69] true [
                 (none, .fadr 70 1 1 (.v 3)),
                 (none, .load 71 false 1 (.v 70) none),
                 (none, .bin 72 .eql (.v 71) (.c (.str [115, 104, 111, 119]))),
                 (none, .mvr 73 0),
                 (none, .nchk 74 (.v 73)),
                 (none, .fadr 75 1 1 (.v 74)),
                 (none, .load 76 false 1 (.v 75) none),
                 (none, .fadr 77 2 1 (.v 3)),
                 (none, .load 78 false 1 (.v 77) none),
                 (none, .call (some 79) 279 false [((.v 76), false), ((.v 78), false)]),
                 (none, .eqb 80 false (.v 72) (.v 79)),
                 (none, .asg 69 (.v 80) .copy)])
               (.cond (.v 69)
                (.seq
                 (.region [] [] [0, 4] false [
                   (none, .asg 4 (.c (.int .i64 5)) .copy)])
                 (.ret [0, 4]))
                (.seq
                 (.region [] [] [0, 3, 81] false [
                   (none, .mv 82 (.v 5)),
                   (none, .bin 83 .eql (.v 82) (.c (.int .i64 60))),
                   (none, .asg 81 (.v 83) .copy)])
                 (.cond (.v 81)
                  (.seq
                   (.region [] [] [0, 4] false [
                     (none, .asg 4 (.c (.int .i64 8)) .copy)])
                   (.ret [0, 4]))
                  (.skip [0, 3]))))))))))))))
     (.seq
      (.region [(93, 0, false), (92, 0, false), (88, 0, true), (87, 0, false), (86, 0, false), (85, 0, false), (84, 0, false)] [] [0] true [
        (none, .mvr 84 0),
        (none, .mvr 85 0),
        (none, .nchk 86 (.v 85)),
        (none, .fadr 87 1 1 (.v 86)),
        (none, .load 88 false 1 (.v 87) none),
        (none, .load 89 true 4 (.v 3) none),
        (none, .mksl 90 4 (.agg [(.int .i64 0), (.str []), (.str []), (.int .i64 0)]) 1 [(0, (.v 89), .copy)]),
        (none, .app 91 4 (.v 88) (.v 90) .move),
        (none, .nchk 92 (.v 84)),
        (none, .fadr 93 1 1 (.v 92)),
        (none, .store 1 (.v 93) (.v 91) .move)])
      (.seq
       (.region [] [] [0, 4] false [
         (none, .asg 4 (.c (.int .i64 0)) .copy)])
       (.ret [0, 4]))))))⟩
def F116 : PFunc :=
 ⟨[false], [.tmp 2],
  (.seq
   (.region [] [] [0] false [
     (none, .asg 2 (.c (.bool false)) .copy)])
   (.seq
    (.seq
     (.region [] [] [0, 21] false [
       (none, .mv 4 (.v 0)),
       (none, .len 5 true (.v 4)),
       (none, .bin 6 .lss (.v 5) (.c (.int .i64 1))),
       (none, .mv 7 (.v 6)),
       (some (7, false), .mv 8 (.v 0)),
       (some (7, false), .len 9 true (.v 8)),
       (some (7, false), .bin 10 .gtr (.v 9) (.c (.int .i64 12))),
       (none, .pick 11 (.v 7) (.c (.bool true)) (.v 10)),
       (none, .mv 12 (.v 11)),
       (some (12, false), .mv 13 (.v 0)),
       (some (12, false), .idx 14 (.v 13) (.c (.int .i64 0))),
       (some (12, false), .bin 15 .lss (.v 14) (.c (.int .u8 97))),
       (none, .pick 16 (.v 12) (.c (.bool true)) (.v 15)),
       (none, .mv 17 (.v 16)),
       (some (17, false), .mv 18 (.v 0)),
       (some (17, false), .idx 19 (.v 18) (.c (.int .i64 0))),
       (some (17, false), .bin 20 .gtr (.v 19) (.c (.int .u8 122))),
       (none, .pick 21 (.v 17) (.c (.bool true)) (.v 20))])
     (.cond (.v 21)
      (.seq
       (.region [] [] [2] false [
         (none, .asg 2 (.c (.bool false)) .copy)])
       (.ret [2]))
      (.skip [0])))
    (.seq
     (.seq
      (.region [] [] [0, 3] false [
        (none, .asg 3 (.c (.int .i64 1)) .copy)])
      (.block 0
       (.loop
        (.seq
         (.seq
          (.region [] [] [0, 3, 25] false [
            (none, .mv 22 (.v 3)),
            (none, .mv 23 (.v 0)),
            (none, .len 24 true (.v 23)),
            (none, .bin 25 .lss (.v 22) (.v 24))])
          (.cond (.v 25)
           (.skip [0, 3])
           (.exit 0 [])))
         (.seq
          (.block 1
           (.seq
            (.region [] [] [0, 3, 55] false [
              (none, .mv 28 (.v 0)),
              (none, .mv 29 (.v 3)),
              (none, .idx 30 (.v 28) (.v 29)),
              (none, .bin 31 .lss (.v 30) (.c (.int .u8 97))),
              (none, .mv 32 (.v 31)),
              (some (32, false), .mv 33 (.v 0)),
              (some (32, false), .mv 34 (.v 3)),
              (some (32, false), .idx 35 (.v 33) (.v 34)),
              (some (32, false), .bin 36 .gtr (.v 35) (.c (.int .u8 122))),
              (none, .pick 37 (.v 32) (.c (.bool true)) (.v 36)),
              (none, .mv 38 (.v 37)),
              (some (38, true), .mv 39 (.v 0)),
              (some (38, true), .mv 40 (.v 3)),
              (some (38, true), .idx 41 (.v 39) (.v 40)),
              (some (38, true), .bin 42 .lss (.v 41) (.c (.int .u8 48))),
              (some (38, true), .mv 43 (.v 42)),
              (some (43, false), .mv 44 (.v 0)),
              (some (43, false), .mv 45 (.v 3)),
              (some (43, false), .idx 46 (.v 44) (.v 45)),
              (some (43, false), .bin 47 .gtr (.v 46) (.c (.int .u8 57))),
              (some (38, true), .pick 48 (.v 43) (.c (.bool true)) (.v 47)),
              (none, .pick 49 (.v 38) (.v 48) (.c (.bool false))),
              (none, .mv 50 (.v 49)),
              (some (50, true), .mv 51 (.v 0)),
              (some (50, true), .mv 52 (.v 3)),
              (some (50, true), .idx 53 (.v 51) (.v 52)),
              (some (50, true), .bin 54 .neq (.v 53) (.c (.int .u8 45))),
              (none, .pick 55 (.v 50) (.v 54) (.c (.bool false)))])
            (.cond (.v 55)
             (.seq
              (.region [] [] [2] false [
                (none, .asg 2 (.c (.bool false)) .copy)])
              (.ret [2]))
             (.skip [0, 3]))))
          (.region [] [] [0, 3] false [
            (none, .mv 26 (.v 3)),
            (none, .bin 27 .add (.v 26) (.c (.int .i64 1))),
            (none, .asg 3 (.v 27) .copy)]))))))
     (.seq
      (.region [] [] [2] false [
        (none, .asg 2 (.c (.bool true)) .copy)])
      (.ret [2])))))⟩
def F2 : PFunc :=
 ⟨[true, false], [.tmp 4],
  (.seq
   (.region [] [] [0, 1] false [
     (none, .asg 4 (.c (.int .i64 0)) .copy)])
   (.seq
    (.block 0
     (.seq
      (.region [] [] [0, 1, 5] false [
        (none, .mv 6 (.v 1)),
        (none, .call (some 7) 116 false [((.v 6), false)]),
        (none, .un 8 .not (.v 7)),
        (none, .asg 5 (.v 8) .copy)])
      (.cond (.v 5)
       (.seq
        (.region [] [] [0, 4] false [
          (none, .asg 4 (.c (.int .i64 3)) .copy)])
        (.ret [0, 4]))
       (.seq
        (.region [(10, 0, false)] [] [0, 1, 9] false [
          (none, .mv 10 (.v 0)),
          (none, .mv 11 (.v 1)),
          (none, .call (some 12) 3 false [((.v 10), false), ((.v 11), false)]),
          (none, .asg 9 (.v 12) .copy)])
        (.cond (.v 9)
         (.seq
          (.region [] [] [0, 4] false [
            (none, .asg 4 (.c (.int .i64 5)) .copy)])
          (.ret [0, 4]))
         (.seq
          (.region [(17, 0, true), (16, 0, false), (15, 0, false), (14, 0, false)] [] [0, 1, 13] false [
            (none, .mv 14 (.v 0)),
            (none, .nchk 15 (.v 14)),
            (none, .fadr 16 0 1 (.v 15)),
            (none, .load 17 false 1 (.v 16) none),
            (none, .len 18 false (.v 17)),
            (none, .bin 19 .eql (.v 18) (.c (.int .i64 60))),
            (none, .asg 13 (.v 19) .copy)])
          (.cond (.v 13)
           (.seq
            (.region [] [] [0, 4] false [
              (none, .asg 4 (.c (.int .i64 8)) .copy)])
            (.ret [0, 4]))
           (.skip [0, 1]))))))))
    (.seq
     (.region [(29, 0, false), (28, 0, false), (24, 0, true), (23, 0, false), (22, 0, false), (21, 0, false), (20, 0, false)] [] [0] false [
       (none, .mv 20 (.v 0)),
       (none, .mv 21 (.v 0)),
       (none, .nchk 22 (.v 21)),
       (none, .fadr 23 0 1 (.v 22)),
       (none, .load 24 false 1 (.v 23) none),
       (none, .mv 25 (.v 1)),
       (none, .mksl 26 1 (.str []) 1 [(0, (.v 25), .copy)]),
       (none, .app 27 1 (.v 24) (.v 26) .move),
       (none, .nchk 28 (.v 20)),
       (none, .fadr 29 0 1 (.v 28)),
       (none, .store 1 (.v 29) (.v 27) .move)])
     (.seq
      (.region [] [] [0, 4] false [
        (none, .asg 4 (.c (.int .i64 0)) .copy)])
      (.ret [0, 4])))))⟩
def F228 : PFunc :=
 ⟨[false], [.tmp 2],
  (.seq
   (.region [] [] [1] false [
     (none, .box 1 (.v 0) .move),
     (none, .asg 2 (.c (.bool false)) .copy)])
   (.seq
    (.region [] [] [1, 3] false [
      (none, .build 8 [(.sl true 1 []), (.sl true 4 [])] []),
      (none, .new 3 (.agg [(.sl true 1 []), (.sl true 4 [])])),
      (none, .store 2 (.v 3) (.v 8) .move)])
    (.seq
     (.seq
      (.region [(10, 1, true), (9, 1, false)] [] [1, 3, 10, 11, 12] false [
        (none, .fadr 9 0 1 (.v 1)),
        (none, .load 10 false 1 (.v 9) none),
        (none, .len 11 false (.v 10)),
        (none, .mv 12 (.c (.int .i64 0)))])
      (.block 0
       (.loop
        (.seq
         (.region [(10, 1, true)] [] [1, 3, 10, 11, 12, 13] false [
           (none, .bin 13 .lss (.v 12) (.v 11))])
         (.seq
          (.cond (.v 13)
           (.skip [1, 3, 10, 11, 12])
           (.exit 0 [1, 3]))
          (.seq
           (.block 1
            (.seq
             (.region [(14, 1, true), (10, 1, true)] [] [1, 3, 5, 10, 11, 12] false [
               (none, .iadr 14 1 (.v 10) (.v 12)),
               (none, .load 15 false 1 (.v 14) none),
               (none, .asg 5 (.v 15) .copy)])
             (.seq
              (.region [(10, 1, true)] [] [1, 3, 10, 11, 12, 18] false [
                (none, .mv 16 (.v 5)),
                (none, .call (some 17) 2 false [((.v 3), true), ((.v 16), false)]),
                (none, .bin 18 .neq (.v 17) (.c (.int .i64 0)))])
              (.cond (.v 18)
               (.seq
                (.region [] [] [2] false [
                  (none, .asg 2 (.c (.bool false)) .copy)])
                (.ret [2]))
               (.skip [1, 3, 10, 11, 12])))))
           (.region [(10, 1, true)] [] [1, 3, 10, 11, 12] false [
             (none, .bin 19 .add (.v 12) (.c (.int .i64 1))),
             (none, .mv 12 (.v 19))])))))))
     (.seq
      (.seq
       (.region [(21, 1, true), (20, 1, false)] [] [1, 3, 21, 22, 23] false [
         (none, .fadr 20 1 1 (.v 1)),
         (none, .load 21 false 1 (.v 20) none),
         (none, .len 22 false (.v 21)),
         (none, .mv 23 (.c (.int .i64 0)))])
       (.block 2
        (.loop
         (.seq
          (.region [(21, 1, true)] [] [1, 3, 21, 22, 23, 24] false [
            (none, .bin 24 .lss (.v 23) (.v 22))])
          (.seq
           (.cond (.v 24)
            (.skip [1, 3, 21, 22, 23])
            (.exit 2 []))
           (.seq
            (.block 3
             (.seq
              (.region [(25, 1, true), (21, 1, true)] [] [1, 3, 7, 21, 22, 23] false [
                (none, .iadr 25 4 (.v 21) (.v 23)),
                (none, .load 26 true 4 (.v 25) none),
                (none, .new 7 (.agg [(.int .i64 0), (.str []), (.str []), (.int .i64 0)])),
                (none, .store 4 (.v 7) (.v 26) .copy)])
              (.seq
               (.region [(21, 1, true)] [] [1, 3, 21, 22, 23, 29] false [
                 (none, .load 27 true 4 (.v 7) none),
                 (none, .call (some 28) 1 false [((.v 3), true), ((.v 27), false)]),
                 (none, .bin 29 .neq (.v 28) (.c (.int .i64 0)))])
               (.cond (.v 29)
                (.seq
                 (.region [] [] [2] false [
                   (none, .asg 2 (.c (.bool false)) .copy)])
                 (.ret [2]))
                (.skip [1, 3, 21, 22, 23])))))
            (.region [(21, 1, true)] [] [1, 3, 21, 22, 23] false [
              (none, .bin 30 .add (.v 23) (.c (.int .i64 1))),
              (none, .mv 23 (.v 30))])))))))
      (.seq
       (.region [] [] [2] false [
         (none, .asg 2 (.c (.bool true)) .copy)])
       (.ret [2]))))))⟩
def F819 : PFunc :=
 ⟨[false, false], [.tmp 4],
  (.seq
   (.region [] [] [0, 1] false [
     (none, .asg 4 (.c (.int .i64 0)) .copy)])
   (.seq
    (.seq
     (.region [(6, 0, false)] [] [0, 1, 7, 8] false [
       (none, .mv 6 (.v 0)),
       (none, .len 7 false (.v 6)),
       (none, .mv 8 (.c (.int .i64 0)))])
     (.block 0
      (.loop
       (.seq
        (.region [] [] [0, 1, 7, 8, 9] false [
          (none, .bin 9 .lss (.v 8) (.v 7))])
        (.seq
         (.cond (.v 9)
          (.skip [0, 1, 7, 8])
          (.exit 0 []))
         (.seq
          (.block 1
           (.seq
            (.region [] [] [0, 1, 5, 7, 8] false [
              (none, .mv 10 (.v 8)),
              (none, .asg 5 (.v 10) .copy)])
            (.seq
             (.region [(14, 0, false), (12, 0, false), (11, 1, false)] [] [0, 1, 5, 7, 8, 16] false [
               (none, .mv 11 (.v 1)),
               (none, .mv 12 (.v 0)),
               (none, .mv 13 (.v 5)),
               (none, .iadr 14 4 (.v 12) (.v 13)),
               (none, .load 15 true 4 (.v 14) none),
               (none, .callv (some 16) (.v 11) [(.v 15)])])
             (.cond (.v 16)
              (.seq
               (.region [] [] [4] false [
                 (none, .mv 17 (.v 5)),
                 (none, .asg 4 (.v 17) .copy)])
               (.ret [4]))
              (.skip [0, 1, 7, 8])))))
          (.region [] [] [0, 1, 7, 8] false [
            (none, .bin 18 .add (.v 8) (.c (.int .i64 1))),
            (none, .mv 8 (.v 18))])))))))
    (.seq
     (.region [] [] [4] false [
       (none, .asg 4 (.c (.int .i64 (-1))) .copy)])
     (.ret [4]))))⟩
def F797 : PFunc :=
 ⟨[false, false], [.tmp 4],
  (.seq
   (.region [] [] [0, 1] false [
     (none, .asg 4 (.c (.bool false)) .copy)])
   (.seq
    (.region [(6, 1, false), (5, 0, false)] [] [4] false [
      (none, .mv 5 (.v 0)),
      (none, .mv 6 (.v 1)),
      (none, .call (some 7) 819 false [((.v 5), false), ((.v 6), false)]),
      (none, .bin 8 .geq (.v 7) (.c (.int .i64 0))),
      (none, .asg 4 (.v 8) .copy)])
    (.ret [4])))⟩
def F155 : PFunc :=
 ⟨[false], [.tmp 2, .tmp 3],
  (.seq
   (.region [] [6] [1] false [
     (none, .box 1 (.v 0) .move),
     (none, .asg 2 (.c (.sl true 1 [])) .copy),
     (none, .asg 3 (.c (.int .i64 0)) .copy)])
   (.seq
    (.seq
     (.region [] [6] [1, 9] false [
       (none, .load 7 true 2 (.v 1) (some .freeze)),
       (none, .call (some 8) 228 false [((.v 7), false)]),
       (none, .un 9 .not (.v 8))])
     (.cond (.v 9)
      (.seq
       (.region [] [6] [2, 3] false [
         (none, .asg 2 (.c (.sl true 1 [])) .copy),
         (none, .asg 3 (.c (.int .i64 1)) .copy)])
       (.ret [2, 3]))
      (.skip [1])))
    (.seq
     (.region [] [6] [1, 4] false [
       (none, .mksl 10 1 (.str []) 0 []),
       (none, .asg 4 (.v 10) .move)])
     (.seq
      (.seq
       (.region [(12, 1, true), (11, 1, false)] [6] [1, 4, 12, 13, 14] false [
         (none, .fadr 11 0 1 (.v 1)),
         (none, .load 12 false 1 (.v 11) none),
         (none, .len 13 false (.v 12)),
         (none, .mv 14 (.c (.int .i64 0)))])
       (.block 0
        (.loop
         (.seq
          (.region [(12, 1, true)] [6] [1, 4, 12, 13, 14, 15] false [
            (none, .bin 15 .lss (.v 14) (.v 13))])
          (.seq
           (.cond (.v 15)
            (.skip [1, 4, 12, 13, 14])
            (.exit 0 [4]))
           (.seq
            (.block 1
             (.seq
              (.region [(16, 1, true), (12, 1, true)] [] [1, 4, 6, 12, 13, 14] false [
                (none, .iadr 16 1 (.v 12) (.v 14)),
                (none, .load 17 false 1 (.v 16) none),
                (none, .new 6 (.str [])),
                (none, .store 1 (.v 6) (.v 17) .copy)])
              (.seq
               (.region [(19, 1, true), (18, 1, false), (12, 1, true)] [6] [1, 4, 6, 12, 13, 14, 22] false [
                 (none, .fadr 18 1 1 (.v 1)),
                 (none, .load 19 false 1 (.v 18) none),
                 (none, .mkfn 20 156 [6]),
                 (none, .call (some 21) 797 false [((.v 19), false), ((.v 20), false)]),
                 (none, .un 22 .not (.v 21))])
               (.cond (.v 22)
                (.region [(23, 4, false), (12, 1, true)] [6] [1, 4, 12, 13, 14] false [
                  (none, .mv 23 (.v 4)),
                  (none, .load 24 false 1 (.v 6) none),
                  (none, .mksl 25 1 (.str []) 1 [(0, (.v 24), .copy)]),
                  (none, .app 26 1 (.v 23) (.v 25) .move),
                  (none, .asg 4 (.v 26) .move)])
                (.skip [1, 4, 12, 13, 14])))))
            (.region [(12, 1, true)] [6] [1, 4, 12, 13, 14] false [
              (none, .bin 27 .add (.v 14) (.c (.int .i64 1))),
              (none, .mv 14 (.v 27))])))))))
      (.seq
       (.region [(28, 4, false)] [6] [2, 3] false [
         (none, .mv 28 (.v 4)),
         (none, .asg 2 (.v 28) .move),
         (none, .asg 3 (.c (.int .i64 0)) .copy)])
       (.ret [2, 3]))))))⟩
def F180 : PFunc :=
 ⟨[false, false], [.cell 4 true 2, .tmp 5],
  (.seq
   (.region [] [] [1, 2, 4] false [
     (none, .box 2 (.v 0) .move),
     (none, .new 4 (.agg [(.sl false 1 []), (.sl false 4 [])])),
     (none, .asg 5 (.c (.int .i64 0)) .copy)])
   (.seq
    (.block 0
     (.seq
      (.region [] [] [1, 2, 4, 8] false [
        (none, .load 9 true 2 (.v 2) (some .freeze)),
        (none, .call (some 10) 228 false [((.v 9), false)]),
        (none, .un 11 .not (.v 10)),
        (none, .asg 8 (.v 11) .copy)])
      (.cond (.v 8)
       (.seq
        (.region [] [] [4, 5] false [
          (none, .build 12 [(.sl false 1 []), (.sl false 4 [])] []),
          (none, .store 2 (.v 4) (.v 12) .move),
          (none, .asg 5 (.c (.int .i64 1)) .copy)])
        (.ret [4, 5]))
       (.seq
        (.region [] [] [1, 2, 4, 13] false [
          (none, .mv 14 (.v 1)),
          (none, .call (some 15) 326 false [((.v 14), false), ((.c (.int .i64 0)), false), ((.c (.int .i64 10000)), false)]),
          (none, .un 16 .not (.v 15)),
          (none, .asg 13 (.v 16) .copy)])
        (.cond (.v 13)
         (.seq
          (.region [] [] [4, 5] false [
            (none, .build 17 [(.sl false 1 []), (.sl false 4 [])] []),
            (none, .store 2 (.v 4) (.v 17) .move),
            (none, .asg 5 (.c (.int .i64 2)) .copy)])
          (.ret [4, 5]))
         (.skip [1, 2, 4]))))))
    (.seq
     (.region [(22, 2, true), (21, 2, false), (19, 2, true), (18, 2, false)] [] [1, 4, 6] true [
       (none, .fadr 18 0 1 (.v 2)),
       (none, .load 19 false 1 (.v 18) none),
       (none, .call (some 20) 789 false [((.v 19), false)]),
       (none, .fadr 21 1 1 (.v 2)),
       (none, .load 22 false 1 (.v 21) none),
       (none, .call (some 23) 785 false [((.v 22), false)]),
       (none, .build 24 [(.sl true 1 []), (.sl true 4 [])] [(0, 1, (.v 20), .move), (1, 1, (.v 23), .move)]),
       (none, .new 6 (.agg [(.sl true 1 []), (.sl true 4 [])])),
       (none, .store 2 (.v 6) (.v 24) .move)])
     (.seq
      (.seq
       (.region [(26, 6, true), (25, 6, false)] [] [1, 4, 6, 27, 28] false [
         (none, .fadr 25 1 1 (.v 6)),
         (none, .load 26 false 1 (.v 25) none),
         (none, .len 27 false (.v 26)),
         (none, .mv 28 (.c (.int .i64 0)))])
       (.block 1
        (.loop
         (.seq
          (.region [] [] [1, 4, 6, 27, 28, 29] false [
            (none, .bin 29 .lss (.v 28) (.v 27))])
          (.seq
           (.cond (.v 29)
            (.skip [1, 4, 6, 27, 28])
            (.exit 1 [4, 6]))
           (.seq
            (.block 2
             (.seq
              (.region [] [] [1, 4, 6, 7, 27, 28] false [
                (none, .mv 30 (.v 28)),
                (none, .asg 7 (.v 30) .copy)])
              (.region [(40, 6, true), (39, 6, true), (35, 6, true), (34, 6, true), (32, 6, true), (31, 6, false)] [] [1, 4, 6, 27, 28] false [
                (none, .fadr 31 1 1 (.v 6)),
                (none, .load 32 false 1 (.v 31) none),
                (none, .mv 33 (.v 7)),
                (none, .iadr 34 4 (.v 32) (.v 33)),
                (none, .fadr 35 0 1 (.v 34)),
                (none, .load 36 false 1 (.v 35) none),
                (none, .mv 37 (.v 1)),
                (none, .bin 38 .add (.v 36) (.v 37)),
                (none, .iadr 39 4 (.v 32) (.v 33)),
                (none, .fadr 40 0 1 (.v 39)),
                (none, .store 1 (.v 40) (.v 38) .copy)])))
            (.region [] [] [1, 4, 6, 27, 28] false [
              (none, .bin 41 .add (.v 28) (.c (.int .i64 1))),
              (none, .mv 28 (.v 41))])))))))
      (.seq
       (.seq
        (.region [] [] [4, 6, 44] false [
          (none, .load 42 true 2 (.v 6) (some .freeze)),
          (none, .call (some 43) 228 false [((.v 42), false)]),
          (none, .un 44 .not (.v 43))])
        (.cond (.v 44)
         (.seq
          (.region [] [] [4, 5] false [
            (none, .build 45 [(.sl false 1 []), (.sl false 4 [])] []),
            (none, .store 2 (.v 4) (.v 45) .move),
            (none, .asg 5 (.c (.int .i64 5)) .copy)])
          (.ret [4, 5]))
         (.skip [4, 6])))
       (.seq
        (.region [] [] [4, 5] false [
          (none, .load 46 true 2 (.v 6) (some .move)),
          (none, .store 2 (.v 4) (.v 46) .move),
          (none, .asg 5 (.c (.int .i64 0)) .copy)])
        (.ret [4, 5])))))))⟩
def F183 : PFunc :=
 ⟨[false, false], [.tmp 4, .tmp 5],
  (.seq
   (.region [] [] [1, 2] false [
     (none, .box 2 (.v 0) .move),
     (none, .asg 4 (.c (.sl true 1 [])) .copy),
     (none, .asg 5 (.c (.int .i64 0)) .copy)])
   (.seq
    (.block 0
     (.seq
      (.region [] [] [1, 2, 10] false [
        (none, .load 11 true 2 (.v 2) (some .freeze)),
        (none, .call (some 12) 228 false [((.v 11), false)]),
        (none, .un 13 .not (.v 12)),
        (none, .asg 10 (.v 13) .copy)])
      (.cond (.v 10)
       (.seq
        (.region [] [] [4, 5] false [
          (none, .asg 4 (.c (.sl true 1 [])) .copy),
          (none, .asg 5 (.c (.int .i64 1)) .copy)])
        (.ret [4, 5]))
       (.seq
        (.region [] [] [1, 2, 14] false [
          (none, .mv 15 (.v 1)),
          (none, .call (some 16) 326 false [((.v 15), false), ((.c (.int .i64 0)), false), ((.c (.int .i64 10000)), false)]),
          (none, .un 17 .not (.v 16)),
          (none, .asg 14 (.v 17) .copy)])
        (.cond (.v 14)
         (.seq
          (.region [] [] [4, 5] false [
            (none, .asg 4 (.c (.sl true 1 [])) .copy),
            (none, .asg 5 (.c (.int .i64 2)) .copy)])
          (.ret [4, 5]))
         (.skip [1, 2]))))))
    (.seq
     (.region [] [] [1, 2, 6] false [
       (none, .asg 6 (.c (.int .i64 0)) .copy)])
     (.seq
      (.block 1
       (.loop
        (.seq
         (.seq
          (.region [(28, 2, true), (27, 2, true), (25, 2, true), (24, 2, false), (20, 2, true), (19, 2, false)] [] [1, 2, 6, 32] false [
            (none, .mv 18 (.v 6)),
            (none, .fadr 19 1 1 (.v 2)),
            (none, .load 20 false 1 (.v 19) none),
            (none, .len 21 false (.v 20)),
            (none, .bin 22 .lss (.v 18) (.v 21)),
            (none, .mv 23 (.v 22)),
            (some (23, true), .fadr 24 1 1 (.v 2)),
            (some (23, true), .load 25 false 1 (.v 24) none),
            (some (23, true), .mv 26 (.v 6)),
            (some (23, true), .iadr 27 4 (.v 25) (.v 26)),
            (some (23, true), .fadr 28 0 1 (.v 27)),
            (some (23, true), .load 29 false 1 (.v 28) none),
            (some (23, true), .mv 30 (.v 1)),
            (some (23, true), .bin 31 .leq (.v 29) (.v 30)),
            (none, .pick 32 (.v 23) (.v 31) (.c (.bool false)))])
          (.cond (.v 32)
           (.skip [1, 2, 6])
           (.exit 1 [2, 6])))
         (.block 2
          (.region [] [] [1, 2, 6] false [
            (none, .mv 33 (.v 6)),
            (none, .bin 34 .add (.v 33) (.c (.int .i64 1))),
            (none, .asg 6 (.v 34) .copy)])))))
      (.seq
       (.region [] [] [2, 6, 7] false [
         (none, .mksl 35 1 (.str []) 0 []),
         (none, .asg 7 (.v 35) .move)])
       (.seq
        (.seq
         (.region [(37, 2, true), (36, 2, false)] [] [2, 6, 7, 37, 38, 39] false [
           (none, .fadr 36 0 1 (.v 2)),
           (none, .load 37 false 1 (.v 36) none),
           (none, .len 38 false (.v 37)),
           (none, .mv 39 (.c (.int .i64 0)))])
         (.block 3
          (.loop
           (.seq
            (.region [(37, 2, true)] [] [2, 6, 7, 37, 38, 39, 40] false [
              (none, .bin 40 .lss (.v 39) (.v 38))])
            (.seq
             (.cond (.v 40)
              (.skip [2, 6, 7, 37, 38, 39])
              (.exit 3 [7]))
             (.seq
              (.block 4
               (.seq
                (.region [(41, 2, true), (37, 2, true)] [] [2, 6, 7, 9, 37, 38, 39] false [
                  (none, .iadr 41 1 (.v 37) (.v 39)),
                  (none, .load 42 false 1 (.v 41) none),
                  (none, .asg 9 (.v 42) .copy)])
                (.seq
                 (.region [(44, 2, true), (43, 2, false), (37, 2, true)] [] [2, 6, 7, 9, 37, 38, 39, 48] false [
                   (none, .fadr 43 1 1 (.v 2)),
                   (none, .load 44 false 1 (.v 43) none),
                   (none, .mv 45 (.v 6)),
                   (none, .slc 46 false 4 (.v 44) none (some (.v 45)) .freeze),
                   (none, .mv 47 (.v 9)),
                   (none, .call (some 48) 279 false [((.v 46), false), ((.v 47), false)])])
                 (.cond (.v 48)
                  (.region [(49, 7, false), (37, 2, true)] [] [2, 6, 7, 37, 38, 39] false [
                    (none, .mv 49 (.v 7)),
                    (none, .mv 50 (.v 9)),
                    (none, .mksl 51 1 (.str []) 1 [(0, (.v 50), .copy)]),
                    (none, .app 52 1 (.v 49) (.v 51) .move),
                    (none, .asg 7 (.v 52) .move)])
                  (.skip [2, 6, 7, 37, 38, 39])))))
              (.region [(37, 2, true)] [] [2, 6, 7, 37, 38, 39] false [
                (none, .bin 53 .add (.v 39) (.c (.int .i64 1))),
                (none, .mv 39 (.v 53))])))))))
        (.seq
         (.region [(54, 7, false)] [] [4, 5] false [
           (none, .mv 54 (.v 7)),
           (none, .asg 4 (.v 54) .move),
           (none, .asg 5 (.c (.int .i64 0)) .copy)])
         (.ret [4, 5]))))))))⟩
def F198 : PFunc :=
 ⟨[false, false], [.tmp 4, .tmp 5],
  (.seq
   (.region [] [] [1, 2] false [
     (none, .box 2 (.v 0) .move),
     (none, .asg 4 (.c (.int .i64 0)) .copy),
     (none, .asg 5 (.c (.int .i64 0)) .copy)])
   (.seq
    (.block 0
     (.seq
      (.region [] [] [1, 2, 10] false [
        (none, .load 11 true 2 (.v 2) (some .freeze)),
        (none, .call (some 12) 228 false [((.v 11), false)]),
        (none, .un 13 .not (.v 12)),
        (none, .asg 10 (.v 13) .copy)])
      (.cond (.v 10)
       (.seq
        (.region [] [] [4, 5] false [
          (none, .asg 4 (.c (.int .i64 0)) .copy),
          (none, .asg 5 (.c (.int .i64 1)) .copy)])
        (.ret [4, 5]))
       (.seq
        (.region [] [] [1, 2, 14] false [
          (none, .mv 15 (.v 1)),
          (none, .call (some 16) 3 false [((.v 2), false), ((.v 15), false)]),
          (none, .un 17 .not (.v 16)),
          (none, .asg 14 (.v 17) .copy)])
        (.cond (.v 14)
         (.seq
          (.region [] [] [4, 5] false [
            (none, .asg 4 (.c (.int .i64 0)) .copy),
            (none, .asg 5 (.c (.int .i64 3)) .copy)])
          (.ret [4, 5]))
         (.seq
          (.region [(20, 2, true), (19, 2, false)] [] [1, 2, 18] false [
            (none, .fadr 19 1 1 (.v 2)),
            (none, .load 20 false 1 (.v 19) none),
            (none, .mv 21 (.v 1)),
            (none, .call (some 22) 279 false [((.v 20), false), ((.v 21), false)]),
            (none, .asg 18 (.v 22) .copy)])
          (.cond (.v 18)
           (.seq
            (.region [] [] [4, 5] false [
              (none, .asg 4 (.c (.int .i64 0)) .copy),
              (none, .asg 5 (.c (.int .i64 6)) .copy)])
            (.ret [4, 5]))
           (.skip [1, 2]))))))))
    (.seq
     (.region [] [] [1, 2, 6, 7] false [
       (none, .asg 6 (.c (.int .i64 0)) .copy),
       (none, .asg 7 (.c (.int .i64 0)) .copy)])
     (.seq
      (.seq
       (.region [(24, 2, true), (23, 2, false)] [] [1, 2, 6, 7, 24, 25, 26] false [
         (none, .fadr 23 1 1 (.v 2)),
         (none, .load 24 false 1 (.v 23) none),
         (none, .len 25 false (.v 24)),
         (none, .mv 26 (.c (.int .i64 0)))])
       (.block 1
        (.loop
         (.seq
          (.region [(24, 2, true)] [] [1, 2, 6, 7, 24, 25, 26, 27] false [
            (none, .bin 27 .lss (.v 26) (.v 25))])
          (.seq
           (.cond (.v 27)
            (.skip [1, 2, 6, 7, 24, 25, 26])
            (.exit 1 [6]))
           (.seq
            (.block 2
             (.seq
              (.region [(28, 2, true), (24, 2, true)] [] [1, 2, 6, 7, 9, 24, 25, 26] false [
                (none, .iadr 28 4 (.v 24) (.v 26)),
                (none, .load 29 true 4 (.v 28) none),
                (none, .new 9 (.agg [(.int .i64 0), (.str []), (.str []), (.int .i64 0)])),
                (none, .store 4 (.v 9) (.v 29) .copy)])
              (.block 3
               (.seq
                (.region [(31, 9, false), (24, 2, true)] [] [1, 2, 6, 7, 9, 24, 25, 26, 30] false [
                  (none, .fadr 31 2 1 (.v 9)),
                  (none, .load 32 false 1 (.v 31) none),
                  (none, .mv 33 (.v 1)),
                  (none, .bin 34 .neq (.v 32) (.v 33)),
                  (none, .asg 30 (.v 34) .copy)])
                (.cond (.v 30)
                 (.skip [1, 2, 6, 7, 24, 25, 26])
                 (.seq
                  (.region [(36, 9, false), (24, 2, true)] [] [1, 2, 6, 7, 9, 24, 25, 26, 35] false [
                    (none, .fadr 36 1 1 (.v 9)),
                    (none, .load 37 false 1 (.v 36) none),
                    (none, .bin 38 .eql (.v 37) (.c (.str [115, 104, 111, 119]))),
                    (none, .asg 35 (.v 38) .copy)])
                  (.cond (.v 35)
                   (.region [(39, 9, false), (24, 2, true)] [] [1, 2, 6, 7, 24, 25, 26] false [
                     (none, .fadr 39 0 1 (.v 9)),
                     (none, .load 40 false 1 (.v 39) none),
                     (none, .asg 7 (.v 40) .copy)])
                   (.seq
                    (.region [(42, 9, false), (24, 2, true)] [] [1, 2, 6, 7, 9, 24, 25, 26, 41] false [
                      (none, .fadr 42 1 1 (.v 9)),
                      (none, .load 43 false 1 (.v 42) none),
                      (none, .bin 44 .eql (.v 43) (.c (.str [104, 105, 100, 101]))),
                      (none, .asg 41 (.v 44) .copy)])
                    (.cond (.v 41)
                     (.region [(46, 9, false), (24, 2, true)] [] [1, 2, 6, 7, 24, 25, 26] false [
                       (none, .mv 45 (.v 6)),
                       (none, .fadr 46 0 1 (.v 9)),
                       (none, .load 47 false 1 (.v 46) none),
                       (none, .mv 48 (.v 7)),
                       (none, .bin 49 .sub (.v 47) (.v 48)),
                       (none, .bin 50 .add (.v 45) (.v 49)),
                       (none, .asg 6 (.v 50) .copy)])
                     (.skip [1, 2, 6, 7, 24, 25, 26]))))))))))
            (.region [(24, 2, true)] [] [1, 2, 6, 7, 24, 25, 26] false [
              (none, .bin 51 .add (.v 26) (.c (.int .i64 1))),
              (none, .mv 26 (.v 51))])))))))
      (.seq
       (.region [] [] [4, 5] false [
         (none, .mv 52 (.v 6)),
         (none, .asg 4 (.v 52) .copy),
         (none, .asg 5 (.c (.int .i64 0)) .copy)])
       (.ret [4, 5]))))))⟩
def F398 : PFunc :=
 ⟨[false], [.tmp 2],
  (.seq
   (.region [] [] [0] false [
     (none, .asg 2 (.c (.bool false)) .copy)])
   (.seq
    (.region [(3, 0, false)] [] [2] false [
      (none, .mv 3 (.v 0)),
      (none, .len 4 false (.v 3)),
      (none, .bin 5 .gtr (.v 4) (.c (.int .i64 4096))),
      (none, .asg 2 (.v 5) .copy)])
    (.ret [2])))⟩
def F403 : PFunc :=
 ⟨[false, false], [.tmp 4],
  (.seq
   (.region [] [] [0, 1] false [
     (none, .asg 4 (.c (.bool false)) .copy)])
   (.seq
    (.seq
     (.region [(8, 1, false), (6, 0, false)] [] [0, 1, 10] false [
       (none, .mv 6 (.v 0)),
       (none, .len 7 false (.v 6)),
       (none, .mv 8 (.v 1)),
       (none, .len 9 false (.v 8)),
       (none, .bin 10 .neq (.v 7) (.v 9))])
     (.cond (.v 10)
      (.seq
       (.region [] [] [4] false [
         (none, .asg 4 (.c (.bool false)) .copy)])
       (.ret [4]))
      (.skip [0, 1])))
    (.seq
     (.seq
      (.region [] [] [0, 1, 5] false [
        (none, .asg 5 (.c (.int .i64 0)) .copy)])
      (.block 0
       (.loop
        (.seq
         (.seq
          (.region [(12, 0, false)] [] [0, 1, 5, 14] false [
            (none, .mv 11 (.v 5)),
            (none, .mv 12 (.v 0)),
            (none, .len 13 false (.v 12)),
            (none, .bin 14 .lss (.v 11) (.v 13))])
          (.cond (.v 14)
           (.skip [0, 1, 5])
           (.exit 0 [])))
         (.seq
          (.block 1
           (.seq
            (.region [(23, 1, false), (21, 1, false), (19, 0, false), (17, 0, false)] [] [0, 1, 5, 25] true [
              (none, .mv 17 (.v 0)),
              (none, .mv 18 (.v 5)),
              (none, .iadr 19 1 (.v 17) (.v 18)),
              (none, .load 20 false 1 (.v 19) none),
              (none, .mv 21 (.v 1)),
              (none, .mv 22 (.v 5)),
              (none, .iadr 23 1 (.v 21) (.v 22)),
              (none, .load 24 false 1 (.v 23) none),
              (none, .bin 25 .neq (.v 20) (.v 24))])
            (.cond (.v 25)
             (.seq
              (.region [] [] [4] false [
                (none, .asg 4 (.c (.bool false)) .copy)])
              (.ret [4]))
             (.skip [0, 1, 5]))))
          (.region [] [] [0, 1, 5] false [
            (none, .mv 15 (.v 5)),
            (none, .bin 16 .add (.v 15) (.c (.int .i64 1))),
            (none, .asg 5 (.v 16) .copy)]))))))
     (.seq
      (.region [] [] [4] false [
        (none, .asg 4 (.c (.bool true)) .copy)])
      (.ret [4])))))⟩
def F404 : PFunc :=
 ⟨[false, false], [.tmp 4],
  (.seq
   (.region [] [] [0, 1] false [
     (none, .asg 4 (.c (.bool false)) .copy)])
   (.seq
    (.seq
     (.region [] [] [0, 1, 5] false [
       (none, .asg 5 (.c (.int .i64 0)) .copy)])
     (.block 0
      (.loop
       (.seq
        (.seq
         (.region [(7, 0, false)] [] [0, 1, 5, 9] false [
           (none, .mv 6 (.v 5)),
           (none, .mv 7 (.v 0)),
           (none, .len 8 false (.v 7)),
           (none, .bin 9 .lss (.v 6) (.v 8))])
         (.cond (.v 9)
          (.skip [0, 1, 5])
          (.exit 0 [])))
        (.seq
         (.block 1
          (.seq
           (.region [(14, 0, false), (12, 0, false)] [] [0, 1, 5, 17] false [
             (none, .mv 12 (.v 0)),
             (none, .mv 13 (.v 5)),
             (none, .iadr 14 1 (.v 12) (.v 13)),
             (none, .load 15 false 1 (.v 14) none),
             (none, .mv 16 (.v 1)),
             (none, .bin 17 .eql (.v 15) (.v 16))])
           (.cond (.v 17)
            (.seq
             (.region [] [] [4] false [
               (none, .asg 4 (.c (.bool true)) .copy)])
             (.ret [4]))
            (.skip [0, 1, 5]))))
         (.region [] [] [0, 1, 5] false [
           (none, .mv 10 (.v 5)),
           (none, .bin 11 .add (.v 10) (.c (.int .i64 1))),
           (none, .asg 5 (.v 11) .copy)]))))))
    (.seq
     (.region [] [] [4] false [
       (none, .asg 4 (.c (.bool false)) .copy)])
     (.ret [4]))))⟩
def F5 : PFunc :=
 ⟨[true], [.tmp 2],
  (.seq
   (.region [] [] [0] false [
     (none, .asg 2 (.c (.int .i64 0)) .copy)])
   (.seq
    (.region [] [] [0, 3] false [
      (none, .asg 3 (.c (.int .i64 0)) .copy)])
    (.seq
     (.seq
      (.region [(11, 0, true), (10, 0, false), (9, 0, false), (8, 0, false), (6, 0, false), (5, 0, false), (4, 0, false)] [] [0, 3, 13] true [
        (none, .mvr 4 0),
        (none, .nchk 5 (.v 4)),
        (none, .fadr 6 1 1 (.v 5)),
        (none, .load 7 false 1 (.v 6) none),
        (none, .mvr 8 0),
        (none, .nchk 9 (.v 8)),
        (none, .fadr 10 0 1 (.v 9)),
        (none, .load 11 false 1 (.v 10) none),
        (none, .len 12 false (.v 11)),
        (none, .bin 13 .lss (.v 7) (.v 12))])
      (.cond (.v 13)
       (.region [(22, 0, true), (20, 0, false), (19, 0, false), (18, 0, false), (17, 0, true), (16, 0, false), (15, 0, false), (14, 0, false)] [] [0, 3] true [
         (none, .mvr 14 0),
         (none, .nchk 15 (.v 14)),
         (none, .fadr 16 0 1 (.v 15)),
         (none, .load 17 false 1 (.v 16) none),
         (none, .mvr 18 0),
         (none, .nchk 19 (.v 18)),
         (none, .fadr 20 1 1 (.v 19)),
         (none, .load 21 false 1 (.v 20) none),
         (none, .iadr 22 1 (.v 17) (.v 21)),
         (none, .load 23 false 1 (.v 22) none),
         (none, .conv 24 .i64 (.v 23)),
         (none, .asg 3 (.v 24) .copy)])
       (.skip [0, 3])))
     (.seq
      (.region [(31, 0, false), (30, 0, false), (27, 0, false), (26, 0, false), (25, 0, false)] [] [0, 3] false [
        (none, .mv 25 (.v 0)),
        (none, .nchk 26 (.v 25)),
        (none, .fadr 27 1 1 (.v 26)),
        (none, .load 28 false 1 (.v 27) none),
        (none, .bin 29 .add (.v 28) (.c (.int .i64 1))),
        (none, .nchk 30 (.v 25)),
        (none, .fadr 31 1 1 (.v 30)),
        (none, .store 1 (.v 31) (.v 29) .copy)])
      (.seq
       (.region [(43, 0, false), (42, 0, false), (35, 0, false), (34, 0, false), (33, 0, false), (32, 0, false)] [] [0, 3] false [
         (none, .mv 32 (.v 0)),
         (none, .mv 33 (.v 0)),
         (none, .nchk 34 (.v 33)),
         (none, .fadr 35 2 1 (.v 34)),
         (none, .load 36 false 1 (.v 35) none),
         (none, .bin 37 .mul (.v 36) (.c (.int .u64 6364136223846793005))),
         (none, .mv 38 (.v 3)),
         (none, .conv 39 .u64 (.v 38)),
         (none, .bin 40 .add (.v 37) (.v 39)),
         (none, .bin 41 .add (.v 40) (.c (.int .u64 1442695040888963407))),
         (none, .nchk 42 (.v 32)),
         (none, .fadr 43 2 1 (.v 42)),
         (none, .store 1 (.v 43) (.v 41) .copy)])
       (.seq
        (.seq
         (.region [(51, 0, true), (50, 0, false), (49, 0, false), (48, 0, false), (46, 0, false), (45, 0, false), (44, 0, false)] [] [0, 3, 53] true [
           (none, .mvr 44 0),
           (none, .nchk 45 (.v 44)),
           (none, .fadr 46 1 1 (.v 45)),
           (none, .load 47 false 1 (.v 46) none),
           (none, .mvr 48 0),
           (none, .nchk 49 (.v 48)),
           (none, .fadr 50 0 1 (.v 49)),
           (none, .load 51 false 1 (.v 50) none),
           (none, .len 52 false (.v 51)),
           (none, .bin 53 .leq (.v 47) (.v 52))])
         (.cond (.v 53)
          (.seq
           (.region [] [] [0, 2] false [
             (none, .mv 54 (.v 3)),
             (none, .asg 2 (.v 54) .copy)])
           (.ret [0, 2]))
          (.skip [0])))
        (.seq
         (.region [(57, 0, false), (56, 0, false), (55, 0, false)] [] [0, 2] false [
           (none, .mv 55 (.v 0)),
           (none, .nchk 56 (.v 55)),
           (none, .fadr 57 2 1 (.v 56)),
           (none, .load 58 false 1 (.v 57) none),
           (none, .bin 59 .shr (.v 58) (.c (.int .u64 40))),
           (none, .bin 60 .and (.v 59) (.c (.int .u64 255))),
           (none, .conv 61 .i64 (.v 60)),
           (none, .asg 2 (.v 61) .copy)])
         (.ret [0, 2]))))))))⟩
def F7 : PFunc :=
 ⟨[true, false], [.tmp 4],
  (.seq
   (.region [] [] [0, 1] false [
     (none, .asg 4 (.c (.int .i64 0)) .copy)])
   (.seq
    (.seq
     (.region [] [] [0, 1, 7] false [
       (none, .mv 6 (.v 1)),
       (none, .bin 7 .leq (.v 6) (.c (.int .i64 1)))])
     (.cond (.v 7)
      (.seq
       (.region [] [] [0, 4] false [
         (none, .asg 4 (.c (.int .i64 0)) .copy)])
       (.ret [0, 4]))
      (.skip [0, 1])))
    (.seq
     (.region [(8, 0, false)] [] [0, 1, 5] false [
       (none, .mv 8 (.v 0)),
       (none, .call (some 9) 5 true [((.v 8), true)]),
       (none, .asg 5 (.v 9) .copy)])
     (.seq
      (.seq
       (.region [] [] [0, 1, 5, 11] false [
         (none, .mv 10 (.v 1)),
         (none, .bin 11 .gtr (.v 10) (.c (.int .i64 200)))])
       (.cond (.v 11)
        (.region [(14, 0, false)] [] [0, 1, 5] false [
          (none, .mv 12 (.v 5)),
          (none, .bin 13 .mul (.v 12) (.c (.int .i64 256))),
          (none, .mv 14 (.v 0)),
          (none, .call (some 15) 5 true [((.v 14), true)]),
          (none, .bin 16 .add (.v 13) (.v 15)),
          (none, .asg 5 (.v 16) .copy)])
        (.skip [0, 1, 5])))
      (.seq
       (.region [] [] [0, 4] false [
         (none, .mv 17 (.v 5)),
         (none, .mv 18 (.v 1)),
         (none, .bin 19 .rem (.v 17) (.v 18)),
         (none, .asg 4 (.v 19) .copy)])
       (.ret [0, 4]))))))⟩
def F4 : PFunc :=
 ⟨[true, false], [.tmp 4],
  (.seq
   (.region [] [] [0, 1] false [
     (none, .asg 4 (.c (.int .i64 0)) .copy)])
   (.seq
    (.region [(10, 1, false), (7, 1, false), (6, 0, false), (5, 1, false)] [] [0, 4] false [
      (none, .mv 5 (.v 1)),
      (none, .mv 6 (.v 0)),
      (none, .mv 7 (.v 1)),
      (none, .len 8 false (.v 7)),
      (none, .call (some 9) 7 true [((.v 6), true), ((.v 8), false)]),
      (none, .iadr 10 1 (.v 5) (.v 9)),
      (none, .load 11 false 1 (.v 10) none),
      (none, .asg 4 (.v 11) .copy)])
    (.ret [0, 4])))⟩
def F6 : PFunc :=
 ⟨[true, false], [.tmp 4],
  (.seq
   (.region [] [] [0, 1] false [
     (none, .asg 4 (.c (.bool false)) .copy)])
   (.seq
    (.region [(5, 0, false)] [] [0, 4] false [
      (none, .mv 5 (.v 0)),
      (none, .mv 6 (.v 1)),
      (none, .call (some 7) 7 true [((.v 5), true), ((.v 6), false)]),
      (none, .bin 8 .eql (.v 7) (.c (.int .i64 0))),
      (none, .asg 4 (.v 8) .copy)])
    (.ret [0, 4])))⟩
def F603 : PFunc :=
 ⟨[false], [.tmp 2],
  (.seq
   (.region [] [] [0] false [
     (none, .asg 2 (.c .nilp) .copy)])
   (.seq
    (.region [(3, 0, false)] [] [2] false [
      (none, .mv 3 (.v 0)),
      (none, .build 4 [(.sl false 1 []), (.int .i64 0), (.int .u64 0)] [(0, 1, (.v 3), .move)]),
      (none, .box 5 (.v 4) .move),
      (none, .asg 2 (.v 5) .move)])
    (.ret [2])))⟩
def F8 : PFunc :=
 ⟨[true, false], [.tmp 4],
  (.seq
   (.region [] [] [0, 1] false [
     (none, .asg 4 (.c (.str [])) .copy)])
   (.seq
    (.region [(10, 1, false), (7, 1, false), (6, 0, false), (5, 1, false)] [] [0, 4] false [
      (none, .mv 5 (.v 1)),
      (none, .mv 6 (.v 0)),
      (none, .mv 7 (.v 1)),
      (none, .len 8 false (.v 7)),
      (none, .call (some 9) 7 true [((.v 6), true), ((.v 8), false)]),
      (none, .iadr 10 1 (.v 5) (.v 9)),
      (none, .load 11 false 1 (.v 10) none),
      (none, .asg 4 (.v 11) .copy)])
    (.ret [0, 4])))⟩
def F605 : PFunc :=
 ⟨[false, false, false], [.tmp 6],
  (.seq
   (.region [] [] [0, 1, 2] false [
     (none, .asg 6 (.c (.bool false)) .copy)])
   (.seq
    (.region [] [] [6] false [
      (none, .mv 7 (.v 0)),
      (none, .mv 8 (.v 1)),
      (none, .bin 9 .geq (.v 7) (.v 8)),
      (none, .mv 10 (.v 9)),
      (some (10, true), .mv 11 (.v 0)),
      (some (10, true), .mv 12 (.v 2)),
      (some (10, true), .bin 13 .leq (.v 11) (.v 12)),
      (none, .pick 14 (.v 10) (.v 13) (.c (.bool false))),
      (none, .asg 6 (.v 14) .copy)])
    (.ret [6])))⟩
def F739 : PFunc :=
 ⟨[false, false], [.tmp 4],
  (.seq
   (.region [] [] [0, 1] false [
     (none, .asg 4 (.c (.bool false)) .copy)])
   (.seq
    (.seq
     (.region [] [] [0, 1, 5] false [
       (none, .asg 5 (.c (.int .i64 0)) .copy)])
     (.block 0
      (.loop
       (.seq
        (.seq
         (.region [(7, 0, false)] [] [0, 1, 5, 9] false [
           (none, .mv 6 (.v 5)),
           (none, .mv 7 (.v 0)),
           (none, .len 8 false (.v 7)),
           (none, .bin 9 .lss (.v 6) (.v 8))])
         (.cond (.v 9)
          (.skip [0, 1, 5])
          (.exit 0 [])))
        (.seq
         (.block 1
          (.seq
           (.region [(14, 0, false), (12, 0, false)] [] [0, 1, 5, 17] false [
             (none, .mv 12 (.v 0)),
             (none, .mv 13 (.v 5)),
             (none, .iadr 14 1 (.v 12) (.v 13)),
             (none, .load 15 false 1 (.v 14) none),
             (none, .mv 16 (.v 1)),
             (none, .bin 17 .eql (.v 15) (.v 16))])
           (.cond (.v 17)
            (.seq
             (.region [] [] [4] false [
               (none, .asg 4 (.c (.bool true)) .copy)])
             (.ret [4]))
            (.skip [0, 1, 5]))))
         (.region [] [] [0, 1, 5] false [
           (none, .mv 10 (.v 5)),
           (none, .bin 11 .add (.v 10) (.c (.int .i64 1))),
           (none, .asg 5 (.v 11) .copy)]))))))
    (.seq
     (.region [] [] [4] false [
       (none, .asg 4 (.c (.bool false)) .copy)])
     (.ret [4]))))⟩
def F740 : PFunc :=
 ⟨[false, false], [.tmp 4],
  (.seq
   (.region [] [] [0, 1] false [
     (none, .asg 4 (.c (.bool false)) .copy)])
   (.seq
    (.region [] [] [0, 1, 5] false [
      (none, .asg 5 (.c (.bool false)) .copy)])
    (.seq
     (.seq
      (.region [] [] [0, 1, 5, 6] false [
        (none, .asg 6 (.c (.int .i64 0)) .copy)])
      (.block 0
       (.loop
        (.seq
         (.seq
          (.region [(8, 0, false)] [] [0, 1, 5, 6, 10] false [
            (none, .mv 7 (.v 6)),
            (none, .mv 8 (.v 0)),
            (none, .len 9 false (.v 8)),
            (none, .bin 10 .lss (.v 7) (.v 9))])
          (.cond (.v 10)
           (.skip [0, 1, 5, 6])
           (.exit 0 [5])))
         (.seq
          (.block 1
           (.seq
            (.region [(24, 0, false), (23, 0, false), (21, 0, false), (16, 0, false), (15, 0, false), (13, 0, false)] [] [0, 1, 5, 6, 27] false [
              (none, .mv 13 (.v 0)),
              (none, .mv 14 (.v 6)),
              (none, .iadr 15 4 (.v 13) (.v 14)),
              (none, .fadr 16 2 1 (.v 15)),
              (none, .load 17 false 1 (.v 16) none),
              (none, .mv 18 (.v 1)),
              (none, .bin 19 .eql (.v 17) (.v 18)),
              (none, .mv 20 (.v 19)),
              (some (20, true), .mv 21 (.v 0)),
              (some (20, true), .mv 22 (.v 6)),
              (some (20, true), .iadr 23 4 (.v 21) (.v 22)),
              (some (20, true), .fadr 24 1 1 (.v 23)),
              (some (20, true), .load 25 false 1 (.v 24) none),
              (some (20, true), .bin 26 .neq (.v 25) (.c (.str [116, 117, 114, 110]))),
              (none, .pick 27 (.v 20) (.v 26) (.c (.bool false)))])
            (.cond (.v 27)
             (.region [(31, 0, false), (30, 0, false), (28, 0, false)] [] [0, 1, 5, 6] false [
               (none, .mv 28 (.v 0)),
               (none, .mv 29 (.v 6)),
               (none, .iadr 30 4 (.v 28) (.v 29)),
               (none, .fadr 31 1 1 (.v 30)),
               (none, .load 32 false 1 (.v 31) none),
               (none, .bin 33 .eql (.v 32) (.c (.str [115, 104, 111, 119]))),
               (none, .asg 5 (.v 33) .copy)])
             (.skip [0, 1, 5, 6]))))
          (.region [] [] [0, 1, 5, 6] false [
            (none, .mv 11 (.v 6)),
            (none, .bin 12 .add (.v 11) (.c (.int .i64 1))),
            (none, .asg 6 (.v 12) .copy)]))))))
     (.seq
      (.region [] [] [4] false [
        (none, .mv 34 (.v 5)),
        (none, .asg 4 (.v 34) .copy)])
      (.ret [4])))))⟩
def F735 : PFunc :=
 ⟨[true, false], [.tmp 4],
  (.seq
   (.region [] [] [0, 3] false [
     (none, .box 3 (.v 1) .copy),
     (none, .asg 4 (.c (.int .i64 0)) .copy)])
   (.seq
    (.region [(9, 0, true), (8, 0, false), (7, 0, false), (6, 0, false)] [] [0, 3, 5] false [
      (none, .mv 6 (.v 0)),
      (none, .nchk 7 (.v 6)),
      (none, .fadr 8 1 1 (.v 7)),
      (none, .load 9 false 1 (.v 8) none),
      (none, .len 10 false (.v 9)),
      (none, .asg 5 (.v 10) .copy)])
    (.seq
     (.block 0
      (.seq
       (.region [(21, 3, false), (16, 3, false), (12, 3, false)] [] [0, 3, 5, 11] false [
         (none, .fadr 12 1 1 (.v 3)),
         (none, .load 13 false 1 (.v 12) none),
         (none, .bin 14 .neq (.v 13) (.c (.str [115, 104, 111, 119]))),
         (none, .mv 15 (.v 14)),
         (some (15, true), .fadr 16 1 1 (.v 3)),
         (some (15, true), .load 17 false 1 (.v 16) none),
         (some (15, true), .bin 18 .neq (.v 17) (.c (.str [104, 105, 100, 101]))),
         (none, .pick 19 (.v 15) (.v 18) (.c (.bool false))),
         (none, .mv 20 (.v 19)),
         (some (20, true), .fadr 21 1 1 (.v 3)),
         (some (20, true), .load 22 false 1 (.v 21) none),
         (some (20, true), .bin 23 .neq (.v 22) (.c (.str [116, 117, 114, 110]))),
         (none, .pick 24 (.v 20) (.v 23) (.c (.bool false))),
         (none, .asg 11 (.v 24) .copy)])
       (.cond (.v 11)
        (.seq
         (.region [] [] [0, 4] false [
           (none, .asg 4 (.c (.int .i64 1)) .copy)])
         (.ret [0, 4]))
        (.seq
         (.region [(30, 3, false), (29, 0, true), (28, 0, false), (27, 0, false), (26, 0, false)] [] [0, 3, 5, 25] true [
           (none, .mvr 26 0),
           (none, .nchk 27 (.v 26)),
           (none, .fadr 28 0 1 (.v 27)),
           (none, .load 29 false 1 (.v 28) none),
           (none, .fadr 30 2 1 (.v 3)),
           (none, .load 31 false 1 (.v 30) none),
           (none, .call (some 32) 739 false [((.v 29), false), ((.v 31), false)]),
           (none, .un 33 .not (.v 32)),
           (none, .asg 25 (.v 33) .copy)])
         (.cond (.v 25)
          (.seq
           (.region [] [] [0, 4] false [
             (none, .asg 4 (.c (.int .i64 6)) .copy)])
           (.ret [0, 4]))
          (.seq
           (.region [(40, 3, false), (35, 3, false)] [] [0, 3, 5, 34] false [
             (none, .fadr 35 0 1 (.v 3)),
             (none, .load 36 false 1 (.v 35) none),
             (none, .call (some 37) 605 false [((.v 36), false), ((.c (.int .i64 0)), false), ((.c (.int .i64 10000)), false)]),
             (none, .un 38 .not (.v 37)),
             (none, .mv 39 (.v 38)),
             (some (39, false), .fadr 40 3 1 (.v 3)),
             (some (39, false), .load 41 false 1 (.v 40) none),
             (some (39, false), .call (some 42) 605 false [((.v 41), false), ((.c (.int .i64 0)), false), ((.c (.int .i64 1000)), false)]),
             (some (39, false), .un 43 .not (.v 42)),
             (none, .pick 44 (.v 39) (.c (.bool true)) (.v 43)),
             (none, .asg 34 (.v 44) .copy)])
           (.cond (.v 34)
            (.seq
             (.region [] [] [0, 4] false [
               (none, .asg 4 (.c (.int .i64 4)) .copy)])
             (.ret [0, 4]))
            (.seq
             (.region [(50, 3, false), (46, 3, false)] [] [0, 3, 5, 45] false [
               (none, .fadr 46 1 1 (.v 3)),
               (none, .load 47 false 1 (.v 46) none),
               (none, .bin 48 .neq (.v 47) (.c (.str [116, 117, 114, 110]))),
               (none, .mv 49 (.v 48)),
               (some (49, true), .fadr 50 3 1 (.v 3)),
               (some (49, true), .load 51 false 1 (.v 50) none),
               (some (49, true), .bin 52 .neq (.v 51) (.c (.int .i64 0))),
               (none, .pick 53 (.v 49) (.v 52) (.c (.bool false))),
               (none, .asg 45 (.v 53) .copy)])
             (.cond (.v 45)
              (.seq
               (.region [] [] [0, 4] false [
                 (none, .asg 4 (.c (.int .i64 4)) .copy)])
               (.ret [0, 4]))
              (.seq
               (.region [(67, 3, false), (65, 0, true), (64, 0, true), (61, 0, true), (60, 0, false), (59, 0, false), (58, 0, false)] [] [0, 3, 5, 54] true [
                 (none, .mv 55 (.v 5)),
                 (none, .bin 56 .gtr (.v 55) (.c (.int .i64 0))),
                 (none, .mv 57 (.v 56)),
                 (some (57, true), .mvr 58 0),
                 (some (57, true), .nchk 59 (.v 58)),
                 (some (57, true), .fadr 60 1 1 (.v 59)),
                 (some (57, true), .load 61 false 1 (.v 60) none),
                 (some (57, true), .mv 62 (.v 5)),
                 (some (57, true), .bin 63 .sub (.v 62) (.c (.int .i64 1))),
                 (some (57, true), .iadr 64 4 (.v 61) (.v 63)),
                 (some (57, true), .fadr 65 0 1 (.v 64)),
                 (some (57, true), .load 66 false 1 (.v 65) none),
                 (some (57, true), .fadr 67 0 1 (.v 3)),
                 (some (57, true), .load 68 false 1 (.v 67) none),
                 (some (57, true), .bin 69 .gtr (.v 66) (.v 68)),
                 (none, .pick 70 (.v 57) (.v 69) (.c (.bool false))),
                 (none, .asg 54 (.v 70) .copy)])
               (.cond (.v 54)
                (.seq
                 (.region [] [] [0, 4] false [
                   (none, .asg 4 (.c (.int .i64 7)) .copy)])
                 (.ret [0, 4]))
                (.seq
                 (.region [(79, 3, false), (76, 3, false), (75, 0, true), (74, 0, false), (73, 0, false), (72, 0, false)] [] [0, 3, 5, 71] true [
                   (none, .mvr 72 0),
                   (none, .nchk 73 (.v 72)),
                   (none, .fadr 74 1 1 (.v 73)),
                   (none, .load 75 false 1 (.v 74) none),
                   (none, .fadr 76 2 1 (.v 3)),
                   (none, .load 77 false 1 (.v 76) none),
                   (none, .call (some 78) 740 false [((.v 75), false), ((.v 77), false)]),
                   (none, .fadr 79 1 1 (.v 3)),
                   (none, .load 80 false 1 (.v 79) none),
                   (none, .bin 81 .eql (.v 80) (.c (.str [115, 104, 111, 119]))),
                   (none, .eqb 82 false (.v 78) (.v 81)),
                   (none, .asg 71 (.v 82) .copy)])
                 (.cond (.v 71)
                  (.seq
                   (.region [] [] [0, 4] false [
                     (none, .asg 4 (.c (.int .i64 5)) .copy)])
                   (.ret [0, 4]))
                  (.seq
                   (.region [] [] [0, 3, 83] false [
                     (none, .mv 84 (.v 5)),
                     (none, .bin 85 .geq (.v 84) (.c (.int .i64 60))),
                     (none, .asg 83 (.v 85) .copy)])
                   (.cond (.v 83)
                    (.seq
                     (.region [] [] [0, 4] false [
                       (none, .asg 4 (.c (.int .i64 8)) .copy)])
                     (.ret [0, 4]))
                    (.skip [0, 3]))))))))))))))))
     (.seq
      (.region [(95, 0, false), (94, 0, false), (90, 0, true), (89, 0, false), (88, 0, false), (87, 0, false), (86, 0, false)] [] [0] true [
        (none, .mvr 86 0),
        (none, .mvr 87 0),
        (none, .nchk 88 (.v 87)),
        (none, .fadr 89 1 1 (.v 88)),
        (none, .load 90 false 1 (.v 89) none),
        (none, .load 91 true 4 (.v 3) none),
        (none, .mksl 92 4 (.agg [(.int .i64 0), (.str []), (.str []), (.int .i64 0)]) 1 [(0, (.v 91), .copy)]),
        (none, .app 93 4 (.v 90) (.v 92) .move),
        (none, .nchk 94 (.v 86)),
        (none, .fadr 95 1 1 (.v 94)),
        (none, .store 1 (.v 95) (.v 93) .move)])
      (.seq
       (.region [] [] [0, 4] false [
         (none, .asg 4 (.c (.int .i64 0)) .copy)])
       (.ret [0, 4]))))))⟩
def F738 : PFunc :=
 ⟨[], [.cell 0 true 2],
  (.seq
   (.region [] [] [0] false [
     (none, .new 0 (.agg [(.sl true 1 []), (.sl true 4 [])]))])
   (.seq
    (.region [] [] [0] false [
      (none, .mksl 1 1 (.str []) 0 []),
      (none, .mksl 2 4 (.agg [(.int .i64 0), (.str []), (.str []), (.int .i64 0)]) 0 []),
      (none, .build 3 [(.sl true 1 []), (.sl true 4 [])] [(0, 1, (.v 1), .move), (1, 1, (.v 2), .move)]),
      (none, .store 2 (.v 0) (.v 3) .move)])
    (.ret [0])))⟩
def F737 : PFunc :=
 ⟨[true], [.cell 2 true 2],
  (.seq
   (.region [] [] [0, 2] false [
     (none, .new 2 (.agg [(.sl true 1 []), (.sl true 4 [])]))])
   (.seq
    (.region [] [] [0, 2, 3] false [
      (none, .mksl 9 1 (.str []) 5 [(0, (.c (.str [99, 97, 115, 116, 108, 101])), .copy), (1, (.c (.str [109, 111, 111, 110])), .copy), (2, (.c (.str [114, 97, 116, 45, 50])), .copy), (3, (.c (.str [115, 104, 105, 112])), .copy), (4, (.c (.str [115, 116, 111, 114, 109])), .copy)]),
      (none, .asg 3 (.v 9) .move)])
    (.seq
     (.region [] [] [0, 2, 3, 4] false [
       (none, .call (some 10) 738 false []),
       (none, .new 4 (.agg [(.sl true 1 []), (.sl true 4 [])])),
       (none, .store 2 (.v 4) (.v 10) .move)])
     (.seq
      (.seq
       (.region [(11, 0, false)] [] [0, 2, 3, 4, 5] false [
         (none, .mv 11 (.v 0)),
         (none, .call (some 12) 7 true [((.v 11), true), ((.c (.int .i64 6)), false)]),
         (none, .asg 5 (.v 12) .copy)])
       (.block 0
        (.loop
         (.seq
          (.seq
           (.region [] [] [0, 2, 3, 4, 5, 14] false [
             (none, .mv 13 (.v 5)),
             (none, .bin 14 .gtr (.v 13) (.c (.int .i64 0)))])
           (.cond (.v 14)
            (.skip [0, 2, 3, 4, 5])
            (.exit 0 [0, 2, 4])))
          (.seq
           (.block 1
            (.region [(27, 4, false), (23, 3, false), (21, 4, true), (20, 4, false), (19, 3, false), (18, 4, true), (17, 4, false)] [] [0, 2, 3, 4, 5] true [
              (none, .fadr 17 0 1 (.v 4)),
              (none, .load 18 false 1 (.v 17) none),
              (none, .mvr 19 3),
              (none, .fadr 20 0 1 (.v 4)),
              (none, .load 21 false 1 (.v 20) none),
              (none, .len 22 false (.v 21)),
              (none, .iadr 23 1 (.v 19) (.v 22)),
              (none, .load 24 false 1 (.v 23) none),
              (none, .mksl 25 1 (.str []) 1 [(0, (.v 24), .copy)]),
              (none, .app 26 1 (.v 18) (.v 25) .move),
              (none, .fadr 27 0 1 (.v 4)),
              (none, .store 1 (.v 27) (.v 26) .move)]))
           (.region [] [] [0, 2, 3, 4, 5] false [
             (none, .mv 15 (.v 5)),
             (none, .bin 16 .sub (.v 15) (.c (.int .i64 1))),
             (none, .asg 5 (.v 16) .copy)]))))))
      (.seq
       (.region [] [] [0, 2, 4, 6] false [
         (none, .asg 6 (.c (.int .i64 0)) .copy)])
       (.seq
        (.seq
         (.region [(28, 0, false)] [] [0, 2, 4, 6, 7] false [
           (none, .mv 28 (.v 0)),
           (none, .call (some 29) 7 true [((.v 28), true), ((.c (.int .i64 12)), false)]),
           (none, .asg 7 (.v 29) .copy)])
         (.block 2
          (.loop
           (.seq
            (.seq
             (.region [(34, 4, true), (33, 4, false)] [] [0, 2, 4, 6, 7, 37] false [
               (none, .mv 30 (.v 7)),
               (none, .bin 31 .gtr (.v 30) (.c (.int .i64 0))),
               (none, .mv 32 (.v 31)),
               (some (32, true), .fadr 33 0 1 (.v 4)),
               (some (32, true), .load 34 false 1 (.v 33) none),
               (some (32, true), .len 35 false (.v 34)),
               (some (32, true), .bin 36 .gtr (.v 35) (.c (.int .i64 0))),
               (none, .pick 37 (.v 32) (.v 36) (.c (.bool false)))])
             (.cond (.v 37)
              (.skip [0, 2, 4, 6, 7])
              (.exit 2 [0, 2, 4])))
            (.seq
             (.block 3
              (.seq
               (.region [(51, 4, true), (48, 4, true), (47, 4, false), (46, 0, false), (45, 4, true), (44, 4, false), (41, 0, false)] [] [0, 2, 4, 6, 7, 8] true [
                 (none, .mv 40 (.v 6)),
                 (none, .mvr 41 0),
                 (none, .mksl 42 1 (.str []) 3 [(0, (.c (.str [115, 104, 111, 119])), .copy), (1, (.c (.str [104, 105, 100, 101])), .copy), (2, (.c (.str [116, 117, 114, 110])), .copy)]),
                 (none, .call (some 43) 8 true [((.v 41), true), ((.v 42), false)]),
                 (none, .fadr 44 0 1 (.v 4)),
                 (none, .load 45 false 1 (.v 44) none),
                 (none, .mvr 46 0),
                 (none, .fadr 47 0 1 (.v 4)),
                 (none, .load 48 false 1 (.v 47) none),
                 (none, .len 49 false (.v 48)),
                 (none, .call (some 50) 7 true [((.v 46), true), ((.v 49), false)]),
                 (none, .iadr 51 1 (.v 45) (.v 50)),
                 (none, .load 52 false 1 (.v 51) none),
                 (none, .build 53 [(.int .i64 0), (.str []), (.str []), (.int .i64 0)] [(0, 1, (.v 40), .copy), (1, 1, (.v 43), .copy), (2, 1, (.v 52), .copy)]),
                 (none, .new 8 (.agg [(.int .i64 0), (.str []), (.str []), (.int .i64 0)])),
                 (none, .store 4 (.v 8) (.v 53) .copy)])
               (.seq
                (.seq
                 (.region [(54, 8, false)] [] [0, 2, 4, 6, 7, 8, 56] false [
                   (none, .fadr 54 1 1 (.v 8)),
                   (none, .load 55 false 1 (.v 54) none),
                   (none, .bin 56 .eql (.v 55) (.c (.str [116, 117, 114, 110])))])
                 (.cond (.v 56)
                  (.region [(59, 8, false), (57, 0, false)] [] [0, 2, 4, 6, 7, 8] false [
                    (none, .mv 57 (.v 0)),
                    (none, .call (some 58) 7 true [((.v 57), true), ((.c (.int .i64 40)), false)]),
                    (none, .fadr 59 3 1 (.v 8)),
                    (none, .store 1 (.v 59) (.v 58) .copy)])
                  (.skip [0, 2, 4, 6, 7, 8])))
                (.seq
                 (.region [] [] [0, 2, 4, 6, 7] false [
                   (none, .load 60 true 4 (.v 8) none),
                   (none, .call (some 61) 735 false [((.v 4), true), ((.v 60), false)])])
                 (.region [(63, 0, false)] [] [0, 2, 4, 6, 7] false [
                   (none, .mv 62 (.v 6)),
                   (none, .mv 63 (.v 0)),
                   (none, .call (some 64) 7 true [((.v 63), true), ((.c (.int .i64 9)), false)]),
                   (none, .bin 65 .add (.v 62) (.v 64)),
                   (none, .asg 6 (.v 65) .copy)])))))
             (.region [] [] [0, 2, 4, 6, 7] false [
               (none, .mv 38 (.v 7)),
               (none, .bin 39 .sub (.v 38) (.c (.int .i64 1))),
               (none, .asg 7 (.v 39) .copy)]))))))
        (.seq
         (.region [] [] [0, 2] false [
           (none, .load 66 true 2 (.v 4) (some .move)),
           (none, .store 2 (.v 2) (.v 66) .move)])
         (.ret [0, 2]))))))))⟩
def F736 : PFunc :=
 ⟨[true], [.cell 2 true 2],
  (.seq
   (.region [] [] [0, 2] false [
     (none, .new 2 (.agg [(.sl true 1 []), (.sl true 4 [])]))])
   (.seq
    (.region [(6, 0, false)] [] [0, 2, 3] false [
      (none, .mv 6 (.v 0)),
      (none, .call (some 7) 737 true [((.v 6), true)]),
      (none, .new 3 (.agg [(.sl true 1 []), (.sl true 4 [])])),
      (none, .store 2 (.v 3) (.v 7) .move)])
    (.seq
     (.seq
      (.region [(8, 0, false)] [] [0, 2, 3, 9] false [
        (none, .mv 8 (.v 0)),
        (none, .call (some 9) 7 true [((.v 8), true), ((.c (.int .i64 20)), false)])])
      (.block 0
       (.seq
        (.region [] [] [0, 2, 3, 9, 10] false [
          (none, .bin 11 .eql (.v 9) (.c (.int .i64 0))),
          (none, .asg 10 (.v 11) .copy)])
        (.cond (.v 10)
         (.region [(19, 3, false), (14, 0, false), (13, 3, true), (12, 3, false)] [] [0, 2, 3] true [
           (none, .fadr 12 0 1 (.v 3)),
           (none, .load 13 false 1 (.v 12) none),
           (none, .mvr 14 0),
           (none, .mksl 15 1 (.str []) 4 [(0, (.c (.str [])), .copy), (1, (.c (.str [109, 111, 111, 110])), .copy), (2, (.c (.str [83, 117, 110])), .copy), (3, (.c (.str [115, 117, 110])), .copy)]),
           (none, .call (some 16) 8 true [((.v 14), true), ((.v 15), false)]),
           (none, .mksl 17 1 (.str []) 1 [(0, (.v 16), .copy)]),
           (none, .app 18 1 (.v 13) (.v 17) .move),
           (none, .fadr 19 0 1 (.v 3)),
           (none, .store 1 (.v 19) (.v 18) .move)])
         (.seq
          (.region [] [] [0, 2, 3, 9, 20] false [
            (none, .bin 21 .eql (.v 9) (.c (.int .i64 1))),
            (none, .asg 20 (.v 21) .copy)])
          (.cond (.v 20)
           (.region [(36, 3, false), (30, 0, false), (27, 0, false), (24, 0, false), (23, 3, true), (22, 3, false)] [] [0, 2, 3] true [
             (none, .fadr 22 1 1 (.v 3)),
             (none, .load 23 false 1 (.v 22) none),
             (none, .mvr 24 0),
             (none, .mksl 25 1 (.int .i64 0) 4 [(0, (.c (.int .i64 (-1))), .copy), (1, (.c (.int .i64 0)), .copy), (2, (.c (.int .i64 10000)), .copy), (3, (.c (.int .i64 10001)), .copy)]),
             (none, .call (some 26) 4 true [((.v 24), true), ((.v 25), false)]),
             (none, .mvr 27 0),
             (none, .mksl 28 1 (.str []) 2 [(0, (.c (.str [115, 104, 111, 119])), .copy), (1, (.c (.str [98, 117, 114, 110])), .copy)]),
             (none, .call (some 29) 8 true [((.v 27), true), ((.v 28), false)]),
             (none, .mvr 30 0),
             (none, .mksl 31 1 (.str []) 2 [(0, (.c (.str [99, 97, 115, 116, 108, 101])), .copy), (1, (.c (.str [110, 111, 110, 101])), .copy)]),
             (none, .call (some 32) 8 true [((.v 30), true), ((.v 31), false)]),
             (none, .build 33 [(.int .i64 0), (.str []), (.str []), (.int .i64 0)] [(0, 1, (.v 26), .copy), (1, 1, (.v 29), .copy), (2, 1, (.v 32), .copy)]),
             (none, .mksl 34 4 (.agg [(.int .i64 0), (.str []), (.str []), (.int .i64 0)]) 1 [(0, (.v 33), .copy)]),
             (none, .app 35 4 (.v 23) (.v 34) .move),
             (none, .fadr 36 1 1 (.v 3)),
             (none, .store 1 (.v 36) (.v 35) .move)])
           (.seq
            (.region [] [] [0, 2, 3, 9, 37] false [
              (none, .bin 38 .eql (.v 9) (.c (.int .i64 2))),
              (none, .asg 37 (.v 38) .copy)])
            (.cond (.v 37)
             (.region [(47, 3, false), (41, 0, false), (40, 3, true), (39, 3, false)] [] [0, 2, 3] true [
               (none, .fadr 39 1 1 (.v 3)),
               (none, .load 40 false 1 (.v 39) none),
               (none, .mvr 41 0),
               (none, .mksl 42 1 (.int .i64 0) 4 [(0, (.c (.int .i64 (-1))), .copy), (1, (.c (.int .i64 0)), .copy), (2, (.c (.int .i64 1000)), .copy), (3, (.c (.int .i64 1001)), .copy)]),
               (none, .call (some 43) 4 true [((.v 41), true), ((.v 42), false)]),
               (none, .build 44 [(.int .i64 0), (.str []), (.str []), (.int .i64 0)] [(0, 1, (.c (.int .i64 9000)), .copy), (1, 1, (.c (.str [116, 117, 114, 110])), .copy), (2, 1, (.c (.str [99, 97, 115, 116, 108, 101])), .copy), (3, 1, (.v 43), .copy)]),
               (none, .mksl 45 4 (.agg [(.int .i64 0), (.str []), (.str []), (.int .i64 0)]) 1 [(0, (.v 44), .copy)]),
               (none, .app 46 4 (.v 40) (.v 45) .move),
               (none, .fadr 47 1 1 (.v 3)),
               (none, .store 1 (.v 47) (.v 46) .move)])
             (.seq
              (.region [] [] [0, 2, 3, 48] false [
                (none, .bin 49 .eql (.v 9) (.c (.int .i64 3))),
                (none, .asg 48 (.v 49) .copy)])
              (.cond (.v 48)
               (.seq
                (.region [(51, 3, false)] [] [0, 2, 3] false [
                  (none, .mksl 50 1 (.str []) 1 [(0, (.c (.str [99, 97, 115, 116, 108, 101])), .copy)]),
                  (none, .fadr 51 0 1 (.v 3)),
                  (none, .store 1 (.v 51) (.v 50) .move)])
                (.seq
                 (.region [(53, 3, false)] [] [0, 2, 3] false [
                   (none, .mksl 52 4 (.agg [(.int .i64 0), (.str []), (.str []), (.int .i64 0)]) 0 []),
                   (none, .fadr 53 1 1 (.v 3)),
                   (none, .store 1 (.v 53) (.v 52) .move)])
                 (.seq
                  (.region [(54, 0, false)] [] [0, 2, 3, 4] false [
                    (none, .mv 54 (.v 0)),
                    (none, .call (some 55) 7 true [((.v 54), true), ((.c (.int .i64 2)), false)]),
                    (none, .bin 56 .add (.c (.int .i64 60)) (.v 55)),
                    (none, .asg 4 (.v 56) .copy)])
                  (.block 1
                   (.loop
                    (.seq
                     (.seq
                      (.region [(58, 3, true), (57, 3, false)] [] [0, 2, 3, 4, 61] false [
                        (none, .fadr 57 1 1 (.v 3)),
                        (none, .load 58 false 1 (.v 57) none),
                        (none, .len 59 false (.v 58)),
                        (none, .mv 60 (.v 4)),
                        (none, .bin 61 .lss (.v 59) (.v 60))])
                      (.cond (.v 61)
                       (.skip [0, 2, 3, 4])
                       (.exit 1 [0, 2, 3])))
                     (.block 2
                      (.seq
                       (.region [] [] [0, 2, 3, 4, 5] false [
                         (none, .asg 5 (.c (.str [115, 104, 111, 119])) .copy)])
                       (.seq
                        (.seq
                         (.region [(63, 3, true), (62, 3, false)] [] [0, 2, 3, 4, 5, 66] false [
                           (none, .fadr 62 1 1 (.v 3)),
                           (none, .load 63 false 1 (.v 62) none),
                           (none, .len 64 false (.v 63)),
                           (none, .bin 65 .rem (.v 64) (.c (.int .i64 2))),
                           (none, .bin 66 .eql (.v 65) (.c (.int .i64 1)))])
                         (.cond (.v 66)
                          (.region [] [] [0, 2, 3, 4, 5] false [
                            (none, .asg 5 (.c (.str [104, 105, 100, 101])) .copy)])
                          (.skip [0, 2, 3, 4, 5])))
                        (.region [(73, 3, false), (68, 3, true), (67, 3, false)] [] [0, 2, 3, 4] false [
                          (none, .fadr 67 1 1 (.v 3)),
                          (none, .load 68 false 1 (.v 67) none),
                          (none, .mv 69 (.v 5)),
                          (none, .build 70 [(.int .i64 0), (.str []), (.str []), (.int .i64 0)] [(0, 1, (.c (.int .i64 5)), .copy), (1, 1, (.v 69), .copy), (2, 1, (.c (.str [99, 97, 115, 116, 108, 101])), .copy)]),
                          (none, .mksl 71 4 (.agg [(.int .i64 0), (.str []), (.str []), (.int .i64 0)]) 1 [(0, (.v 70), .copy)]),
                          (none, .app 72 4 (.v 68) (.v 71) .move),
                          (none, .fadr 73 1 1 (.v 3)),
                          (none, .store 1 (.v 73) (.v 72) .move)]))))))))))
               (.skip [0, 2, 3])))))))))))
     (.seq
      (.region [] [] [0, 2] false [
        (none, .load 74 true 2 (.v 3) (some .move)),
        (none, .store 2 (.v 2) (.v 74) .move)])
      (.ret [0, 2])))))⟩
def F494 : PFunc :=
 ⟨[false], [.cell 2 true 2, .tmp 3],
  (.seq
   (.region [] [] [0, 2] false [
     (none, .new 2 (.agg [(.sl true 1 []), (.sl true 4 [])])),
     (none, .asg 3 (.c (.int .i64 0)) .copy)])
   (.seq
    (.region [(6, 0, false)] [] [2, 4] false [
      (none, .mv 6 (.v 0)),
      (none, .call (some 7) 603 true [((.v 6), false)]),
      (none, .asg 4 (.v 7) .move)])
    (.seq
     (.region [(8, 4, false)] [] [2, 4, 5] false [
       (none, .mv 8 (.v 4)),
       (none, .call (some 9) 736 true [((.v 8), true)]),
       (none, .new 5 (.agg [(.sl true 1 []), (.sl true 4 [])])),
       (none, .store 2 (.v 5) (.v 9) .move)])
     (.seq
      (.seq
       (.region [(10, 4, false)] [] [2, 4, 5, 11] false [
         (none, .mv 10 (.v 4)),
         (none, .call (some 11) 6 true [((.v 10), true), ((.c (.int .i64 4)), false)])])
       (.cond (.v 11)
        (.seq
         (.region [(13, 4, false)] [] [2, 3] true [
           (none, .load 12 true 2 (.v 5) (some .move)),
           (none, .mvr 13 4),
           (none, .mksl 14 1 (.int .i64 0) 5 [(0, (.c (.int .i64 (-1))), .copy), (1, (.c (.int .i64 0)), .copy), (2, (.c (.int .i64 9990)), .copy), (3, (.c (.int .i64 10000)), .copy), (4, (.c (.int .i64 10001)), .copy)]),
           (none, .call (some 15) 4 true [((.v 13), true), ((.v 14), false)]),
           (none, .store 2 (.v 2) (.v 12) .move),
           (none, .asg 3 (.v 15) .copy)])
         (.ret [2, 3]))
        (.skip [2, 4, 5])))
      (.seq
       (.region [(17, 4, false)] [] [2, 3] true [
         (none, .load 16 true 2 (.v 5) (some .move)),
         (none, .mvr 17 4),
         (none, .call (some 18) 7 true [((.v 17), true), ((.c (.int .i64 100)), false)]),
         (none, .store 2 (.v 2) (.v 16) .move),
         (none, .asg 3 (.v 18) .copy)])
       (.ret [2, 3]))))))⟩
def F495 : PFunc :=
 ⟨[false], [.cell 2 true 2, .tmp 3],
  (.seq
   (.region [] [] [0, 2] false [
     (none, .new 2 (.agg [(.sl true 1 []), (.sl true 4 [])])),
     (none, .asg 3 (.c (.int .i64 0)) .copy)])
   (.seq
    (.region [(6, 0, false)] [] [2, 4] false [
      (none, .mv 6 (.v 0)),
      (none, .call (some 7) 603 true [((.v 6), false)]),
      (none, .asg 4 (.v 7) .move)])
    (.seq
     (.region [(8, 4, false)] [] [2, 4, 5] false [
       (none, .mv 8 (.v 4)),
       (none, .call (some 9) 736 true [((.v 8), true)]),
       (none, .new 5 (.agg [(.sl true 1 []), (.sl true 4 [])])),
       (none, .store 2 (.v 5) (.v 9) .move)])
     (.seq
      (.seq
       (.region [(10, 4, false)] [] [2, 4, 5, 11] false [
         (none, .mv 10 (.v 4)),
         (none, .call (some 11) 6 true [((.v 10), true), ((.c (.int .i64 8)), false)])])
       (.cond (.v 11)
        (.seq
         (.region [(13, 4, false)] [] [2, 3] true [
           (none, .load 12 true 2 (.v 5) (some .move)),
           (none, .mvr 13 4),
           (none, .mksl 14 1 (.int .i64 0) 4 [(0, (.c (.int .i64 (-1))), .copy), (1, (.c (.int .i64 0)), .copy), (2, (.c (.int .i64 10000)), .copy), (3, (.c (.int .i64 10001)), .copy)]),
           (none, .call (some 15) 4 true [((.v 13), true), ((.v 14), false)]),
           (none, .store 2 (.v 2) (.v 12) .move),
           (none, .asg 3 (.v 15) .copy)])
         (.ret [2, 3]))
        (.skip [2, 4, 5])))
      (.seq
       (.region [(17, 4, false)] [] [2, 3] true [
         (none, .load 16 true 2 (.v 5) (some .move)),
         (none, .mvr 17 4),
         (none, .call (some 18) 7 true [((.v 17), true), ((.c (.int .i64 70)), false)]),
         (none, .store 2 (.v 2) (.v 16) .move),
         (none, .asg 3 (.v 18) .copy)])
       (.ret [2, 3]))))))⟩
def F506 : PFunc :=
 ⟨[false], [.cell 2 true 2, .tmp 3],
  (.seq
   (.region [] [] [0, 2] false [
     (none, .new 2 (.agg [(.sl false 1 []), (.sl false 4 [])])),
     (none, .asg 3 (.c (.str [])) .copy)])
   (.seq
    (.region [(6, 0, false)] [] [2, 4] false [
      (none, .mv 6 (.v 0)),
      (none, .call (some 7) 603 true [((.v 6), false)]),
      (none, .asg 4 (.v 7) .move)])
    (.seq
     (.region [(8, 4, false)] [] [2, 4, 5] false [
       (none, .mv 8 (.v 4)),
       (none, .call (some 9) 736 true [((.v 8), true)]),
       (none, .new 5 (.agg [(.sl false 1 []), (.sl false 4 [])])),
       (none, .store 2 (.v 5) (.v 9) .freeze)])
     (.seq
      (.seq
       (.region [(15, 4, false), (11, 5, true), (10, 5, false)] [] [2, 4, 5, 18] false [
         (none, .fadr 10 0 1 (.v 5)),
         (none, .load 11 false 1 (.v 10) none),
         (none, .len 12 false (.v 11)),
         (none, .bin 13 .gtr (.v 12) (.c (.int .i64 0))),
         (none, .mv 14 (.v 13)),
         (some (14, true), .mv 15 (.v 4)),
         (some (14, true), .call (some 16) 6 true [((.v 15), true), ((.c (.int .i64 8)), false)]),
         (some (14, true), .un 17 .not (.v 16)),
         (none, .pick 18 (.v 14) (.v 17) (.c (.bool false)))])
       (.cond (.v 18)
        (.seq
         (.region [(27, 5, true), (24, 5, true), (23, 5, false), (22, 4, false), (21, 5, true), (20, 5, false)] [] [2, 3] true [
           (none, .load 19 true 2 (.v 5) none),
           (none, .fadr 20 0 1 (.v 5)),
           (none, .load 21 false 1 (.v 20) none),
           (none, .mvr 22 4),
           (none, .fadr 23 0 1 (.v 5)),
           (none, .load 24 false 1 (.v 23) none),
           (none, .len 25 false (.v 24)),
           (none, .call (some 26) 7 true [((.v 22), true), ((.v 25), false)]),
           (none, .iadr 27 1 (.v 21) (.v 26)),
           (none, .load 28 false 1 (.v 27) none),
           (none, .store 2 (.v 2) (.v 19) .copy),
           (none, .asg 3 (.v 28) .copy)])
         (.ret [2, 3]))
        (.skip [2, 4, 5])))
      (.seq
       (.region [(30, 4, false)] [] [2, 3] true [
         (none, .load 29 true 2 (.v 5) none),
         (none, .mvr 30 4),
         (none, .mksl 31 1 (.str []) 3 [(0, (.c (.str [])), .copy), (1, (.c (.str [110, 111, 110, 101])), .copy), (2, (.c (.str [99, 97, 115, 116, 108, 101])), .copy)]),
         (none, .call (some 32) 8 true [((.v 30), true), ((.v 31), false)]),
         (none, .store 2 (.v 2) (.v 29) .copy),
         (none, .asg 3 (.v 32) .copy)])
       (.ret [2, 3]))))))⟩
def F612 : PFunc :=
 ⟨[false], [.tmp 2],
  (.seq
   (.region [] [] [0] false [
     (none, .asg 2 (.c (.bool false)) .copy)])
   (.seq
    (.region [] [] [2] false [
      (none, .mv 3 (.v 0)),
      (none, .bin 4 .geq (.v 3) (.c (.int .u8 48))),
      (none, .mv 5 (.v 4)),
      (some (5, true), .mv 6 (.v 0)),
      (some (5, true), .bin 7 .leq (.v 6) (.c (.int .u8 57))),
      (none, .pick 8 (.v 5) (.v 7) (.c (.bool false))),
      (none, .asg 2 (.v 8) .copy)])
    (.ret [2])))⟩
def F613 : PFunc :=
 ⟨[false], [.tmp 2],
  (.seq
   (.region [] [] [0] false [
     (none, .asg 2 (.c (.bool false)) .copy)])
   (.seq
    (.region [] [] [2] false [
      (none, .mv 3 (.v 0)),
      (none, .bin 4 .geq (.v 3) (.c (.int .u8 97))),
      (none, .mv 5 (.v 4)),
      (some (5, true), .mv 6 (.v 0)),
      (some (5, true), .bin 7 .leq (.v 6) (.c (.int .u8 122))),
      (none, .pick 8 (.v 5) (.v 7) (.c (.bool false))),
      (none, .asg 2 (.v 8) .copy)])
    (.ret [2])))⟩
def F533 : PFunc :=
 ⟨[false], [.tmp 2],
  (.seq
   (.region [] [] [0] false [
     (none, .asg 2 (.c (.bool false)) .copy)])
   (.seq
    (.seq
     (.region [] [] [0, 16] false [
       (none, .mv 4 (.v 0)),
       (none, .bin 5 .eql (.v 4) (.c (.str []))),
       (none, .mv 6 (.v 5)),
       (some (6, false), .mv 7 (.v 0)),
       (some (6, false), .len 8 true (.v 7)),
       (some (6, false), .bin 9 .gtr (.v 8) (.c (.int .i64 12))),
       (none, .pick 10 (.v 6) (.c (.bool true)) (.v 9)),
       (none, .mv 11 (.v 10)),
       (some (11, false), .mv 12 (.v 0)),
       (some (11, false), .idx 13 (.v 12) (.c (.int .i64 0))),
       (some (11, false), .call (some 14) 613 false [((.v 13), false)]),
       (some (11, false), .un 15 .not (.v 14)),
       (none, .pick 16 (.v 11) (.c (.bool true)) (.v 15))])
     (.cond (.v 16)
      (.seq
       (.region [] [] [2] false [
         (none, .asg 2 (.c (.bool false)) .copy)])
       (.ret [2]))
      (.skip [0])))
    (.seq
     (.seq
      (.region [] [] [0, 3] false [
        (none, .asg 3 (.c (.int .i64 0)) .copy)])
      (.block 0
       (.loop
        (.seq
         (.seq
          (.region [] [] [0, 3, 20] false [
            (none, .mv 17 (.v 3)),
            (none, .mv 18 (.v 0)),
            (none, .len 19 true (.v 18)),
            (none, .bin 20 .lss (.v 17) (.v 19))])
          (.cond (.v 20)
           (.skip [0, 3])
           (.exit 0 [])))
         (.seq
          (.block 1
           (.seq
            (.region [] [] [0, 3, 40] false [
              (none, .mv 23 (.v 0)),
              (none, .mv 24 (.v 3)),
              (none, .idx 25 (.v 23) (.v 24)),
              (none, .call (some 26) 613 false [((.v 25), false)]),
              (none, .un 27 .not (.v 26)),
              (none, .mv 28 (.v 27)),
              (some (28, true), .mv 29 (.v 0)),
              (some (28, true), .mv 30 (.v 3)),
              (some (28, true), .idx 31 (.v 29) (.v 30)),
              (some (28, true), .call (some 32) 612 false [((.v 31), false)]),
              (some (28, true), .un 33 .not (.v 32)),
              (none, .pick 34 (.v 28) (.v 33) (.c (.bool false))),
              (none, .mv 35 (.v 34)),
              (some (35, true), .mv 36 (.v 0)),
              (some (35, true), .mv 37 (.v 3)),
              (some (35, true), .idx 38 (.v 36) (.v 37)),
              (some (35, true), .bin 39 .neq (.v 38) (.c (.int .u8 45))),
              (none, .pick 40 (.v 35) (.v 39) (.c (.bool false)))])
            (.cond (.v 40)
             (.seq
              (.region [] [] [2] false [
                (none, .asg 2 (.c (.bool false)) .copy)])
              (.ret [2]))
             (.skip [0, 3]))))
          (.region [] [] [0, 3] false [
            (none, .mv 21 (.v 3)),
            (none, .bin 22 .add (.v 21) (.c (.int .i64 1))),
            (none, .asg 3 (.v 22) .copy)]))))))
     (.seq
      (.region [] [] [2] false [
        (none, .asg 2 (.c (.bool true)) .copy)])
      (.ret [2])))))⟩
def F742 : PFunc :=
 ⟨[true, false], [.tmp 4],
  (.seq
   (.region [] [] [0, 1] false [
     (none, .asg 4 (.c (.int .i64 0)) .copy)])
   (.seq
    (.block 0
     (.seq
      (.region [] [] [0, 1, 5] false [
        (none, .mv 6 (.v 1)),
        (none, .call (some 7) 533 false [((.v 6), false)]),
        (none, .un 8 .not (.v 7)),
        (none, .asg 5 (.v 8) .copy)])
      (.cond (.v 5)
       (.seq
        (.region [] [] [0, 4] false [
          (none, .asg 4 (.c (.int .i64 3)) .copy)])
        (.ret [0, 4]))
       (.seq
        (.region [(13, 0, true), (12, 0, false), (11, 0, false), (10, 0, false)] [] [0, 1, 9] false [
          (none, .mv 10 (.v 0)),
          (none, .nchk 11 (.v 10)),
          (none, .fadr 12 0 1 (.v 11)),
          (none, .load 13 false 1 (.v 12) none),
          (none, .mv 14 (.v 1)),
          (none, .call (some 15) 739 false [((.v 13), false), ((.v 14), false)]),
          (none, .asg 9 (.v 15) .copy)])
        (.cond (.v 9)
         (.seq
          (.region [] [] [0, 4] false [
            (none, .asg 4 (.c (.int .i64 5)) .copy)])
          (.ret [0, 4]))
         (.seq
          (.region [(20, 0, true), (19, 0, false), (18, 0, false), (17, 0, false)] [] [0, 1, 16] false [
            (none, .mv 17 (.v 0)),
            (none, .nchk 18 (.v 17)),
            (none, .fadr 19 0 1 (.v 18)),
            (none, .load 20 false 1 (.v 19) none),
            (none, .len 21 false (.v 20)),
            (none, .bin 22 .geq (.v 21) (.c (.int .i64 60))),
            (none, .asg 16 (.v 22) .copy)])
          (.cond (.v 16)
           (.seq
            (.region [] [] [0, 4] false [
              (none, .asg 4 (.c (.int .i64 8)) .copy)])
            (.ret [0, 4]))
           (.skip [0, 1]))))))))
    (.seq
     (.region [(32, 0, false), (31, 0, false), (27, 0, true), (26, 0, false), (25, 0, false), (24, 0, false), (23, 0, false)] [] [0] false [
       (none, .mv 23 (.v 0)),
       (none, .mv 24 (.v 0)),
       (none, .nchk 25 (.v 24)),
       (none, .fadr 26 0 1 (.v 25)),
       (none, .load 27 false 1 (.v 26) none),
       (none, .mv 28 (.v 1)),
       (none, .mksl 29 1 (.str []) 1 [(0, (.v 28), .copy)]),
       (none, .app 30 1 (.v 27) (.v 29) .move),
       (none, .nchk 31 (.v 23)),
       (none, .fadr 32 0 1 (.v 31)),
       (none, .store 1 (.v 32) (.v 30) .move)])
     (.seq
      (.region [] [] [0, 4] false [
        (none, .asg 4 (.c (.int .i64 0)) .copy)])
      (.ret [0, 4])))))⟩
def F741 : PFunc :=
 ⟨[false], [.tmp 2],
  (.seq
   (.region [] [] [0] false [
     (none, .asg 2 (.c (.bool false)) .copy)])
   (.seq
    (.region [] [] [0, 3] false [
      (none, .call (some 6) 738 false []),
      (none, .new 3 (.agg [(.sl true 1 []), (.sl true 4 [])])),
      (none, .store 2 (.v 3) (.v 6) .move)])
    (.seq
     (.seq
      (.region [] [] [0, 3, 4] false [
        (none, .asg 4 (.c (.int .i64 0)) .copy)])
      (.block 0
       (.loop
        (.seq
         (.seq
          (.region [(11, 0, true), (10, 0, false), (9, 0, false), (8, 0, false)] [] [0, 3, 4, 13] false [
            (none, .mv 7 (.v 4)),
            (none, .mv 8 (.v 0)),
            (none, .nchk 9 (.v 8)),
            (none, .fadr 10 0 1 (.v 9)),
            (none, .load 11 false 1 (.v 10) none),
            (none, .len 12 false (.v 11)),
            (none, .bin 13 .lss (.v 7) (.v 12))])
          (.cond (.v 13)
           (.skip [0, 3, 4])
           (.exit 0 [0, 3])))
         (.seq
          (.block 1
           (.seq
            (.region [(21, 0, true), (19, 0, true), (18, 0, false), (17, 0, false), (16, 0, false)] [] [0, 3, 4, 24] false [
              (none, .mv 16 (.v 0)),
              (none, .nchk 17 (.v 16)),
              (none, .fadr 18 0 1 (.v 17)),
              (none, .load 19 false 1 (.v 18) none),
              (none, .mv 20 (.v 4)),
              (none, .iadr 21 1 (.v 19) (.v 20)),
              (none, .load 22 false 1 (.v 21) none),
              (none, .call (some 23) 742 false [((.v 3), true), ((.v 22), false)]),
              (none, .bin 24 .neq (.v 23) (.c (.int .i64 0)))])
            (.cond (.v 24)
             (.seq
              (.region [] [] [2] false [
                (none, .asg 2 (.c (.bool false)) .copy)])
              (.ret [2]))
             (.skip [0, 3, 4]))))
          (.region [] [] [0, 3, 4] false [
            (none, .mv 14 (.v 4)),
            (none, .bin 15 .add (.v 14) (.c (.int .i64 1))),
            (none, .asg 4 (.v 15) .copy)]))))))
     (.seq
      (.seq
       (.region [] [] [0, 3, 5] false [
         (none, .asg 5 (.c (.int .i64 0)) .copy)])
       (.block 2
        (.loop
         (.seq
          (.seq
           (.region [(29, 0, true), (28, 0, false), (27, 0, false), (26, 0, false)] [] [0, 3, 5, 31] false [
             (none, .mv 25 (.v 5)),
             (none, .mv 26 (.v 0)),
             (none, .nchk 27 (.v 26)),
             (none, .fadr 28 1 1 (.v 27)),
             (none, .load 29 false 1 (.v 28) none),
             (none, .len 30 false (.v 29)),
             (none, .bin 31 .lss (.v 25) (.v 30))])
           (.cond (.v 31)
            (.skip [0, 3, 5])
            (.exit 2 [])))
          (.seq
           (.block 3
            (.seq
             (.region [(39, 0, true), (37, 0, true), (36, 0, false), (35, 0, false), (34, 0, false)] [] [0, 3, 5, 42] false [
               (none, .mv 34 (.v 0)),
               (none, .nchk 35 (.v 34)),
               (none, .fadr 36 1 1 (.v 35)),
               (none, .load 37 false 1 (.v 36) none),
               (none, .mv 38 (.v 5)),
               (none, .iadr 39 4 (.v 37) (.v 38)),
               (none, .load 40 true 4 (.v 39) none),
               (none, .call (some 41) 735 false [((.v 3), true), ((.v 40), false)]),
               (none, .bin 42 .neq (.v 41) (.c (.int .i64 0)))])
             (.cond (.v 42)
              (.seq
               (.region [] [] [2] false [
                 (none, .asg 2 (.c (.bool false)) .copy)])
               (.ret [2]))
              (.skip [0, 3, 5]))))
           (.region [] [] [0, 3, 5] false [
             (none, .mv 32 (.v 5)),
             (none, .bin 33 .add (.v 32) (.c (.int .i64 1))),
             (none, .asg 5 (.v 33) .copy)]))))))
      (.seq
       (.region [] [] [2] false [
         (none, .asg 2 (.c (.bool true)) .copy)])
       (.ret [2]))))))⟩
def F551 : PFunc :=
 ⟨[false], [.tmp 2, .tmp 3],
  (.seq
   (.region [] [] [1] false [
     (none, .box 1 (.v 0) .move),
     (none, .asg 2 (.c (.sl true 1 [])) .copy),
     (none, .asg 3 (.c (.int .i64 0)) .copy)])
   (.seq
    (.seq
     (.region [] [] [1, 9] false [
       (none, .call (some 8) 741 false [((.v 1), false)]),
       (none, .un 9 .not (.v 8))])
     (.cond (.v 9)
      (.seq
       (.region [] [] [2, 3] false [
         (none, .asg 2 (.c (.sl true 1 [])) .copy),
         (none, .asg 3 (.c (.int .i64 1)) .copy)])
       (.ret [2, 3]))
      (.skip [1])))
    (.seq
     (.region [] [] [1, 4] false [
       (none, .mksl 10 1 (.str []) 0 []),
       (none, .asg 4 (.v 10) .move)])
     (.seq
      (.seq
       (.region [] [] [1, 4, 5] false [
         (none, .asg 5 (.c (.int .i64 0)) .copy)])
       (.block 0
        (.loop
         (.seq
          (.seq
           (.region [(13, 1, true), (12, 1, false)] [] [1, 4, 5, 15] false [
             (none, .mv 11 (.v 5)),
             (none, .fadr 12 0 1 (.v 1)),
             (none, .load 13 false 1 (.v 12) none),
             (none, .len 14 false (.v 13)),
             (none, .bin 15 .lss (.v 11) (.v 14))])
           (.cond (.v 15)
            (.skip [1, 4, 5])
            (.exit 0 [4])))
          (.seq
           (.block 1
            (.seq
             (.region [] [] [1, 4, 5, 6] false [
               (none, .asg 6 (.c (.bool false)) .copy)])
             (.seq
              (.seq
               (.region [] [] [1, 4, 5, 6, 7] false [
                 (none, .asg 7 (.c (.int .i64 0)) .copy)])
               (.block 2
                (.loop
                 (.seq
                  (.seq
                   (.region [(20, 1, true), (19, 1, false)] [] [1, 4, 5, 6, 7, 22] false [
                     (none, .mv 18 (.v 7)),
                     (none, .fadr 19 1 1 (.v 1)),
                     (none, .load 20 false 1 (.v 19) none),
                     (none, .len 21 false (.v 20)),
                     (none, .bin 22 .lss (.v 18) (.v 21))])
                   (.cond (.v 22)
                    (.skip [1, 4, 5, 6, 7])
                    (.exit 2 [1, 4, 5, 6])))
                  (.seq
                   (.block 3
                    (.region [(44, 1, true), (42, 1, true), (41, 1, false), (39, 1, true), (38, 1, true), (36, 1, true), (35, 1, false), (31, 1, true), (30, 1, true), (28, 1, true), (27, 1, false)] [] [1, 4, 5, 6, 7] true [
                      (none, .mv 25 (.v 6)),
                      (none, .mv 26 (.v 25)),
                      (some (26, false), .fadr 27 1 1 (.v 1)),
                      (some (26, false), .load 28 false 1 (.v 27) none),
                      (some (26, false), .mv 29 (.v 7)),
                      (some (26, false), .iadr 30 4 (.v 28) (.v 29)),
                      (some (26, false), .fadr 31 1 1 (.v 30)),
                      (some (26, false), .load 32 false 1 (.v 31) none),
                      (some (26, false), .bin 33 .eql (.v 32) (.c (.str [115, 104, 111, 119]))),
                      (some (26, false), .mv 34 (.v 33)),
                      (some (34, true), .fadr 35 1 1 (.v 1)),
                      (some (34, true), .load 36 false 1 (.v 35) none),
                      (some (34, true), .mv 37 (.v 7)),
                      (some (34, true), .iadr 38 4 (.v 36) (.v 37)),
                      (some (34, true), .fadr 39 2 1 (.v 38)),
                      (some (34, true), .load 40 false 1 (.v 39) none),
                      (some (34, true), .fadr 41 0 1 (.v 1)),
                      (some (34, true), .load 42 false 1 (.v 41) none),
                      (some (34, true), .mv 43 (.v 5)),
                      (some (34, true), .iadr 44 1 (.v 42) (.v 43)),
                      (some (34, true), .load 45 false 1 (.v 44) none),
                      (some (34, true), .bin 46 .eql (.v 40) (.v 45)),
                      (some (26, false), .pick 47 (.v 34) (.v 46) (.c (.bool false))),
                      (none, .pick 48 (.v 26) (.c (.bool true)) (.v 47)),
                      (none, .asg 6 (.v 48) .copy)]))
                   (.region [] [] [1, 4, 5, 6, 7] false [
                     (none, .mv 23 (.v 7)),
                     (none, .bin 24 .add (.v 23) (.c (.int .i64 1))),
                     (none, .asg 7 (.v 24) .copy)]))))))
              (.seq
               (.region [] [] [1, 4, 5, 50] false [
                 (none, .mv 49 (.v 6)),
                 (none, .un 50 .not (.v 49))])
               (.cond (.v 50)
                (.region [(55, 1, true), (53, 1, true), (52, 1, false), (51, 4, false)] [] [1, 4, 5] false [
                  (none, .mv 51 (.v 4)),
                  (none, .fadr 52 0 1 (.v 1)),
                  (none, .load 53 false 1 (.v 52) none),
                  (none, .mv 54 (.v 5)),
                  (none, .iadr 55 1 (.v 53) (.v 54)),
                  (none, .load 56 false 1 (.v 55) none),
                  (none, .mksl 57 1 (.str []) 1 [(0, (.v 56), .copy)]),
                  (none, .app 58 1 (.v 51) (.v 57) .move),
                  (none, .asg 4 (.v 58) .move)])
                (.skip [1, 4, 5]))))))
           (.region [] [] [1, 4, 5] false [
             (none, .mv 16 (.v 5)),
             (none, .bin 17 .add (.v 16) (.c (.int .i64 1))),
             (none, .asg 5 (.v 17) .copy)]))))))
      (.seq
       (.region [(59, 4, false)] [] [2, 3] false [
         (none, .mv 59 (.v 4)),
         (none, .asg 2 (.v 59) .move),
         (none, .asg 3 (.c (.int .i64 0)) .copy)])
       (.ret [2, 3]))))))⟩
def F563 : PFunc :=
 ⟨[false, false], [.tmp 4],
  (.seq
   (.region [] [] [2, 3] false [
     (none, .box 2 (.v 0) .move),
     (none, .box 3 (.v 1) .move),
     (none, .asg 4 (.c (.bool false)) .copy)])
   (.seq
    (.seq
     (.region [(19, 3, true), (18, 3, false), (16, 2, true), (15, 2, false), (11, 3, true), (10, 3, false), (8, 2, true), (7, 2, false)] [] [2, 3, 22] false [
       (none, .fadr 7 0 1 (.v 2)),
       (none, .load 8 false 1 (.v 7) none),
       (none, .len 9 false (.v 8)),
       (none, .fadr 10 0 1 (.v 3)),
       (none, .load 11 false 1 (.v 10) none),
       (none, .len 12 false (.v 11)),
       (none, .bin 13 .neq (.v 9) (.v 12)),
       (none, .mv 14 (.v 13)),
       (some (14, false), .fadr 15 1 1 (.v 2)),
       (some (14, false), .load 16 false 1 (.v 15) none),
       (some (14, false), .len 17 false (.v 16)),
       (some (14, false), .fadr 18 1 1 (.v 3)),
       (some (14, false), .load 19 false 1 (.v 18) none),
       (some (14, false), .len 20 false (.v 19)),
       (some (14, false), .bin 21 .neq (.v 17) (.v 20)),
       (none, .pick 22 (.v 14) (.c (.bool true)) (.v 21))])
     (.cond (.v 22)
      (.seq
       (.region [] [] [4] false [
         (none, .asg 4 (.c (.bool false)) .copy)])
       (.ret [4]))
      (.skip [2, 3])))
    (.seq
     (.seq
      (.region [] [] [2, 3, 5] false [
        (none, .asg 5 (.c (.int .i64 0)) .copy)])
      (.block 0
       (.loop
        (.seq
         (.seq
          (.region [(25, 2, true), (24, 2, false)] [] [2, 3, 5, 27] false [
            (none, .mv 23 (.v 5)),
            (none, .fadr 24 0 1 (.v 2)),
            (none, .load 25 false 1 (.v 24) none),
            (none, .len 26 false (.v 25)),
            (none, .bin 27 .lss (.v 23) (.v 26))])
          (.cond (.v 27)
           (.skip [2, 3, 5])
           (.exit 0 [2, 3])))
         (.seq
          (.block 1
           (.seq
            (.region [(38, 3, true), (36, 3, true), (35, 3, false), (33, 2, true), (31, 2, true), (30, 2, false)] [] [2, 3, 5, 40] true [
              (none, .fadr 30 0 1 (.v 2)),
              (none, .load 31 false 1 (.v 30) none),
              (none, .mv 32 (.v 5)),
              (none, .iadr 33 1 (.v 31) (.v 32)),
              (none, .load 34 false 1 (.v 33) none),
              (none, .fadr 35 0 1 (.v 3)),
              (none, .load 36 false 1 (.v 35) none),
              (none, .mv 37 (.v 5)),
              (none, .iadr 38 1 (.v 36) (.v 37)),
              (none, .load 39 false 1 (.v 38) none),
              (none, .bin 40 .neq (.v 34) (.v 39))])
            (.cond (.v 40)
             (.seq
              (.region [] [] [4] false [
                (none, .asg 4 (.c (.bool false)) .copy)])
              (.ret [4]))
             (.skip [2, 3, 5]))))
          (.region [] [] [2, 3, 5] false [
            (none, .mv 28 (.v 5)),
            (none, .bin 29 .add (.v 28) (.c (.int .i64 1))),
            (none, .asg 5 (.v 29) .copy)]))))))
     (.seq
      (.seq
       (.region [] [] [2, 3, 6] false [
         (none, .asg 6 (.c (.int .i64 0)) .copy)])
       (.block 2
        (.loop
         (.seq
          (.seq
           (.region [(43, 2, true), (42, 2, false)] [] [2, 3, 6, 45] false [
             (none, .mv 41 (.v 6)),
             (none, .fadr 42 1 1 (.v 2)),
             (none, .load 43 false 1 (.v 42) none),
             (none, .len 44 false (.v 43)),
             (none, .bin 45 .lss (.v 41) (.v 44))])
           (.cond (.v 45)
            (.skip [2, 3, 6])
            (.exit 2 [])))
          (.seq
           (.block 3
            (.seq
             (.region [(56, 3, true), (54, 3, true), (53, 3, false), (51, 2, true), (49, 2, true), (48, 2, false)] [] [2, 3, 6, 58] true [
               (none, .fadr 48 1 1 (.v 2)),
               (none, .load 49 false 1 (.v 48) none),
               (none, .mv 50 (.v 6)),
               (none, .iadr 51 4 (.v 49) (.v 50)),
               (none, .load 52 true 4 (.v 51) none),
               (none, .fadr 53 1 1 (.v 3)),
               (none, .load 54 false 1 (.v 53) none),
               (none, .mv 55 (.v 6)),
               (none, .iadr 56 4 (.v 54) (.v 55)),
               (none, .load 57 true 4 (.v 56) none),
               (none, .eqv 58 true [.i, .s, .s, .i] (.v 52) (.v 57))])
             (.cond (.v 58)
              (.seq
               (.region [] [] [4] false [
                 (none, .asg 4 (.c (.bool false)) .copy)])
               (.ret [4]))
              (.skip [2, 3, 6]))))
           (.region [] [] [2, 3, 6] false [
             (none, .mv 46 (.v 6)),
             (none, .bin 47 .add (.v 46) (.c (.int .i64 1))),
             (none, .asg 6 (.v 47) .copy)]))))))
      (.seq
       (.region [] [] [4] false [
         (none, .asg 4 (.c (.bool true)) .copy)])
       (.ret [4]))))))⟩
def F569 : PFunc :=
 ⟨[false, false], [.cell 4 true 2, .tmp 5],
  (.seq
   (.region [] [] [1, 2, 4] false [
     (none, .box 2 (.v 0) .move),
     (none, .new 4 (.agg [(.sl true 1 []), (.sl true 4 [])])),
     (none, .asg 5 (.c (.int .i64 0)) .copy)])
   (.seq
    (.seq
     (.region [] [] [1, 2, 4, 10] false [
       (none, .call (some 9) 741 false [((.v 2), false)]),
       (none, .un 10 .not (.v 9))])
     (.cond (.v 10)
      (.seq
       (.region [] [] [4, 5] false [
         (none, .build 11 [(.sl true 1 []), (.sl true 4 [])] []),
         (none, .store 2 (.v 4) (.v 11) .move),
         (none, .asg 5 (.c (.int .i64 1)) .copy)])
       (.ret [4, 5]))
      (.skip [1, 2, 4])))
    (.seq
     (.seq
      (.region [] [] [1, 2, 4, 14] false [
        (none, .mv 12 (.v 1)),
        (none, .call (some 13) 605 false [((.v 12), false), ((.c (.int .i64 0)), false), ((.c (.int .i64 10000)), false)]),
        (none, .un 14 .not (.v 13))])
      (.cond (.v 14)
       (.seq
        (.region [] [] [4, 5] false [
          (none, .build 15 [(.sl true 1 []), (.sl true 4 [])] []),
          (none, .store 2 (.v 4) (.v 15) .move),
          (none, .asg 5 (.c (.int .i64 2)) .copy)])
        (.ret [4, 5]))
       (.skip [1, 2, 4])))
     (.seq
      (.region [(18, 2, true), (17, 2, false)] [] [1, 2, 4, 6] false [
        (none, .mksl 16 1 (.str []) 0 []),
        (none, .fadr 17 0 1 (.v 2)),
        (none, .load 18 false 1 (.v 17) none),
        (none, .app 19 1 (.v 16) (.v 18) .freeze),
        (none, .mksl 20 4 (.agg [(.int .i64 0), (.str []), (.str []), (.int .i64 0)]) 0 []),
        (none, .build 21 [(.sl true 1 []), (.sl true 4 [])] [(0, 1, (.v 19), .move), (1, 1, (.v 20), .move)]),
        (none, .new 6 (.agg [(.sl true 1 []), (.sl true 4 [])])),
        (none, .store 2 (.v 6) (.v 21) .move)])
      (.seq
       (.seq
        (.region [] [] [1, 2, 4, 6, 7] false [
          (none, .asg 7 (.c (.int .i64 0)) .copy)])
        (.block 0
         (.loop
          (.seq
           (.seq
            (.region [(24, 2, true), (23, 2, false)] [] [1, 2, 4, 6, 7, 26] false [
              (none, .mv 22 (.v 7)),
              (none, .fadr 23 1 1 (.v 2)),
              (none, .load 24 false 1 (.v 23) none),
              (none, .len 25 false (.v 24)),
              (none, .bin 26 .lss (.v 22) (.v 25))])
            (.cond (.v 26)
             (.skip [1, 2, 4, 6, 7])
             (.exit 0 [4, 6])))
           (.seq
            (.block 1
             (.seq
              (.region [(32, 2, true), (30, 2, true), (29, 2, false)] [] [1, 2, 4, 6, 7, 8] false [
                (none, .fadr 29 1 1 (.v 2)),
                (none, .load 30 false 1 (.v 29) none),
                (none, .mv 31 (.v 7)),
                (none, .iadr 32 4 (.v 30) (.v 31)),
                (none, .load 33 true 4 (.v 32) none),
                (none, .new 8 (.agg [(.int .i64 0), (.str []), (.str []), (.int .i64 0)])),
                (none, .store 4 (.v 8) (.v 33) .copy)])
              (.seq
               (.region [(38, 8, false), (34, 8, false)] [] [1, 2, 4, 6, 7, 8] false [
                 (none, .fadr 34 0 1 (.v 8)),
                 (none, .load 35 false 1 (.v 34) none),
                 (none, .mv 36 (.v 1)),
                 (none, .bin 37 .add (.v 35) (.v 36)),
                 (none, .fadr 38 0 1 (.v 8)),
                 (none, .store 1 (.v 38) (.v 37) .copy)])
               (.region [(44, 6, false), (40, 6, true), (39, 6, false)] [] [1, 2, 4, 6, 7] false [
                 (none, .fadr 39 1 1 (.v 6)),
                 (none, .load 40 false 1 (.v 39) none),
                 (none, .load 41 true 4 (.v 8) none),
                 (none, .mksl 42 4 (.agg [(.int .i64 0), (.str []), (.str []), (.int .i64 0)]) 1 [(0, (.v 41), .copy)]),
                 (none, .app 43 4 (.v 40) (.v 42) .move),
                 (none, .fadr 44 1 1 (.v 6)),
                 (none, .store 1 (.v 44) (.v 43) .move)]))))
            (.region [] [] [1, 2, 4, 6, 7] false [
              (none, .mv 27 (.v 7)),
              (none, .bin 28 .add (.v 27) (.c (.int .i64 1))),
              (none, .asg 7 (.v 28) .copy)]))))))
       (.seq
        (.seq
         (.region [] [] [4, 6, 46] false [
           (none, .call (some 45) 741 false [((.v 6), false)]),
           (none, .un 46 .not (.v 45))])
         (.cond (.v 46)
          (.seq
           (.region [] [] [4, 5] false [
             (none, .build 47 [(.sl true 1 []), (.sl true 4 [])] []),
             (none, .store 2 (.v 4) (.v 47) .move),
             (none, .asg 5 (.c (.int .i64 5)) .copy)])
           (.ret [4, 5]))
          (.skip [4, 6])))
        (.seq
         (.region [] [] [4, 5] false [
           (none, .load 48 true 2 (.v 6) (some .move)),
           (none, .store 2 (.v 4) (.v 48) .move),
           (none, .asg 5 (.c (.int .i64 0)) .copy)])
         (.ret [4, 5]))))))))⟩
def F570 : PFunc :=
 ⟨[false, false], [.tmp 4, .tmp 5],
  (.seq
   (.region [] [] [1, 2] false [
     (none, .box 2 (.v 0) .move),
     (none, .asg 4 (.c (.sl true 1 [])) .copy),
     (none, .asg 5 (.c (.int .i64 0)) .copy)])
   (.seq
    (.seq
     (.region [] [] [1, 2, 10] false [
       (none, .call (some 9) 741 false [((.v 2), false)]),
       (none, .un 10 .not (.v 9))])
     (.cond (.v 10)
      (.seq
       (.region [] [] [4, 5] false [
         (none, .asg 4 (.c (.sl true 1 [])) .copy),
         (none, .asg 5 (.c (.int .i64 1)) .copy)])
       (.ret [4, 5]))
      (.skip [1, 2])))
    (.seq
     (.seq
      (.region [] [] [1, 2, 13] false [
        (none, .mv 11 (.v 1)),
        (none, .call (some 12) 605 false [((.v 11), false), ((.c (.int .i64 0)), false), ((.c (.int .i64 10000)), false)]),
        (none, .un 13 .not (.v 12))])
      (.cond (.v 13)
       (.seq
        (.region [] [] [4, 5] false [
          (none, .asg 4 (.c (.sl true 1 [])) .copy),
          (none, .asg 5 (.c (.int .i64 2)) .copy)])
        (.ret [4, 5]))
       (.skip [1, 2])))
     (.seq
      (.region [] [] [1, 2, 6] false [
        (none, .asg 6 (.c (.int .i64 0)) .copy)])
      (.seq
       (.block 0
        (.loop
         (.seq
          (.seq
           (.region [(24, 2, true), (23, 2, true), (21, 2, true), (20, 2, false), (16, 2, true), (15, 2, false)] [] [1, 2, 6, 28] false [
             (none, .mv 14 (.v 6)),
             (none, .fadr 15 1 1 (.v 2)),
             (none, .load 16 false 1 (.v 15) none),
             (none, .len 17 false (.v 16)),
             (none, .bin 18 .lss (.v 14) (.v 17)),
             (none, .mv 19 (.v 18)),
             (some (19, true), .fadr 20 1 1 (.v 2)),
             (some (19, true), .load 21 false 1 (.v 20) none),
             (some (19, true), .mv 22 (.v 6)),
             (some (19, true), .iadr 23 4 (.v 21) (.v 22)),
             (some (19, true), .fadr 24 0 1 (.v 23)),
             (some (19, true), .load 25 false 1 (.v 24) none),
             (some (19, true), .mv 26 (.v 1)),
             (some (19, true), .bin 27 .leq (.v 25) (.v 26)),
             (none, .pick 28 (.v 19) (.v 27) (.c (.bool false)))])
           (.cond (.v 28)
            (.skip [1, 2, 6])
            (.exit 0 [2, 6])))
          (.block 1
           (.region [] [] [1, 2, 6] false [
             (none, .mv 29 (.v 6)),
             (none, .bin 30 .add (.v 29) (.c (.int .i64 1))),
             (none, .asg 6 (.v 30) .copy)])))))
       (.seq
        (.region [] [] [2, 6, 7] false [
          (none, .mksl 31 1 (.str []) 0 []),
          (none, .asg 7 (.v 31) .move)])
        (.seq
         (.seq
          (.region [] [] [2, 6, 7, 8] false [
            (none, .asg 8 (.c (.int .i64 0)) .copy)])
          (.block 2
           (.loop
            (.seq
             (.seq
              (.region [(34, 2, true), (33, 2, false)] [] [2, 6, 7, 8, 36] false [
                (none, .mv 32 (.v 8)),
                (none, .fadr 33 0 1 (.v 2)),
                (none, .load 34 false 1 (.v 33) none),
                (none, .len 35 false (.v 34)),
                (none, .bin 36 .lss (.v 32) (.v 35))])
              (.cond (.v 36)
               (.skip [2, 6, 7, 8])
               (.exit 2 [7])))
             (.seq
              (.block 3
               (.seq
                (.region [(46, 2, true), (44, 2, true), (43, 2, false), (40, 2, true), (39, 2, false)] [] [2, 6, 7, 8, 48] true [
                  (none, .fadr 39 1 1 (.v 2)),
                  (none, .load 40 false 1 (.v 39) none),
                  (none, .mv 41 (.v 6)),
                  (none, .slc 42 false 4 (.v 40) none (some (.v 41)) .copy),
                  (none, .fadr 43 0 1 (.v 2)),
                  (none, .load 44 false 1 (.v 43) none),
                  (none, .mv 45 (.v 8)),
                  (none, .iadr 46 1 (.v 44) (.v 45)),
                  (none, .load 47 false 1 (.v 46) none),
                  (none, .call (some 48) 740 false [((.v 42), false), ((.v 47), false)])])
                (.cond (.v 48)
                 (.region [(53, 2, true), (51, 2, true), (50, 2, false), (49, 7, false)] [] [2, 6, 7, 8] false [
                   (none, .mv 49 (.v 7)),
                   (none, .fadr 50 0 1 (.v 2)),
                   (none, .load 51 false 1 (.v 50) none),
                   (none, .mv 52 (.v 8)),
                   (none, .iadr 53 1 (.v 51) (.v 52)),
                   (none, .load 54 false 1 (.v 53) none),
                   (none, .mksl 55 1 (.str []) 1 [(0, (.v 54), .copy)]),
                   (none, .app 56 1 (.v 49) (.v 55) .move),
                   (none, .asg 7 (.v 56) .move)])
                 (.skip [2, 6, 7, 8]))))
              (.region [] [] [2, 6, 7, 8] false [
                (none, .mv 37 (.v 8)),
                (none, .bin 38 .add (.v 37) (.c (.int .i64 1))),
                (none, .asg 8 (.v 38) .copy)]))))))
         (.seq
          (.region [(57, 7, false)] [] [4, 5] false [
            (none, .mv 57 (.v 7)),
            (none, .asg 4 (.v 57) .move),
            (none, .asg 5 (.c (.int .i64 0)) .copy)])
          (.ret [4, 5])))))))))⟩
def F583 : PFunc :=
 ⟨[false, false], [.tmp 4, .tmp 5],
  (.seq
   (.region [] [] [1, 2] false [
     (none, .box 2 (.v 0) .move),
     (none, .asg 4 (.c (.int .i64 0)) .copy),
     (none, .asg 5 (.c (.int .i64 0)) .copy)])
   (.seq
    (.seq
     (.region [] [] [1, 2, 11] false [
       (none, .call (some 10) 741 false [((.v 2), false)]),
       (none, .un 11 .not (.v 10))])
     (.cond (.v 11)
      (.seq
       (.region [] [] [4, 5] false [
         (none, .asg 4 (.c (.int .i64 0)) .copy),
         (none, .asg 5 (.c (.int .i64 1)) .copy)])
       (.ret [4, 5]))
      (.skip [1, 2])))
    (.seq
     (.seq
      (.region [(13, 2, true), (12, 2, false)] [] [1, 2, 16] false [
        (none, .fadr 12 0 1 (.v 2)),
        (none, .load 13 false 1 (.v 12) none),
        (none, .mv 14 (.v 1)),
        (none, .call (some 15) 739 false [((.v 13), false), ((.v 14), false)]),
        (none, .un 16 .not (.v 15))])
      (.cond (.v 16)
       (.seq
        (.region [] [] [4, 5] false [
          (none, .asg 4 (.c (.int .i64 0)) .copy),
          (none, .asg 5 (.c (.int .i64 3)) .copy)])
        (.ret [4, 5]))
       (.skip [1, 2])))
     (.seq
      (.region [] [] [1, 2, 6] false [
        (none, .asg 6 (.c (.int .i64 0)) .copy)])
      (.seq
       (.region [] [] [1, 2, 6, 7] false [
         (none, .asg 7 (.c (.int .i64 (-1))) .copy)])
       (.seq
        (.seq
         (.region [] [] [1, 2, 6, 7, 8] false [
           (none, .asg 8 (.c (.int .i64 0)) .copy)])
         (.block 0
          (.loop
           (.seq
            (.seq
             (.region [(19, 2, true), (18, 2, false)] [] [1, 2, 6, 7, 8, 21] false [
               (none, .mv 17 (.v 8)),
               (none, .fadr 18 1 1 (.v 2)),
               (none, .load 19 false 1 (.v 18) none),
               (none, .len 20 false (.v 19)),
               (none, .bin 21 .lss (.v 17) (.v 20))])
             (.cond (.v 21)
              (.skip [1, 2, 6, 7, 8])
              (.exit 0 [6, 7])))
            (.seq
             (.block 1
              (.seq
               (.region [(27, 2, true), (25, 2, true), (24, 2, false)] [] [1, 2, 6, 7, 8, 9] false [
                 (none, .fadr 24 1 1 (.v 2)),
                 (none, .load 25 false 1 (.v 24) none),
                 (none, .mv 26 (.v 8)),
                 (none, .iadr 27 4 (.v 25) (.v 26)),
                 (none, .load 28 true 4 (.v 27) none),
                 (none, .new 9 (.agg [(.int .i64 0), (.str []), (.str []), (.int .i64 0)])),
                 (none, .store 4 (.v 9) (.v 28) .copy)])
               (.seq
                (.seq
                 (.region [(29, 9, false)] [] [1, 2, 6, 7, 8, 9, 32] false [
                   (none, .fadr 29 2 1 (.v 9)),
                   (none, .load 30 false 1 (.v 29) none),
                   (none, .mv 31 (.v 1)),
                   (none, .bin 32 .neq (.v 30) (.v 31))])
                 (.cond (.v 32)
                  (.exit 1 [1, 2, 6, 7, 8])
                  (.skip [1, 2, 6, 7, 8, 9])))
                (.seq
                 (.seq
                  (.region [(33, 9, false)] [] [1, 2, 6, 7, 8, 9, 35] false [
                    (none, .fadr 33 1 1 (.v 9)),
                    (none, .load 34 false 1 (.v 33) none),
                    (none, .bin 35 .eql (.v 34) (.c (.str [115, 104, 111, 119])))])
                  (.cond (.v 35)
                   (.region [(36, 9, false)] [] [1, 2, 6, 7, 8, 9] false [
                     (none, .fadr 36 0 1 (.v 9)),
                     (none, .load 37 false 1 (.v 36) none),
                     (none, .asg 7 (.v 37) .copy)])
                   (.skip [1, 2, 6, 7, 8, 9])))
                 (.seq
                  (.region [(38, 9, false)] [] [1, 2, 6, 7, 8, 9, 40] false [
                    (none, .fadr 38 1 1 (.v 9)),
                    (none, .load 39 false 1 (.v 38) none),
                    (none, .bin 40 .eql (.v 39) (.c (.str [104, 105, 100, 101])))])
                  (.cond (.v 40)
                   (.seq
                    (.region [(42, 9, false)] [] [1, 2, 6, 8] false [
                      (none, .mv 41 (.v 6)),
                      (none, .fadr 42 0 1 (.v 9)),
                      (none, .load 43 false 1 (.v 42) none),
                      (none, .mv 44 (.v 7)),
                      (none, .bin 45 .sub (.v 43) (.v 44)),
                      (none, .bin 46 .add (.v 41) (.v 45)),
                      (none, .asg 6 (.v 46) .copy)])
                    (.region [] [] [1, 2, 6, 7, 8] false [
                      (none, .asg 7 (.c (.int .i64 (-1))) .copy)]))
                   (.skip [1, 2, 6, 7, 8])))))))
             (.region [] [] [1, 2, 6, 7, 8] false [
               (none, .mv 22 (.v 8)),
               (none, .bin 23 .add (.v 22) (.c (.int .i64 1))),
               (none, .asg 8 (.v 23) .copy)]))))))
        (.seq
         (.seq
          (.region [] [] [6, 48] false [
            (none, .mv 47 (.v 7)),
            (none, .bin 48 .geq (.v 47) (.c (.int .i64 0)))])
          (.cond (.v 48)
           (.seq
            (.region [] [] [4, 5] false [
              (none, .asg 4 (.c (.int .i64 0)) .copy),
              (none, .asg 5 (.c (.int .i64 6)) .copy)])
            (.ret [4, 5]))
           (.skip [6])))
         (.seq
          (.region [] [] [4, 5] false [
            (none, .mv 49 (.v 6)),
            (none, .asg 4 (.v 49) .copy),
            (none, .asg 5 (.c (.int .i64 0)) .copy)])
          (.ret [4, 5])))))))))⟩
def F327 : PFunc :=
 ⟨[false], [.tmp 2],
  (.seq
   (.region [] [] [0] false [
     (none, .asg 2 (.c (.bool false)) .copy)])
   (.seq
    (.seq
     (.region [(31, 0, false)] [] [0, 32] false [
       (none, .mv 31 (.v 0)),
       (none, .call (some 32) 398 false [((.v 31), false)])])
     (.cond (.v 32)
      (.seq
       (.region [] [] [2] false [
         (none, .asg 2 (.c (.bool true)) .copy)])
       (.ret [2]))
      (.skip [0])))
    (.seq
     (.region [(34, 0, false)] [] [0, 3, 4] false [
       (none, .mv 34 (.v 0)),
       (none, .call (some 35) 495 false [((.v 34), false)]),
       (none, .asg 33 (.v 35) .move),
       (none, .ext 36 (.v 33) 0),
       (none, .extp 37 (.v 33) 1),
       (none, .new 3 (.agg [(.sl true 1 []), (.sl true 4 [])])),
       (none, .store 2 (.v 3) (.v 36) .move),
       (none, .asg 4 (.v 37) .copy)])
     (.seq
      (.region [] [] [0, 3, 4, 5, 6] false [
        (none, .load 39 true 2 (.v 3) (some .freeze)),
        (none, .mv 40 (.v 4)),
        (none, .call (some 41) 183 false [((.v 39), false), ((.v 40), false)]),
        (none, .asg 38 (.v 41) .move),
        (none, .ext 42 (.v 38) 0),
        (none, .extp 43 (.v 38) 1),
        (none, .asg 5 (.v 42) .move),
        (none, .asg 6 (.v 43) .copy)])
      (.seq
       (.region [] [] [0, 3, 5, 6, 7, 8] false [
         (none, .load 45 true 2 (.v 3) (some .freeze)),
         (none, .mv 46 (.v 4)),
         (none, .call (some 47) 570 false [((.v 45), false), ((.v 46), false)]),
         (none, .asg 44 (.v 47) .move),
         (none, .ext 48 (.v 44) 0),
         (none, .extp 49 (.v 44) 1),
         (none, .asg 7 (.v 48) .move),
         (none, .asg 8 (.v 49) .copy)])
       (.seq
        (.region [] [] [0, 3, 5, 6, 7, 8, 9, 10] false [
          (none, .load 51 true 2 (.v 3) (some .freeze)),
          (none, .call (some 52) 155 false [((.v 51), false)]),
          (none, .asg 50 (.v 52) .move),
          (none, .ext 53 (.v 50) 0),
          (none, .extp 54 (.v 50) 1),
          (none, .asg 9 (.v 53) .move),
          (none, .asg 10 (.v 54) .copy)])
        (.seq
         (.region [] [] [0, 5, 6, 7, 8, 9, 10, 11, 12] false [
           (none, .load 56 true 2 (.v 3) (some .move)),
           (none, .call (some 57) 551 false [((.v 56), false)]),
           (none, .asg 55 (.v 57) .move),
           (none, .ext 58 (.v 55) 0),
           (none, .extp 59 (.v 55) 1),
           (none, .asg 11 (.v 58) .move),
           (none, .asg 12 (.v 59) .copy)])
         (.seq
          (.region [(61, 0, false)] [] [0, 5, 6, 7, 8, 9, 10, 11, 12, 13, 14] false [
            (none, .mv 61 (.v 0)),
            (none, .call (some 62) 494 false [((.v 61), false)]),
            (none, .asg 60 (.v 62) .move),
            (none, .ext 63 (.v 60) 0),
            (none, .extp 64 (.v 60) 1),
            (none, .new 13 (.agg [(.sl true 1 []), (.sl true 4 [])])),
            (none, .store 2 (.v 13) (.v 63) .move),
            (none, .asg 14 (.v 64) .copy)])
          (.seq
           (.region [] [] [0, 5, 6, 7, 8, 9, 10, 11, 12, 13, 14, 15, 16] false [
             (none, .load 66 true 2 (.v 13) (some .freeze)),
             (none, .mv 67 (.v 14)),
             (none, .call (some 68) 180 true [((.v 66), false), ((.v 67), false)]),
             (none, .asg 65 (.v 68) .move),
             (none, .extp 69 (.v 65) 0),
             (none, .extp 70 (.v 65) 1),
             (none, .new 15 (.agg [(.sl false 1 []), (.sl false 4 [])])),
             (none, .store 2 (.v 15) (.v 69) .move),
             (none, .asg 16 (.v 70) .copy)])
           (.seq
            (.region [] [] [0, 5, 6, 7, 8, 9, 10, 11, 12, 13, 14, 15, 16, 17, 18] false [
              (none, .load 72 true 2 (.v 13) (some .freeze)),
              (none, .mv 73 (.v 14)),
              (none, .call (some 74) 569 false [((.v 72), false), ((.v 73), false)]),
              (none, .asg 71 (.v 74) .move),
              (none, .ext 75 (.v 71) 0),
              (none, .extp 76 (.v 71) 1),
              (none, .new 17 (.agg [(.sl true 1 []), (.sl true 4 [])])),
              (none, .store 2 (.v 17) (.v 75) .move),
              (none, .asg 18 (.v 76) .copy)])
            (.seq
             (.region [(78, 0, false)] [] [5, 6, 7, 8, 9, 10, 11, 12, 13, 14, 15, 16, 17, 18, 19, 20] false [
               (none, .mv 78 (.v 0)),
               (none, .call (some 79) 506 true [((.v 78), false)]),
               (none, .asg 77 (.v 79) .move),
               (none, .extp 80 (.v 77) 0),
               (none, .extp 81 (.v 77) 1),
               (none, .new 19 (.agg [(.sl false 1 []), (.sl false 4 [])])),
               (none, .store 2 (.v 19) (.v 80) .move),
               (none, .asg 20 (.v 81) .copy)])
             (.seq
              (.region [] [] [5, 6, 7, 8, 9, 10, 11, 12, 13, 14, 15, 16, 17, 18, 19, 20, 21, 22] false [
                (none, .load 83 true 2 (.v 19) (some .freeze)),
                (none, .mv 84 (.v 20)),
                (none, .call (some 85) 198 false [((.v 83), false), ((.v 84), false)]),
                (none, .asg 82 (.v 85) .copy),
                (none, .extp 86 (.v 82) 0),
                (none, .extp 87 (.v 82) 1),
                (none, .asg 21 (.v 86) .copy),
                (none, .asg 22 (.v 87) .copy)])
              (.seq
               (.region [] [] [5, 6, 7, 8, 9, 10, 11, 12, 13, 14, 15, 16, 17, 18, 21, 22, 23, 24] false [
                 (none, .load 89 true 2 (.v 19) (some .move)),
                 (none, .mv 90 (.v 20)),
                 (none, .call (some 91) 583 false [((.v 89), false), ((.v 90), false)]),
                 (none, .asg 88 (.v 91) .copy),
                 (none, .extp 92 (.v 88) 0),
                 (none, .extp 93 (.v 88) 1),
                 (none, .asg 23 (.v 92) .copy),
                 (none, .asg 24 (.v 93) .copy)])
               (.seq
                (.seq
                 (.region [(110, 11, false), (109, 9, false), (99, 7, false), (98, 5, false)] [] [6, 7, 11, 13, 14, 15, 16, 22, 23, 134] false [
                   (none, .mv 94 (.v 6)),
                   (none, .mv 95 (.v 8)),
                   (none, .bin 96 .neq (.v 94) (.v 95)),
                   (none, .mv 97 (.v 96)),
                   (some (97, false), .mv 98 (.v 5)),
                   (some (97, false), .mv 99 (.v 7)),
                   (some (97, false), .call (some 100) 403 false [((.v 98), false), ((.v 99), false)]),
                   (some (97, false), .un 101 .not (.v 100)),
                   (none, .pick 102 (.v 97) (.c (.bool true)) (.v 101)),
                   (none, .mv 103 (.v 102)),
                   (some (103, false), .mv 104 (.v 10)),
                   (some (103, false), .mv 105 (.v 12)),
                   (some (103, false), .bin 106 .neq (.v 104) (.v 105)),
                   (none, .pick 107 (.v 103) (.c (.bool true)) (.v 106)),
                   (none, .mv 108 (.v 107)),
                   (some (108, false), .mv 109 (.v 9)),
                   (some (108, false), .mv 110 (.v 11)),
                   (some (108, false), .call (some 111) 403 false [((.v 109), false), ((.v 110), false)]),
                   (some (108, false), .un 112 .not (.v 111)),
                   (none, .pick 113 (.v 108) (.c (.bool true)) (.v 112)),
                   (none, .mv 114 (.v 113)),
                   (some (114, false), .mv 115 (.v 16)),
                   (some (114, false), .mv 116 (.v 18)),
                   (some (114, false), .bin 117 .neq (.v 115) (.v 116)),
                   (none, .pick 118 (.v 114) (.c (.bool true)) (.v 117)),
                   (none, .mv 119 (.v 118)),
                   (some (119, false), .load 120 true 2 (.v 15) (some .freeze)),
                   (some (119, false), .load 121 true 2 (.v 17) (some .move)),
                   (some (119, false), .call (some 122) 563 false [((.v 120), false), ((.v 121), false)]),
                   (some (119, false), .un 123 .not (.v 122)),
                   (none, .pick 124 (.v 119) (.c (.bool true)) (.v 123)),
                   (none, .mv 125 (.v 124)),
                   (some (125, false), .mv 126 (.v 22)),
                   (some (125, false), .mv 127 (.v 24)),
                   (some (125, false), .bin 128 .neq (.v 126) (.v 127)),
                   (none, .pick 129 (.v 125) (.c (.bool true)) (.v 128)),
                   (none, .mv 130 (.v 129)),
                   (some (130, false), .mv 131 (.v 21)),
                   (some (130, false), .mv 132 (.v 23)),
                   (some (130, false), .bin 133 .neq (.v 131) (.v 132)),
                   (none, .pick 134 (.v 130) (.c (.bool true)) (.v 133))])
                 (.cond (.v 134)
                  (.seq
                   (.region [] [] [2] false [
                     (none, .asg 2 (.c (.bool false)) .copy)])
                   (.ret [2]))
                  (.skip [6, 7, 11, 13, 14, 15, 16, 22, 23])))
                (.seq
                 (.seq
                  (.region [] [] [7, 11, 13, 14, 15, 16, 22, 23, 136] false [
                    (none, .mv 135 (.v 6)),
                    (none, .bin 136 .eql (.v 135) (.c (.int .i64 0)))])
                  (.cond (.v 136)
                   (.seq
                    (.region [] [] [7, 11, 13, 14, 15, 16, 22, 23, 25] false [
                      (none, .asg 25 (.c (.int .i64 0)) .copy)])
                    (.block 0
                     (.loop
                      (.seq
                       (.seq
                        (.region [(138, 7, false)] [] [7, 11, 13, 14, 15, 16, 22, 23, 25, 140] false [
                          (none, .mv 137 (.v 25)),
                          (none, .mv 138 (.v 7)),
                          (none, .len 139 false (.v 138)),
                          (none, .bin 140 .lss (.v 137) (.v 139))])
                        (.cond (.v 140)
                         (.skip [7, 11, 13, 14, 15, 16, 22, 23, 25])
                         (.exit 0 [13, 14, 15, 16, 22, 23])))
                       (.seq
                        (.block 1
                         (.seq
                          (.region [(146, 7, false), (144, 7, false), (143, 11, false)] [] [7, 11, 13, 14, 15, 16, 22, 23, 25, 148] false [
                            (none, .mv 143 (.v 11)),
                            (none, .mv 144 (.v 7)),
                            (none, .mv 145 (.v 25)),
                            (none, .iadr 146 1 (.v 144) (.v 145)),
                            (none, .load 147 false 1 (.v 146) none),
                            (none, .call (some 148) 404 false [((.v 143), false), ((.v 147), false)])])
                          (.cond (.v 148)
                           (.seq
                            (.region [] [] [2] false [
                              (none, .asg 2 (.c (.bool false)) .copy)])
                            (.ret [2]))
                           (.skip [7, 11, 13, 14, 15, 16, 22, 23, 25]))))
                        (.region [] [] [7, 11, 13, 14, 15, 16, 22, 23, 25] false [
                          (none, .mv 141 (.v 25)),
                          (none, .bin 142 .add (.v 141) (.c (.int .i64 1))),
                          (none, .asg 25 (.v 142) .copy)]))))))
                   (.skip [13, 14, 15, 16, 22, 23])))
                 (.seq
                  (.seq
                   (.region [] [] [13, 14, 15, 16, 154] false [
                     (none, .mv 149 (.v 22)),
                     (none, .bin 150 .eql (.v 149) (.c (.int .i64 0))),
                     (none, .mv 151 (.v 150)),
                     (some (151, true), .mv 152 (.v 23)),
                     (some (151, true), .bin 153 .lss (.v 152) (.c (.int .i64 0))),
                     (none, .pick 154 (.v 151) (.v 153) (.c (.bool false)))])
                   (.cond (.v 154)
                    (.seq
                     (.region [] [] [2] false [
                       (none, .asg 2 (.c (.bool false)) .copy)])
                     (.ret [2]))
                    (.skip [13, 14, 15, 16])))
                  (.seq
                   (.seq
                    (.region [] [] [13, 14, 15, 156] false [
                      (none, .mv 155 (.v 16)),
                      (none, .bin 156 .neq (.v 155) (.c (.int .i64 0)))])
                    (.cond (.v 156)
                     (.seq
                      (.region [] [] [2] false [
                        (none, .asg 2 (.c (.bool true)) .copy)])
                      (.ret [2]))
                     (.skip [13, 14, 15])))
                   (.seq
                    (.seq
                     (.region [] [] [13, 14, 15, 26] false [
                       (none, .asg 26 (.c (.int .i64 0)) .copy)])
                     (.block 2
                      (.loop
                       (.seq
                        (.seq
                         (.region [] [] [13, 14, 15, 26, 164] false [
                           (none, .mv 157 (.v 26)),
                           (none, .bin 158 .leq (.v 157) (.c (.int .i64 60))),
                           (none, .mv 159 (.v 158)),
                           (some (159, true), .mv 160 (.v 26)),
                           (some (159, true), .mv 161 (.v 14)),
                           (some (159, true), .bin 162 .add (.v 160) (.v 161)),
                           (some (159, true), .bin 163 .leq (.v 162) (.c (.int .i64 10000))),
                           (none, .pick 164 (.v 159) (.v 163) (.c (.bool false)))])
                         (.cond (.v 164)
                          (.skip [13, 14, 15, 26])
                          (.exit 2 [])))
                        (.seq
                         (.block 3
                          (.seq
                           (.region [] [] [13, 14, 15, 26, 27, 28] false [
                             (none, .load 168 true 2 (.v 13) (some .freeze)),
                             (none, .mv 169 (.v 26)),
                             (none, .call (some 170) 570 false [((.v 168), false), ((.v 169), false)]),
                             (none, .asg 167 (.v 170) .move),
                             (none, .ext 171 (.v 167) 0),
                             (none, .extp 172 (.v 167) 1),
                             (none, .asg 27 (.v 171) .move),
                             (none, .asg 28 (.v 172) .copy)])
                           (.seq
                            (.region [] [] [13, 14, 15, 26, 27, 28, 29, 30] false [
                              (none, .load 174 true 2 (.v 15) (some .freeze)),
                              (none, .mv 175 (.v 26)),
                              (none, .mv 176 (.v 14)),
                              (none, .bin 177 .add (.v 175) (.v 176)),
                              (none, .call (some 178) 183 false [((.v 174), false), ((.v 177), false)]),
                              (none, .asg 173 (.v 178) .move),
                              (none, .ext 179 (.v 173) 0),
                              (none, .extp 180 (.v 173) 1),
                              (none, .asg 29 (.v 179) .move),
                              (none, .asg 30 (.v 180) .copy)])
                            (.seq
                             (.region [(189, 29, false), (188, 27, false)] [] [13, 14, 15, 26, 192] false [
                               (none, .mv 181 (.v 28)),
                               (none, .bin 182 .neq (.v 181) (.c (.int .i64 0))),
                               (none, .mv 183 (.v 182)),
                               (some (183, false), .mv 184 (.v 30)),
                               (some (183, false), .bin 185 .neq (.v 184) (.c (.int .i64 0))),
                               (none, .pick 186 (.v 183) (.c (.bool true)) (.v 185)),
                               (none, .mv 187 (.v 186)),
                               (some (187, false), .mv 188 (.v 27)),
                               (some (187, false), .mv 189 (.v 29)),
                               (some (187, false), .call (some 190) 403 false [((.v 188), false), ((.v 189), false)]),
                               (some (187, false), .un 191 .not (.v 190)),
                               (none, .pick 192 (.v 187) (.c (.bool true)) (.v 191))])
                             (.cond (.v 192)
                              (.seq
                               (.region [] [] [2] false [
                                 (none, .asg 2 (.c (.bool false)) .copy)])
                               (.ret [2]))
                              (.skip [13, 14, 15, 26]))))))
                         (.region [] [] [13, 14, 15, 26] false [
                           (none, .mv 165 (.v 26)),
                           (none, .bin 166 .add (.v 165) (.c (.int .i64 7))),
                           (none, .asg 26 (.v 166) .copy)]))))))
                    (.seq
                     (.region [] [] [2] false [
                       (none, .asg 2 (.c (.bool true)) .copy)])
                     (.ret [2]))))))))))))))))))))⟩
def tabl : List (Nat × PFunc) := [(156, F156), (832, F832), (809, F809), (3, F3), (279, F279), (326, F326), (1, F1), (116, F116), (2, F2), (228, F228), (819, F819), (797, F797), (155, F155), (180, F180), (183, F183), (198, F198), (398, F398), (403, F403), (404, F404), (5, F5), (7, F7), (4, F4), (6, F6), (603, F603), (8, F8), (605, F605), (739, F739), (740, F740), (735, F735), (738, F738), (737, F737), (736, F736), (494, F494), (495, F495), (506, F506), (612, F612), (613, F613), (533, F533), (742, F742), (741, F741), (551, F551), (563, F563), (569, F569), (570, F570), (583, F583), (327, F327)]
def T : Nat → Option PFunc := tabOf tabl
end Go.Vs.G
