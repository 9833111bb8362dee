/- The functions that the law reaches, in the small language, printed by program. No conditions. -/
import Derived.Test.YtidikckodadjoaaGreatDoorDLScripts
import Derived.Test.YtidikckodadjoaaGreatDoorV4
set_option maxRecDepth 100000
open Go Go.Vs
namespace Go.Vs.G
def F832 : PFunc :=
 ⟨[false, false], [.tmp 4],
  (.seq
   (.region [] [] [0, 1] false [
     (none, .asg 4 (.c (.int .i64 0)) .copy)])
   (.seq
    (.seq
     (.region [(6, 0, false)] [] [0, 1, 7, 8] false [
       (none, .mv 6 (.v 0)),
       (none, .len 7 false (.v 6)),
       (none, .mv 8 (.c (.int .i64 0)))])
     (.block 0
      (.loop
       (.seq
        (.region [] [] [0, 1, 7, 8, 9] false [
          (none, .bin 9 .lss (.v 8) (.v 7))])
        (.seq
         (.cond (.v 9)
          (.skip [0, 1, 7, 8])
          (.exit 0 []))
         (.seq
          (.block 1
           (.seq
            (.region [] [] [0, 1, 5, 7, 8] false [
              (none, .mv 10 (.v 8)),
              (none, .asg 5 (.v 10) .copy)])
            (.seq
             (.region [(14, 0, false), (12, 0, false)] [] [0, 1, 5, 7, 8, 16] false [
               (none, .mv 11 (.v 1)),
               (none, .mv 12 (.v 0)),
               (none, .mv 13 (.v 5)),
               (none, .iadr 14 1 (.v 12) (.v 13)),
               (none, .load 15 false 1 (.v 14) none),
               (none, .bin 16 .eql (.v 11) (.v 15))])
             (.cond (.v 16)
              (.seq
               (.region [] [] [4] false [
                 (none, .mv 17 (.v 5)),
                 (none, .asg 4 (.v 17) .copy)])
               (.ret [4]))
              (.skip [0, 1, 7, 8])))))
          (.region [] [] [0, 1, 7, 8] false [
            (none, .bin 18 .add (.v 8) (.c (.int .i64 1))),
            (none, .mv 8 (.v 18))])))))))
    (.seq
     (.region [] [] [4] false [
       (none, .asg 4 (.c (.int .i64 (-1))) .copy)])
     (.ret [4]))))⟩
def F809 : PFunc :=
 ⟨[false, false], [.tmp 4],
  (.seq
   (.region [] [] [0, 1] false [
     (none, .asg 4 (.c (.bool false)) .copy)])
   (.seq
    (.region [(5, 0, false)] [] [4] false [
      (none, .mv 5 (.v 0)),
      (none, .mv 6 (.v 1)),
      (none, .call (some 7) 832 false [((.v 5), false), ((.v 6), false)]),
      (none, .bin 8 .geq (.v 7) (.c (.int .i64 0))),
      (none, .asg 4 (.v 8) .copy)])
    (.ret [4])))⟩
def F3 : PFunc :=
 ⟨[false, false], [.tmp 4],
  (.seq
   (.region [] [] [0, 1] false [
     (none, .asg 4 (.c (.bool false)) .copy)])
   (.seq
    (.region [(8, 0, true), (7, 0, false), (6, 0, false), (5, 0, false)] [] [4] false [
      (none, .mv 5 (.v 0)),
      (none, .nchk 6 (.v 5)),
      (none, .fadr 7 0 1 (.v 6)),
      (none, .load 8 false 1 (.v 7) none),
      (none, .mv 9 (.v 1)),
      (none, .call (some 10) 809 false [((.v 8), false), ((.v 9), false)]),
      (none, .asg 4 (.v 10) .copy)])
    (.ret [4])))⟩
def F279 : PFunc :=
 ⟨[false, false], [.tmp 4],
  (.seq
   (.region [] [] [0, 1] false [
     (none, .asg 4 (.c (.bool false)) .copy)])
   (.seq
    (.seq
     (.region [(6, 0, false)] [] [0, 1, 5] false [
       (none, .mv 6 (.v 0)),
       (none, .len 7 false (.v 6)),
       (none, .bin 8 .sub (.v 7) (.c (.int .i64 1))),
       (none, .asg 5 (.v 8) .copy)])
     (.block 0
      (.loop
       (.seq
        (.seq
         (.region [] [] [0, 1, 5, 10] false [
           (none, .mv 9 (.v 5)),
           (none, .bin 10 .geq (.v 9) (.c (.int .i64 0)))])
         (.cond (.v 10)
          (.skip [0, 1, 5])
          (.exit 0 [])))
        (.seq
         (.block 1
          (.seq
           (.region [(24, 0, false), (23, 0, false), (21, 0, false), (16, 0, false), (15, 0, false), (13, 0, false)] [] [0, 1, 5, 27] false [
             (none, .mv 13 (.v 0)),
             (none, .mv 14 (.v 5)),
             (none, .iadr 15 4 (.v 13) (.v 14)),
             (none, .fadr 16 2 1 (.v 15)),
             (none, .load 17 false 1 (.v 16) none),
             (none, .mv 18 (.v 1)),
             (none, .bin 19 .eql (.v 17) (.v 18)),
             (none, .mv 20 (.v 19)),
             (some (20, true), .mv 21 (.v 0)),
             (some (20, true), .mv 22 (.v 5)),
             (some (20, true), .iadr 23 4 (.v 21) (.v 22)),
             (some (20, true), .fadr 24 1 1 (.v 23)),
             (some (20, true), .load 25 false 1 (.v 24) none),
             (some (20, true), .bin 26 .neq (.v 25) (.c (.str [116, 117, 114, 110]))),
             (none, .pick 27 (.v 20) (.v 26) (.c (.bool false)))])
           (.cond (.v 27)
            (.seq
             (.region [(31, 0, false), (30, 0, false), (28, 0, false)] [] [4] false [
               (none, .mv 28 (.v 0)),
               (none, .mv 29 (.v 5)),
               (none, .iadr 30 4 (.v 28) (.v 29)),
               (none, .fadr 31 1 1 (.v 30)),
               (none, .load 32 false 1 (.v 31) none),
               (none, .bin 33 .eql (.v 32) (.c (.str [115, 104, 111, 119]))),
               (none, .asg 4 (.v 33) .copy)])
             (.ret [4]))
            (.skip [0, 1, 5]))))
         (.region [] [] [0, 1, 5] false [
           (none, .mv 11 (.v 5)),
           (none, .bin 12 .sub (.v 11) (.c (.int .i64 1))),
           (none, .asg 5 (.v 12) .copy)]))))))
    (.seq
     (.region [] [] [4] false [
       (none, .asg 4 (.c (.bool false)) .copy)])
     (.ret [4]))))⟩
def F326 : PFunc :=
 ⟨[false, false, false], [.tmp 6],
  (.seq
   (.region [] [] [0, 1, 2] false [
     (none, .asg 6 (.c (.bool false)) .copy)])
   (.seq
    (.region [] [] [6] false [
      (none, .mv 7 (.v 0)),
      (none, .mv 8 (.v 1)),
      (none, .bin 9 .geq (.v 7) (.v 8)),
      (none, .mv 10 (.v 9)),
      (some (10, true), .mv 11 (.v 0)),
      (some (10, true), .mv 12 (.v 2)),
      (some (10, true), .bin 13 .leq (.v 11) (.v 12)),
      (none, .pick 14 (.v 10) (.v 13) (.c (.bool false))),
      (none, .asg 6 (.v 14) .copy)])
    (.ret [6])))⟩
def F1 : PFunc :=
 ⟨[true, false], [.tmp 4],
  (.seq
   (.region [] [] [0, 3] false [
     (none, .box 3 (.v 1) .copy),
     (none, .asg 4 (.c (.int .i64 0)) .copy)])
   (.seq
    (.region [(9, 0, true), (8, 0, false), (7, 0, false), (6, 0, false)] [] [0, 3, 5] false [
      (none, .mv 6 (.v 0)),
      (none, .nchk 7 (.v 6)),
      (none, .fadr 8 1 1 (.v 7)),
      (none, .load 9 false 1 (.v 8) none),
      (none, .len 10 false (.v 9)),
      (none, .asg 5 (.v 10) .copy)])
    (.seq
     (.block 0
      (.seq
       (.region [(21, 3, false), (16, 3, false), (12, 3, false)] [] [0, 3, 5, 11] false [
         (none, .fadr 12 1 1 (.v 3)),
         (none, .load 13 false 1 (.v 12) none),
         (none, .bin 14 .neq (.v 13) (.c (.str [115, 104, 111, 119]))),
         (none, .mv 15 (.v 14)),
         (some (15, true), .fadr 16 1 1 (.v 3)),
         (some (15, true), .load 17 false 1 (.v 16) none),
         (some (15, true), .bin 18 .neq (.v 17) (.c (.str [104, 105, 100, 101]))),
         (none, .pick 19 (.v 15) (.v 18) (.c (.bool false))),
         (none, .mv 20 (.v 19)),
         (some (20, true), .fadr 21 1 1 (.v 3)),
         (some (20, true), .load 22 false 1 (.v 21) none),
         (some (20, true), .bin 23 .neq (.v 22) (.c (.str [116, 117, 114, 110]))),
         (none, .pick 24 (.v 20) (.v 23) (.c (.bool false))),
         (none, .asg 11 (.v 24) .copy)])
       (.cond (.v 11)
        (.seq
         (.region [] [] [0, 4] false [
           (none, .asg 4 (.c (.int .i64 1)) .copy)])
         (.ret [0, 4]))
        (.seq
         (.region [(27, 3, false), (26, 0, false)] [] [0, 3, 5, 25] false [
           (none, .mv 26 (.v 0)),
           (none, .fadr 27 2 1 (.v 3)),
           (none, .load 28 false 1 (.v 27) none),
           (none, .call (some 29) 3 false [((.v 26), false), ((.v 28), false)]),
           (none, .un 30 .not (.v 29)),
           (none, .asg 25 (.v 30) .copy)])
         (.cond (.v 25)
          (.seq
           (.region [] [] [0, 4] false [
             (none, .asg 4 (.c (.int .i64 6)) .copy)])
           (.ret [0, 4]))
          (.seq
           (.region [(47, 3, false), (43, 3, false), (37, 3, false), (32, 3, false)] [] [0, 3, 5, 31] false [
             (none, .fadr 32 0 1 (.v 3)),
             (none, .load 33 false 1 (.v 32) none),
             (none, .call (some 34) 326 false [((.v 33), false), ((.c (.int .i64 0)), false), ((.c (.int .i64 10000)), false)]),
             (none, .un 35 .not (.v 34)),
             (none, .mv 36 (.v 35)),
             (some (36, false), .fadr 37 3 1 (.v 3)),
             (some (36, false), .load 38 false 1 (.v 37) none),
             (some (36, false), .call (some 39) 326 false [((.v 38), false), ((.c (.int .i64 0)), false), ((.c (.int .i64 1000)), false)]),
             (some (36, false), .un 40 .not (.v 39)),
             (none, .pick 41 (.v 36) (.c (.bool true)) (.v 40)),
             (none, .mv 42 (.v 41)),
             (some (42, false), .fadr 43 3 1 (.v 3)),
             (some (42, false), .load 44 false 1 (.v 43) none),
             (some (42, false), .bin 45 .neq (.v 44) (.c (.int .i64 0))),
             (some (42, false), .mv 46 (.v 45)),
             (some (46, true), .fadr 47 1 1 (.v 3)),
             (some (46, true), .load 48 false 1 (.v 47) none),
             (some (46, true), .bin 49 .neq (.v 48) (.c (.str [116, 117, 114, 110]))),
             (some (42, false), .pick 50 (.v 46) (.v 49) (.c (.bool false))),
             (none, .pick 51 (.v 42) (.c (.bool true)) (.v 50)),
             (none, .asg 31 (.v 51) .copy)])
           (.cond (.v 31)
            (.seq
             (.region [] [] [0, 4] false [
               (none, .asg 4 (.c (.int .i64 4)) .copy)])
             (.ret [0, 4]))
            (.seq
             (.region [(65, 3, false), (63, 0, true), (62, 0, true), (59, 0, true), (58, 0, false), (57, 0, false), (56, 0, false)] [] [0, 3, 5, 52] true [
               (none, .mv 53 (.v 5)),
               (none, .bin 54 .gtr (.v 53) (.c (.int .i64 0))),
               (none, .mv 55 (.v 54)),
               (some (55, true), .mvr 56 0),
               (some (55, true), .nchk 57 (.v 56)),
               (some (55, true), .fadr 58 1 1 (.v 57)),
               (some (55, true), .load 59 false 1 (.v 58) none),
               (some (55, true), .mv 60 (.v 5)),
               (some (55, true), .bin 61 .sub (.v 60) (.c (.int .i64 1))),
               (some (55, true), .iadr 62 4 (.v 59) (.v 61)),
               (some (55, true), .fadr 63 0 1 (.v 62)),
               (some (55, true), .load 64 false 1 (.v 63) none),
               (some (55, true), .fadr 65 0 1 (.v 3)),
               (some (55, true), .load 66 false 1 (.v 65) none),
               (some (55, true), .bin 67 .gtr (.v 64) (.v 66)),
               (none, .pick 68 (.v 55) (.v 67) (.c (.bool false))),
               (none, .asg 52 (.v 68) .copy)])
             (.cond (.v 52)
              (.seq
               (.region [] [] [0, 4] false [
                 (none, .asg 4 (.c (.int .i64 7)) .copy)])
               (.ret [0, 4]))
              (.seq
               (.region [(77, 3, false), (76, 0, true), (75, 0, false), (74, 0, false), (73, 0, false), (70, 3, false)] [] [0, 3, 5, 69] true [
                 (none, .fadr 70 1 1 (.v 3)),
                 (none, .load 71 false 1 (.v 70) none),
                 (none, .bin 72 .eql (.v 71) (.c (.str [115, 104, 111, 119]))),
                 (none, .mvr 73 0),
                 (none, .nchk 74 (.v 73)),
                 (none, .fadr 75 1 1 (.v 74)),
                 (none, .load 76 false 1 (.v 75) none),
                 (none, .fadr 77 2 1 (.v 3)),
                 (none, .load 78 false 1 (.v 77) none),
                 (none, .call (some 79) 279 false [((.v 76), false), ((.v 78), false)]),
                 (none, .eqb 80 false (.v 72) (.v 79)),
                 (none, .asg 69 (.v 80) .copy)])
               (.cond (.v 69)
                (.seq
                 (.region [] [] [0, 4] false [
                   (none, .asg 4 (.c (.int .i64 5)) .copy)])
                 (.ret [0, 4]))
                (.seq
                 (.region [] [] [0, 3, 81] false [
                   (none, .mv 82 (.v 5)),
                   (none, .bin 83 .eql (.v 82) (.c (.int .i64 60))),
                   (none, .asg 81 (.v 83) .copy)])
                 (.cond (.v 81)
                  (.seq
                   (.region [] [] [0, 4] false [
                     (none, .asg 4 (.c (.int .i64 8)) .copy)])
                   (.ret [0, 4]))
                  (.skip [0, 3]))))))))))))))
     (.seq
      (.region [(93, 0, false), (92, 0, false), (88, 0, true), (87, 0, false), (86, 0, false), (85, 0, false), (84, 0, false)] [] [0] true [
        (none, .mvr 84 0),
        (none, .mvr 85 0),
        (none, .nchk 86 (.v 85)),
        (none, .fadr 87 1 1 (.v 86)),
        (none, .load 88 false 1 (.v 87) none),
        (none, .load 89 true 4 (.v 3) none),
        (none, .mksl 90 4 (.agg [(.int .i64 0), (.str []), (.str []), (.int .i64 0)]) 1 [(0, (.v 89), .copy)]),
        (none, .app 91 4 (.v 88) (.v 90) .move),
        (none, .nchk 92 (.v 84)),
        (none, .fadr 93 1 1 (.v 92)),
        (none, .store 1 (.v 93) (.v 91) .move)])
      (.seq
       (.region [] [] [0, 4] false [
         (none, .asg 4 (.c (.int .i64 0)) .copy)])
       (.ret [0, 4]))))))⟩
def F116 : PFunc :=
 ⟨[false], [.tmp 2],
  (.seq
   (.region [] [] [0] false [
     (none, .asg 2 (.c (.bool false)) .copy)])
   (.seq
    (.seq
     (.region [] [] [0, 21] false [
       (none, .mv 4 (.v 0)),
       (none, .len 5 true (.v 4)),
       (none, .bin 6 .lss (.v 5) (.c (.int .i64 1))),
       (none, .mv 7 (.v 6)),
       (some (7, false), .mv 8 (.v 0)),
       (some (7, false), .len 9 true (.v 8)),
       (some (7, false), .bin 10 .gtr (.v 9) (.c (.int .i64 12))),
       (none, .pick 11 (.v 7) (.c (.bool true)) (.v 10)),
       (none, .mv 12 (.v 11)),
       (some (12, false), .mv 13 (.v 0)),
       (some (12, false), .idx 14 (.v 13) (.c (.int .i64 0))),
       (some (12, false), .bin 15 .lss (.v 14) (.c (.int .u8 97))),
       (none, .pick 16 (.v 12) (.c (.bool true)) (.v 15)),
       (none, .mv 17 (.v 16)),
       (some (17, false), .mv 18 (.v 0)),
       (some (17, false), .idx 19 (.v 18) (.c (.int .i64 0))),
       (some (17, false), .bin 20 .gtr (.v 19) (.c (.int .u8 122))),
       (none, .pick 21 (.v 17) (.c (.bool true)) (.v 20))])
     (.cond (.v 21)
      (.seq
       (.region [] [] [2] false [
         (none, .asg 2 (.c (.bool false)) .copy)])
       (.ret [2]))
      (.skip [0])))
    (.seq
     (.seq
      (.region [] [] [0, 3] false [
        (none, .asg 3 (.c (.int .i64 1)) .copy)])
      (.block 0
       (.loop
        (.seq
         (.seq
          (.region [] [] [0, 3, 25] false [
            (none, .mv 22 (.v 3)),
            (none, .mv 23 (.v 0)),
            (none, .len 24 true (.v 23)),
            (none, .bin 25 .lss (.v 22) (.v 24))])
          (.cond (.v 25)
           (.skip [0, 3])
           (.exit 0 [])))
         (.seq
          (.block 1
           (.seq
            (.region [] [] [0, 3, 55] false [
              (none, .mv 28 (.v 0)),
              (none, .mv 29 (.v 3)),
              (none, .idx 30 (.v 28) (.v 29)),
              (none, .bin 31 .lss (.v 30) (.c (.int .u8 97))),
              (none, .mv 32 (.v 31)),
              (some (32, false), .mv 33 (.v 0)),
              (some (32, false), .mv 34 (.v 3)),
              (some (32, false), .idx 35 (.v 33) (.v 34)),
              (some (32, false), .bin 36 .gtr (.v 35) (.c (.int .u8 122))),
              (none, .pick 37 (.v 32) (.c (.bool true)) (.v 36)),
              (none, .mv 38 (.v 37)),
              (some (38, true), .mv 39 (.v 0)),
              (some (38, true), .mv 40 (.v 3)),
              (some (38, true), .idx 41 (.v 39) (.v 40)),
              (some (38, true), .bin 42 .lss (.v 41) (.c (.int .u8 48))),
              (some (38, true), .mv 43 (.v 42)),
              (some (43, false), .mv 44 (.v 0)),
              (some (43, false), .mv 45 (.v 3)),
              (some (43, false), .idx 46 (.v 44) (.v 45)),
              (some (43, false), .bin 47 .gtr (.v 46) (.c (.int .u8 57))),
              (some (38, true), .pick 48 (.v 43) (.c (.bool true)) (.v 47)),
              (none, .pick 49 (.v 38) (.v 48) (.c (.bool false))),
              (none, .mv 50 (.v 49)),
              (some (50, true), .mv 51 (.v 0)),
              (some (50, true), .mv 52 (.v 3)),
              (some (50, true), .idx 53 (.v 51) (.v 52)),
              (some (50, true), .bin 54 .neq (.v 53) (.c (.int .u8 45))),
              (none, .pick 55 (.v 50) (.v 54) (.c (.bool false)))])
            (.cond (.v 55)
             (.seq
              (.region [] [] [2] false [
                (none, .asg 2 (.c (.bool false)) .copy)])
              (.ret [2]))
             (.skip [0, 3]))))
          (.region [] [] [0, 3] false [
            (none, .mv 26 (.v 3)),
            (none, .bin 27 .add (.v 26) (.c (.int .i64 1))),
            (none, .asg 3 (.v 27) .copy)]))))))
     (.seq
      (.region [] [] [2] false [
        (none, .asg 2 (.c (.bool true)) .copy)])
      (.ret [2])))))⟩
def F2 : PFunc :=
 ⟨[true, false], [.tmp 4],
  (.seq
   (.region [] [] [0, 1] false [
     (none, .asg 4 (.c (.int .i64 0)) .copy)])
   (.seq
    (.block 0
     (.seq
      (.region [] [] [0, 1, 5] false [
        (none, .mv 6 (.v 1)),
        (none, .call (some 7) 116 false [((.v 6), false)]),
        (none, .un 8 .not (.v 7)),
        (none, .asg 5 (.v 8) .copy)])
      (.cond (.v 5)
       (.seq
        (.region [] [] [0, 4] false [
          (none, .asg 4 (.c (.int .i64 3)) .copy)])
        (.ret [0, 4]))
       (.seq
        (.region [(10, 0, false)] [] [0, 1, 9] false [
          (none, .mv 10 (.v 0)),
          (none, .mv 11 (.v 1)),
          (none, .call (some 12) 3 false [((.v 10), false), ((.v 11), false)]),
          (none, .asg 9 (.v 12) .copy)])
        (.cond (.v 9)
         (.seq
          (.region [] [] [0, 4] false [
            (none, .asg 4 (.c (.int .i64 5)) .copy)])
          (.ret [0, 4]))
         (.seq
          (.region [(17, 0, true), (16, 0, false), (15, 0, false), (14, 0, false)] [] [0, 1, 13] false [
            (none, .mv 14 (.v 0)),
            (none, .nchk 15 (.v 14)),
            (none, .fadr 16 0 1 (.v 15)),
            (none, .load 17 false 1 (.v 16) none),
            (none, .len 18 false (.v 17)),
            (none, .bin 19 .eql (.v 18) (.c (.int .i64 60))),
            (none, .asg 13 (.v 19) .copy)])
          (.cond (.v 13)
           (.seq
            (.region [] [] [0, 4] false [
              (none, .asg 4 (.c (.int .i64 8)) .copy)])
            (.ret [0, 4]))
           (.skip [0, 1]))))))))
    (.seq
     (.region [(29, 0, false), (28, 0, false), (24, 0, true), (23, 0, false), (22, 0, false), (21, 0, false), (20, 0, false)] [] [0] false [
       (none, .mv 20 (.v 0)),
       (none, .mv 21 (.v 0)),
       (none, .nchk 22 (.v 21)),
       (none, .fadr 23 0 1 (.v 22)),
       (none, .load 24 false 1 (.v 23) none),
       (none, .mv 25 (.v 1)),
       (none, .mksl 26 1 (.str []) 1 [(0, (.v 25), .copy)]),
       (none, .app 27 1 (.v 24) (.v 26) .move),
       (none, .nchk 28 (.v 20)),
       (none, .fadr 29 0 1 (.v 28)),
       (none, .store 1 (.v 29) (.v 27) .move)])
     (.seq
      (.region [] [] [0, 4] false [
        (none, .asg 4 (.c (.int .i64 0)) .copy)])
      (.ret [0, 4])))))⟩
def F228 : PFunc :=
 ⟨[false], [.tmp 2],
  (.seq
   (.region [] [] [1] false [
     (none, .box 1 (.v 0) .move),
     (none, .asg 2 (.c (.bool false)) .copy)])
   (.seq
    (.region [] [] [1, 3] false [
      (none, .build 8 [(.sl true 1 []), (.sl true 4 [])] []),
      (none, .new 3 (.agg [(.sl true 1 []), (.sl true 4 [])])),
      (none, .store 2 (.v 3) (.v 8) .move)])
    (.seq
     (.seq
      (.region [(10, 1, true), (9, 1, false)] [] [1, 3, 10, 11, 12] false [
        (none, .fadr 9 0 1 (.v 1)),
        (none, .load 10 false 1 (.v 9) none),
        (none, .len 11 false (.v 10)),
        (none, .mv 12 (.c (.int .i64 0)))])
      (.block 0
       (.loop
        (.seq
         (.region [(10, 1, true)] [] [1, 3, 10, 11, 12, 13] false [
           (none, .bin 13 .lss (.v 12) (.v 11))])
         (.seq
          (.cond (.v 13)
           (.skip [1, 3, 10, 11, 12])
           (.exit 0 [1, 3]))
          (.seq
           (.block 1
            (.seq
             (.region [(14, 1, true), (10, 1, true)] [] [1, 3, 5, 10, 11, 12] false [
               (none, .iadr 14 1 (.v 10) (.v 12)),
               (none, .load 15 false 1 (.v 14) none),
               (none, .asg 5 (.v 15) .copy)])
             (.seq
              (.region [(10, 1, true)] [] [1, 3, 10, 11, 12, 18] false [
                (none, .mv 16 (.v 5)),
                (none, .call (some 17) 2 false [((.v 3), true), ((.v 16), false)]),
                (none, .bin 18 .neq (.v 17) (.c (.int .i64 0)))])
              (.cond (.v 18)
               (.seq
                (.region [] [] [2] false [
                  (none, .asg 2 (.c (.bool false)) .copy)])
                (.ret [2]))
               (.skip [1, 3, 10, 11, 12])))))
           (.region [(10, 1, true)] [] [1, 3, 10, 11, 12] false [
             (none, .bin 19 .add (.v 12) (.c (.int .i64 1))),
             (none, .mv 12 (.v 19))])))))))
     (.seq
      (.seq
       (.region [(21, 1, true), (20, 1, false)] [] [1, 3, 21, 22, 23] false [
         (none, .fadr 20 1 1 (.v 1)),
         (none, .load 21 false 1 (.v 20) none),
         (none, .len 22 false (.v 21)),
         (none, .mv 23 (.c (.int .i64 0)))])
       (.block 2
        (.loop
         (.seq
          (.region [(21, 1, true)] [] [1, 3, 21, 22, 23, 24] false [
            (none, .bin 24 .lss (.v 23) (.v 22))])
          (.seq
           (.cond (.v 24)
            (.skip [1, 3, 21, 22, 23])
            (.exit 2 []))
           (.seq
            (.block 3
             (.seq
              (.region [(25, 1, true), (21, 1, true)] [] [1, 3, 7, 21, 22, 23] false [
                (none, .iadr 25 4 (.v 21) (.v 23)),
                (none, .load 26 true 4 (.v 25) none),
                (none, .new 7 (.agg [(.int .i64 0), (.str []), (.str []), (.int .i64 0)])),
                (none, .store 4 (.v 7) (.v 26) .copy)])
              (.seq
               (.region [(21, 1, true)] [] [1, 3, 21, 22, 23, 29] false [
                 (none, .load 27 true 4 (.v 7) none),
                 (none, .call (some 28) 1 false [((.v 3), true), ((.v 27), false)]),
                 (none, .bin 29 .neq (.v 28) (.c (.int .i64 0)))])
               (.cond (.v 29)
                (.seq
                 (.region [] [] [2] false [
                   (none, .asg 2 (.c (.bool false)) .copy)])
                 (.ret [2]))
                (.skip [1, 3, 21, 22, 23])))))
            (.region [(21, 1, true)] [] [1, 3, 21, 22, 23] false [
              (none, .bin 30 .add (.v 23) (.c (.int .i64 1))),
              (none, .mv 23 (.v 30))])))))))
      (.seq
       (.region [] [] [2] false [
         (none, .asg 2 (.c (.bool true)) .copy)])
       (.ret [2]))))))⟩
def F398 : PFunc :=
 ⟨[false], [.tmp 2],
  (.seq
   (.region [] [] [0] false [
     (none, .asg 2 (.c (.bool false)) .copy)])
   (.seq
    (.region [(3, 0, false)] [] [2] false [
      (none, .mv 3 (.v 0)),
      (none, .len 4 false (.v 3)),
      (none, .bin 5 .gtr (.v 4) (.c (.int .i64 4096))),
      (none, .asg 2 (.v 5) .copy)])
    (.ret [2])))⟩
def F563 : PFunc :=
 ⟨[false, false], [.tmp 4],
  (.seq
   (.region [] [] [2, 3] false [
     (none, .box 2 (.v 0) .move),
     (none, .box 3 (.v 1) .move),
     (none, .asg 4 (.c (.bool false)) .copy)])
   (.seq
    (.seq
     (.region [(19, 3, true), (18, 3, false), (16, 2, true), (15, 2, false), (11, 3, true), (10, 3, false), (8, 2, true), (7, 2, false)] [] [2, 3, 22] false [
       (none, .fadr 7 0 1 (.v 2)),
       (none, .load 8 false 1 (.v 7) none),
       (none, .len 9 false (.v 8)),
       (none, .fadr 10 0 1 (.v 3)),
       (none, .load 11 false 1 (.v 10) none),
       (none, .len 12 false (.v 11)),
       (none, .bin 13 .neq (.v 9) (.v 12)),
       (none, .mv 14 (.v 13)),
       (some (14, false), .fadr 15 1 1 (.v 2)),
       (some (14, false), .load 16 false 1 (.v 15) none),
       (some (14, false), .len 17 false (.v 16)),
       (some (14, false), .fadr 18 1 1 (.v 3)),
       (some (14, false), .load 19 false 1 (.v 18) none),
       (some (14, false), .len 20 false (.v 19)),
       (some (14, false), .bin 21 .neq (.v 17) (.v 20)),
       (none, .pick 22 (.v 14) (.c (.bool true)) (.v 21))])
     (.cond (.v 22)
      (.seq
       (.region [] [] [4] false [
         (none, .asg 4 (.c (.bool false)) .copy)])
       (.ret [4]))
      (.skip [2, 3])))
    (.seq
     (.seq
      (.region [] [] [2, 3, 5] false [
        (none, .asg 5 (.c (.int .i64 0)) .copy)])
      (.block 0
       (.loop
        (.seq
         (.seq
          (.region [(25, 2, true), (24, 2, false)] [] [2, 3, 5, 27] false [
            (none, .mv 23 (.v 5)),
            (none, .fadr 24 0 1 (.v 2)),
            (none, .load 25 false 1 (.v 24) none),
            (none, .len 26 false (.v 25)),
            (none, .bin 27 .lss (.v 23) (.v 26))])
          (.cond (.v 27)
           (.skip [2, 3, 5])
           (.exit 0 [2, 3])))
         (.seq
          (.block 1
           (.seq
            (.region [(38, 3, true), (36, 3, true), (35, 3, false), (33, 2, true), (31, 2, true), (30, 2, false)] [] [2, 3, 5, 40] true [
              (none, .fadr 30 0 1 (.v 2)),
              (none, .load 31 false 1 (.v 30) none),
              (none, .mv 32 (.v 5)),
              (none, .iadr 33 1 (.v 31) (.v 32)),
              (none, .load 34 false 1 (.v 33) none),
              (none, .fadr 35 0 1 (.v 3)),
              (none, .load 36 false 1 (.v 35) none),
              (none, .mv 37 (.v 5)),
              (none, .iadr 38 1 (.v 36) (.v 37)),
              (none, .load 39 false 1 (.v 38) none),
              (none, .bin 40 .neq (.v 34) (.v 39))])
            (.cond (.v 40)
             (.seq
              (.region [] [] [4] false [
                (none, .asg 4 (.c (.bool false)) .copy)])
              (.ret [4]))
             (.skip [2, 3, 5]))))
          (.region [] [] [2, 3, 5] false [
            (none, .mv 28 (.v 5)),
            (none, .bin 29 .add (.v 28) (.c (.int .i64 1))),
            (none, .asg 5 (.v 29) .copy)]))))))
     (.seq
      (.seq
       (.region [] [] [2, 3, 6] false [
         (none, .asg 6 (.c (.int .i64 0)) .copy)])
       (.block 2
        (.loop
         (.seq
          (.seq
           (.region [(43, 2, true), (42, 2, false)] [] [2, 3, 6, 45] false [
             (none, .mv 41 (.v 6)),
             (none, .fadr 42 1 1 (.v 2)),
             (none, .load 43 false 1 (.v 42) none),
             (none, .len 44 false (.v 43)),
             (none, .bin 45 .lss (.v 41) (.v 44))])
           (.cond (.v 45)
            (.skip [2, 3, 6])
            (.exit 2 [])))
          (.seq
           (.block 3
            (.seq
             (.region [(56, 3, true), (54, 3, true), (53, 3, false), (51, 2, true), (49, 2, true), (48, 2, false)] [] [2, 3, 6, 58] true [
               (none, .fadr 48 1 1 (.v 2)),
               (none, .load 49 false 1 (.v 48) none),
               (none, .mv 50 (.v 6)),
               (none, .iadr 51 4 (.v 49) (.v 50)),
               (none, .load 52 true 4 (.v 51) none),
               (none, .fadr 53 1 1 (.v 3)),
               (none, .load 54 false 1 (.v 53) none),
               (none, .mv 55 (.v 6)),
               (none, .iadr 56 4 (.v 54) (.v 55)),
               (none, .load 57 true 4 (.v 56) none),
               (none, .eqv 58 true [.i, .s, .s, .i] (.v 52) (.v 57))])
             (.cond (.v 58)
              (.seq
               (.region [] [] [4] false [
                 (none, .asg 4 (.c (.bool false)) .copy)])
               (.ret [4]))
              (.skip [2, 3, 6]))))
           (.region [] [] [2, 3, 6] false [
             (none, .mv 46 (.v 6)),
             (none, .bin 47 .add (.v 46) (.c (.int .i64 1))),
             (none, .asg 6 (.v 47) .copy)]))))))
      (.seq
       (.region [] [] [4] false [
         (none, .asg 4 (.c (.bool true)) .copy)])
       (.ret [4]))))))⟩
def F603 : PFunc :=
 ⟨[false], [.tmp 2],
  (.seq
   (.region [] [] [0] false [
     (none, .asg 2 (.c .nilp) .copy)])
   (.seq
    (.region [(3, 0, false)] [] [2] false [
      (none, .mv 3 (.v 0)),
      (none, .build 4 [(.sl false 1 []), (.int .i64 0), (.int .u64 0)] [(0, 1, (.v 3), .move)]),
      (none, .box 5 (.v 4) .move),
      (none, .asg 2 (.v 5) .move)])
    (.ret [2])))⟩
def F5 : PFunc :=
 ⟨[true], [.tmp 2],
  (.seq
   (.region [] [] [0] false [
     (none, .asg 2 (.c (.int .i64 0)) .copy)])
   (.seq
    (.region [] [] [0, 3] false [
      (none, .asg 3 (.c (.int .i64 0)) .copy)])
    (.seq
     (.seq
      (.region [(11, 0, true), (10, 0, false), (9, 0, false), (8, 0, false), (6, 0, false), (5, 0, false), (4, 0, false)] [] [0, 3, 13] true [
        (none, .mvr 4 0),
        (none, .nchk 5 (.v 4)),
        (none, .fadr 6 1 1 (.v 5)),
        (none, .load 7 false 1 (.v 6) none),
        (none, .mvr 8 0),
        (none, .nchk 9 (.v 8)),
        (none, .fadr 10 0 1 (.v 9)),
        (none, .load 11 false 1 (.v 10) none),
        (none, .len 12 false (.v 11)),
        (none, .bin 13 .lss (.v 7) (.v 12))])
      (.cond (.v 13)
       (.region [(22, 0, true), (20, 0, false), (19, 0, false), (18, 0, false), (17, 0, true), (16, 0, false), (15, 0, false), (14, 0, false)] [] [0, 3] true [
         (none, .mvr 14 0),
         (none, .nchk 15 (.v 14)),
         (none, .fadr 16 0 1 (.v 15)),
         (none, .load 17 false 1 (.v 16) none),
         (none, .mvr 18 0),
         (none, .nchk 19 (.v 18)),
         (none, .fadr 20 1 1 (.v 19)),
         (none, .load 21 false 1 (.v 20) none),
         (none, .iadr 22 1 (.v 17) (.v 21)),
         (none, .load 23 false 1 (.v 22) none),
         (none, .conv 24 .i64 (.v 23)),
         (none, .asg 3 (.v 24) .copy)])
       (.skip [0, 3])))
     (.seq
      (.region [(31, 0, false), (30, 0, false), (27, 0, false), (26, 0, false), (25, 0, false)] [] [0, 3] false [
        (none, .mv 25 (.v 0)),
        (none, .nchk 26 (.v 25)),
        (none, .fadr 27 1 1 (.v 26)),
        (none, .load 28 false 1 (.v 27) none),
        (none, .bin 29 .add (.v 28) (.c (.int .i64 1))),
        (none, .nchk 30 (.v 25)),
        (none, .fadr 31 1 1 (.v 30)),
        (none, .store 1 (.v 31) (.v 29) .copy)])
      (.seq
       (.region [(43, 0, false), (42, 0, false), (35, 0, false), (34, 0, false), (33, 0, false), (32, 0, false)] [] [0, 3] false [
         (none, .mv 32 (.v 0)),
         (none, .mv 33 (.v 0)),
         (none, .nchk 34 (.v 33)),
         (none, .fadr 35 2 1 (.v 34)),
         (none, .load 36 false 1 (.v 35) none),
         (none, .bin 37 .mul (.v 36) (.c (.int .u64 6364136223846793005))),
         (none, .mv 38 (.v 3)),
         (none, .conv 39 .u64 (.v 38)),
         (none, .bin 40 .add (.v 37) (.v 39)),
         (none, .bin 41 .add (.v 40) (.c (.int .u64 1442695040888963407))),
         (none, .nchk 42 (.v 32)),
         (none, .fadr 43 2 1 (.v 42)),
         (none, .store 1 (.v 43) (.v 41) .copy)])
       (.seq
        (.seq
         (.region [(51, 0, true), (50, 0, false), (49, 0, false), (48, 0, false), (46, 0, false), (45, 0, false), (44, 0, false)] [] [0, 3, 53] true [
           (none, .mvr 44 0),
           (none, .nchk 45 (.v 44)),
           (none, .fadr 46 1 1 (.v 45)),
           (none, .load 47 false 1 (.v 46) none),
           (none, .mvr 48 0),
           (none, .nchk 49 (.v 48)),
           (none, .fadr 50 0 1 (.v 49)),
           (none, .load 51 false 1 (.v 50) none),
           (none, .len 52 false (.v 51)),
           (none, .bin 53 .leq (.v 47) (.v 52))])
         (.cond (.v 53)
          (.seq
           (.region [] [] [0, 2] false [
             (none, .mv 54 (.v 3)),
             (none, .asg 2 (.v 54) .copy)])
           (.ret [0, 2]))
          (.skip [0])))
        (.seq
         (.region [(57, 0, false), (56, 0, false), (55, 0, false)] [] [0, 2] false [
           (none, .mv 55 (.v 0)),
           (none, .nchk 56 (.v 55)),
           (none, .fadr 57 2 1 (.v 56)),
           (none, .load 58 false 1 (.v 57) none),
           (none, .bin 59 .shr (.v 58) (.c (.int .u64 40))),
           (none, .bin 60 .and (.v 59) (.c (.int .u64 255))),
           (none, .conv 61 .i64 (.v 60)),
           (none, .asg 2 (.v 61) .copy)])
         (.ret [0, 2]))))))))⟩
def F7 : PFunc :=
 ⟨[true, false], [.tmp 4],
  (.seq
   (.region [] [] [0, 1] false [
     (none, .asg 4 (.c (.int .i64 0)) .copy)])
   (.seq
    (.seq
     (.region [] [] [0, 1, 7] false [
       (none, .mv 6 (.v 1)),
       (none, .bin 7 .leq (.v 6) (.c (.int .i64 1)))])
     (.cond (.v 7)
      (.seq
       (.region [] [] [0, 4] false [
         (none, .asg 4 (.c (.int .i64 0)) .copy)])
       (.ret [0, 4]))
      (.skip [0, 1])))
    (.seq
     (.region [(8, 0, false)] [] [0, 1, 5] false [
       (none, .mv 8 (.v 0)),
       (none, .call (some 9) 5 true [((.v 8), true)]),
       (none, .asg 5 (.v 9) .copy)])
     (.seq
      (.seq
       (.region [] [] [0, 1, 5, 11] false [
         (none, .mv 10 (.v 1)),
         (none, .bin 11 .gtr (.v 10) (.c (.int .i64 200)))])
       (.cond (.v 11)
        (.region [(14, 0, false)] [] [0, 1, 5] false [
          (none, .mv 12 (.v 5)),
          (none, .bin 13 .mul (.v 12) (.c (.int .i64 256))),
          (none, .mv 14 (.v 0)),
          (none, .call (some 15) 5 true [((.v 14), true)]),
          (none, .bin 16 .add (.v 13) (.v 15)),
          (none, .asg 5 (.v 16) .copy)])
        (.skip [0, 1, 5])))
      (.seq
       (.region [] [] [0, 4] false [
         (none, .mv 17 (.v 5)),
         (none, .mv 18 (.v 1)),
         (none, .bin 19 .rem (.v 17) (.v 18)),
         (none, .asg 4 (.v 19) .copy)])
       (.ret [0, 4]))))))⟩
def F8 : PFunc :=
 ⟨[true, false], [.tmp 4],
  (.seq
   (.region [] [] [0, 1] false [
     (none, .asg 4 (.c (.str [])) .copy)])
   (.seq
    (.region [(10, 1, false), (7, 1, false), (6, 0, false), (5, 1, false)] [] [0, 4] false [
      (none, .mv 5 (.v 1)),
      (none, .mv 6 (.v 0)),
      (none, .mv 7 (.v 1)),
      (none, .len 8 false (.v 7)),
      (none, .call (some 9) 7 true [((.v 6), true), ((.v 8), false)]),
      (none, .iadr 10 1 (.v 5) (.v 9)),
      (none, .load 11 false 1 (.v 10) none),
      (none, .asg 4 (.v 11) .copy)])
    (.ret [0, 4])))⟩
def F605 : PFunc :=
 ⟨[false, false, false], [.tmp 6],
  (.seq
   (.region [] [] [0, 1, 2] false [
     (none, .asg 6 (.c (.bool false)) .copy)])
   (.seq
    (.region [] [] [6] false [
      (none, .mv 7 (.v 0)),
      (none, .mv 8 (.v 1)),
      (none, .bin 9 .geq (.v 7) (.v 8)),
      (none, .mv 10 (.v 9)),
      (some (10, true), .mv 11 (.v 0)),
      (some (10, true), .mv 12 (.v 2)),
      (some (10, true), .bin 13 .leq (.v 11) (.v 12)),
      (none, .pick 14 (.v 10) (.v 13) (.c (.bool false))),
      (none, .asg 6 (.v 14) .copy)])
    (.ret [6])))⟩
def F739 : PFunc :=
 ⟨[false, false], [.tmp 4],
  (.seq
   (.region [] [] [0, 1] false [
     (none, .asg 4 (.c (.bool false)) .copy)])
   (.seq
    (.seq
     (.region [] [] [0, 1, 5] false [
       (none, .asg 5 (.c (.int .i64 0)) .copy)])
     (.block 0
      (.loop
       (.seq
        (.seq
         (.region [(7, 0, false)] [] [0, 1, 5, 9] false [
           (none, .mv 6 (.v 5)),
           (none, .mv 7 (.v 0)),
           (none, .len 8 false (.v 7)),
           (none, .bin 9 .lss (.v 6) (.v 8))])
         (.cond (.v 9)
          (.skip [0, 1, 5])
          (.exit 0 [])))
        (.seq
         (.block 1
          (.seq
           (.region [(14, 0, false), (12, 0, false)] [] [0, 1, 5, 17] false [
             (none, .mv 12 (.v 0)),
             (none, .mv 13 (.v 5)),
             (none, .iadr 14 1 (.v 12) (.v 13)),
             (none, .load 15 false 1 (.v 14) none),
             (none, .mv 16 (.v 1)),
             (none, .bin 17 .eql (.v 15) (.v 16))])
           (.cond (.v 17)
            (.seq
             (.region [] [] [4] false [
               (none, .asg 4 (.c (.bool true)) .copy)])
             (.ret [4]))
            (.skip [0, 1, 5]))))
         (.region [] [] [0, 1, 5] false [
           (none, .mv 10 (.v 5)),
           (none, .bin 11 .add (.v 10) (.c (.int .i64 1))),
           (none, .asg 5 (.v 11) .copy)]))))))
    (.seq
     (.region [] [] [4] false [
       (none, .asg 4 (.c (.bool false)) .copy)])
     (.ret [4]))))⟩
def F740 : PFunc :=
 ⟨[false, false], [.tmp 4],
  (.seq
   (.region [] [] [0, 1] false [
     (none, .asg 4 (.c (.bool false)) .copy)])
   (.seq
    (.region [] [] [0, 1, 5] false [
      (none, .asg 5 (.c (.bool false)) .copy)])
    (.seq
     (.seq
      (.region [] [] [0, 1, 5, 6] false [
        (none, .asg 6 (.c (.int .i64 0)) .copy)])
      (.block 0
       (.loop
        (.seq
         (.seq
          (.region [(8, 0, false)] [] [0, 1, 5, 6, 10] false [
            (none, .mv 7 (.v 6)),
            (none, .mv 8 (.v 0)),
            (none, .len 9 false (.v 8)),
            (none, .bin 10 .lss (.v 7) (.v 9))])
          (.cond (.v 10)
           (.skip [0, 1, 5, 6])
           (.exit 0 [5])))
         (.seq
          (.block 1
           (.seq
            (.region [(24, 0, false), (23, 0, false), (21, 0, false), (16, 0, false), (15, 0, false), (13, 0, false)] [] [0, 1, 5, 6, 27] false [
              (none, .mv 13 (.v 0)),
              (none, .mv 14 (.v 6)),
              (none, .iadr 15 4 (.v 13) (.v 14)),
              (none, .fadr 16 2 1 (.v 15)),
              (none, .load 17 false 1 (.v 16) none),
              (none, .mv 18 (.v 1)),
              (none, .bin 19 .eql (.v 17) (.v 18)),
              (none, .mv 20 (.v 19)),
              (some (20, true), .mv 21 (.v 0)),
              (some (20, true), .mv 22 (.v 6)),
              (some (20, true), .iadr 23 4 (.v 21) (.v 22)),
              (some (20, true), .fadr 24 1 1 (.v 23)),
              (some (20, true), .load 25 false 1 (.v 24) none),
              (some (20, true), .bin 26 .neq (.v 25) (.c (.str [116, 117, 114, 110]))),
              (none, .pick 27 (.v 20) (.v 26) (.c (.bool false)))])
            (.cond (.v 27)
             (.region [(31, 0, false), (30, 0, false), (28, 0, false)] [] [0, 1, 5, 6] false [
               (none, .mv 28 (.v 0)),
               (none, .mv 29 (.v 6)),
               (none, .iadr 30 4 (.v 28) (.v 29)),
               (none, .fadr 31 1 1 (.v 30)),
               (none, .load 32 false 1 (.v 31) none),
               (none, .bin 33 .eql (.v 32) (.c (.str [115, 104, 111, 119]))),
               (none, .asg 5 (.v 33) .copy)])
             (.skip [0, 1, 5, 6]))))
          (.region [] [] [0, 1, 5, 6] false [
            (none, .mv 11 (.v 6)),
            (none, .bin 12 .add (.v 11) (.c (.int .i64 1))),
            (none, .asg 6 (.v 12) .copy)]))))))
     (.seq
      (.region [] [] [4] false [
        (none, .mv 34 (.v 5)),
        (none, .asg 4 (.v 34) .copy)])
      (.ret [4])))))⟩
def F735 : PFunc :=
 ⟨[true, false], [.tmp 4],
  (.seq
   (.region [] [] [0, 3] false [
     (none, .box 3 (.v 1) .copy),
     (none, .asg 4 (.c (.int .i64 0)) .copy)])
   (.seq
    (.region [(9, 0, true), (8, 0, false), (7, 0, false), (6, 0, false)] [] [0, 3, 5] false [
      (none, .mv 6 (.v 0)),
      (none, .nchk 7 (.v 6)),
      (none, .fadr 8 1 1 (.v 7)),
      (none, .load 9 false 1 (.v 8) none),
      (none, .len 10 false (.v 9)),
      (none, .asg 5 (.v 10) .copy)])
    (.seq
     (.block 0
      (.seq
       (.region [(21, 3, false), (16, 3, false), (12, 3, false)] [] [0, 3, 5, 11] false [
         (none, .fadr 12 1 1 (.v 3)),
         (none, .load 13 false 1 (.v 12) none),
         (none, .bin 14 .neq (.v 13) (.c (.str [115, 104, 111, 119]))),
         (none, .mv 15 (.v 14)),
         (some (15, true), .fadr 16 1 1 (.v 3)),
         (some (15, true), .load 17 false 1 (.v 16) none),
         (some (15, true), .bin 18 .neq (.v 17) (.c (.str [104, 105, 100, 101]))),
         (none, .pick 19 (.v 15) (.v 18) (.c (.bool false))),
         (none, .mv 20 (.v 19)),
         (some (20, true), .fadr 21 1 1 (.v 3)),
         (some (20, true), .load 22 false 1 (.v 21) none),
         (some (20, true), .bin 23 .neq (.v 22) (.c (.str [116, 117, 114, 110]))),
         (none, .pick 24 (.v 20) (.v 23) (.c (.bool false))),
         (none, .asg 11 (.v 24) .copy)])
       (.cond (.v 11)
        (.seq
         (.region [] [] [0, 4] false [
           (none, .asg 4 (.c (.int .i64 1)) .copy)])
         (.ret [0, 4]))
        (.seq
         (.region [(30, 3, false), (29, 0, true), (28, 0, false), (27, 0, false), (26, 0, false)] [] [0, 3, 5, 25] true [
           (none, .mvr 26 0),
           (none, .nchk 27 (.v 26)),
           (none, .fadr 28 0 1 (.v 27)),
           (none, .load 29 false 1 (.v 28) none),
           (none, .fadr 30 2 1 (.v 3)),
           (none, .load 31 false 1 (.v 30) none),
           (none, .call (some 32) 739 false [((.v 29), false), ((.v 31), false)]),
           (none, .un 33 .not (.v 32)),
           (none, .asg 25 (.v 33) .copy)])
         (.cond (.v 25)
          (.seq
           (.region [] [] [0, 4] false [
             (none, .asg 4 (.c (.int .i64 6)) .copy)])
           (.ret [0, 4]))
          (.seq
           (.region [(40, 3, false), (35, 3, false)] [] [0, 3, 5, 34] false [
             (none, .fadr 35 0 1 (.v 3)),
             (none, .load 36 false 1 (.v 35) none),
             (none, .call (some 37) 605 false [((.v 36), false), ((.c (.int .i64 0)), false), ((.c (.int .i64 10000)), false)]),
             (none, .un 38 .not (.v 37)),
             (none, .mv 39 (.v 38)),
             (some (39, false), .fadr 40 3 1 (.v 3)),
             (some (39, false), .load 41 false 1 (.v 40) none),
             (some (39, false), .call (some 42) 605 false [((.v 41), false), ((.c (.int .i64 0)), false), ((.c (.int .i64 1000)), false)]),
             (some (39, false), .un 43 .not (.v 42)),
             (none, .pick 44 (.v 39) (.c (.bool true)) (.v 43)),
             (none, .asg 34 (.v 44) .copy)])
           (.cond (.v 34)
            (.seq
             (.region [] [] [0, 4] false [
               (none, .asg 4 (.c (.int .i64 4)) .copy)])
             (.ret [0, 4]))
            (.seq
             (.region [(50, 3, false), (46, 3, false)] [] [0, 3, 5, 45] false [
               (none, .fadr 46 1 1 (.v 3)),
               (none, .load 47 false 1 (.v 46) none),
               (none, .bin 48 .neq (.v 47) (.c (.str [116, 117, 114, 110]))),
               (none, .mv 49 (.v 48)),
               (some (49, true), .fadr 50 3 1 (.v 3)),
               (some (49, true), .load 51 false 1 (.v 50) none),
               (some (49, true), .bin 52 .neq (.v 51) (.c (.int .i64 0))),
               (none, .pick 53 (.v 49) (.v 52) (.c (.bool false))),
               (none, .asg 45 (.v 53) .copy)])
             (.cond (.v 45)
              (.seq
               (.region [] [] [0, 4] false [
                 (none, .asg 4 (.c (.int .i64 4)) .copy)])
               (.ret [0, 4]))
              (.seq
               (.region [(67, 3, false), (65, 0, true), (64, 0, true), (61, 0, true), (60, 0, false), (59, 0, false), (58, 0, false)] [] [0, 3, 5, 54] true [
                 (none, .mv 55 (.v 5)),
                 (none, .bin 56 .gtr (.v 55) (.c (.int .i64 0))),
                 (none, .mv 57 (.v 56)),
                 (some (57, true), .mvr 58 0),
                 (some (57, true), .nchk 59 (.v 58)),
                 (some (57, true), .fadr 60 1 1 (.v 59)),
                 (some (57, true), .load 61 false 1 (.v 60) none),
                 (some (57, true), .mv 62 (.v 5)),
                 (some (57, true), .bin 63 .sub (.v 62) (.c (.int .i64 1))),
                 (some (57, true), .iadr 64 4 (.v 61) (.v 63)),
                 (some (57, true), .fadr 65 0 1 (.v 64)),
                 (some (57, true), .load 66 false 1 (.v 65) none),
                 (some (57, true), .fadr 67 0 1 (.v 3)),
                 (some (57, true), .load 68 false 1 (.v 67) none),
                 (some (57, true), .bin 69 .gtr (.v 66) (.v 68)),
                 (none, .pick 70 (.v 57) (.v 69) (.c (.bool false))),
                 (none, .asg 54 (.v 70) .copy)])
               (.cond (.v 54)
                (.seq
                 (.region [] [] [0, 4] false [
                   (none, .asg 4 (.c (.int .i64 7)) .copy)])
                 (.ret [0, 4]))
                (.seq
                 (.region [(79, 3, false), (76, 3, false), (75, 0, true), (74, 0, false), (73, 0, false), (72, 0, false)] [] [0, 3, 5, 71] true [
                   (none, .mvr 72 0),
                   (none, .nchk 73 (.v 72)),
                   (none, .fadr 74 1 1 (.v 73)),
                   (none, .load 75 false 1 (.v 74) none),
                   (none, .fadr 76 2 1 (.v 3)),
                   (none, .load 77 false 1 (.v 76) none),
                   (none, .call (some 78) 740 false [((.v 75), false), ((.v 77), false)]),
                   (none, .fadr 79 1 1 (.v 3)),
                   (none, .load 80 false 1 (.v 79) none),
                   (none, .bin 81 .eql (.v 80) (.c (.str [115, 104, 111, 119]))),
                   (none, .eqb 82 false (.v 78) (.v 81)),
                   (none, .asg 71 (.v 82) .copy)])
                 (.cond (.v 71)
                  (.seq
                   (.region [] [] [0, 4] false [
                     (none, .asg 4 (.c (.int .i64 5)) .copy)])
                   (.ret [0, 4]))
                  (.seq
                   (.region [] [] [0, 3, 83] false [
                     (none, .mv 84 (.v 5)),
                     (none, .bin 85 .geq (.v 84) (.c (.int .i64 60))),
                     (none, .asg 83 (.v 85) .copy)])
                   (.cond (.v 83)
                    (.seq
                     (.region [] [] [0, 4] false [
                       (none, .asg 4 (.c (.int .i64 8)) .copy)])
                     (.ret [0, 4]))
                    (.skip [0, 3]))))))))))))))))
     (.seq
      (.region [(95, 0, false), (94, 0, false), (90, 0, true), (89, 0, false), (88, 0, false), (87, 0, false), (86, 0, false)] [] [0] true [
        (none, .mvr 86 0),
        (none, .mvr 87 0),
        (none, .nchk 88 (.v 87)),
        (none, .fadr 89 1 1 (.v 88)),
        (none, .load 90 false 1 (.v 89) none),
        (none, .load 91 true 4 (.v 3) none),
        (none, .mksl 92 4 (.agg [(.int .i64 0), (.str []), (.str []), (.int .i64 0)]) 1 [(0, (.v 91), .copy)]),
        (none, .app 93 4 (.v 90) (.v 92) .move),
        (none, .nchk 94 (.v 86)),
        (none, .fadr 95 1 1 (.v 94)),
        (none, .store 1 (.v 95) (.v 93) .move)])
      (.seq
       (.region [] [] [0, 4] false [
         (none, .asg 4 (.c (.int .i64 0)) .copy)])
       (.ret [0, 4]))))))⟩
def F738 : PFunc :=
 ⟨[], [.cell 0 true 2],
  (.seq
   (.region [] [] [0] false [
     (none, .new 0 (.agg [(.sl true 1 []), (.sl true 4 [])]))])
   (.seq
    (.region [] [] [0] false [
      (none, .mksl 1 1 (.str []) 0 []),
      (none, .mksl 2 4 (.agg [(.int .i64 0), (.str []), (.str []), (.int .i64 0)]) 0 []),
      (none, .build 3 [(.sl true 1 []), (.sl true 4 [])] [(0, 1, (.v 1), .move), (1, 1, (.v 2), .move)]),
      (none, .store 2 (.v 0) (.v 3) .move)])
    (.ret [0])))⟩
def F737 : PFunc :=
 ⟨[true], [.cell 2 true 2],
  (.seq
   (.region [] [] [0, 2] false [
     (none, .new 2 (.agg [(.sl true 1 []), (.sl true 4 [])]))])
   (.seq
    (.region [] [] [0, 2, 3] false [
      (none, .mksl 9 1 (.str []) 5 [(0, (.c (.str [99, 97, 115, 116, 108, 101])), .copy), (1, (.c (.str [109, 111, 111, 110])), .copy), (2, (.c (.str [114, 97, 116, 45, 50])), .copy), (3, (.c (.str [115, 104, 105, 112])), .copy), (4, (.c (.str [115, 116, 111, 114, 109])), .copy)]),
      (none, .asg 3 (.v 9) .move)])
    (.seq
     (.region [] [] [0, 2, 3, 4] false [
       (none, .call (some 10) 738 false []),
       (none, .new 4 (.agg [(.sl true 1 []), (.sl true 4 [])])),
       (none, .store 2 (.v 4) (.v 10) .move)])
     (.seq
      (.seq
       (.region [(11, 0, false)] [] [0, 2, 3, 4, 5] false [
         (none, .mv 11 (.v 0)),
         (none, .call (some 12) 7 true [((.v 11), true), ((.c (.int .i64 6)), false)]),
         (none, .asg 5 (.v 12) .copy)])
       (.block 0
        (.loop
         (.seq
          (.seq
           (.region [] [] [0, 2, 3, 4, 5, 14] false [
             (none, .mv 13 (.v 5)),
             (none, .bin 14 .gtr (.v 13) (.c (.int .i64 0)))])
           (.cond (.v 14)
            (.skip [0, 2, 3, 4, 5])
            (.exit 0 [0, 2, 4])))
          (.seq
           (.block 1
            (.region [(27, 4, false), (23, 3, false), (21, 4, true), (20, 4, false), (19, 3, false), (18, 4, true), (17, 4, false)] [] [0, 2, 3, 4, 5] true [
              (none, .fadr 17 0 1 (.v 4)),
              (none, .load 18 false 1 (.v 17) none),
              (none, .mvr 19 3),
              (none, .fadr 20 0 1 (.v 4)),
              (none, .load 21 false 1 (.v 20) none),
              (none, .len 22 false (.v 21)),
              (none, .iadr 23 1 (.v 19) (.v 22)),
              (none, .load 24 false 1 (.v 23) none),
              (none, .mksl 25 1 (.str []) 1 [(0, (.v 24), .copy)]),
              (none, .app 26 1 (.v 18) (.v 25) .move),
              (none, .fadr 27 0 1 (.v 4)),
              (none, .store 1 (.v 27) (.v 26) .move)]))
           (.region [] [] [0, 2, 3, 4, 5] false [
             (none, .mv 15 (.v 5)),
             (none, .bin 16 .sub (.v 15) (.c (.int .i64 1))),
             (none, .asg 5 (.v 16) .copy)]))))))
      (.seq
       (.region [] [] [0, 2, 4, 6] false [
         (none, .asg 6 (.c (.int .i64 0)) .copy)])
       (.seq
        (.seq
         (.region [(28, 0, false)] [] [0, 2, 4, 6, 7] false [
           (none, .mv 28 (.v 0)),
           (none, .call (some 29) 7 true [((.v 28), true), ((.c (.int .i64 12)), false)]),
           (none, .asg 7 (.v 29) .copy)])
         (.block 2
          (.loop
           (.seq
            (.seq
             (.region [(34, 4, true), (33, 4, false)] [] [0, 2, 4, 6, 7, 37] false [
               (none, .mv 30 (.v 7)),
               (none, .bin 31 .gtr (.v 30) (.c (.int .i64 0))),
               (none, .mv 32 (.v 31)),
               (some (32, true), .fadr 33 0 1 (.v 4)),
               (some (32, true), .load 34 false 1 (.v 33) none),
               (some (32, true), .len 35 false (.v 34)),
               (some (32, true), .bin 36 .gtr (.v 35) (.c (.int .i64 0))),
               (none, .pick 37 (.v 32) (.v 36) (.c (.bool false)))])
             (.cond (.v 37)
              (.skip [0, 2, 4, 6, 7])
              (.exit 2 [0, 2, 4])))
            (.seq
             (.block 3
              (.seq
               (.region [(51, 4, true), (48, 4, true), (47, 4, false), (46, 0, false), (45, 4, true), (44, 4, false), (41, 0, false)] [] [0, 2, 4, 6, 7, 8] true [
                 (none, .mv 40 (.v 6)),
                 (none, .mvr 41 0),
                 (none, .mksl 42 1 (.str []) 3 [(0, (.c (.str [115, 104, 111, 119])), .copy), (1, (.c (.str [104, 105, 100, 101])), .copy), (2, (.c (.str [116, 117, 114, 110])), .copy)]),
                 (none, .call (some 43) 8 true [((.v 41), true), ((.v 42), false)]),
                 (none, .fadr 44 0 1 (.v 4)),
                 (none, .load 45 false 1 (.v 44) none),
                 (none, .mvr 46 0),
                 (none, .fadr 47 0 1 (.v 4)),
                 (none, .load 48 false 1 (.v 47) none),
                 (none, .len 49 false (.v 48)),
                 (none, .call (some 50) 7 true [((.v 46), true), ((.v 49), false)]),
                 (none, .iadr 51 1 (.v 45) (.v 50)),
                 (none, .load 52 false 1 (.v 51) none),
                 (none, .build 53 [(.int .i64 0), (.str []), (.str []), (.int .i64 0)] [(0, 1, (.v 40), .copy), (1, 1, (.v 43), .copy), (2, 1, (.v 52), .copy)]),
                 (none, .new 8 (.agg [(.int .i64 0), (.str []), (.str []), (.int .i64 0)])),
                 (none, .store 4 (.v 8) (.v 53) .copy)])
               (.seq
                (.seq
                 (.region [(54, 8, false)] [] [0, 2, 4, 6, 7, 8, 56] false [
                   (none, .fadr 54 1 1 (.v 8)),
                   (none, .load 55 false 1 (.v 54) none),
                   (none, .bin 56 .eql (.v 55) (.c (.str [116, 117, 114, 110])))])
                 (.cond (.v 56)
                  (.region [(59, 8, false), (57, 0, false)] [] [0, 2, 4, 6, 7, 8] false [
                    (none, .mv 57 (.v 0)),
                    (none, .call (some 58) 7 true [((.v 57), true), ((.c (.int .i64 40)), false)]),
                    (none, .fadr 59 3 1 (.v 8)),
                    (none, .store 1 (.v 59) (.v 58) .copy)])
                  (.skip [0, 2, 4, 6, 7, 8])))
                (.seq
                 (.region [] [] [0, 2, 4, 6, 7] false [
                   (none, .load 60 true 4 (.v 8) none),
                   (none, .call (some 61) 735 false [((.v 4), true), ((.v 60), false)])])
                 (.region [(63, 0, false)] [] [0, 2, 4, 6, 7] false [
                   (none, .mv 62 (.v 6)),
                   (none, .mv 63 (.v 0)),
                   (none, .call (some 64) 7 true [((.v 63), true), ((.c (.int .i64 9)), false)]),
                   (none, .bin 65 .add (.v 62) (.v 64)),
                   (none, .asg 6 (.v 65) .copy)])))))
             (.region [] [] [0, 2, 4, 6, 7] false [
               (none, .mv 38 (.v 7)),
               (none, .bin 39 .sub (.v 38) (.c (.int .i64 1))),
               (none, .asg 7 (.v 39) .copy)]))))))
        (.seq
         (.region [] [] [0, 2] false [
           (none, .load 66 true 2 (.v 4) (some .move)),
           (none, .store 2 (.v 2) (.v 66) .move)])
         (.ret [0, 2]))))))))⟩
def F949 : PFunc :=
 ⟨[false], [.tmp 2],
  (.seq
   (.region [] [] [0] false [
     (none, .asg 2 (.c (.str [])) .copy)])
   (.seq
    (.region [] [] [0, 3] false [
      (none, .mksl 6 1 (.int .u8 0) 0 []),
      (none, .asg 3 (.v 6) .move)])
    (.seq
     (.seq
      (.region [] [] [0, 3, 4] false [
        (none, .mv 7 (.v 0)),
        (none, .asg 4 (.v 7) .copy)])
      (.block 0
       (.loop
        (.seq
         (.seq
          (.region [] [] [0, 3, 4, 9] false [
            (none, .mv 8 (.v 4)),
            (none, .bin 9 .neq (.v 8) (.c (.int .i64 0)))])
          (.cond (.v 9)
           (.skip [0, 3, 4])
           (.exit 0 [0, 3])))
         (.seq
          (.block 1
           (.seq
            (.region [] [] [0, 3, 4, 5] false [
              (none, .mv 12 (.v 4)),
              (none, .bin 13 .rem (.v 12) (.c (.int .i64 10))),
              (none, .asg 5 (.v 13) .copy)])
            (.seq
             (.seq
              (.region [] [] [0, 3, 4, 5, 15] false [
                (none, .mv 14 (.v 5)),
                (none, .bin 15 .lss (.v 14) (.c (.int .i64 0)))])
              (.cond (.v 15)
               (.region [] [] [0, 3, 4, 5] false [
                 (none, .mv 16 (.v 5)),
                 (none, .un 17 .neg (.v 16)),
                 (none, .asg 5 (.v 17) .copy)])
               (.skip [0, 3, 4, 5])))
             (.region [(22, 3, false)] [] [0, 3, 4] false [
               (none, .mv 18 (.v 5)),
               (none, .bin 19 .add (.c (.int .i64 48)) (.v 18)),
               (none, .conv 20 .u8 (.v 19)),
               (none, .mksl 21 1 (.int .u8 0) 1 [(0, (.v 20), .copy)]),
               (none, .mv 22 (.v 3)),
               (none, .app 23 1 (.v 21) (.v 22) .freeze),
               (none, .asg 3 (.v 23) .move)]))))
          (.region [] [] [0, 3, 4] false [
            (none, .mv 10 (.v 4)),
            (none, .bin 11 .quo (.v 10) (.c (.int .i64 10))),
            (none, .asg 4 (.v 11) .copy)]))))))
     (.seq
      (.seq
       (.region [(24, 3, false)] [] [0, 3, 26] false [
         (none, .mv 24 (.v 3)),
         (none, .len 25 false (.v 24)),
         (none, .bin 26 .eql (.v 25) (.c (.int .i64 0)))])
       (.cond (.v 26)
        (.seq
         (.region [] [] [2] false [
           (none, .asg 2 (.c (.str [48])) .copy)])
         (.ret [2]))
        (.skip [0, 3])))
      (.seq
       (.seq
        (.region [] [] [3, 28] false [
          (none, .mv 27 (.v 0)),
          (none, .bin 28 .lss (.v 27) (.c (.int .i64 0)))])
        (.cond (.v 28)
         (.seq
          (.region [(29, 3, false)] [] [2] false [
            (none, .mv 29 (.v 3)),
            (none, .b2s 30 (.v 29)),
            (none, .bin 31 .add (.c (.str [45])) (.v 30)),
            (none, .asg 2 (.v 31) .copy)])
          (.ret [2]))
         (.skip [3])))
       (.seq
        (.region [(32, 3, false)] [] [2] false [
          (none, .mv 32 (.v 3)),
          (none, .b2s 33 (.v 32)),
          (none, .asg 2 (.v 33) .copy)])
        (.ret [2])))))))⟩
def F997 : PFunc :=
 ⟨[false], [.tmp 2],
  (.seq
   (.region [] [] [0] false [
     (none, .asg 2 (.c (.str [])) .copy)])
   (.seq
    (.region [] [] [0, 3] false [
      (none, .asg 3 (.c (.str [])) .copy)])
    (.seq
     (.seq
      (.region [] [] [0, 3, 4] false [
        (none, .asg 4 (.c (.int .i64 0)) .copy)])
      (.block 0
       (.loop
        (.seq
         (.seq
          (.region [(11, 0, true), (10, 0, false), (9, 0, false), (8, 0, false)] [] [0, 3, 4, 13] false [
            (none, .mv 7 (.v 4)),
            (none, .mv 8 (.v 0)),
            (none, .nchk 9 (.v 8)),
            (none, .fadr 10 0 1 (.v 9)),
            (none, .load 11 false 1 (.v 10) none),
            (none, .len 12 false (.v 11)),
            (none, .bin 13 .lss (.v 7) (.v 12))])
          (.cond (.v 13)
           (.skip [0, 3, 4])
           (.exit 0 [0, 3])))
         (.seq
          (.block 1
           (.region [(22, 0, true), (20, 0, true), (19, 0, false), (18, 0, false), (17, 0, false)] [] [0, 3, 4] false [
             (none, .mv 16 (.v 3)),
             (none, .mv 17 (.v 0)),
             (none, .nchk 18 (.v 17)),
             (none, .fadr 19 0 1 (.v 18)),
             (none, .load 20 false 1 (.v 19) none),
             (none, .mv 21 (.v 4)),
             (none, .iadr 22 1 (.v 20) (.v 21)),
             (none, .load 23 false 1 (.v 22) none),
             (none, .bin 24 .add (.c (.str [115, 108, 105, 100, 101, 32])) (.v 23)),
             (none, .bin 25 .add (.v 24) (.c (.str [10]))),
             (none, .bin 26 .add (.v 16) (.v 25)),
             (none, .asg 3 (.v 26) .copy)]))
          (.region [] [] [0, 3, 4] false [
            (none, .mv 14 (.v 4)),
            (none, .bin 15 .add (.v 14) (.c (.int .i64 1))),
            (none, .asg 4 (.v 15) .copy)]))))))
     (.seq
      (.seq
       (.region [] [] [0, 3, 5] false [
         (none, .asg 5 (.c (.int .i64 0)) .copy)])
       (.block 2
        (.loop
         (.seq
          (.seq
           (.region [(31, 0, true), (30, 0, false), (29, 0, false), (28, 0, false)] [] [0, 3, 5, 33] false [
             (none, .mv 27 (.v 5)),
             (none, .mv 28 (.v 0)),
             (none, .nchk 29 (.v 28)),
             (none, .fadr 30 1 1 (.v 29)),
             (none, .load 31 false 1 (.v 30) none),
             (none, .len 32 false (.v 31)),
             (none, .bin 33 .lss (.v 27) (.v 32))])
           (.cond (.v 33)
            (.skip [0, 3, 5])
            (.exit 2 [3])))
          (.seq
           (.block 3
            (.seq
             (.region [(41, 0, true), (39, 0, true), (38, 0, false), (37, 0, false), (36, 0, false)] [] [0, 3, 5, 6] false [
               (none, .mv 36 (.v 0)),
               (none, .nchk 37 (.v 36)),
               (none, .fadr 38 1 1 (.v 37)),
               (none, .load 39 false 1 (.v 38) none),
               (none, .mv 40 (.v 5)),
               (none, .iadr 41 4 (.v 39) (.v 40)),
               (none, .load 42 true 4 (.v 41) none),
               (none, .new 6 (.agg [(.int .i64 0), (.str []), (.str []), (.int .i64 0)])),
               (none, .store 4 (.v 6) (.v 42) .copy)])
             (.seq
              (.region [(53, 6, false), (49, 6, false), (44, 6, false)] [] [0, 3, 5, 6] true [
                (none, .mv 43 (.v 3)),
                (none, .fadr 44 0 1 (.v 6)),
                (none, .load 45 false 1 (.v 44) none),
                (none, .call (some 46) 949 false [((.v 45), false)]),
                (none, .bin 47 .add (.c (.str [97, 116, 32])) (.v 46)),
                (none, .bin 48 .add (.v 47) (.c (.str [32]))),
                (none, .fadr 49 1 1 (.v 6)),
                (none, .load 50 false 1 (.v 49) none),
                (none, .bin 51 .add (.v 48) (.v 50)),
                (none, .bin 52 .add (.v 51) (.c (.str [32]))),
                (none, .fadr 53 2 1 (.v 6)),
                (none, .load 54 false 1 (.v 53) none),
                (none, .bin 55 .add (.v 52) (.v 54)),
                (none, .bin 56 .add (.v 43) (.v 55)),
                (none, .asg 3 (.v 56) .copy)])
              (.seq
               (.seq
                (.region [(57, 6, false)] [] [0, 3, 5, 6, 59] false [
                  (none, .fadr 57 1 1 (.v 6)),
                  (none, .load 58 false 1 (.v 57) none),
                  (none, .bin 59 .eql (.v 58) (.c (.str [116, 117, 114, 110])))])
                (.cond (.v 59)
                 (.region [(61, 6, false)] [] [0, 3, 5] false [
                   (none, .mv 60 (.v 3)),
                   (none, .fadr 61 3 1 (.v 6)),
                   (none, .load 62 false 1 (.v 61) none),
                   (none, .call (some 63) 949 false [((.v 62), false)]),
                   (none, .bin 64 .add (.c (.str [32])) (.v 63)),
                   (none, .bin 65 .add (.v 60) (.v 64)),
                   (none, .asg 3 (.v 65) .copy)])
                 (.skip [0, 3, 5])))
               (.region [] [] [0, 3, 5] false [
                 (none, .mv 66 (.v 3)),
                 (none, .bin 67 .add (.v 66) (.c (.str [10]))),
                 (none, .asg 3 (.v 67) .copy)])))))
           (.region [] [] [0, 3, 5] false [
             (none, .mv 34 (.v 5)),
             (none, .bin 35 .add (.v 34) (.c (.int .i64 1))),
             (none, .asg 5 (.v 35) .copy)]))))))
      (.seq
       (.region [] [] [2] false [
         (none, .mv 68 (.v 3)),
         (none, .asg 2 (.v 68) .copy)])
       (.ret [2]))))))⟩
def F992 : PFunc :=
 ⟨[true], [.tmp 2],
  (.seq
   (.region [] [] [0] false [
     (none, .asg 2 (.c (.str [])) .copy)])
   (.seq
    (.region [(9, 0, false)] [] [0, 3] false [
      (none, .mv 9 (.v 0)),
      (none, .call (some 10) 737 true [((.v 9), true)]),
      (none, .new 3 (.agg [(.sl true 1 []), (.sl true 4 [])])),
      (none, .store 2 (.v 3) (.v 10) .move)])
    (.seq
     (.region [] [] [0, 4] false [
       (none, .call (some 11) 997 false [((.v 3), false)]),
       (none, .asg 4 (.v 11) .copy)])
     (.seq
      (.seq
       (.region [(12, 0, false)] [] [0, 4, 5] false [
         (none, .mv 12 (.v 0)),
         (none, .call (some 13) 7 true [((.v 12), true), ((.c (.int .i64 4)), false)]),
         (none, .asg 5 (.v 13) .copy)])
       (.block 0
        (.loop
         (.seq
          (.seq
           (.region [] [] [0, 4, 5, 15] false [
             (none, .mv 14 (.v 5)),
             (none, .bin 15 .gtr (.v 14) (.c (.int .i64 0)))])
           (.cond (.v 15)
            (.skip [0, 4, 5])
            (.exit 0 [0, 4])))
          (.seq
           (.block 1
            (.region [(19, 0, false)] [] [0, 4, 5] false [
              (none, .mv 18 (.v 4)),
              (none, .mv 19 (.v 0)),
              (none, .mksl 20 1 (.str []) 16 [(0, (.c (.str [59, 32, 120, 10])), .copy), (1, (.c (.str [10])), .copy), (2, (.c (.str [115, 108, 105, 100, 101, 32, 109, 111, 111, 110, 10])), .copy), (3, (.c (.str [115, 108, 105, 100, 101, 10])), .copy), (4, (.c (.str [115, 108, 105, 100, 101, 32, 66, 97, 100, 10])), .copy), (5, (.c (.str [97, 116, 32, 53, 32, 115, 104, 111, 119, 32, 99, 97, 115, 116, 108, 101, 10])), .copy), (6, (.c (.str [97, 116, 32, 57, 48, 48, 48, 32, 115, 104, 111, 119, 32, 99, 97, 115, 116, 108, 101, 10])), .copy), (7, (.c (.str [97, 116, 32, 57, 48, 48, 49, 32, 104, 105, 100, 101, 32, 99, 97, 115, 116, 108, 101, 10])), .copy), (8, (.c (.str [97, 116, 32, 120, 32, 115, 104, 111, 119, 32, 109, 111, 111, 110, 10])), .copy), (9, (.c (.str [97, 116, 32, 57, 48, 48, 50, 32, 116, 117, 114, 110, 32, 99, 97, 115, 116, 108, 101, 32, 53, 10])), .copy), (10, (.c (.str [97, 116, 32, 57, 48, 48, 50, 32, 116, 117, 114, 110, 32, 99, 97, 115, 116, 108, 101, 10])), .copy), (11, (.c (.str [97, 116, 32, 57, 48, 48, 51, 32, 115, 104, 111, 119, 32, 110, 111, 110, 101, 10])), .copy), (12, (.c (.str [97, 116, 32, 57, 48, 48, 51, 32, 98, 117, 114, 110, 32, 99, 97, 115, 116, 108, 101, 10])), .copy), (13, (.c (.str [97, 116, 32, 49, 48, 48, 48, 49, 32, 115, 104, 111, 119, 32, 109, 111, 111, 110, 10])), .copy), (14, (.c (.str [115, 116, 111, 112, 10])), .copy), (15, (.c (.str [97, 116, 32, 51, 32, 115, 104, 111, 119, 10])), .copy)]),
              (none, .call (some 21) 8 true [((.v 19), true), ((.v 20), false)]),
              (none, .bin 22 .add (.v 18) (.v 21)),
              (none, .asg 4 (.v 22) .copy)]))
           (.region [] [] [0, 4, 5] false [
             (none, .mv 16 (.v 5)),
             (none, .bin 17 .sub (.v 16) (.c (.int .i64 1))),
             (none, .asg 5 (.v 17) .copy)]))))))
      (.seq
       (.seq
        (.region [(23, 0, false)] [] [0, 4, 24] false [
          (none, .mv 23 (.v 0)),
          (none, .call (some 24) 7 true [((.v 23), true), ((.c (.int .i64 16)), false)])])
        (.block 2
         (.seq
          (.region [] [] [0, 4, 24, 25] false [
            (none, .bin 26 .eql (.v 24) (.c (.int .i64 0))),
            (none, .asg 25 (.v 26) .copy)])
          (.cond (.v 25)
           (.seq
            (.region [(27, 0, false)] [] [0, 4, 6] false [
              (none, .mv 27 (.v 0)),
              (none, .call (some 28) 7 true [((.v 27), true), ((.c (.int .i64 4)), false)]),
              (none, .bin 29 .add (.v 28) (.c (.int .i64 19))),
              (none, .asg 6 (.v 29) .copy)])
            (.block 3
             (.loop
              (.seq
               (.seq
                (.region [] [] [0, 4, 6, 31] false [
                  (none, .mv 30 (.v 6)),
                  (none, .bin 31 .gtr (.v 30) (.c (.int .i64 0)))])
                (.cond (.v 31)
                 (.skip [0, 4, 6])
                 (.exit 3 [0, 4])))
               (.seq
                (.block 4
                 (.region [] [] [0, 4, 6] false [
                   (none, .mv 34 (.v 4)),
                   (none, .bin 35 .add (.v 34) (.c (.str [63, 10]))),
                   (none, .asg 4 (.v 35) .copy)]))
                (.region [] [] [0, 4, 6] false [
                  (none, .mv 32 (.v 6)),
                  (none, .bin 33 .sub (.v 32) (.c (.int .i64 1))),
                  (none, .asg 6 (.v 33) .copy)]))))))
           (.seq
            (.region [] [] [0, 4, 24, 36] false [
              (none, .bin 37 .eql (.v 24) (.c (.int .i64 1))),
              (none, .asg 36 (.v 37) .copy)])
            (.cond (.v 36)
             (.seq
              (.region [(38, 0, false)] [] [0, 4, 7] false [
                (none, .mv 38 (.v 0)),
                (none, .call (some 39) 7 true [((.v 38), true), ((.c (.int .i64 2)), false)]),
                (none, .bin 40 .add (.c (.int .i64 3000)) (.v 39)),
                (none, .asg 7 (.v 40) .copy)])
              (.block 5
               (.loop
                (.seq
                 (.seq
                  (.region [] [] [0, 4, 7, 44] false [
                    (none, .mv 41 (.v 4)),
                    (none, .len 42 true (.v 41)),
                    (none, .mv 43 (.v 7)),
                    (none, .bin 44 .lss (.v 42) (.v 43))])
                  (.cond (.v 44)
                   (.skip [0, 4, 7])
                   (.exit 5 [0, 4])))
                 (.block 6
                  (.region [] [] [0, 4, 7] false [
                    (none, .mv 45 (.v 4)),
                    (none, .bin 46 .add (.v 45) (.c (.str [32]))),
                    (none, .asg 4 (.v 46) .copy)]))))))
             (.seq
              (.region [] [] [0, 4, 47] false [
                (none, .bin 48 .eql (.v 24) (.c (.int .i64 2))),
                (none, .asg 47 (.v 48) .copy)])
              (.cond (.v 47)
               (.seq
                (.region [(49, 0, false)] [] [0, 4, 8] false [
                  (none, .mv 49 (.v 0)),
                  (none, .call (some 50) 7 true [((.v 49), true), ((.c (.int .i64 3)), false)]),
                  (none, .bin 51 .add (.c (.int .i64 60)) (.v 50)),
                  (none, .asg 8 (.v 51) .copy)])
                (.block 7
                 (.loop
                  (.seq
                   (.seq
                    (.region [] [] [0, 4, 8, 53] false [
                      (none, .mv 52 (.v 8)),
                      (none, .bin 53 .gtr (.v 52) (.c (.int .i64 0)))])
                    (.cond (.v 53)
                     (.skip [0, 4, 8])
                     (.exit 7 [0, 4])))
                   (.seq
                    (.block 8
                     (.region [] [] [0, 4, 8] false [
                       (none, .mv 56 (.v 4)),
                       (none, .mv 57 (.v 8)),
                       (none, .call (some 58) 949 false [((.v 57), false)]),
                       (none, .bin 59 .add (.c (.str [115, 108, 105, 100, 101, 32, 122])) (.v 58)),
                       (none, .bin 60 .add (.v 59) (.c (.str [10]))),
                       (none, .bin 61 .add (.v 56) (.v 60)),
                       (none, .asg 4 (.v 61) .copy)]))
                    (.region [] [] [0, 4, 8] false [
                      (none, .mv 54 (.v 8)),
                      (none, .bin 55 .sub (.v 54) (.c (.int .i64 1))),
                      (none, .asg 8 (.v 55) .copy)]))))))
               (.skip [0, 4])))))))))
       (.seq
        (.region [] [] [0, 2] false [
          (none, .mv 62 (.v 4)),
          (none, .asg 2 (.v 62) .copy)])
        (.ret [0, 2])))))))⟩
def F980 : PFunc :=
 ⟨[false], [.tmp 2],
  (.seq
   (.region [] [] [0] false [
     (none, .asg 2 (.c (.str [])) .copy)])
   (.seq
    (.region [(3, 0, false)] [] [2] false [
      (none, .mv 3 (.v 0)),
      (none, .call (some 4) 603 true [((.v 3), false)]),
      (none, .call (some 5) 992 true [((.v 4), true)]),
      (none, .asg 2 (.v 5) .copy)])
    (.ret [2])))⟩
def F939 : PFunc :=
 ⟨[false], [.tmp 2],
  (.seq
   (.region [] [] [0] false [
     (none, .asg 2 (.c (.str [])) .copy)])
   (.seq
    (.region [] [] [2] false [
      (none, .mv 3 (.v 0)),
      (none, .call (some 4) 953 false [((.v 3), false), ((.c (.int .i64 10)), false)]),
      (none, .asg 2 (.v 4) .copy)])
    (.ret [2])))⟩
def F938 : PFunc :=
 ⟨[false], [.tmp 2, .tmp 3],
  (.seq
   (.region [] [] [0] false [
     (none, .asg 2 (.c (.int .i64 0)) .copy),
     (none, .asg 3 (.c (.bool false)) .copy)])
   (.seq
    (.seq
     (.region [] [] [0, 14] false [
       (none, .mv 6 (.v 0)),
       (none, .len 7 true (.v 6)),
       (none, .bin 8 .gtr (.v 7) (.c (.int .i64 19))),
       (none, .mv 9 (.v 8)),
       (some (9, false), .mv 10 (.v 0)),
       (some (9, false), .call (some 11) 951 false [((.v 10), false), ((.c (.str [45])), false)]),
       (some (9, false), .len 12 true (.v 11)),
       (some (9, false), .bin 13 .gtr (.v 12) (.c (.int .i64 18))),
       (none, .pick 14 (.v 9) (.c (.bool true)) (.v 13))])
     (.cond (.v 14)
      (.seq
       (.region [] [] [2, 3] false [
         (none, .asg 2 (.c (.int .i64 0)) .copy),
         (none, .asg 3 (.c (.bool false)) .copy)])
       (.ret [2, 3]))
      (.skip [0])))
    (.seq
     (.region [] [] [0, 4, 5] false [
       (none, .mv 16 (.v 0)),
       (none, .call (some 17) 952 false [((.v 16), false), ((.c (.int .i64 10)), false), ((.c (.int .i64 64)), false)]),
       (none, .asg 15 (.v 17) .move),
       (none, .extp 18 (.v 15) 0),
       (none, .extp 19 (.v 15) 1),
       (none, .asg 4 (.v 18) .copy),
       (none, .asg 5 (.v 19) .move)])
     (.seq
      (.seq
       (.region [(20, 5, false)] [] [4, 27] false [
         (none, .mv 20 (.v 5)),
         (none, .ern 21 true (.v 20)),
         (none, .mv 22 (.v 21)),
         (some (22, false), .mv 23 (.v 4)),
         (some (22, false), .call (some 24) 939 false [((.v 23), false)]),
         (some (22, false), .mv 25 (.v 0)),
         (some (22, false), .bin 26 .neq (.v 24) (.v 25)),
         (none, .pick 27 (.v 22) (.c (.bool true)) (.v 26))])
       (.cond (.v 27)
        (.seq
         (.region [] [] [2, 3] false [
           (none, .asg 2 (.c (.int .i64 0)) .copy),
           (none, .asg 3 (.c (.bool false)) .copy)])
         (.ret [2, 3]))
        (.skip [4])))
      (.seq
       (.region [] [] [2, 3] false [
         (none, .mv 28 (.v 4)),
         (none, .asg 2 (.v 28) .copy),
         (none, .asg 3 (.c (.bool true)) .copy)])
       (.ret [2, 3]))))))⟩
def F1005 : PFunc :=
 ⟨[false], [.tmp 2],
  (.seq
   (.region [] [] [0] false [
     (none, .asg 2 (.c (.bool false)) .copy)])
   (.seq
    (.region [] [] [2] false [
      (none, .mv 3 (.v 0)),
      (none, .bin 4 .eql (.v 3) (.c (.str []))),
      (none, .asg 2 (.v 4) .copy)])
    (.ret [2])))⟩
def F1001 : PFunc :=
 ⟨[false], [.tmp 2],
  (.seq
   (.region [] [] [0] false [
     (none, .asg 2 (.c (.sl true 1 [])) .copy)])
   (.seq
    (.region [] [] [2] false [
      (none, .mv 3 (.v 0)),
      (none, .call (some 4) 993 false [((.v 3), false), ((.c (.str [32])), false)]),
      (none, .call (some 5) 1004 false [((.v 4), true), ((.c (.fn 1005 [])), false)]),
      (none, .asg 2 (.v 5) .move)])
    (.ret [2])))⟩
def F994 : PFunc :=
 ⟨[true, false], [.tmp 4],
  (.seq
   (.region [] [] [0, 1] false [
     (none, .asg 4 (.c (.int .i64 0)) .copy)])
   (.seq
    (.region [] [] [0, 5] false [
      (none, .mv 12 (.v 1)),
      (none, .call (some 13) 1001 false [((.v 12), false)]),
      (none, .asg 5 (.v 13) .move)])
    (.seq
     (.region [(14, 5, false)] [] [0, 5, 6] false [
       (none, .mv 14 (.v 5)),
       (none, .len 15 false (.v 14)),
       (none, .asg 6 (.v 15) .copy)])
     (.seq
      (.block 0
       (.seq
        (.region [(21, 5, false), (20, 5, false)] [] [0, 5, 6, 16] false [
          (none, .mv 17 (.v 6)),
          (none, .bin 18 .eql (.v 17) (.c (.int .i64 0))),
          (none, .mv 19 (.v 18)),
          (some (19, false), .mv 20 (.v 5)),
          (some (19, false), .iadr 21 1 (.v 20) (.c (.int .i64 0))),
          (some (19, false), .load 22 false 1 (.v 21) none),
          (some (19, false), .idx 23 (.v 22) (.c (.int .i64 0))),
          (some (19, false), .bin 24 .eql (.v 23) (.c (.int .u8 59))),
          (none, .pick 25 (.v 19) (.c (.bool true)) (.v 24)),
          (none, .asg 16 (.v 25) .copy)])
        (.cond (.v 16)
         (.seq
          (.region [] [] [0, 4] false [
            (none, .asg 4 (.c (.int .i64 0)) .copy)])
          (.ret [0, 4]))
         (.seq
          (.region [(28, 5, false), (27, 5, false)] [] [0, 5, 6, 26] false [
            (none, .mv 27 (.v 5)),
            (none, .iadr 28 1 (.v 27) (.c (.int .i64 0))),
            (none, .load 29 false 1 (.v 28) none),
            (none, .bin 30 .eql (.v 29) (.c (.str [115, 108, 105, 100, 101]))),
            (none, .mv 31 (.v 30)),
            (some (31, true), .mv 32 (.v 6)),
            (some (31, true), .bin 33 .neq (.v 32) (.c (.int .i64 2))),
            (none, .pick 34 (.v 31) (.v 33) (.c (.bool false))),
            (none, .asg 26 (.v 34) .copy)])
          (.cond (.v 26)
           (.seq
            (.region [] [] [0, 4] false [
              (none, .asg 4 (.c (.int .i64 2)) .copy)])
            (.ret [0, 4]))
           (.seq
            (.region [(37, 5, false), (36, 5, false)] [] [0, 5, 6, 35] false [
              (none, .mv 36 (.v 5)),
              (none, .iadr 37 1 (.v 36) (.c (.int .i64 0))),
              (none, .load 38 false 1 (.v 37) none),
              (none, .bin 39 .eql (.v 38) (.c (.str [115, 108, 105, 100, 101]))),
              (none, .asg 35 (.v 39) .copy)])
            (.cond (.v 35)
             (.seq
              (.region [(42, 5, false), (41, 5, false), (40, 0, false)] [] [0, 4] false [
                (none, .mv 40 (.v 0)),
                (none, .mv 41 (.v 5)),
                (none, .iadr 42 1 (.v 41) (.c (.int .i64 1))),
                (none, .load 43 false 1 (.v 42) none),
                (none, .call (some 44) 2 false [((.v 40), true), ((.v 43), false)]),
                (none, .asg 4 (.v 44) .copy)])
              (.ret [0, 4]))
             (.seq
              (.region [(47, 5, false), (46, 5, false)] [] [0, 5, 6, 45] false [
                (none, .mv 46 (.v 5)),
                (none, .iadr 47 1 (.v 46) (.c (.int .i64 0))),
                (none, .load 48 false 1 (.v 47) none),
                (none, .bin 49 .neq (.v 48) (.c (.str [97, 116]))),
                (none, .asg 45 (.v 49) .copy)])
              (.cond (.v 45)
               (.seq
                (.region [] [] [0, 4] false [
                  (none, .asg 4 (.c (.int .i64 1)) .copy)])
                (.ret [0, 4]))
               (.skip [0, 5, 6]))))))))))
      (.seq
       (.region [(54, 5, false), (53, 5, false)] [] [0, 5, 6, 7] false [
         (none, .mv 50 (.v 6)),
         (none, .bin 51 .gtr (.v 50) (.c (.int .i64 2))),
         (none, .mv 52 (.v 51)),
         (some (52, true), .mv 53 (.v 5)),
         (some (52, true), .iadr 54 1 (.v 53) (.c (.int .i64 2))),
         (some (52, true), .load 55 false 1 (.v 54) none),
         (some (52, true), .bin 56 .eql (.v 55) (.c (.str [116, 117, 114, 110]))),
         (none, .pick 57 (.v 52) (.v 56) (.c (.bool false))),
         (none, .asg 7 (.v 57) .copy)])
       (.seq
        (.seq
         (.region [] [] [0, 5, 7, 70] false [
           (none, .mv 58 (.v 7)),
           (none, .mv 59 (.v 58)),
           (some (59, true), .mv 60 (.v 6)),
           (some (59, true), .bin 61 .neq (.v 60) (.c (.int .i64 5))),
           (none, .pick 62 (.v 59) (.v 61) (.c (.bool false))),
           (none, .mv 63 (.v 62)),
           (some (63, false), .mv 64 (.v 7)),
           (some (63, false), .un 65 .not (.v 64)),
           (some (63, false), .mv 66 (.v 65)),
           (some (66, true), .mv 67 (.v 6)),
           (some (66, true), .bin 68 .neq (.v 67) (.c (.int .i64 4))),
           (some (63, false), .pick 69 (.v 66) (.v 68) (.c (.bool false))),
           (none, .pick 70 (.v 63) (.c (.bool true)) (.v 69))])
         (.cond (.v 70)
          (.seq
           (.region [] [] [0, 4] false [
             (none, .asg 4 (.c (.int .i64 2)) .copy)])
           (.ret [0, 4]))
          (.skip [0, 5, 7])))
        (.seq
         (.region [(73, 5, false), (72, 5, false)] [] [0, 5, 7, 8, 9] false [
           (none, .mv 72 (.v 5)),
           (none, .iadr 73 1 (.v 72) (.c (.int .i64 1))),
           (none, .load 74 false 1 (.v 73) none),
           (none, .call (some 75) 938 false [((.v 74), false)]),
           (none, .asg 71 (.v 75) .copy),
           (none, .extp 76 (.v 71) 0),
           (none, .extp 77 (.v 71) 1),
           (none, .asg 8 (.v 76) .copy),
           (none, .asg 9 (.v 77) .copy)])
         (.seq
          (.region [] [] [0, 5, 7, 8, 9, 10, 11] false [
            (none, .asg 10 (.c (.int .i64 0)) .copy),
            (none, .asg 11 (.c (.bool true)) .copy)])
          (.seq
           (.seq
            (.region [] [] [0, 5, 8, 9, 10, 11, 78] false [
              (none, .mv 78 (.v 7))])
            (.cond (.v 78)
             (.region [(81, 5, false), (80, 5, false)] [] [0, 5, 8, 9, 10, 11] false [
               (none, .mv 80 (.v 5)),
               (none, .iadr 81 1 (.v 80) (.c (.int .i64 4))),
               (none, .load 82 false 1 (.v 81) none),
               (none, .call (some 83) 938 false [((.v 82), false)]),
               (none, .asg 79 (.v 83) .copy),
               (none, .extp 84 (.v 79) 0),
               (none, .extp 85 (.v 79) 1),
               (none, .asg 10 (.v 84) .copy),
               (none, .asg 11 (.v 85) .copy)])
             (.skip [0, 5, 8, 9, 10, 11])))
           (.seq
            (.seq
             (.region [] [] [0, 5, 8, 10, 91] false [
               (none, .mv 86 (.v 9)),
               (none, .un 87 .not (.v 86)),
               (none, .mv 88 (.v 87)),
               (some (88, false), .mv 89 (.v 11)),
               (some (88, false), .un 90 .not (.v 89)),
               (none, .pick 91 (.v 88) (.c (.bool true)) (.v 90))])
             (.cond (.v 91)
              (.seq
               (.region [] [] [0, 4] false [
                 (none, .asg 4 (.c (.int .i64 4)) .copy)])
               (.ret [0, 4]))
              (.skip [0, 5, 8, 10])))
            (.seq
             (.region [(98, 5, false), (97, 5, false), (95, 5, false), (94, 5, false), (92, 0, false)] [] [0, 4] true [
               (none, .mvr 92 0),
               (none, .mv 93 (.v 8)),
               (none, .mvr 94 5),
               (none, .iadr 95 1 (.v 94) (.c (.int .i64 2))),
               (none, .load 96 false 1 (.v 95) none),
               (none, .mvr 97 5),
               (none, .iadr 98 1 (.v 97) (.c (.int .i64 3))),
               (none, .load 99 false 1 (.v 98) none),
               (none, .mv 100 (.v 10)),
               (none, .build 101 [(.int .i64 0), (.str []), (.str []), (.int .i64 0)] [(0, 1, (.v 93), .copy), (1, 1, (.v 96), .copy), (2, 1, (.v 99), .copy), (3, 1, (.v 100), .copy)]),
               (none, .call (some 102) 1 false [((.v 92), true), ((.v 101), false)]),
               (none, .asg 4 (.v 102) .copy)])
             (.ret [0, 4]))))))))))))⟩
def F981 : PFunc :=
 ⟨[false], [.cell 2 true 2, .tmp 3, .tmp 4],
  (.seq
   (.region [] [] [0, 2] false [
     (none, .new 2 (.agg [(.sl true 1 []), (.sl true 4 [])])),
     (none, .asg 3 (.c (.sl true 2 [])) .copy),
     (none, .asg 4 (.c (.int .i64 0)) .copy)])
   (.seq
    (.seq
     (.region [] [] [0, 2, 12] false [
       (none, .mv 10 (.v 0)),
       (none, .len 11 true (.v 10)),
       (none, .bin 12 .gtr (.v 11) (.c (.int .i64 3000)))])
     (.cond (.v 12)
      (.seq
       (.region [] [] [2, 3, 4] false [
         (none, .build 13 [(.sl true 1 []), (.sl true 4 [])] []),
         (none, .store 2 (.v 2) (.v 13) .move),
         (none, .asg 3 (.c (.sl true 2 [])) .copy),
         (none, .asg 4 (.c (.int .i64 2)) .copy)])
       (.ret [2, 3, 4]))
      (.skip [0, 2])))
    (.seq
     (.region [] [] [0, 2, 5, 6] false [
       (none, .build 14 [(.sl true 1 []), (.sl true 4 [])] []),
       (none, .mksl 15 2 (.agg [(.int .i64 0), (.int .i64 0)]) 0 []),
       (none, .new 5 (.agg [(.sl true 1 []), (.sl true 4 [])])),
       (none, .store 2 (.v 5) (.v 14) .move),
       (none, .asg 6 (.v 15) .move)])
     (.seq
      (.seq
       (.region [] [] [2, 5, 6, 17, 18, 19] false [
         (none, .mv 16 (.v 0)),
         (none, .call (some 17) 993 false [((.v 16), false), ((.c (.str [10])), false)]),
         (none, .len 18 false (.v 17)),
         (none, .mv 19 (.c (.int .i64 0)))])
       (.block 0
        (.loop
         (.seq
          (.region [] [] [2, 5, 6, 17, 18, 19, 20] false [
            (none, .bin 20 .lss (.v 19) (.v 18))])
          (.seq
           (.cond (.v 20)
            (.skip [2, 5, 6, 17, 18, 19])
            (.exit 0 [2, 5, 6]))
           (.seq
            (.block 1
             (.seq
              (.region [(22, 17, false)] [] [2, 5, 6, 7, 8, 17, 18, 19] false [
                (none, .mv 21 (.v 19)),
                (none, .iadr 22 1 (.v 17) (.v 19)),
                (none, .load 23 false 1 (.v 22) none),
                (none, .asg 7 (.v 21) .copy),
                (none, .asg 8 (.v 23) .copy)])
              (.seq
               (.region [] [] [2, 5, 6, 7, 9, 17, 18, 19] false [
                 (none, .mv 24 (.v 8)),
                 (none, .call (some 25) 994 false [((.v 5), true), ((.v 24), false)]),
                 (none, .asg 9 (.v 25) .copy)])
               (.seq
                (.region [(29, 6, false)] [] [2, 5, 6, 7, 9, 17, 18, 19, 32] false [
                  (none, .mv 26 (.v 9)),
                  (none, .bin 27 .neq (.v 26) (.c (.int .i64 0))),
                  (none, .mv 28 (.v 27)),
                  (some (28, true), .mv 29 (.v 6)),
                  (some (28, true), .len 30 false (.v 29)),
                  (some (28, true), .bin 31 .lss (.v 30) (.c (.int .i64 20))),
                  (none, .pick 32 (.v 28) (.v 31) (.c (.bool false)))])
                (.cond (.v 32)
                 (.region [(33, 6, false)] [] [2, 5, 6, 17, 18, 19] false [
                   (none, .mv 33 (.v 6)),
                   (none, .mv 34 (.v 7)),
                   (none, .bin 35 .add (.v 34) (.c (.int .i64 1))),
                   (none, .mv 36 (.v 9)),
                   (none, .build 37 [(.int .i64 0), (.int .i64 0)] [(0, 1, (.v 35), .copy), (1, 1, (.v 36), .copy)]),
                   (none, .mksl 38 2 (.agg [(.int .i64 0), (.int .i64 0)]) 1 [(0, (.v 37), .copy)]),
                   (none, .app 39 2 (.v 33) (.v 38) .move),
                   (none, .asg 6 (.v 39) .move)])
                 (.skip [2, 5, 6, 17, 18, 19]))))))
            (.region [] [] [2, 5, 6, 17, 18, 19] false [
              (none, .bin 40 .add (.v 19) (.c (.int .i64 1))),
              (none, .mv 19 (.v 40))])))))))
      (.seq
       (.region [(42, 6, false)] [] [2, 3, 4] false [
         (none, .load 41 true 2 (.v 5) (some .move)),
         (none, .mv 42 (.v 6)),
         (none, .store 2 (.v 2) (.v 41) .move),
         (none, .asg 3 (.v 42) .move),
         (none, .asg 4 (.c (.int .i64 0)) .copy)])
       (.ret [2, 3, 4]))))))⟩
def F944 : PFunc :=
 ⟨[false, false], [.tmp 4],
  (.seq
   (.region [] [] [0, 1] false [
     (none, .asg 4 (.c (.sl true 1 [])) .copy)])
   (.seq
    (.region [] [] [0, 1, 5] false [
      (none, .mksl 8 1 (.str []) 0 []),
      (none, .asg 5 (.v 8) .move)])
    (.seq
     (.region [] [] [0, 1, 5, 6] false [
       (none, .asg 6 (.c (.int .i64 0)) .copy)])
     (.seq
      (.seq
       (.region [] [] [0, 1, 5, 6, 7] false [
         (none, .asg 7 (.c (.int .i64 0)) .copy)])
       (.block 0
        (.loop
         (.seq
          (.seq
           (.region [] [] [0, 1, 5, 6, 7, 12] false [
             (none, .mv 9 (.v 7)),
             (none, .mv 10 (.v 0)),
             (none, .len 11 true (.v 10)),
             (none, .bin 12 .lss (.v 9) (.v 11))])
           (.cond (.v 12)
            (.skip [0, 1, 5, 6, 7])
            (.exit 0 [0, 5, 6])))
          (.seq
           (.block 1
            (.seq
             (.region [] [] [0, 1, 5, 6, 7, 19] false [
               (none, .mv 15 (.v 0)),
               (none, .mv 16 (.v 7)),
               (none, .idx 17 (.v 15) (.v 16)),
               (none, .mv 18 (.v 1)),
               (none, .bin 19 .eql (.v 17) (.v 18))])
             (.cond (.v 19)
              (.seq
               (.region [(20, 5, false)] [] [0, 1, 5, 7] false [
                 (none, .mv 20 (.v 5)),
                 (none, .mv 21 (.v 0)),
                 (none, .mv 22 (.v 6)),
                 (none, .mv 23 (.v 7)),
                 (none, .slc 24 true 0 (.v 21) (some (.v 22)) (some (.v 23)) .copy),
                 (none, .mksl 25 1 (.str []) 1 [(0, (.v 24), .copy)]),
                 (none, .app 26 1 (.v 20) (.v 25) .move),
                 (none, .asg 5 (.v 26) .move)])
               (.region [] [] [0, 1, 5, 6, 7] false [
                 (none, .mv 27 (.v 7)),
                 (none, .bin 28 .add (.v 27) (.c (.int .i64 1))),
                 (none, .asg 6 (.v 28) .copy)]))
              (.skip [0, 1, 5, 6, 7]))))
           (.region [] [] [0, 1, 5, 6, 7] false [
             (none, .mv 13 (.v 7)),
             (none, .bin 14 .add (.v 13) (.c (.int .i64 1))),
             (none, .asg 7 (.v 14) .copy)]))))))
      (.seq
       (.region [(29, 5, false)] [] [4] false [
         (none, .mv 29 (.v 5)),
         (none, .mv 30 (.v 0)),
         (none, .mv 31 (.v 6)),
         (none, .slc 32 true 0 (.v 30) (some (.v 31)) none .copy),
         (none, .mksl 33 1 (.str []) 1 [(0, (.v 32), .copy)]),
         (none, .app 34 1 (.v 29) (.v 33) .move),
         (none, .asg 4 (.v 34) .move)])
       (.ret [4]))))))⟩
def F612 : PFunc :=
 ⟨[false], [.tmp 2],
  (.seq
   (.region [] [] [0] false [
     (none, .asg 2 (.c (.bool false)) .copy)])
   (.seq
    (.region [] [] [2] false [
      (none, .mv 3 (.v 0)),
      (none, .bin 4 .geq (.v 3) (.c (.int .u8 48))),
      (none, .mv 5 (.v 4)),
      (some (5, true), .mv 6 (.v 0)),
      (some (5, true), .bin 7 .leq (.v 6) (.c (.int .u8 57))),
      (none, .pick 8 (.v 5) (.v 7) (.c (.bool false))),
      (none, .asg 2 (.v 8) .copy)])
    (.ret [2])))⟩
def F613 : PFunc :=
 ⟨[false], [.tmp 2],
  (.seq
   (.region [] [] [0] false [
     (none, .asg 2 (.c (.bool false)) .copy)])
   (.seq
    (.region [] [] [2] false [
      (none, .mv 3 (.v 0)),
      (none, .bin 4 .geq (.v 3) (.c (.int .u8 97))),
      (none, .mv 5 (.v 4)),
      (some (5, true), .mv 6 (.v 0)),
      (some (5, true), .bin 7 .leq (.v 6) (.c (.int .u8 122))),
      (none, .pick 8 (.v 5) (.v 7) (.c (.bool false))),
      (none, .asg 2 (.v 8) .copy)])
    (.ret [2])))⟩
def F533 : PFunc :=
 ⟨[false], [.tmp 2],
  (.seq
   (.region [] [] [0] false [
     (none, .asg 2 (.c (.bool false)) .copy)])
   (.seq
    (.seq
     (.region [] [] [0, 16] false [
       (none, .mv 4 (.v 0)),
       (none, .bin 5 .eql (.v 4) (.c (.str []))),
       (none, .mv 6 (.v 5)),
       (some (6, false), .mv 7 (.v 0)),
       (some (6, false), .len 8 true (.v 7)),
       (some (6, false), .bin 9 .gtr (.v 8) (.c (.int .i64 12))),
       (none, .pick 10 (.v 6) (.c (.bool true)) (.v 9)),
       (none, .mv 11 (.v 10)),
       (some (11, false), .mv 12 (.v 0)),
       (some (11, false), .idx 13 (.v 12) (.c (.int .i64 0))),
       (some (11, false), .call (some 14) 613 false [((.v 13), false)]),
       (some (11, false), .un 15 .not (.v 14)),
       (none, .pick 16 (.v 11) (.c (.bool true)) (.v 15))])
     (.cond (.v 16)
      (.seq
       (.region [] [] [2] false [
         (none, .asg 2 (.c (.bool false)) .copy)])
       (.ret [2]))
      (.skip [0])))
    (.seq
     (.seq
      (.region [] [] [0, 3] false [
        (none, .asg 3 (.c (.int .i64 0)) .copy)])
      (.block 0
       (.loop
        (.seq
         (.seq
          (.region [] [] [0, 3, 20] false [
            (none, .mv 17 (.v 3)),
            (none, .mv 18 (.v 0)),
            (none, .len 19 true (.v 18)),
            (none, .bin 20 .lss (.v 17) (.v 19))])
          (.cond (.v 20)
           (.skip [0, 3])
           (.exit 0 [])))
         (.seq
          (.block 1
           (.seq
            (.region [] [] [0, 3, 40] false [
              (none, .mv 23 (.v 0)),
              (none, .mv 24 (.v 3)),
              (none, .idx 25 (.v 23) (.v 24)),
              (none, .call (some 26) 613 false [((.v 25), false)]),
              (none, .un 27 .not (.v 26)),
              (none, .mv 28 (.v 27)),
              (some (28, true), .mv 29 (.v 0)),
              (some (28, true), .mv 30 (.v 3)),
              (some (28, true), .idx 31 (.v 29) (.v 30)),
              (some (28, true), .call (some 32) 612 false [((.v 31), false)]),
              (some (28, true), .un 33 .not (.v 32)),
              (none, .pick 34 (.v 28) (.v 33) (.c (.bool false))),
              (none, .mv 35 (.v 34)),
              (some (35, true), .mv 36 (.v 0)),
              (some (35, true), .mv 37 (.v 3)),
              (some (35, true), .idx 38 (.v 36) (.v 37)),
              (some (35, true), .bin 39 .neq (.v 38) (.c (.int .u8 45))),
              (none, .pick 40 (.v 35) (.v 39) (.c (.bool false)))])
            (.cond (.v 40)
             (.seq
              (.region [] [] [2] false [
                (none, .asg 2 (.c (.bool false)) .copy)])
              (.ret [2]))
             (.skip [0, 3]))))
          (.region [] [] [0, 3] false [
            (none, .mv 21 (.v 3)),
            (none, .bin 22 .add (.v 21) (.c (.int .i64 1))),
            (none, .asg 3 (.v 22) .copy)]))))))
     (.seq
      (.region [] [] [2] false [
        (none, .asg 2 (.c (.bool true)) .copy)])
      (.ret [2])))))⟩
def F742 : PFunc :=
 ⟨[true, false], [.tmp 4],
  (.seq
   (.region [] [] [0, 1] false [
     (none, .asg 4 (.c (.int .i64 0)) .copy)])
   (.seq
    (.block 0
     (.seq
      (.region [] [] [0, 1, 5] false [
        (none, .mv 6 (.v 1)),
        (none, .call (some 7) 533 false [((.v 6), false)]),
        (none, .un 8 .not (.v 7)),
        (none, .asg 5 (.v 8) .copy)])
      (.cond (.v 5)
       (.seq
        (.region [] [] [0, 4] false [
          (none, .asg 4 (.c (.int .i64 3)) .copy)])
        (.ret [0, 4]))
       (.seq
        (.region [(13, 0, true), (12, 0, false), (11, 0, false), (10, 0, false)] [] [0, 1, 9] false [
          (none, .mv 10 (.v 0)),
          (none, .nchk 11 (.v 10)),
          (none, .fadr 12 0 1 (.v 11)),
          (none, .load 13 false 1 (.v 12) none),
          (none, .mv 14 (.v 1)),
          (none, .call (some 15) 739 false [((.v 13), false), ((.v 14), false)]),
          (none, .asg 9 (.v 15) .copy)])
        (.cond (.v 9)
         (.seq
          (.region [] [] [0, 4] false [
            (none, .asg 4 (.c (.int .i64 5)) .copy)])
          (.ret [0, 4]))
         (.seq
          (.region [(20, 0, true), (19, 0, false), (18, 0, false), (17, 0, false)] [] [0, 1, 16] false [
            (none, .mv 17 (.v 0)),
            (none, .nchk 18 (.v 17)),
            (none, .fadr 19 0 1 (.v 18)),
            (none, .load 20 false 1 (.v 19) none),
            (none, .len 21 false (.v 20)),
            (none, .bin 22 .geq (.v 21) (.c (.int .i64 60))),
            (none, .asg 16 (.v 22) .copy)])
          (.cond (.v 16)
           (.seq
            (.region [] [] [0, 4] false [
              (none, .asg 4 (.c (.int .i64 8)) .copy)])
            (.ret [0, 4]))
           (.skip [0, 1]))))))))
    (.seq
     (.region [(32, 0, false), (31, 0, false), (27, 0, true), (26, 0, false), (25, 0, false), (24, 0, false), (23, 0, false)] [] [0] false [
       (none, .mv 23 (.v 0)),
       (none, .mv 24 (.v 0)),
       (none, .nchk 25 (.v 24)),
       (none, .fadr 26 0 1 (.v 25)),
       (none, .load 27 false 1 (.v 26) none),
       (none, .mv 28 (.v 1)),
       (none, .mksl 29 1 (.str []) 1 [(0, (.v 28), .copy)]),
       (none, .app 30 1 (.v 27) (.v 29) .move),
       (none, .nchk 31 (.v 23)),
       (none, .fadr 32 0 1 (.v 31)),
       (none, .store 1 (.v 32) (.v 30) .move)])
     (.seq
      (.region [] [] [0, 4] false [
        (none, .asg 4 (.c (.int .i64 0)) .copy)])
      (.ret [0, 4])))))⟩
def F945 : PFunc :=
 ⟨[false], [.tmp 2, .tmp 3],
  (.seq
   (.region [] [] [0] false [
     (none, .asg 2 (.c (.int .i64 0)) .copy),
     (none, .asg 3 (.c (.bool false)) .copy)])
   (.seq
    (.region [] [] [0, 4] false [
      (none, .mv 7 (.v 0)),
      (none, .asg 4 (.v 7) .copy)])
    (.seq
     (.seq
      (.region [] [] [0, 4, 14] false [
        (none, .mv 8 (.v 4)),
        (none, .bin 9 .neq (.v 8) (.c (.str []))),
        (none, .mv 10 (.v 9)),
        (some (10, true), .mv 11 (.v 4)),
        (some (10, true), .idx 12 (.v 11) (.c (.int .i64 0))),
        (some (10, true), .bin 13 .eql (.v 12) (.c (.int .u8 45))),
        (none, .pick 14 (.v 10) (.v 13) (.c (.bool false)))])
      (.cond (.v 14)
       (.region [] [] [0, 4] false [
         (none, .mv 15 (.v 4)),
         (none, .slc 16 true 0 (.v 15) (some (.c (.int .i64 1))) none .copy),
         (none, .asg 4 (.v 16) .copy)])
       (.skip [0, 4])))
     (.seq
      (.seq
       (.region [] [] [0, 4, 24] false [
         (none, .mv 17 (.v 4)),
         (none, .len 18 true (.v 17)),
         (none, .bin 19 .lss (.v 18) (.c (.int .i64 1))),
         (none, .mv 20 (.v 19)),
         (some (20, false), .mv 21 (.v 4)),
         (some (20, false), .len 22 true (.v 21)),
         (some (20, false), .bin 23 .gtr (.v 22) (.c (.int .i64 18))),
         (none, .pick 24 (.v 20) (.c (.bool true)) (.v 23))])
       (.cond (.v 24)
        (.seq
         (.region [] [] [2, 3] false [
           (none, .asg 2 (.c (.int .i64 0)) .copy),
           (none, .asg 3 (.c (.bool false)) .copy)])
         (.ret [2, 3]))
        (.skip [0, 4])))
      (.seq
       (.region [] [] [0, 4, 5] false [
         (none, .asg 5 (.c (.int .i64 0)) .copy)])
       (.seq
        (.seq
         (.region [] [] [0, 4, 5, 6] false [
           (none, .asg 6 (.c (.int .i64 0)) .copy)])
         (.block 0
          (.loop
           (.seq
            (.seq
             (.region [] [] [0, 4, 5, 6, 28] false [
               (none, .mv 25 (.v 6)),
               (none, .mv 26 (.v 4)),
               (none, .len 27 true (.v 26)),
               (none, .bin 28 .lss (.v 25) (.v 27))])
             (.cond (.v 28)
              (.skip [0, 4, 5, 6])
              (.exit 0 [0, 4, 5])))
            (.seq
             (.block 1
              (.seq
               (.seq
                (.region [] [] [0, 4, 5, 6, 35] false [
                  (none, .mv 31 (.v 4)),
                  (none, .mv 32 (.v 6)),
                  (none, .idx 33 (.v 31) (.v 32)),
                  (none, .call (some 34) 612 false [((.v 33), false)]),
                  (none, .un 35 .not (.v 34))])
                (.cond (.v 35)
                 (.seq
                  (.region [] [] [2, 3] false [
                    (none, .asg 2 (.c (.int .i64 0)) .copy),
                    (none, .asg 3 (.c (.bool false)) .copy)])
                  (.ret [2, 3]))
                 (.skip [0, 4, 5, 6])))
               (.region [] [] [0, 4, 5, 6] false [
                 (none, .mv 36 (.v 5)),
                 (none, .bin 37 .mul (.c (.int .i64 10)) (.v 36)),
                 (none, .mv 38 (.v 4)),
                 (none, .mv 39 (.v 6)),
                 (none, .idx 40 (.v 38) (.v 39)),
                 (none, .bin 41 .sub (.v 40) (.c (.int .u8 48))),
                 (none, .conv 42 .i64 (.v 41)),
                 (none, .bin 43 .add (.v 37) (.v 42)),
                 (none, .asg 5 (.v 43) .copy)])))
             (.region [] [] [0, 4, 5, 6] false [
               (none, .mv 29 (.v 6)),
               (none, .bin 30 .add (.v 29) (.c (.int .i64 1))),
               (none, .asg 6 (.v 30) .copy)]))))))
        (.seq
         (.seq
          (.region [] [] [0, 5, 48] false [
            (none, .mv 44 (.v 4)),
            (none, .len 45 true (.v 44)),
            (none, .mv 46 (.v 0)),
            (none, .len 47 true (.v 46)),
            (none, .bin 48 .lss (.v 45) (.v 47))])
          (.cond (.v 48)
           (.region [] [] [0, 5] false [
             (none, .mv 49 (.v 5)),
             (none, .un 50 .neg (.v 49)),
             (none, .asg 5 (.v 50) .copy)])
           (.skip [0, 5])))
         (.seq
          (.seq
           (.region [] [] [5, 54] false [
             (none, .mv 51 (.v 5)),
             (none, .call (some 52) 949 false [((.v 51), false)]),
             (none, .mv 53 (.v 0)),
             (none, .bin 54 .neq (.v 52) (.v 53))])
           (.cond (.v 54)
            (.seq
             (.region [] [] [2, 3] false [
               (none, .asg 2 (.c (.int .i64 0)) .copy),
               (none, .asg 3 (.c (.bool false)) .copy)])
             (.ret [2, 3]))
            (.skip [5])))
          (.seq
           (.region [] [] [2, 3] false [
             (none, .mv 55 (.v 5)),
             (none, .asg 2 (.v 55) .copy),
             (none, .asg 3 (.c (.bool true)) .copy)])
           (.ret [2, 3]))))))))))⟩
def F1002 : PFunc :=
 ⟨[false], [.tmp 2],
  (.seq
   (.region [] [] [0] false [
     (none, .asg 2 (.c (.sl true 1 [])) .copy)])
   (.seq
    (.region [] [] [3] false [
      (none, .mv 6 (.v 0)),
      (none, .call (some 7) 944 false [((.v 6), false), ((.c (.int .u8 32)), false)]),
      (none, .asg 3 (.v 7) .move)])
    (.seq
     (.region [] [] [3, 4] false [
       (none, .mksl 8 1 (.str []) 0 []),
       (none, .asg 4 (.v 8) .move)])
     (.seq
      (.seq
       (.region [] [] [3, 4, 5] false [
         (none, .asg 5 (.c (.int .i64 0)) .copy)])
       (.block 0
        (.loop
         (.seq
          (.seq
           (.region [(10, 3, false)] [] [3, 4, 5, 12] false [
             (none, .mv 9 (.v 5)),
             (none, .mv 10 (.v 3)),
             (none, .len 11 false (.v 10)),
             (none, .bin 12 .lss (.v 9) (.v 11))])
           (.cond (.v 12)
            (.skip [3, 4, 5])
            (.exit 0 [4])))
          (.seq
           (.block 1
            (.seq
             (.region [(17, 3, false), (15, 3, false)] [] [3, 4, 5, 19] false [
               (none, .mv 15 (.v 3)),
               (none, .mv 16 (.v 5)),
               (none, .iadr 17 1 (.v 15) (.v 16)),
               (none, .load 18 false 1 (.v 17) none),
               (none, .bin 19 .neq (.v 18) (.c (.str [])))])
             (.cond (.v 19)
              (.region [(23, 3, false), (21, 3, false), (20, 4, false)] [] [3, 4, 5] false [
                (none, .mv 20 (.v 4)),
                (none, .mv 21 (.v 3)),
                (none, .mv 22 (.v 5)),
                (none, .iadr 23 1 (.v 21) (.v 22)),
                (none, .load 24 false 1 (.v 23) none),
                (none, .mksl 25 1 (.str []) 1 [(0, (.v 24), .copy)]),
                (none, .app 26 1 (.v 20) (.v 25) .move),
                (none, .asg 4 (.v 26) .move)])
              (.skip [3, 4, 5]))))
           (.region [] [] [3, 4, 5] false [
             (none, .mv 13 (.v 5)),
             (none, .bin 14 .add (.v 13) (.c (.int .i64 1))),
             (none, .asg 5 (.v 14) .copy)]))))))
      (.seq
       (.region [(27, 4, false)] [] [2] false [
         (none, .mv 27 (.v 4)),
         (none, .asg 2 (.v 27) .move)])
       (.ret [2]))))))⟩
def F995 : PFunc :=
 ⟨[true, false], [.tmp 4],
  (.seq
   (.region [] [] [0, 1] false [
     (none, .asg 4 (.c (.int .i64 0)) .copy)])
   (.seq
    (.region [] [] [0, 5] false [
      (none, .mv 11 (.v 1)),
      (none, .call (some 12) 1002 false [((.v 11), false)]),
      (none, .asg 5 (.v 12) .move)])
    (.seq
     (.seq
      (.region [(18, 5, false), (17, 5, false), (13, 5, false)] [] [0, 5, 22] false [
        (none, .mv 13 (.v 5)),
        (none, .len 14 false (.v 13)),
        (none, .bin 15 .eql (.v 14) (.c (.int .i64 0))),
        (none, .mv 16 (.v 15)),
        (some (16, false), .mv 17 (.v 5)),
        (some (16, false), .iadr 18 1 (.v 17) (.c (.int .i64 0))),
        (some (16, false), .load 19 false 1 (.v 18) none),
        (some (16, false), .idx 20 (.v 19) (.c (.int .i64 0))),
        (some (16, false), .bin 21 .eql (.v 20) (.c (.int .u8 59))),
        (none, .pick 22 (.v 16) (.c (.bool true)) (.v 21))])
      (.cond (.v 22)
       (.seq
        (.region [] [] [0, 4] false [
          (none, .asg 4 (.c (.int .i64 0)) .copy)])
        (.ret [0, 4]))
       (.skip [0, 5])))
     (.seq
      (.seq
       (.region [(24, 5, false), (23, 5, false)] [] [0, 5, 26] false [
         (none, .mv 23 (.v 5)),
         (none, .iadr 24 1 (.v 23) (.c (.int .i64 0))),
         (none, .load 25 false 1 (.v 24) none),
         (none, .bin 26 .eql (.v 25) (.c (.str [115, 108, 105, 100, 101])))])
       (.cond (.v 26)
        (.seq
         (.seq
          (.region [(27, 5, false)] [] [0, 5, 29] false [
            (none, .mv 27 (.v 5)),
            (none, .len 28 false (.v 27)),
            (none, .bin 29 .neq (.v 28) (.c (.int .i64 2)))])
          (.cond (.v 29)
           (.seq
            (.region [] [] [0, 4] false [
              (none, .asg 4 (.c (.int .i64 2)) .copy)])
            (.ret [0, 4]))
           (.skip [0, 5])))
         (.seq
          (.region [(32, 5, false), (31, 5, false), (30, 0, false)] [] [0, 4] false [
            (none, .mv 30 (.v 0)),
            (none, .mv 31 (.v 5)),
            (none, .iadr 32 1 (.v 31) (.c (.int .i64 1))),
            (none, .load 33 false 1 (.v 32) none),
            (none, .call (some 34) 742 false [((.v 30), true), ((.v 33), false)]),
            (none, .asg 4 (.v 34) .copy)])
          (.ret [0, 4])))
        (.skip [0, 5])))
      (.seq
       (.seq
        (.region [(36, 5, false), (35, 5, false)] [] [0, 5, 38] false [
          (none, .mv 35 (.v 5)),
          (none, .iadr 36 1 (.v 35) (.c (.int .i64 0))),
          (none, .load 37 false 1 (.v 36) none),
          (none, .bin 38 .neq (.v 37) (.c (.str [97, 116])))])
        (.cond (.v 38)
         (.seq
          (.region [] [] [0, 4] false [
            (none, .asg 4 (.c (.int .i64 1)) .copy)])
          (.ret [0, 4]))
         (.skip [0, 5])))
       (.seq
        (.seq
         (.region [(43, 5, false), (39, 5, false)] [] [0, 5, 46] false [
           (none, .mv 39 (.v 5)),
           (none, .len 40 false (.v 39)),
           (none, .bin 41 .lss (.v 40) (.c (.int .i64 4))),
           (none, .mv 42 (.v 41)),
           (some (42, false), .mv 43 (.v 5)),
           (some (42, false), .len 44 false (.v 43)),
           (some (42, false), .bin 45 .gtr (.v 44) (.c (.int .i64 5))),
           (none, .pick 46 (.v 42) (.c (.bool true)) (.v 45))])
         (.cond (.v 46)
          (.seq
           (.region [] [] [0, 4] false [
             (none, .asg 4 (.c (.int .i64 2)) .copy)])
           (.ret [0, 4]))
          (.skip [0, 5])))
        (.seq
         (.region [(51, 5, false), (50, 5, false), (48, 5, false), (47, 5, false)] [] [0, 5, 6] true [
           (none, .mvr 47 5),
           (none, .iadr 48 1 (.v 47) (.c (.int .i64 2))),
           (none, .load 49 false 1 (.v 48) none),
           (none, .mvr 50 5),
           (none, .iadr 51 1 (.v 50) (.c (.int .i64 3))),
           (none, .load 52 false 1 (.v 51) none),
           (none, .build 53 [(.int .i64 0), (.str []), (.str []), (.int .i64 0)] [(1, 1, (.v 49), .copy), (2, 1, (.v 52), .copy)]),
           (none, .new 6 (.agg [(.int .i64 0), (.str []), (.str []), (.int .i64 0)])),
           (none, .store 4 (.v 6) (.v 53) .copy)])
         (.seq
          (.seq
           (.region [(57, 5, false), (54, 6, false)] [] [0, 5, 6, 60] false [
             (none, .fadr 54 1 1 (.v 6)),
             (none, .load 55 false 1 (.v 54) none),
             (none, .bin 56 .eql (.v 55) (.c (.str [116, 117, 114, 110]))),
             (none, .mv 57 (.v 5)),
             (none, .len 58 false (.v 57)),
             (none, .bin 59 .eql (.v 58) (.c (.int .i64 5))),
             (none, .eqb 60 true (.v 56) (.v 59))])
           (.cond (.v 60)
            (.seq
             (.region [] [] [0, 4] false [
               (none, .asg 4 (.c (.int .i64 2)) .copy)])
             (.ret [0, 4]))
            (.skip [0, 5, 6])))
          (.seq
           (.region [(63, 5, false), (62, 5, false)] [] [0, 5, 6, 7, 8] false [
             (none, .mv 62 (.v 5)),
             (none, .iadr 63 1 (.v 62) (.c (.int .i64 1))),
             (none, .load 64 false 1 (.v 63) none),
             (none, .call (some 65) 945 false [((.v 64), false)]),
             (none, .asg 61 (.v 65) .copy),
             (none, .extp 66 (.v 61) 0),
             (none, .extp 67 (.v 61) 1),
             (none, .asg 7 (.v 66) .copy),
             (none, .asg 8 (.v 67) .copy)])
           (.seq
            (.seq
             (.region [] [] [0, 5, 6, 7, 69] false [
               (none, .mv 68 (.v 8)),
               (none, .un 69 .not (.v 68))])
             (.cond (.v 69)
              (.seq
               (.region [] [] [0, 4] false [
                 (none, .asg 4 (.c (.int .i64 4)) .copy)])
               (.ret [0, 4]))
              (.skip [0, 5, 6, 7])))
            (.seq
             (.region [(71, 6, false)] [] [0, 5, 6] false [
               (none, .mv 70 (.v 7)),
               (none, .fadr 71 0 1 (.v 6)),
               (none, .store 1 (.v 71) (.v 70) .copy)])
             (.seq
              (.seq
               (.region [(72, 5, false)] [] [0, 5, 6, 74] false [
                 (none, .mv 72 (.v 5)),
                 (none, .len 73 false (.v 72)),
                 (none, .bin 74 .eql (.v 73) (.c (.int .i64 5)))])
               (.cond (.v 74)
                (.seq
                 (.region [(77, 5, false), (76, 5, false)] [] [0, 6, 9, 10] false [
                   (none, .mv 76 (.v 5)),
                   (none, .iadr 77 1 (.v 76) (.c (.int .i64 4))),
                   (none, .load 78 false 1 (.v 77) none),
                   (none, .call (some 79) 945 false [((.v 78), false)]),
                   (none, .asg 75 (.v 79) .copy),
                   (none, .extp 80 (.v 75) 0),
                   (none, .extp 81 (.v 75) 1),
                   (none, .asg 9 (.v 80) .copy),
                   (none, .asg 10 (.v 81) .copy)])
                 (.seq
                  (.seq
                   (.region [] [] [0, 6, 9, 83] false [
                     (none, .mv 82 (.v 10)),
                     (none, .un 83 .not (.v 82))])
                   (.cond (.v 83)
                    (.seq
                     (.region [] [] [0, 4] false [
                       (none, .asg 4 (.c (.int .i64 4)) .copy)])
                     (.ret [0, 4]))
                    (.skip [0, 6, 9])))
                  (.region [(85, 6, false)] [] [0, 6] false [
                    (none, .mv 84 (.v 9)),
                    (none, .fadr 85 3 1 (.v 6)),
                    (none, .store 1 (.v 85) (.v 84) .copy)])))
                (.skip [0, 6])))
              (.seq
               (.region [(86, 0, false)] [] [0, 4] false [
                 (none, .mv 86 (.v 0)),
                 (none, .load 87 true 4 (.v 6) none),
                 (none, .call (some 88) 735 false [((.v 86), true), ((.v 87), false)]),
                 (none, .asg 4 (.v 88) .copy)])
               (.ret [0, 4]))))))))))))))⟩
def F982 : PFunc :=
 ⟨[false], [.cell 2 true 2, .tmp 3, .tmp 4],
  (.seq
   (.region [] [] [0, 2] false [
     (none, .new 2 (.agg [(.sl true 1 []), (.sl true 4 [])])),
     (none, .asg 3 (.c (.sl true 2 [])) .copy),
     (none, .asg 4 (.c (.int .i64 0)) .copy)])
   (.seq
    (.seq
     (.region [] [] [0, 2, 12] false [
       (none, .mv 10 (.v 0)),
       (none, .len 11 true (.v 10)),
       (none, .bin 12 .gtr (.v 11) (.c (.int .i64 3000)))])
     (.cond (.v 12)
      (.seq
       (.region [] [] [2, 3, 4] false [
         (none, .build 13 [(.sl true 1 []), (.sl true 4 [])] []),
         (none, .store 2 (.v 2) (.v 13) .move),
         (none, .asg 3 (.c (.sl true 2 [])) .copy),
         (none, .asg 4 (.c (.int .i64 2)) .copy)])
       (.ret [2, 3, 4]))
      (.skip [0, 2])))
    (.seq
     (.region [] [] [0, 2, 5] false [
       (none, .call (some 14) 738 false []),
       (none, .new 5 (.agg [(.sl true 1 []), (.sl true 4 [])])),
       (none, .store 2 (.v 5) (.v 14) .move)])
     (.seq
      (.region [] [] [0, 2, 5, 6] false [
        (none, .mksl 15 2 (.agg [(.int .i64 0), (.int .i64 0)]) 0 []),
        (none, .asg 6 (.v 15) .move)])
      (.seq
       (.region [] [] [2, 5, 6, 7] false [
         (none, .mv 16 (.v 0)),
         (none, .call (some 17) 944 false [((.v 16), false), ((.c (.int .u8 10)), false)]),
         (none, .asg 7 (.v 17) .move)])
       (.seq
        (.seq
         (.region [] [] [2, 5, 6, 7, 8] false [
           (none, .asg 8 (.c (.int .i64 0)) .copy)])
         (.block 0
          (.loop
           (.seq
            (.seq
             (.region [(19, 7, false)] [] [2, 5, 6, 7, 8, 21] false [
               (none, .mv 18 (.v 8)),
               (none, .mv 19 (.v 7)),
               (none, .len 20 false (.v 19)),
               (none, .bin 21 .lss (.v 18) (.v 20))])
             (.cond (.v 21)
              (.skip [2, 5, 6, 7, 8])
              (.exit 0 [2, 5, 6])))
            (.seq
             (.block 1
              (.seq
               (.region [(26, 7, false), (24, 7, false)] [] [2, 5, 6, 7, 8, 9] false [
                 (none, .mv 24 (.v 7)),
                 (none, .mv 25 (.v 8)),
                 (none, .iadr 26 1 (.v 24) (.v 25)),
                 (none, .load 27 false 1 (.v 26) none),
                 (none, .call (some 28) 995 false [((.v 5), true), ((.v 27), false)]),
                 (none, .asg 9 (.v 28) .copy)])
               (.seq
                (.region [(32, 6, false)] [] [2, 5, 6, 7, 8, 9, 35] false [
                  (none, .mv 29 (.v 9)),
                  (none, .bin 30 .neq (.v 29) (.c (.int .i64 0))),
                  (none, .mv 31 (.v 30)),
                  (some (31, true), .mv 32 (.v 6)),
                  (some (31, true), .len 33 false (.v 32)),
                  (some (31, true), .bin 34 .lss (.v 33) (.c (.int .i64 20))),
                  (none, .pick 35 (.v 31) (.v 34) (.c (.bool false)))])
                (.cond (.v 35)
                 (.region [(36, 6, false)] [] [2, 5, 6, 7, 8] false [
                   (none, .mv 36 (.v 6)),
                   (none, .mv 37 (.v 8)),
                   (none, .bin 38 .add (.v 37) (.c (.int .i64 1))),
                   (none, .mv 39 (.v 9)),
                   (none, .build 40 [(.int .i64 0), (.int .i64 0)] [(0, 1, (.v 38), .copy), (1, 1, (.v 39), .copy)]),
                   (none, .mksl 41 2 (.agg [(.int .i64 0), (.int .i64 0)]) 1 [(0, (.v 40), .copy)]),
                   (none, .app 42 2 (.v 36) (.v 41) .move),
                   (none, .asg 6 (.v 42) .move)])
                 (.skip [2, 5, 6, 7, 8])))))
             (.region [] [] [2, 5, 6, 7, 8] false [
               (none, .mv 22 (.v 8)),
               (none, .bin 23 .add (.v 22) (.c (.int .i64 1))),
               (none, .asg 8 (.v 23) .copy)]))))))
        (.seq
         (.region [(44, 6, false)] [] [2, 3, 4] false [
           (none, .load 43 true 2 (.v 5) (some .move)),
           (none, .mv 44 (.v 6)),
           (none, .store 2 (.v 2) (.v 43) .move),
           (none, .asg 3 (.v 44) .move),
           (none, .asg 4 (.c (.int .i64 0)) .copy)])
         (.ret [2, 3, 4]))))))))⟩
def F4 : PFunc :=
 ⟨[true, false], [.tmp 4],
  (.seq
   (.region [] [] [0, 1] false [
     (none, .asg 4 (.c (.int .i64 0)) .copy)])
   (.seq
    (.region [(10, 1, false), (7, 1, false), (6, 0, false), (5, 1, false)] [] [0, 4] false [
      (none, .mv 5 (.v 1)),
      (none, .mv 6 (.v 0)),
      (none, .mv 7 (.v 1)),
      (none, .len 8 false (.v 7)),
      (none, .call (some 9) 7 true [((.v 6), true), ((.v 8), false)]),
      (none, .iadr 10 1 (.v 5) (.v 9)),
      (none, .load 11 false 1 (.v 10) none),
      (none, .asg 4 (.v 11) .copy)])
    (.ret [0, 4])))⟩
def F736 : PFunc :=
 ⟨[true], [.cell 2 true 2],
  (.seq
   (.region [] [] [0, 2] false [
     (none, .new 2 (.agg [(.sl true 1 []), (.sl true 4 [])]))])
   (.seq
    (.region [(6, 0, false)] [] [0, 2, 3] false [
      (none, .mv 6 (.v 0)),
      (none, .call (some 7) 737 true [((.v 6), true)]),
      (none, .new 3 (.agg [(.sl true 1 []), (.sl true 4 [])])),
      (none, .store 2 (.v 3) (.v 7) .move)])
    (.seq
     (.seq
      (.region [(8, 0, false)] [] [0, 2, 3, 9] false [
        (none, .mv 8 (.v 0)),
        (none, .call (some 9) 7 true [((.v 8), true), ((.c (.int .i64 20)), false)])])
      (.block 0
       (.seq
        (.region [] [] [0, 2, 3, 9, 10] false [
          (none, .bin 11 .eql (.v 9) (.c (.int .i64 0))),
          (none, .asg 10 (.v 11) .copy)])
        (.cond (.v 10)
         (.region [(19, 3, false), (14, 0, false), (13, 3, true), (12, 3, false)] [] [0, 2, 3] true [
           (none, .fadr 12 0 1 (.v 3)),
           (none, .load 13 false 1 (.v 12) none),
           (none, .mvr 14 0),
           (none, .mksl 15 1 (.str []) 4 [(0, (.c (.str [])), .copy), (1, (.c (.str [109, 111, 111, 110])), .copy), (2, (.c (.str [83, 117, 110])), .copy), (3, (.c (.str [115, 117, 110])), .copy)]),
           (none, .call (some 16) 8 true [((.v 14), true), ((.v 15), false)]),
           (none, .mksl 17 1 (.str []) 1 [(0, (.v 16), .copy)]),
           (none, .app 18 1 (.v 13) (.v 17) .move),
           (none, .fadr 19 0 1 (.v 3)),
           (none, .store 1 (.v 19) (.v 18) .move)])
         (.seq
          (.region [] [] [0, 2, 3, 9, 20] false [
            (none, .bin 21 .eql (.v 9) (.c (.int .i64 1))),
            (none, .asg 20 (.v 21) .copy)])
          (.cond (.v 20)
           (.region [(36, 3, false), (30, 0, false), (27, 0, false), (24, 0, false), (23, 3, true), (22, 3, false)] [] [0, 2, 3] true [
             (none, .fadr 22 1 1 (.v 3)),
             (none, .load 23 false 1 (.v 22) none),
             (none, .mvr 24 0),
             (none, .mksl 25 1 (.int .i64 0) 4 [(0, (.c (.int .i64 (-1))), .copy), (1, (.c (.int .i64 0)), .copy), (2, (.c (.int .i64 10000)), .copy), (3, (.c (.int .i64 10001)), .copy)]),
             (none, .call (some 26) 4 true [((.v 24), true), ((.v 25), false)]),
             (none, .mvr 27 0),
             (none, .mksl 28 1 (.str []) 2 [(0, (.c (.str [115, 104, 111, 119])), .copy), (1, (.c (.str [98, 117, 114, 110])), .copy)]),
             (none, .call (some 29) 8 true [((.v 27), true), ((.v 28), false)]),
             (none, .mvr 30 0),
             (none, .mksl 31 1 (.str []) 2 [(0, (.c (.str [99, 97, 115, 116, 108, 101])), .copy), (1, (.c (.str [110, 111, 110, 101])), .copy)]),
             (none, .call (some 32) 8 true [((.v 30), true), ((.v 31), false)]),
             (none, .build 33 [(.int .i64 0), (.str []), (.str []), (.int .i64 0)] [(0, 1, (.v 26), .copy), (1, 1, (.v 29), .copy), (2, 1, (.v 32), .copy)]),
             (none, .mksl 34 4 (.agg [(.int .i64 0), (.str []), (.str []), (.int .i64 0)]) 1 [(0, (.v 33), .copy)]),
             (none, .app 35 4 (.v 23) (.v 34) .move),
             (none, .fadr 36 1 1 (.v 3)),
             (none, .store 1 (.v 36) (.v 35) .move)])
           (.seq
            (.region [] [] [0, 2, 3, 9, 37] false [
              (none, .bin 38 .eql (.v 9) (.c (.int .i64 2))),
              (none, .asg 37 (.v 38) .copy)])
            (.cond (.v 37)
             (.region [(47, 3, false), (41, 0, false), (40, 3, true), (39, 3, false)] [] [0, 2, 3] true [
               (none, .fadr 39 1 1 (.v 3)),
               (none, .load 40 false 1 (.v 39) none),
               (none, .mvr 41 0),
               (none, .mksl 42 1 (.int .i64 0) 4 [(0, (.c (.int .i64 (-1))), .copy), (1, (.c (.int .i64 0)), .copy), (2, (.c (.int .i64 1000)), .copy), (3, (.c (.int .i64 1001)), .copy)]),
               (none, .call (some 43) 4 true [((.v 41), true), ((.v 42), false)]),
               (none, .build 44 [(.int .i64 0), (.str []), (.str []), (.int .i64 0)] [(0, 1, (.c (.int .i64 9000)), .copy), (1, 1, (.c (.str [116, 117, 114, 110])), .copy), (2, 1, (.c (.str [99, 97, 115, 116, 108, 101])), .copy), (3, 1, (.v 43), .copy)]),
               (none, .mksl 45 4 (.agg [(.int .i64 0), (.str []), (.str []), (.int .i64 0)]) 1 [(0, (.v 44), .copy)]),
               (none, .app 46 4 (.v 40) (.v 45) .move),
               (none, .fadr 47 1 1 (.v 3)),
               (none, .store 1 (.v 47) (.v 46) .move)])
             (.seq
              (.region [] [] [0, 2, 3, 48] false [
                (none, .bin 49 .eql (.v 9) (.c (.int .i64 3))),
                (none, .asg 48 (.v 49) .copy)])
              (.cond (.v 48)
               (.seq
                (.region [(51, 3, false)] [] [0, 2, 3] false [
                  (none, .mksl 50 1 (.str []) 1 [(0, (.c (.str [99, 97, 115, 116, 108, 101])), .copy)]),
                  (none, .fadr 51 0 1 (.v 3)),
                  (none, .store 1 (.v 51) (.v 50) .move)])
                (.seq
                 (.region [(53, 3, false)] [] [0, 2, 3] false [
                   (none, .mksl 52 4 (.agg [(.int .i64 0), (.str []), (.str []), (.int .i64 0)]) 0 []),
                   (none, .fadr 53 1 1 (.v 3)),
                   (none, .store 1 (.v 53) (.v 52) .move)])
                 (.seq
                  (.region [(54, 0, false)] [] [0, 2, 3, 4] false [
                    (none, .mv 54 (.v 0)),
                    (none, .call (some 55) 7 true [((.v 54), true), ((.c (.int .i64 2)), false)]),
                    (none, .bin 56 .add (.c (.int .i64 60)) (.v 55)),
                    (none, .asg 4 (.v 56) .copy)])
                  (.block 1
                   (.loop
                    (.seq
                     (.seq
                      (.region [(58, 3, true), (57, 3, false)] [] [0, 2, 3, 4, 61] false [
                        (none, .fadr 57 1 1 (.v 3)),
                        (none, .load 58 false 1 (.v 57) none),
                        (none, .len 59 false (.v 58)),
                        (none, .mv 60 (.v 4)),
                        (none, .bin 61 .lss (.v 59) (.v 60))])
                      (.cond (.v 61)
                       (.skip [0, 2, 3, 4])
                       (.exit 1 [0, 2, 3])))
                     (.block 2
                      (.seq
                       (.region [] [] [0, 2, 3, 4, 5] false [
                         (none, .asg 5 (.c (.str [115, 104, 111, 119])) .copy)])
                       (.seq
                        (.seq
                         (.region [(63, 3, true), (62, 3, false)] [] [0, 2, 3, 4, 5, 66] false [
                           (none, .fadr 62 1 1 (.v 3)),
                           (none, .load 63 false 1 (.v 62) none),
                           (none, .len 64 false (.v 63)),
                           (none, .bin 65 .rem (.v 64) (.c (.int .i64 2))),
                           (none, .bin 66 .eql (.v 65) (.c (.int .i64 1)))])
                         (.cond (.v 66)
                          (.region [] [] [0, 2, 3, 4, 5] false [
                            (none, .asg 5 (.c (.str [104, 105, 100, 101])) .copy)])
                          (.skip [0, 2, 3, 4, 5])))
                        (.region [(73, 3, false), (68, 3, true), (67, 3, false)] [] [0, 2, 3, 4] false [
                          (none, .fadr 67 1 1 (.v 3)),
                          (none, .load 68 false 1 (.v 67) none),
                          (none, .mv 69 (.v 5)),
                          (none, .build 70 [(.int .i64 0), (.str []), (.str []), (.int .i64 0)] [(0, 1, (.c (.int .i64 5)), .copy), (1, 1, (.v 69), .copy), (2, 1, (.c (.str [99, 97, 115, 116, 108, 101])), .copy)]),
                          (none, .mksl 71 4 (.agg [(.int .i64 0), (.str []), (.str []), (.int .i64 0)]) 1 [(0, (.v 70), .copy)]),
                          (none, .app 72 4 (.v 68) (.v 71) .move),
                          (none, .fadr 73 1 1 (.v 3)),
                          (none, .store 1 (.v 73) (.v 72) .move)]))))))))))
               (.skip [0, 2, 3])))))))))))
     (.seq
      (.region [] [] [0, 2] false [
        (none, .load 74 true 2 (.v 3) (some .move)),
        (none, .store 2 (.v 2) (.v 74) .move)])
      (.ret [0, 2])))))⟩
def F983 : PFunc :=
 ⟨[false], [.cell 2 true 2],
  (.seq
   (.region [] [] [0, 2] false [
     (none, .new 2 (.agg [(.sl true 1 []), (.sl true 4 [])]))])
   (.seq
    (.region [(3, 0, false)] [] [2] false [
      (none, .mv 3 (.v 0)),
      (none, .call (some 4) 603 true [((.v 3), false)]),
      (none, .call (some 5) 736 true [((.v 4), true)]),
      (none, .store 2 (.v 2) (.v 5) .move)])
    (.ret [2])))⟩
def F984 : PFunc :=
 ⟨[false], [.tmp 2],
  (.seq
   (.region [] [] [1] false [
     (none, .box 1 (.v 0) .move),
     (none, .asg 2 (.c (.str [])) .copy)])
   (.seq
    (.seq
     (.region [] [] [1, 10] false [
       (none, .load 8 true 2 (.v 1) (some .freeze)),
       (none, .call (some 9) 228 false [((.v 8), false)]),
       (none, .un 10 .not (.v 9))])
     (.cond (.v 10)
      (.seq
       (.region [] [] [2] false [
         (none, .asg 2 (.c (.str [])) .copy)])
       (.ret [2]))
      (.skip [1])))
    (.seq
     (.region [] [] [1, 3] false [
       (none, .asg 3 (.c (.str [])) .copy)])
     (.seq
      (.seq
       (.region [(12, 1, true), (11, 1, false)] [] [1, 3, 12, 13, 14] false [
         (none, .fadr 11 0 1 (.v 1)),
         (none, .load 12 false 1 (.v 11) none),
         (none, .len 13 false (.v 12)),
         (none, .mv 14 (.c (.int .i64 0)))])
       (.block 0
        (.loop
         (.seq
          (.region [(12, 1, true)] [] [1, 3, 12, 13, 14, 15] false [
            (none, .bin 15 .lss (.v 14) (.v 13))])
          (.seq
           (.cond (.v 15)
            (.skip [1, 3, 12, 13, 14])
            (.exit 0 [1, 3]))
           (.seq
            (.block 1
             (.seq
              (.region [(16, 1, true), (12, 1, true)] [] [1, 3, 5, 12, 13, 14] false [
                (none, .iadr 16 1 (.v 12) (.v 14)),
                (none, .load 17 false 1 (.v 16) none),
                (none, .asg 5 (.v 17) .copy)])
              (.region [(12, 1, true)] [] [1, 3, 12, 13, 14] false [
                (none, .mv 18 (.v 3)),
                (none, .mv 19 (.v 5)),
                (none, .bin 20 .add (.c (.str [115, 108, 105, 100, 101, 32])) (.v 19)),
                (none, .bin 21 .add (.v 20) (.c (.str [10]))),
                (none, .bin 22 .add (.v 18) (.v 21)),
                (none, .asg 3 (.v 22) .copy)])))
            (.region [(12, 1, true)] [] [1, 3, 12, 13, 14] false [
              (none, .bin 23 .add (.v 14) (.c (.int .i64 1))),
              (none, .mv 14 (.v 23))])))))))
      (.seq
       (.seq
        (.region [(25, 1, true), (24, 1, false)] [] [1, 3, 25, 26, 27] false [
          (none, .fadr 24 1 1 (.v 1)),
          (none, .load 25 false 1 (.v 24) none),
          (none, .len 26 false (.v 25)),
          (none, .mv 27 (.c (.int .i64 0)))])
        (.block 2
         (.loop
          (.seq
           (.region [(25, 1, true)] [] [1, 3, 25, 26, 27, 28] false [
             (none, .bin 28 .lss (.v 27) (.v 26))])
           (.seq
            (.cond (.v 28)
             (.skip [1, 3, 25, 26, 27])
             (.exit 2 [3]))
            (.seq
             (.block 3
              (.seq
               (.region [(29, 1, true), (25, 1, true)] [] [1, 3, 7, 25, 26, 27] false [
                 (none, .iadr 29 4 (.v 25) (.v 27)),
                 (none, .load 30 true 4 (.v 29) none),
                 (none, .new 7 (.agg [(.int .i64 0), (.str []), (.str []), (.int .i64 0)])),
                 (none, .store 4 (.v 7) (.v 30) .copy)])
               (.seq
                (.region [(41, 7, false), (37, 7, false), (32, 7, false), (25, 1, true)] [] [1, 3, 7, 25, 26, 27] true [
                  (none, .mv 31 (.v 3)),
                  (none, .fadr 32 0 1 (.v 7)),
                  (none, .load 33 false 1 (.v 32) none),
                  (none, .call (some 34) 939 false [((.v 33), false)]),
                  (none, .bin 35 .add (.c (.str [97, 116, 32])) (.v 34)),
                  (none, .bin 36 .add (.v 35) (.c (.str [32]))),
                  (none, .fadr 37 1 1 (.v 7)),
                  (none, .load 38 false 1 (.v 37) none),
                  (none, .bin 39 .add (.v 36) (.v 38)),
                  (none, .bin 40 .add (.v 39) (.c (.str [32]))),
                  (none, .fadr 41 2 1 (.v 7)),
                  (none, .load 42 false 1 (.v 41) none),
                  (none, .bin 43 .add (.v 40) (.v 42)),
                  (none, .bin 44 .add (.v 31) (.v 43)),
                  (none, .asg 3 (.v 44) .copy)])
                (.seq
                 (.seq
                  (.region [(45, 7, false), (25, 1, true)] [] [1, 3, 7, 25, 26, 27, 47] false [
                    (none, .fadr 45 1 1 (.v 7)),
                    (none, .load 46 false 1 (.v 45) none),
                    (none, .bin 47 .eql (.v 46) (.c (.str [116, 117, 114, 110])))])
                  (.cond (.v 47)
                   (.region [(49, 7, false), (25, 1, true)] [] [1, 3, 25, 26, 27] false [
                     (none, .mv 48 (.v 3)),
                     (none, .fadr 49 3 1 (.v 7)),
                     (none, .load 50 false 1 (.v 49) none),
                     (none, .call (some 51) 939 false [((.v 50), false)]),
                     (none, .bin 52 .add (.c (.str [32])) (.v 51)),
                     (none, .bin 53 .add (.v 48) (.v 52)),
                     (none, .asg 3 (.v 53) .copy)])
                   (.skip [1, 3, 25, 26, 27])))
                 (.region [(25, 1, true)] [] [1, 3, 25, 26, 27] false [
                   (none, .mv 54 (.v 3)),
                   (none, .bin 55 .add (.v 54) (.c (.str [10]))),
                   (none, .asg 3 (.v 55) .copy)])))))
             (.region [(25, 1, true)] [] [1, 3, 25, 26, 27] false [
               (none, .bin 56 .add (.v 27) (.c (.int .i64 1))),
               (none, .mv 27 (.v 56))])))))))
       (.seq
        (.region [] [] [2] false [
          (none, .mv 57 (.v 3)),
          (none, .asg 2 (.v 57) .copy)])
        (.ret [2])))))))⟩
def F996 : PFunc :=
 ⟨[false], [.cell 2 true 2],
  (.seq
   (.region [] [] [0, 2] false [
     (none, .new 2 (.agg [(.sl true 1 []), (.sl true 4 [])]))])
   (.seq
    (.region [(13, 0, true), (12, 0, false), (11, 0, false), (10, 0, false), (7, 0, true), (6, 0, false), (5, 0, false), (4, 0, false)] [] [2] true [
      (none, .mksl 3 1 (.str []) 0 []),
      (none, .mv 4 (.v 0)),
      (none, .nchk 5 (.v 4)),
      (none, .fadr 6 0 1 (.v 5)),
      (none, .load 7 false 1 (.v 6) none),
      (none, .app 8 1 (.v 3) (.v 7) .copy),
      (none, .mksl 9 4 (.agg [(.int .i64 0), (.str []), (.str []), (.int .i64 0)]) 0 []),
      (none, .mv 10 (.v 0)),
      (none, .nchk 11 (.v 10)),
      (none, .fadr 12 1 1 (.v 11)),
      (none, .load 13 false 1 (.v 12) none),
      (none, .app 14 4 (.v 9) (.v 13) .copy),
      (none, .build 15 [(.sl true 1 []), (.sl true 4 [])] [(0, 1, (.v 8), .move), (1, 1, (.v 14), .move)]),
      (none, .store 2 (.v 2) (.v 15) .move)])
    (.ret [2])))⟩
def F985 : PFunc :=
 ⟨[false], [.cell 2 true 2, .cell 3 true 2],
  (.seq
   (.region [] [] [0, 2, 3] false [
     (none, .new 2 (.agg [(.sl true 1 []), (.sl true 4 [])])),
     (none, .new 3 (.agg [(.sl true 1 []), (.sl true 4 [])]))])
   (.seq
    (.region [(7, 0, false)] [] [2, 3, 4] false [
      (none, .mv 7 (.v 0)),
      (none, .call (some 8) 603 true [((.v 7), false)]),
      (none, .asg 4 (.v 8) .move)])
    (.seq
     (.region [(9, 4, false)] [] [2, 3, 4, 5] false [
       (none, .mv 9 (.v 4)),
       (none, .call (some 10) 737 true [((.v 9), true)]),
       (none, .new 5 (.agg [(.sl true 1 []), (.sl true 4 [])])),
       (none, .store 2 (.v 5) (.v 10) .move)])
     (.seq
      (.region [] [] [2, 3, 4, 5, 6] false [
        (none, .call (some 11) 996 false [((.v 5), false)]),
        (none, .new 6 (.agg [(.sl true 1 []), (.sl true 4 [])])),
        (none, .store 2 (.v 6) (.v 11) .move)])
      (.seq
       (.seq
        (.region [(12, 4, false)] [] [2, 3, 5, 6, 13] false [
          (none, .mv 12 (.v 4)),
          (none, .call (some 13) 7 true [((.v 12), true), ((.c (.int .i64 4)), false)])])
        (.block 0
         (.seq
          (.region [] [] [2, 3, 5, 6, 13, 14] false [
            (none, .bin 15 .eql (.v 13) (.c (.int .i64 0))),
            (none, .asg 14 (.v 15) .copy)])
          (.cond (.v 14)
           (.region [(20, 6, false), (17, 6, true), (16, 6, false)] [] [2, 3, 5, 6] false [
             (none, .fadr 16 0 1 (.v 6)),
             (none, .load 17 false 1 (.v 16) none),
             (none, .mksl 18 1 (.str []) 1 [(0, (.c (.str [120])), .copy)]),
             (none, .app 19 1 (.v 17) (.v 18) .move),
             (none, .fadr 20 0 1 (.v 6)),
             (none, .store 1 (.v 20) (.v 19) .move)])
           (.seq
            (.region [] [] [2, 3, 5, 6, 13, 21] false [
              (none, .bin 22 .eql (.v 13) (.c (.int .i64 1))),
              (none, .asg 21 (.v 22) .copy)])
            (.cond (.v 21)
             (.region [(28, 6, false), (24, 6, true), (23, 6, false)] [] [2, 3, 5, 6] false [
               (none, .fadr 23 1 1 (.v 6)),
               (none, .load 24 false 1 (.v 23) none),
               (none, .build 25 [(.int .i64 0), (.str []), (.str []), (.int .i64 0)] []),
               (none, .mksl 26 4 (.agg [(.int .i64 0), (.str []), (.str []), (.int .i64 0)]) 1 [(0, (.v 25), .copy)]),
               (none, .app 27 4 (.v 24) (.v 26) .move),
               (none, .fadr 28 1 1 (.v 6)),
               (none, .store 1 (.v 28) (.v 27) .move)])
             (.seq
              (.region [] [] [2, 3, 5, 6, 29] false [
                (none, .bin 30 .eql (.v 13) (.c (.int .i64 2))),
                (none, .asg 29 (.v 30) .copy)])
              (.cond (.v 29)
               (.seq
                (.region [(32, 6, true), (31, 6, false)] [] [2, 3, 5, 6, 34] false [
                  (none, .fadr 31 1 1 (.v 6)),
                  (none, .load 32 false 1 (.v 31) none),
                  (none, .len 33 false (.v 32)),
                  (none, .bin 34 .gtr (.v 33) (.c (.int .i64 0)))])
                (.cond (.v 34)
                 (.region [(42, 6, true), (41, 6, true), (38, 6, true), (37, 6, true), (36, 6, true), (35, 6, false)] [] [2, 3, 5, 6] false [
                   (none, .fadr 35 1 1 (.v 6)),
                   (none, .load 36 false 1 (.v 35) none),
                   (none, .iadr 37 4 (.v 36) (.c (.int .i64 0))),
                   (none, .fadr 38 3 1 (.v 37)),
                   (none, .load 39 false 1 (.v 38) none),
                   (none, .bin 40 .add (.v 39) (.c (.int .i64 1))),
                   (none, .iadr 41 4 (.v 36) (.c (.int .i64 0))),
                   (none, .fadr 42 3 1 (.v 41)),
                   (none, .store 1 (.v 42) (.v 40) .copy)])
                 (.skip [2, 3, 5, 6])))
               (.skip [2, 3, 5, 6])))))))))
       (.seq
        (.region [] [] [2, 3] true [
          (none, .load 43 true 2 (.v 5) (some .move)),
          (none, .load 44 true 2 (.v 6) (some .move)),
          (none, .store 2 (.v 2) (.v 43) .move),
          (none, .store 2 (.v 3) (.v 44) .move)])
        (.ret [2, 3])))))))⟩
def F986 : PFunc :=
 ⟨[false], [.cell 2 true 2],
  (.seq
   (.region [] [] [0, 2] false [
     (none, .new 2 (.agg [(.int .i64 0), (.int .i64 0)]))])
   (.seq
    (.region [(5, 0, false)] [] [2, 3] false [
      (none, .mv 5 (.v 0)),
      (none, .call (some 6) 603 true [((.v 5), false)]),
      (none, .asg 3 (.v 6) .move)])
    (.seq
     (.region [(7, 3, false)] [] [2, 3, 4] false [
       (none, .mv 7 (.v 3)),
       (none, .mksl 8 1 (.int .i64 0) 6 [(0, (.c (.int .i64 (-1))), .copy), (1, (.c (.int .i64 0)), .copy), (2, (.c (.int .i64 1)), .copy), (3, (.c (.int .i64 8)), .copy), (4, (.c (.int .i64 3001)), .copy), (5, (.c (.int .i64 3002)), .copy)]),
       (none, .call (some 9) 4 true [((.v 7), true), ((.v 8), false)]),
       (none, .build 10 [(.int .i64 0), (.int .i64 0)] [(0, 1, (.v 9), .copy)]),
       (none, .new 4 (.agg [(.int .i64 0), (.int .i64 0)])),
       (none, .store 2 (.v 4) (.v 10) .copy)])
     (.seq
      (.region [(14, 4, false), (11, 3, false)] [] [2, 4] false [
        (none, .mv 11 (.v 3)),
        (none, .call (some 12) 7 true [((.v 11), true), ((.c (.int .i64 11)), false)]),
        (none, .bin 13 .sub (.v 12) (.c (.int .i64 1))),
        (none, .fadr 14 1 1 (.v 4)),
        (none, .store 1 (.v 14) (.v 13) .copy)])
      (.seq
       (.region [] [] [2] false [
         (none, .load 15 true 2 (.v 4) none),
         (none, .store 2 (.v 2) (.v 15) .copy)])
       (.ret [2]))))))⟩
def F741 : PFunc :=
 ⟨[false], [.tmp 2],
  (.seq
   (.region [] [] [0] false [
     (none, .asg 2 (.c (.bool false)) .copy)])
   (.seq
    (.region [] [] [0, 3] false [
      (none, .call (some 6) 738 false []),
      (none, .new 3 (.agg [(.sl true 1 []), (.sl true 4 [])])),
      (none, .store 2 (.v 3) (.v 6) .move)])
    (.seq
     (.seq
      (.region [] [] [0, 3, 4] false [
        (none, .asg 4 (.c (.int .i64 0)) .copy)])
      (.block 0
       (.loop
        (.seq
         (.seq
          (.region [(11, 0, true), (10, 0, false), (9, 0, false), (8, 0, false)] [] [0, 3, 4, 13] false [
            (none, .mv 7 (.v 4)),
            (none, .mv 8 (.v 0)),
            (none, .nchk 9 (.v 8)),
            (none, .fadr 10 0 1 (.v 9)),
            (none, .load 11 false 1 (.v 10) none),
            (none, .len 12 false (.v 11)),
            (none, .bin 13 .lss (.v 7) (.v 12))])
          (.cond (.v 13)
           (.skip [0, 3, 4])
           (.exit 0 [0, 3])))
         (.seq
          (.block 1
           (.seq
            (.region [(21, 0, true), (19, 0, true), (18, 0, false), (17, 0, false), (16, 0, false)] [] [0, 3, 4, 24] false [
              (none, .mv 16 (.v 0)),
              (none, .nchk 17 (.v 16)),
              (none, .fadr 18 0 1 (.v 17)),
              (none, .load 19 false 1 (.v 18) none),
              (none, .mv 20 (.v 4)),
              (none, .iadr 21 1 (.v 19) (.v 20)),
              (none, .load 22 false 1 (.v 21) none),
              (none, .call (some 23) 742 false [((.v 3), true), ((.v 22), false)]),
              (none, .bin 24 .neq (.v 23) (.c (.int .i64 0)))])
            (.cond (.v 24)
             (.seq
              (.region [] [] [2] false [
                (none, .asg 2 (.c (.bool false)) .copy)])
              (.ret [2]))
             (.skip [0, 3, 4]))))
          (.region [] [] [0, 3, 4] false [
            (none, .mv 14 (.v 4)),
            (none, .bin 15 .add (.v 14) (.c (.int .i64 1))),
            (none, .asg 4 (.v 15) .copy)]))))))
     (.seq
      (.seq
       (.region [] [] [0, 3, 5] false [
         (none, .asg 5 (.c (.int .i64 0)) .copy)])
       (.block 2
        (.loop
         (.seq
          (.seq
           (.region [(29, 0, true), (28, 0, false), (27, 0, false), (26, 0, false)] [] [0, 3, 5, 31] false [
             (none, .mv 25 (.v 5)),
             (none, .mv 26 (.v 0)),
             (none, .nchk 27 (.v 26)),
             (none, .fadr 28 1 1 (.v 27)),
             (none, .load 29 false 1 (.v 28) none),
             (none, .len 30 false (.v 29)),
             (none, .bin 31 .lss (.v 25) (.v 30))])
           (.cond (.v 31)
            (.skip [0, 3, 5])
            (.exit 2 [])))
          (.seq
           (.block 3
            (.seq
             (.region [(39, 0, true), (37, 0, true), (36, 0, false), (35, 0, false), (34, 0, false)] [] [0, 3, 5, 42] false [
               (none, .mv 34 (.v 0)),
               (none, .nchk 35 (.v 34)),
               (none, .fadr 36 1 1 (.v 35)),
               (none, .load 37 false 1 (.v 36) none),
               (none, .mv 38 (.v 5)),
               (none, .iadr 39 4 (.v 37) (.v 38)),
               (none, .load 40 true 4 (.v 39) none),
               (none, .call (some 41) 735 false [((.v 3), true), ((.v 40), false)]),
               (none, .bin 42 .neq (.v 41) (.c (.int .i64 0)))])
             (.cond (.v 42)
              (.seq
               (.region [] [] [2] false [
                 (none, .asg 2 (.c (.bool false)) .copy)])
               (.ret [2]))
              (.skip [0, 3, 5]))))
           (.region [] [] [0, 3, 5] false [
             (none, .mv 32 (.v 5)),
             (none, .bin 33 .add (.v 32) (.c (.int .i64 1))),
             (none, .asg 5 (.v 33) .copy)]))))))
      (.seq
       (.region [] [] [2] false [
         (none, .asg 2 (.c (.bool true)) .copy)])
       (.ret [2]))))))⟩
def F987 : PFunc :=
 ⟨[false], [.tmp 2],
  (.seq
   (.region [] [] [1] false [
     (none, .box 1 (.v 0) .move),
     (none, .asg 2 (.c (.str [])) .copy)])
   (.seq
    (.seq
     (.region [] [] [1, 4] false [
       (none, .call (some 3) 741 false [((.v 1), false)]),
       (none, .un 4 .not (.v 3))])
     (.cond (.v 4)
      (.seq
       (.region [] [] [2] false [
         (none, .asg 2 (.c (.str [])) .copy)])
       (.ret [2]))
      (.skip [1])))
    (.seq
     (.region [] [] [2] false [
       (none, .call (some 5) 997 false [((.v 1), false)]),
       (none, .asg 2 (.v 5) .copy)])
     (.ret [2]))))⟩
def F998 : PFunc :=
 ⟨[false, false], [.tmp 4],
  (.seq
   (.region [] [] [0, 1] false [
     (none, .asg 4 (.c (.bool false)) .copy)])
   (.seq
    (.seq
     (.region [(8, 1, false), (6, 0, false)] [] [0, 1, 10] false [
       (none, .mv 6 (.v 0)),
       (none, .len 7 false (.v 6)),
       (none, .mv 8 (.v 1)),
       (none, .len 9 false (.v 8)),
       (none, .bin 10 .neq (.v 7) (.v 9))])
     (.cond (.v 10)
      (.seq
       (.region [] [] [4] false [
         (none, .asg 4 (.c (.bool false)) .copy)])
       (.ret [4]))
      (.skip [0, 1])))
    (.seq
     (.seq
      (.region [(11, 0, false)] [] [0, 1, 12, 13] false [
        (none, .mv 11 (.v 0)),
        (none, .len 12 false (.v 11)),
        (none, .mv 13 (.c (.int .i64 0)))])
      (.block 0
       (.loop
        (.seq
         (.region [] [] [0, 1, 12, 13, 14] false [
           (none, .bin 14 .lss (.v 13) (.v 12))])
         (.seq
          (.cond (.v 14)
           (.skip [0, 1, 12, 13])
           (.exit 0 []))
          (.seq
           (.block 1
            (.seq
             (.region [] [] [0, 1, 5, 12, 13] false [
               (none, .mv 15 (.v 13)),
               (none, .asg 5 (.v 15) .copy)])
             (.seq
              (.region [(22, 1, false), (20, 1, false), (18, 0, false), (16, 0, false)] [] [0, 1, 12, 13, 24] true [
                (none, .mv 16 (.v 0)),
                (none, .mv 17 (.v 5)),
                (none, .iadr 18 1 (.v 16) (.v 17)),
                (none, .load 19 false 1 (.v 18) none),
                (none, .mv 20 (.v 1)),
                (none, .mv 21 (.v 5)),
                (none, .iadr 22 1 (.v 20) (.v 21)),
                (none, .load 23 false 1 (.v 22) none),
                (none, .bin 24 .neq (.v 19) (.v 23))])
              (.cond (.v 24)
               (.seq
                (.region [] [] [4] false [
                  (none, .asg 4 (.c (.bool false)) .copy)])
                (.ret [4]))
               (.skip [0, 1, 12, 13])))))
           (.region [] [] [0, 1, 12, 13] false [
             (none, .bin 25 .add (.v 13) (.c (.int .i64 1))),
             (none, .mv 13 (.v 25))])))))))
     (.seq
      (.region [] [] [4] false [
        (none, .asg 4 (.c (.bool true)) .copy)])
      (.ret [4])))))⟩
def F999 : PFunc :=
 ⟨[false, false], [.tmp 4],
  (.seq
   (.region [] [] [0, 1] false [
     (none, .asg 4 (.c (.bool false)) .copy)])
   (.seq
    (.seq
     (.region [(8, 1, false), (6, 0, false)] [] [0, 1, 10] false [
       (none, .mv 6 (.v 0)),
       (none, .len 7 false (.v 6)),
       (none, .mv 8 (.v 1)),
       (none, .len 9 false (.v 8)),
       (none, .bin 10 .neq (.v 7) (.v 9))])
     (.cond (.v 10)
      (.seq
       (.region [] [] [4] false [
         (none, .asg 4 (.c (.bool false)) .copy)])
       (.ret [4]))
      (.skip [0, 1])))
    (.seq
     (.seq
      (.region [(11, 0, false)] [] [0, 1, 12, 13] false [
        (none, .mv 11 (.v 0)),
        (none, .len 12 false (.v 11)),
        (none, .mv 13 (.c (.int .i64 0)))])
      (.block 0
       (.loop
        (.seq
         (.region [] [] [0, 1, 12, 13, 14] false [
           (none, .bin 14 .lss (.v 13) (.v 12))])
         (.seq
          (.cond (.v 14)
           (.skip [0, 1, 12, 13])
           (.exit 0 []))
          (.seq
           (.block 1
            (.seq
             (.region [] [] [0, 1, 5, 12, 13] false [
               (none, .mv 15 (.v 13)),
               (none, .asg 5 (.v 15) .copy)])
             (.seq
              (.region [(22, 1, false), (20, 1, false), (18, 0, false), (16, 0, false)] [] [0, 1, 12, 13, 24] true [
                (none, .mv 16 (.v 0)),
                (none, .mv 17 (.v 5)),
                (none, .iadr 18 4 (.v 16) (.v 17)),
                (none, .load 19 true 4 (.v 18) none),
                (none, .mv 20 (.v 1)),
                (none, .mv 21 (.v 5)),
                (none, .iadr 22 4 (.v 20) (.v 21)),
                (none, .load 23 true 4 (.v 22) none),
                (none, .eqv 24 true [.i, .s, .s, .i] (.v 19) (.v 23))])
              (.cond (.v 24)
               (.seq
                (.region [] [] [4] false [
                  (none, .asg 4 (.c (.bool false)) .copy)])
                (.ret [4]))
               (.skip [0, 1, 12, 13])))))
           (.region [] [] [0, 1, 12, 13] false [
             (none, .bin 25 .add (.v 13) (.c (.int .i64 1))),
             (none, .mv 13 (.v 25))])))))))
     (.seq
      (.region [] [] [4] false [
        (none, .asg 4 (.c (.bool true)) .copy)])
      (.ret [4])))))⟩
def F988 : PFunc :=
 ⟨[false, false], [.tmp 4],
  (.seq
   (.region [] [] [2, 3] false [
     (none, .box 2 (.v 0) .move),
     (none, .box 3 (.v 1) .move),
     (none, .asg 4 (.c (.bool false)) .copy)])
   (.seq
    (.region [(14, 3, true), (13, 3, false), (12, 2, true), (11, 2, false), (8, 3, true), (7, 3, false), (6, 2, true), (5, 2, false)] [] [4] false [
      (none, .fadr 5 0 1 (.v 2)),
      (none, .load 6 false 1 (.v 5) none),
      (none, .fadr 7 0 1 (.v 3)),
      (none, .load 8 false 1 (.v 7) none),
      (none, .call (some 9) 998 false [((.v 6), false), ((.v 8), false)]),
      (none, .mv 10 (.v 9)),
      (some (10, true), .fadr 11 1 1 (.v 2)),
      (some (10, true), .load 12 false 1 (.v 11) none),
      (some (10, true), .fadr 13 1 1 (.v 3)),
      (some (10, true), .load 14 false 1 (.v 13) none),
      (some (10, true), .call (some 15) 999 false [((.v 12), false), ((.v 14), false)]),
      (none, .pick 16 (.v 10) (.v 15) (.c (.bool false))),
      (none, .asg 4 (.v 16) .copy)])
    (.ret [4])))⟩
def F989 : PFunc :=
 ⟨[false], [.tmp 2],
  (.seq
   (.region [] [] [1] false [
     (none, .box 1 (.v 0) .copy),
     (none, .asg 2 (.c (.str [])) .copy)])
   (.seq
    (.seq
     (.region [(8, 1, false), (3, 1, false)] [] [1, 12] false [
       (none, .fadr 3 0 1 (.v 1)),
       (none, .load 4 false 1 (.v 3) none),
       (none, .call (some 5) 326 false [((.v 4), false), ((.c (.int .i64 1)), false), ((.c (.int .i64 3001)), false)]),
       (none, .un 6 .not (.v 5)),
       (none, .mv 7 (.v 6)),
       (some (7, false), .fadr 8 1 1 (.v 1)),
       (some (7, false), .load 9 false 1 (.v 8) none),
       (some (7, false), .call (some 10) 326 false [((.v 9), false), ((.c (.int .i64 1)), false), ((.c (.int .i64 8)), false)]),
       (some (7, false), .un 11 .not (.v 10)),
       (none, .pick 12 (.v 7) (.c (.bool true)) (.v 11))])
     (.cond (.v 12)
      (.seq
       (.region [] [] [2] false [
         (none, .asg 2 (.c (.str [])) .copy)])
       (.ret [2]))
      (.skip [1])))
    (.seq
     (.region [(18, 1, false), (13, 1, false)] [] [2] true [
       (none, .fadr 13 0 1 (.v 1)),
       (none, .load 14 false 1 (.v 13) none),
       (none, .call (some 15) 939 false [((.v 14), false)]),
       (none, .bin 16 .add (.c (.str [114, 111, 119, 32])) (.v 15)),
       (none, .bin 17 .add (.v 16) (.c (.str [58, 32]))),
       (none, .fadr 18 1 1 (.v 1)),
       (none, .load 19 false 1 (.v 18) none),
       (none, .tbl 20 989900 9 (.v 19)),
       (none, .load 21 false 1 (.v 20) none),
       (none, .bin 22 .add (.v 17) (.v 21)),
       (none, .asg 2 (.v 22) .copy)])
     (.ret [2]))))⟩
def F990 : PFunc :=
 ⟨[false], [.tmp 2],
  (.seq
   (.region [] [] [1] false [
     (none, .box 1 (.v 0) .copy),
     (none, .asg 2 (.c (.str [])) .copy)])
   (.seq
    (.region [] [] [1, 3] false [
      (none, .mksl 4 1 (.str []) 9 [(0, (.c (.str [])), .copy), (1, (.c (.str [119, 111, 114, 100])), .copy), (2, (.c (.str [99, 111, 117, 110, 116])), .copy), (3, (.c (.str [110, 97, 109, 101])), .copy), (4, (.c (.str [110, 117, 109, 98, 101, 114])), .copy), (5, (.c (.str [116, 119, 105, 99, 101])), .copy), (6, (.c (.str [110, 111, 110, 101])), .copy), (7, (.c (.str [111, 114, 100, 101, 114])), .copy), (8, (.c (.str [102, 117, 108, 108])), .copy)]),
      (none, .asg 3 (.v 4) .move)])
    (.seq
     (.seq
      (.region [(10, 1, false), (5, 1, false)] [] [1, 3, 14] false [
        (none, .fadr 5 0 1 (.v 1)),
        (none, .load 6 false 1 (.v 5) none),
        (none, .call (some 7) 605 false [((.v 6), false), ((.c (.int .i64 1)), false), ((.c (.int .i64 3001)), false)]),
        (none, .un 8 .not (.v 7)),
        (none, .mv 9 (.v 8)),
        (some (9, false), .fadr 10 1 1 (.v 1)),
        (some (9, false), .load 11 false 1 (.v 10) none),
        (some (9, false), .call (some 12) 605 false [((.v 11), false), ((.c (.int .i64 1)), false), ((.c (.int .i64 8)), false)]),
        (some (9, false), .un 13 .not (.v 12)),
        (none, .pick 14 (.v 9) (.c (.bool true)) (.v 13))])
      (.cond (.v 14)
       (.seq
        (.region [] [] [2] false [
          (none, .asg 2 (.c (.str [])) .copy)])
        (.ret [2]))
       (.skip [1, 3])))
     (.seq
      (.region [(23, 3, false), (21, 1, false), (20, 3, false), (15, 1, false)] [] [2] true [
        (none, .fadr 15 0 1 (.v 1)),
        (none, .load 16 false 1 (.v 15) none),
        (none, .call (some 17) 949 false [((.v 16), false)]),
        (none, .bin 18 .add (.c (.str [114, 111, 119, 32])) (.v 17)),
        (none, .bin 19 .add (.v 18) (.c (.str [58, 32]))),
        (none, .mvr 20 3),
        (none, .fadr 21 1 1 (.v 1)),
        (none, .load 22 false 1 (.v 21) none),
        (none, .iadr 23 1 (.v 20) (.v 22)),
        (none, .load 24 false 1 (.v 23) none),
        (none, .bin 25 .add (.v 19) (.v 24)),
        (none, .asg 2 (.v 25) .copy)])
      (.ret [2])))))⟩
def F991 : PFunc :=
 ⟨[false], [.tmp 2],
  (.seq
   (.region [] [] [1] false [
     (none, .box 1 (.v 0) .move),
     (none, .asg 2 (.c (.bool false)) .copy)])
   (.seq
    (.region [] [] [2] false [
      (none, .call (some 3) 741 false [((.v 1), false)]),
      (none, .asg 2 (.v 3) .copy)])
    (.ret [2])))⟩
def F979 : PFunc :=
 ⟨[false], [.tmp 2],
  (.seq
   (.region [] [] [0] false [
     (none, .asg 2 (.c (.bool false)) .copy)])
   (.seq
    (.seq
     (.region [(19, 0, false)] [] [0, 20] false [
       (none, .mv 19 (.v 0)),
       (none, .call (some 20) 398 false [((.v 19), false)])])
     (.cond (.v 20)
      (.seq
       (.region [] [] [2] false [
         (none, .asg 2 (.c (.bool true)) .copy)])
       (.ret [2]))
      (.skip [0])))
    (.seq
     (.region [(21, 0, false)] [] [0, 3] false [
       (none, .mv 21 (.v 0)),
       (none, .call (some 22) 980 false [((.v 21), false)]),
       (none, .asg 3 (.v 22) .copy)])
     (.seq
      (.region [] [] [0, 3, 4, 5, 6] false [
        (none, .mv 24 (.v 3)),
        (none, .call (some 25) 981 false [((.v 24), false)]),
        (none, .asg 23 (.v 25) .move),
        (none, .ext 26 (.v 23) 0),
        (none, .ext 27 (.v 23) 1),
        (none, .extp 28 (.v 23) 2),
        (none, .new 4 (.agg [(.sl false 1 []), (.sl false 4 [])])),
        (none, .store 2 (.v 4) (.v 26) .freeze),
        (none, .asg 5 (.v 27) .move),
        (none, .asg 6 (.v 28) .copy)])
      (.seq
       (.region [] [] [0, 4, 5, 6, 7, 8, 9] false [
         (none, .mv 30 (.v 3)),
         (none, .call (some 31) 982 false [((.v 30), false)]),
         (none, .asg 29 (.v 31) .move),
         (none, .ext 32 (.v 29) 0),
         (none, .ext 33 (.v 29) 1),
         (none, .extp 34 (.v 29) 2),
         (none, .new 7 (.agg [(.sl true 1 []), (.sl true 4 [])])),
         (none, .store 2 (.v 7) (.v 32) .move),
         (none, .asg 8 (.v 33) .move),
         (none, .asg 9 (.v 34) .copy)])
       (.seq
        (.region [(35, 0, false)] [] [0, 4, 5, 6, 7, 8, 9, 10] false [
          (none, .mv 35 (.v 0)),
          (none, .call (some 36) 983 false [((.v 35), false)]),
          (none, .new 10 (.agg [(.sl true 1 []), (.sl true 4 [])])),
          (none, .store 2 (.v 10) (.v 36) .move)])
        (.seq
         (.region [] [] [0, 4, 5, 6, 7, 8, 9, 10, 11] false [
           (none, .load 37 true 2 (.v 10) (some .freeze)),
           (none, .call (some 38) 984 false [((.v 37), false)]),
           (none, .asg 11 (.v 38) .copy)])
         (.seq
          (.region [(40, 0, false)] [] [0, 4, 5, 6, 7, 8, 9, 10, 11, 12, 13] false [
            (none, .mv 40 (.v 0)),
            (none, .call (some 41) 985 false [((.v 40), false)]),
            (none, .asg 39 (.v 41) .move),
            (none, .ext 42 (.v 39) 0),
            (none, .ext 43 (.v 39) 1),
            (none, .new 12 (.agg [(.sl false 1 []), (.sl false 4 [])])),
            (none, .new 13 (.agg [(.sl false 1 []), (.sl false 4 [])])),
            (none, .store 2 (.v 12) (.v 42) .freeze),
            (none, .store 2 (.v 13) (.v 43) .freeze)])
          (.seq
           (.region [(44, 0, false)] [] [4, 5, 6, 7, 8, 9, 10, 11, 12, 13, 14] false [
             (none, .mv 44 (.v 0)),
             (none, .call (some 45) 986 false [((.v 44), false)]),
             (none, .new 14 (.agg [(.int .i64 0), (.int .i64 0)])),
             (none, .store 2 (.v 14) (.v 45) .copy)])
           (.seq
            (.seq
             (.region [(58, 8, false), (56, 5, false)] [] [4, 5, 6, 8, 10, 11, 90] true [
               (none, .mv 46 (.v 6)),
               (none, .mv 47 (.v 9)),
               (none, .bin 48 .neq (.v 46) (.v 47)),
               (none, .mv 49 (.v 48)),
               (some (49, false), .load 50 true 2 (.v 4) none),
               (some (49, false), .load 51 true 2 (.v 7) (some .move)),
               (some (49, false), .call (some 52) 563 false [((.v 50), false), ((.v 51), false)]),
               (some (49, false), .un 53 .not (.v 52)),
               (none, .pick 54 (.v 49) (.c (.bool true)) (.v 53)),
               (none, .mv 55 (.v 54)),
               (some (55, false), .mvr 56 5),
               (some (55, false), .len 57 false (.v 56)),
               (some (55, false), .mvr 58 8),
               (some (55, false), .len 59 false (.v 58)),
               (some (55, false), .bin 60 .neq (.v 57) (.v 59)),
               (none, .pick 61 (.v 55) (.c (.bool true)) (.v 60)),
               (none, .mv 62 (.v 61)),
               (some (62, false), .mv 63 (.v 11)),
               (some (62, false), .load 64 true 2 (.v 10) none),
               (some (62, false), .call (some 65) 987 false [((.v 64), false)]),
               (some (62, false), .bin 66 .neq (.v 63) (.v 65)),
               (none, .pick 67 (.v 62) (.c (.bool true)) (.v 66)),
               (none, .mv 68 (.v 67)),
               (some (68, false), .load 69 true 2 (.v 12) none),
               (some (68, false), .load 70 true 2 (.v 13) none),
               (some (68, false), .call (some 71) 988 false [((.v 69), false), ((.v 70), false)]),
               (some (68, false), .load 72 true 2 (.v 12) none),
               (some (68, false), .load 73 true 2 (.v 13) none),
               (some (68, false), .call (some 74) 563 false [((.v 72), false), ((.v 73), false)]),
               (some (68, false), .eqb 75 true (.v 71) (.v 74)),
               (none, .pick 76 (.v 68) (.c (.bool true)) (.v 75)),
               (none, .mv 77 (.v 76)),
               (some (77, false), .load 78 true 2 (.v 14) none),
               (some (77, false), .call (some 79) 989 false [((.v 78), false)]),
               (some (77, false), .load 80 true 2 (.v 14) none),
               (some (77, false), .call (some 81) 990 false [((.v 80), false)]),
               (some (77, false), .bin 82 .neq (.v 79) (.v 81)),
               (none, .pick 83 (.v 77) (.c (.bool true)) (.v 82)),
               (none, .mv 84 (.v 83)),
               (some (84, false), .load 85 true 2 (.v 10) none),
               (some (84, false), .call (some 86) 228 false [((.v 85), false)]),
               (some (84, false), .load 87 true 2 (.v 10) none),
               (some (84, false), .call (some 88) 991 false [((.v 87), false)]),
               (some (84, false), .eqb 89 true (.v 86) (.v 88)),
               (none, .pick 90 (.v 84) (.c (.bool true)) (.v 89))])
             (.cond (.v 90)
              (.seq
               (.region [] [] [2] false [
                 (none, .asg 2 (.c (.bool false)) .copy)])
               (.ret [2]))
              (.skip [4, 5, 6, 8, 10, 11])))
            (.seq
             (.seq
              (.region [] [] [4, 5, 6, 8, 10, 11, 15] false [
                (none, .asg 15 (.c (.int .i64 0)) .copy)])
              (.block 0
               (.loop
                (.seq
                 (.seq
                  (.region [(92, 8, false)] [] [4, 5, 6, 8, 10, 11, 15, 94] false [
                    (none, .mv 91 (.v 15)),
                    (none, .mv 92 (.v 8)),
                    (none, .len 93 false (.v 92)),
                    (none, .bin 94 .lss (.v 91) (.v 93))])
                  (.cond (.v 94)
                   (.skip [4, 5, 6, 8, 10, 11, 15])
                   (.exit 0 [4, 6, 10, 11])))
                 (.seq
                  (.block 1
                   (.seq
                    (.region [(135, 8, false), (133, 8, false), (127, 8, false), (126, 8, false), (124, 8, false), (122, 8, false), (121, 8, false), (118, 8, false), (110, 8, false), (109, 8, false), (107, 8, false), (103, 8, false), (101, 8, false), (99, 5, false), (97, 5, false)] [] [4, 5, 6, 8, 10, 11, 15, 139] true [
                      (none, .mvr 97 5),
                      (none, .mv 98 (.v 15)),
                      (none, .iadr 99 2 (.v 97) (.v 98)),
                      (none, .load 100 true 2 (.v 99) none),
                      (none, .mvr 101 8),
                      (none, .mv 102 (.v 15)),
                      (none, .iadr 103 2 (.v 101) (.v 102)),
                      (none, .load 104 true 2 (.v 103) none),
                      (none, .eqv 105 true [.i, .i] (.v 100) (.v 104)),
                      (none, .mv 106 (.v 105)),
                      (some (106, false), .mvr 107 8),
                      (some (106, false), .mv 108 (.v 15)),
                      (some (106, false), .iadr 109 2 (.v 107) (.v 108)),
                      (some (106, false), .fadr 110 0 1 (.v 109)),
                      (some (106, false), .load 111 false 1 (.v 110) none),
                      (some (106, false), .bin 112 .lss (.v 111) (.c (.int .i64 1))),
                      (none, .pick 113 (.v 106) (.c (.bool true)) (.v 112)),
                      (none, .mv 114 (.v 113)),
                      (some (114, false), .mv 115 (.v 15)),
                      (some (114, false), .bin 116 .gtr (.v 115) (.c (.int .i64 0))),
                      (some (114, false), .mv 117 (.v 116)),
                      (some (117, true), .mvr 118 8),
                      (some (117, true), .mv 119 (.v 15)),
                      (some (117, true), .bin 120 .sub (.v 119) (.c (.int .i64 1))),
                      (some (117, true), .iadr 121 2 (.v 118) (.v 120)),
                      (some (117, true), .fadr 122 0 1 (.v 121)),
                      (some (117, true), .load 123 false 1 (.v 122) none),
                      (some (117, true), .mvr 124 8),
                      (some (117, true), .mv 125 (.v 15)),
                      (some (117, true), .iadr 126 2 (.v 124) (.v 125)),
                      (some (117, true), .fadr 127 0 1 (.v 126)),
                      (some (117, true), .load 128 false 1 (.v 127) none),
                      (some (117, true), .bin 129 .geq (.v 123) (.v 128)),
                      (some (114, false), .pick 130 (.v 117) (.v 129) (.c (.bool false))),
                      (none, .pick 131 (.v 114) (.c (.bool true)) (.v 130)),
                      (none, .mv 132 (.v 131)),
                      (some (132, false), .mvr 133 8),
                      (some (132, false), .mv 134 (.v 15)),
                      (some (132, false), .iadr 135 2 (.v 133) (.v 134)),
                      (some (132, false), .load 136 true 2 (.v 135) none),
                      (some (132, false), .call (some 137) 989 false [((.v 136), false)]),
                      (some (132, false), .bin 138 .eql (.v 137) (.c (.str []))),
                      (none, .pick 139 (.v 132) (.c (.bool true)) (.v 138))])
                    (.cond (.v 139)
                     (.seq
                      (.region [] [] [2] false [
                        (none, .asg 2 (.c (.bool false)) .copy)])
                      (.ret [2]))
                     (.skip [4, 5, 6, 8, 10, 11, 15]))))
                  (.region [] [] [4, 5, 6, 8, 10, 11, 15] false [
                    (none, .mv 95 (.v 15)),
                    (none, .bin 96 .add (.v 95) (.c (.int .i64 1))),
                    (none, .asg 15 (.v 96) .copy)]))))))
             (.seq
              (.seq
               (.region [] [] [10, 11, 146] false [
                 (none, .mv 140 (.v 6)),
                 (none, .bin 141 .eql (.v 140) (.c (.int .i64 0))),
                 (none, .mv 142 (.v 141)),
                 (some (142, true), .load 143 true 2 (.v 4) (some .move)),
                 (some (142, true), .call (some 144) 228 false [((.v 143), false)]),
                 (some (142, true), .un 145 .not (.v 144)),
                 (none, .pick 146 (.v 142) (.v 145) (.c (.bool false)))])
               (.cond (.v 146)
                (.seq
                 (.region [] [] [2] false [
                   (none, .asg 2 (.c (.bool false)) .copy)])
                 (.ret [2]))
                (.skip [10, 11])))
              (.seq
               (.seq
                (.region [] [] [10, 11, 153] false [
                  (none, .mv 147 (.v 11)),
                  (none, .bin 148 .eql (.v 147) (.c (.str []))),
                  (none, .mv 149 (.v 148)),
                  (some (149, false), .mv 150 (.v 11)),
                  (some (149, false), .len 151 true (.v 150)),
                  (some (149, false), .bin 152 .gtr (.v 151) (.c (.int .i64 3000))),
                  (none, .pick 153 (.v 149) (.c (.bool true)) (.v 152))])
                (.cond (.v 153)
                 (.seq
                  (.region [] [] [2] false [
                    (none, .asg 2 (.c (.bool true)) .copy)])
                  (.ret [2]))
                 (.skip [10, 11])))
               (.seq
                (.region [] [] [10, 16, 17, 18] false [
                  (none, .mv 155 (.v 11)),
                  (none, .call (some 156) 981 false [((.v 155), false)]),
                  (none, .asg 154 (.v 156) .move),
                  (none, .ext 157 (.v 154) 0),
                  (none, .ext 158 (.v 154) 1),
                  (none, .extp 159 (.v 154) 2),
                  (none, .new 16 (.agg [(.sl true 1 []), (.sl true 4 [])])),
                  (none, .store 2 (.v 16) (.v 157) .move),
                  (none, .asg 17 (.v 158) .move),
                  (none, .asg 18 (.v 159) .copy)])
                (.seq
                 (.region [(163, 17, false)] [] [2] false [
                   (none, .mv 160 (.v 18)),
                   (none, .bin 161 .eql (.v 160) (.c (.int .i64 0))),
                   (none, .mv 162 (.v 161)),
                   (some (162, true), .mv 163 (.v 17)),
                   (some (162, true), .len 164 false (.v 163)),
                   (some (162, true), .bin 165 .eql (.v 164) (.c (.int .i64 0))),
                   (none, .pick 166 (.v 162) (.v 165) (.c (.bool false))),
                   (none, .mv 167 (.v 166)),
                   (some (167, true), .load 168 true 2 (.v 16) (some .move)),
                   (some (167, true), .load 169 true 2 (.v 10) (some .move)),
                   (some (167, true), .call (some 170) 563 false [((.v 168), false), ((.v 169), false)]),
                   (none, .pick 171 (.v 167) (.v 170) (.c (.bool false))),
                   (none, .asg 2 (.v 171) .copy)])
                 (.ret [2]))))))))))))))))⟩
def tabl : List (Nat × PFunc) := [(832, F832), (809, F809), (3, F3), (279, F279), (326, F326), (1, F1), (116, F116), (2, F2), (228, F228), (398, F398), (563, F563), (603, F603), (5, F5), (7, F7), (8, F8), (605, F605), (739, F739), (740, F740), (735, F735), (738, F738), (737, F737), (949, F949), (997, F997), (992, F992), (980, F980), (939, F939), (938, F938), (1005, F1005), (1001, F1001), (994, F994), (981, F981), (944, F944), (612, F612), (613, F613), (533, F533), (742, F742), (945, F945), (1002, F1002), (995, F995), (982, F982), (4, F4), (736, F736), (983, F983), (984, F984), (996, F996), (985, F985), (986, F986), (741, F741), (987, F987), (998, F998), (999, F999), (988, F988), (989, F989), (990, F990), (991, F991), (979, F979)]
def T : Nat → Option PFunc := tabOf tabl
end Go.Vs.G
